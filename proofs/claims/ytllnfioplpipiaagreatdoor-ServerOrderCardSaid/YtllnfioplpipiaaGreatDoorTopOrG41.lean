/- A part of the proof. -/
import Derived.Test.YtllnfioplpipiaaGreatDoorTopOrG8
import Derived.Test.YtllnfioplpipiaaGreatDoorTopOrG40
import Derived.Test.YtllnfioplpipiaaGreatDoorTopOrG37
import Derived.Test.YtllnfioplpipiaaGreatDoorTopOrG18
import Derived.Test.YtllnfioplpipiaaGreatDoorTopOrG36
import Derived.Test.YtllnfioplpipiaaGreatDoorTopOrG25
set_option linter.unusedSimpArgs false
set_option linter.unusedVariables false
namespace Go.Proofs.YtllnfioplpipiaaGreatDoor
open Go Go.Fw Go.Proofs.Tryz
set_option maxRecDepth 100000
set_option maxHeartbeats 1000000
def nwS(gd n first count dp:Nat)(gl:List Aud)(md:Hp)(r:NwR):SvR:=
 {gs:=r.gs,dp:=dp,nA:=r.gA,rA:=r.gR,nB:=r.cp.g,rB:=r.cp.r,gb:=r.gb,nxt:= [],now:= [],cA:=none,cc:=0,cl:= [],oA:=none,oc:=0,no:= [],tA:=r.ad.tA,tc:=r.ad.tc,tg:= [r.gt],hA:=r.ad.hA,hc:=r.ad.hc,hd:= [adH qAh dp gl.length [] (qFd [] gl gl.length) r.ad.nA r.ad.nc],mX:=r.cp.mm,NX:=r.cp.M,mC:=λ_=>none,mO:=λ_=>none,mT:=r.ad.mT,mH:=r.ad.mH,md:=md,N:=λ_=>none,bk:=⟨gd,first,count/2,first,0,0,none,0,[],Dk.new n⟩,kv:= [qFd [] gl gl.length],aud:=gl,audN:=gl}
theorem qNq{α:Type}{a no:α}{i:Nat}(h:i< [a].length): [a].getD i no=a:=by
 match i,h with
 |0,_=>rfl
theorem qJr(F md:Hp)(hK:KF F)(hA:qAL F ⟨2,0,none⟩ qBT)(hT:qBx F)(gd n:Nat)(hb:Dsk md gd (Dk.new n) none 0)(hn4:4≤n)(hn:n≤1000)(first count:Nat)(h8:8≤count)(hfc:first+count≤n)(dp:Nat)(hdp:dp≤4)(GA:Option Addr)(gc:Nat)(gl:List Aud)(hgl:Sl F 4 GA gl.length gc (qBK gl))(hg:qTq gl):
    Ct prog 7 [Ptr gd,I ((first:Nat):Int),I ((count:Nat):Int),I ((dp:Nat):Int),.slice GA gl.length gc] [md,F] (λy:Hp×Hp×NwR=> .tuple #[Ptr y.2.2.gs,I ((0:Nat):Int)]) (λy=>Srv y.1 y.2.1 (nwS gd n first count dp gl md y.2.2)) (λy=> [y.1,F,y.2.1]):=λw0 w hw=>by
  refine(qR7 F md hK hA hT gd n hb hn4 hn first count h8 hfc dp hdp GA gc gl hgl hg w0 w hw).mono λe w' ⟨r,he,hp,hst⟩=>?_
  have h1:=St.joinUs (A:=(nwS gd n first count dp gl md r).hs) (r:= [F,qAK r.gA (.map #[] 0),r.mR,r.mt,r.cp.mr,r.ad.mN]) (hst.empty.empty.empty.pick [5,6,7,13,14,9,10,12,0,15,1,2,3,4,8,11] (by decide))
  have h2:=St.joinUs (A:= [qAK r.gA (.map #[] 0),r.mR,r.mt,r.cp.mr,r.ad.mN]) (r:= [U (nwS gd n first count dp gl md r).hs,F]) (h1.2.pick [2,3,4,5,6,0,1] (by decide))
  have hl: ∀a∈ [qAK r.gA (.map #[] 0),r.mR,r.mt,r.cp.mr,r.ad.mN],Le a (U [qAK r.gA (.map #[] 0),r.mR,r.mt,r.cp.mr,r.ad.mN]):=λa ha=>qEf h2.1 ha
  have hls:r.cp.ls= []:=List.map_eq_nil_iff.1 hp.cp.pm.eq_nil
  have hll:=qHX gl (n:=gl.length) hg.len
  obtain ⟨_,h16⟩:=qIN hdp
  have hg15:=hg.len
  have hlast:(Dk.new n).last.length=n:=by unfold Dk.new;exact List.length_replicate
  have hro:qO3 (U [qAK r.gA (.map #[] 0),r.mR,r.mt,r.cp.mr,r.ad.mN]) r.gR gl:=by
    obtain ⟨a,b,c,q1,q2,_⟩:=hp.ro.see
    exact qO3.mono ⟨a,b,c,q1,q2⟩ (hl _ (by simp))
  have hrb:qO3 (U [qAK r.gA (.map #[] 0),r.mR,r.mt,r.cp.mr,r.ad.mN]) r.cp.r gl:=by
    obtain ⟨a,b,c,q1,q2,_⟩:=hp.cp.ro.see
    exact qO3.mono ⟨a,b,c,q1,q2⟩ (hl _ (by simp))
  have hmx:=hp.cp.mp
  have hnx:=hp.cp.nx
  rw [hls] at hmx hnx
  refine⟨(U (nwS gd n first count dp gl md r).hs,U [qAK r.gA (.map #[] 0),r.mR,r.mt,r.cp.mr,r.ad.mN],r),he,⟨rfl,h1.1,⟨hmx,hnx,qBU.nil,qBU.nil,hp.ad.rt,hp.ad.rh,?_,(MapS.nil r.gA).at.mono (hl _ (by simp)),(λy hy=>by cases hy),hro,hrb,λi hi=>?_,λi hi=>?_⟩,?_⟩,h2.2.pick [1,2,0] (by decide)⟩
  · exact⟨hb,Dk.new_ok hn4 (by omega),rfl,rfl,rfl,rfl,Sl.nil,by show first+count/2≤(Dk.new n).last.length;rw [hlast];omega,by show(Dk.new n).last.length≤1000;rw [hlast];omega,Nat.zero_le _,Nat.zero_le _⟩
  · show qCF _ ([r.gt].getD i 0) ([qFd [] gl gl.length].getD i [])
    rw [qNq hi,qNq (show i< [qFd [] gl gl.length].length from hi)]
    exact hp.tr.at.mono (hl _ (by simp))
  · show nsl _ ([adH qAh dp gl.length [] (qFd [] gl gl.length) r.ad.nA r.ad.nc].getD i qAo)
    rw [qNq hi]
    exact hp.ad.nd.sl.mono (hl _ (by simp))
  · exact{dp:=hdp,un:=List.nodup_nil,uw:=List.nodup_nil,ln:=(λy hy=>by cases hy),lw:=(λy hy=>by cases hy),cl:=⟨Nat.zero_le _,(λy hy=>by cases hy),(λy hy=>by cases hy)⟩,n9:=(λy hy=>by cases hy),nc:=rfl,t0:=Nat.succ_pos _,t1:=(by show 1≤15;decide),th:=rfl,tk:=rfl,kf:=qFc gl hg15,kl:=(by show(qFd [] gl gl.length).length≤5000*1;omega),hg:=qKf (Nat.zero_le _) (Nat.le_refl _) (by show(qAg _ dp).length≤16;unfold qAg;rw [qBz];exact h16),al:=(by show gl.length≤64;omega),an:=(by show gl.length≤64;omega),sz:=(by show count/2≤1000;omega),re:=Nat.zero_le _}
theorem Srv.cells{m G:Hp}{x:SvR}(h:Srv m G x):qAL m ⟨x.gs,0,none⟩ [I ((x.dp:Nat):Int),Ptr x.gb,.bool false,.map (some x.nA),Ptr x.rA,.map (some x.nB),Ptr x.rB,.slice x.cA x.cl.length x.cc,.slice x.oA x.no.length x.oc,.slice x.tA x.tg.length x.tc,.slice x.hA x.hd.length x.hc]:=qAL.blk0.mono (h.le (.head _))
theorem Srv.tsl{m G:Hp}{x:SvR}(h:Srv m G x):Sl m 1 x.tA x.tg.length x.tc (qCu x.tg):=h.p.rt.sl.mono (h.le (by simp [SvR.hs]))
theorem Srv.hsl{m G:Hp}{x:SvR}(h:Srv m G x):Sl m 5 x.hA x.hd.length x.hc (qIH x.hd):=h.p.rh.sl.mono (h.le (by simp [SvR.hs]))
theorem Srv.tree{m G:Hp}{x:SvR}(h:Srv m G x):qCF G (x.tg.getD (x.tg.length-1) 0) x.kvL:=h.p.tr _ (by have:=h.i.t0;omega)
theorem qPh(F:Hp)(hK:KF F){kv:List Sm.PR}(hf:qCI kv){d:Nat}(hd:d≤4)(ep:Nat)(par:List UInt8)(au:Nat)(he:ep≤1000)(hp:par.length≤16)(A:Option Addr)(c:Nat)(hs:Sl F 1 A (qAg kv d).length c (qAG (qAg kv d))):
    Ct prog 14 [.agg #[N64 ep,Str par,I ((d:Nat):Int),I ((au:Nat):Int),.slice A (qAg kv d).length c]] [F] (λ_:Unit=>Str (Sm.nd 128 kv)) (λ_=>True) (λ_=> [F]):=by
  obtain ⟨_,h16⟩:=qIN hd
  have hl:(qAg kv d).length=2^d:=by unfold qAg;rw [qBz]
  have h:=qQb F hK ⟨ep,par,((d:Nat):Int),((au:Nat):Int),qAg kv d⟩ A c ⟨by show ep<_;omega,by show par.length≤_;omega,by show(qAg kv d).length≤_;omega⟩ hs (λs hs=>by
    unfold qAg qCM at hs
    obtain ⟨j,_,rfl⟩:=List.mem_map.1 hs
    exact Nat.le_trans (Sm.nd_small _ _) (by decide))
  rw [show qI6 (qAg kv d) ((d:Nat):Int)=Sm.nd 128 kv from(qQF hf hd).2] at h
  exact h
theorem PbP.root{F:Hp}(hK:KF F){m G G2:Hp}{x:SvR}{r:StR×WrR}(h:PbP m G G2 x r)(hI:SvI x)(hS:Srv m F (x.pub r))(hl:Le G2 F):
    Ct prog 14 [.agg #[N64 x.hd.length,Str (qBu x.hdL).dig,I ((x.dp:Nat):Int),I ((x.audN.length:Nat):Int),.slice r.1.nA (qAg (kvT x.kvL x.cl x.dp (2^x.dp)) x.dp).length r.1.nc]] [F] (λ_:Unit=>Str (Sm.nd 128 (x.pub r).kvL)) (λ_=>True) (λ_=> [F]):=by
  have e:=x.pub_kvL r hI.tk
  have hf:=hS.i.kf
  have h1:=hI.th
  have h2:=hI.t1
  have hn:=h.ns
  rw [x.pub_hdL] at hn
  rw [e] at hf⊢
  exact qPh F hK hf hI.dp _ _ _ (by omega) (qIx _) _ _ (hn.mono hl)
theorem qPS(F:Hp)(x:SvR)(hc:qAL F ⟨x.gs,0,none⟩ [I ((x.dp:Nat):Int),Ptr x.gb,.bool false,.map (some x.nA),Ptr x.rA,.map (some x.nB),Ptr x.rB,.slice x.cA x.cl.length x.cc,.slice x.oA x.no.length x.oc,.slice x.tA x.tg.length x.tc,.slice x.hA x.hd.length x.hc]):Ct prog 21 [Ptr x.gs] [F] (λ_:Unit=>I ((x.no.length:Nat):Int)) (λ_=>True) (λ_=> [F]):=by
 refine Ct.walk func21 rfl ntmps21 rfl (λw0 hw0=>?_)
 change J _ [(0,_)] _ _ _
 refine J.g λK1 hK1=>J.b O<|J.c hK1<|J.u 0 ?_
 refine J.j λK2 hK2=>J.g λK3 hK3=>J.b O<|J.f ((qA6 underlying28 O O O).as (v':= .bool false) O) O<|J.c hK3<|J.E 0 4 ?_
 refine J.a5 ?_
 refine J.W hK2<|J.u 0 ?_
 refine J.g λK4 hK4=>J.b O<|J.f (qAC O O) O<|J.a3 8 qA7 qBf O O O O O<|J.f (qAJ (v:= .slice x.oA x.no.length x.oc) O O qBo (m:=F) (by simp) (hc.at (i:=8) rfl)) rfl<|J.f (qAP qAe rfl rfl) rfl<|J.b rfl<|J.c hK4<|J.u 2 ?_
 exact J.D<|J.M hw0 O () O trivial [0] O (by decide)
structure LkR where
 A:Option Addr
 c:Nat
 m:Hp
 s:Nat
 bA:Option Addr
 bc:Nat
 mb:Hp
structure LkP (x:SvR) (s:List UInt8) (r:LkR):Prop where
 ro:Row r.m 43 5 r.A (qCs (lbE x.now) s).length r.c (qGe (qCs (lbE x.now) s))
 st:qLT x.kvL (Sha.tagged 11 [s]) 0 r.s
 rb:Row r.mb 9 1 r.bA (bsd x.kvL (Sha.tagged 11 [s]) 0 (r.s-0)).length r.bc (qAG (bsd x.kvL (Sha.tagged 11 [s]) 0 (r.s-0)))
theorem LbA.small{F:Hp}{ls:List Lb}(h: ∀y∈ls,y.l.length≤1000)(k:List UInt8):(qCs (lbE ls) k).length≤1000:=by
 rw [qHZ]
 cases hg:qCH ls k with
 |none=>exact Nat.zero_le _
 |some x=>exact h x (qIl hg).1
theorem qPW(F:Hp)(hK:KF F)(x:SvR)(hI:SvI x)(hc:qAL F ⟨x.gs,0,none⟩ [I ((x.dp:Nat):Int),Ptr x.gb,.bool false,.map (some x.nA),Ptr x.rA,.map (some x.nB),Ptr x.rB,.slice x.cA x.cl.length x.cc,.slice x.oA x.no.length x.oc,.slice x.tA x.tg.length x.tc,.slice x.hA x.hd.length x.hc])(hts:Sl F 1 x.tA x.tg.length x.tc (qCu x.tg))(hT:qCF F (x.tg.getD (x.tg.length-1) 0) x.kvL)(hw:Fw.MapAt F x.nA (lbV x.now))(hl:LbA F x.now)(s:List UInt8)(hs:s.length≤1000):Ct prog 22 [Ptr x.gs,Str s] [F] (λr:LkR=> .tuple #[.agg #[Str s,.slice r.A (qCs (lbE x.now) s).length r.c,.slice r.bA (bsd x.kvL (Sha.tagged 11 [s]) 0 (r.s-0)).length r.bc,.bool (qAr x.kvL (Sha.tagged 11 [s]) r.s),Str (qBy x.kvL (Sha.tagged 11 [s]) r.s),Str (qCG x.kvL (Sha.tagged 11 [s]) r.s)],I ((0:Nat):Int)]) (LkP x s) (λr=> [F,r.mb,r.m]):=by
 have i7:=hI.t0
 have i8:=hI.t1
 have hel:=LbA.small (F:=F) hI.lw s
 refine Ct.walk func22 rfl ntmps22 rfl (λw0 hw0=>?_)
 change J _ [(0,_),(1,_)] _ _ _
 refine J.g λK1 hK1=>J.k (qAN (l:= [Str [],.slice none 0 0,.slice none 0 0,.bool false,Str [],Str []]) O zeroValue82 O) O λg4 _=>?_
 change J _ _ _ [F,blk g4 [Str [],.slice none 0 0,.slice none 0 0,.bool false,Str [],Str []] 82] _
 refine J.b O<|J.c hK1<|J.G 0 1 4 ?_
 refine J.j λK2 hK2=>J.g λK3 hK3=>J.b O<|J.f ((qA6 underlying28 O O O).as (v':= .bool false) O) O<|J.c hK3<|J.O 0 1 4 9 ?_
 refine J.a5 ?_
 refine J.W hK2<|J.G 0 1 4 ?_
 refine J.g λK4 hK4=>J.b O<|J.f (qAC O O) O<|J.a3 9 qA7 sizeOf100 O O O O O<|J.f (qAJ (v:= .slice x.tA x.tg.length x.tc) O O isAgg100 (m:=F) (by simp) (hc.at (i:=9) rfl)) rfl<|J.k (qAA rfl rfl ent73 (Ct.use0 (λF' hF=>qKY F' x.tA x.tg.length x.tc x.tg (hts.mono (hF F (by simp))) i7 (by omega)))) rfl λg16 _=>J.b rfl<|J.k (qAA rfl rfl ent24 (Ct.use0 (λF' hF=>qEw F' (hK.mo hF) s (by omega)))) rfl λg18 _=>J.k (qAA rfl rfl ent72 (Ct.use (new:=λx:Nat×Option Addr×Nat×Hp=> [x.2.2.2]) (λF' hF=>qKl F' (hK.mo hF) (x.tg.getD (x.tg.length-1) 0) x.kvL (hT.mono (hF F (by simp))) hI.kf (Sha.tagged 11 [s]) (Sha.tagged_length _ _) 0 (by omega)))) rfl ?_
 rintro⟨s19,A19,c19,m19⟩ ⟨hst19,hr19⟩
 change J _ ((19,.tuple #[.agg #[.slice A19 (bsd x.kvL (Sha.tagged 11 [s]) 0 (s19-0)).length c19,.bool (qAr x.kvL (Sha.tagged 11 [s]) s19),Str (qBy x.kvL (Sha.tagged 11 [s]) s19),Str (qCG x.kvL (Sha.tagged 11 [s]) s19)],I 0])::_) _ [_,_,m19] _
 refine J.p 3 O<|J.k (qAN (l:= [.slice none 0 0,.bool false,Str [],Str []]) O zeroValue80 O) O λg6 _=>?_
 change J _ _ _ [_,_,_,blk g6 [.slice none 0 0,.bool false,Str [],Str []] 80] _
 refine J.b0 (qAI (i:=3) (l:= [.slice none 0 0,.bool false,Str [],Str []]) (vs:= [.slice A19 ((bsd x.kvL (Sha.tagged 11 [s]) 0 (s19-0)).length) c19,.bool (qAr x.kvL (Sha.tagged 11 [s]) s19),Str (qBy x.kvL (Sha.tagged 11 [s]) s19),Str (qCG x.kvL (Sha.tagged 11 [s]) s19)]) O O O O O qHv O O) O O λ_ _=>?_
 change J _ _ _ [_,_,_,blk g6 [.slice A19 ((bsd x.kvL (Sha.tagged 11 [s]) 0 (s19-0)).length) c19,.bool (qAr x.kvL (Sha.tagged 11 [s]) s19),Str (qBy x.kvL (Sha.tagged 11 [s]) s19),Str (qCG x.kvL (Sha.tagged 11 [s]) s19)] 80] _
 refine J.b O<|J.c hK4<|J.a0 0 1 4 6 7 ?_
 refine J.j λK5 hK5=>J.c1 [F,blk g6 [.slice A19 ((bsd x.kvL (Sha.tagged 11 [s]) 0 (s19-0)).length) c19,.bool (qAr x.kvL (Sha.tagged 11 [s]) s19),Str (qBy x.kvL (Sha.tagged 11 [s]) s19),Str (qCG x.kvL (Sha.tagged 11 [s]) s19)] 80] [12,13,100011] (.y 0 (.y 1 (.y 2 (.y 3 (.y 4 (.y 5 (.y 6 (.y 7 (.y 9 (.y 11 (.e 8 (.y 10 (.e 12 (.e 13 .nil)))))))))))))) Tryz.wide (by decide+kernel) (by simp) ?_
 refine J.T ?_
 refine J.T ?_
 refine J.q O (qAC O O) O O<|J.q O (qAB (j:=3) O O qA7 O qFx O) O O<|J.q O (qAB (j:=3) O O qKR O qRG O) O O<|J.q O (qAJ (v:= .map (some x.nA)) O O isAgg93 (m:=F) (by simp) (hc.at (i:=3) rfl)) rfl rfl<|J.T ?_
 refine J.q O ((qCT (l:=lbV x.now) O O O qRI u9_ zeroValue78 (m:=F) (by simp) hw).as (v':= .slice (qS6 x.now s) (qCs (lbE x.now) s).length (qS5 x.now s)) (qRV x.now s)) rfl rfl<|J.q rfl (qAy 1 rfl rfl rfl qML qHv rfl) rfl rfl<|J.f4 rfl (qAx rfl rfl) rfl rfl rfl ?_
 refine J.a9 O (qAA O O ent74 (Ct.use (new:=λx:Option Addr×Nat×Hp=> [x.2.2]) (λF' hF=>qI1 F' (qS6 x.now s) ((qCs (lbE x.now) s).length) (qS5 x.now s) (qCs (lbE x.now) s) ((hl.at s).mono (hF F (by simp))) (by first|omega|assumption)))) rfl (by simp) ?_
 rintro⟨A30,c30,m30⟩ h30
 try dsimp only at h30
 change J _ ((30,.slice A30 ((qCs (lbE x.now) s)).length c30)::_) _ [_,_,_,_,m30] _
 refine J.q O (qAM (l:= [(0,.tmp 22),(1,.tmp 30),(2,.tmp 31)]) (vs:= [Str (s),.slice A30 (((qCs (lbE x.now) s)).length) c30,.agg #[.slice A19 ((bsd x.kvL (Sha.tagged 11 [s]) 0 (s19-0)).length) c19,.bool (qAr x.kvL (Sha.tagged 11 [s]) s19),Str (qBy x.kvL (Sha.tagged 11 [s]) s19),Str (qCG x.kvL (Sha.tagged 11 [s]) s19)]]) (places:= [(0,1),(1,1),(2,4)]) (r:= [Str (s),.slice A30 (((qCs (lbE x.now) s)).length) c30,.slice A19 ((bsd x.kvL (Sha.tagged 11 [s]) 0 (s19-0)).length) c19,.bool (qAr x.kvL (Sha.tagged 11 [s]) s19),Str (qBy x.kvL (Sha.tagged 11 [s]) s19),Str (qCG x.kvL (Sha.tagged 11 [s]) s19)]) O O O underlying82 zeroValue82 (λ_=>by kernel_rfl) O) O O<|J.d3 O (qAI (i:=1) (l:= [Str [],.slice none 0 0,.slice none 0 0,.bool false,Str [],Str []]) (vs:= [Str (s),.slice A30 (((qCs (lbE x.now) s)).length) c30,.slice A19 ((bsd x.kvL (Sha.tagged 11 [s]) 0 (s19-0)).length) c19,.bool (qAr x.kvL (Sha.tagged 11 [s]) s19),Str (qBy x.kvL (Sha.tagged 11 [s]) s19),Str (qCG x.kvL (Sha.tagged 11 [s]) s19)]) O O O O O sizeOf82 O O) O O O λ_ _=>?_
 change J _ _ _ [_,blk g4 [Str (s),.slice A30 (((qCs (lbE x.now) s)).length) c30,.slice A19 ((bsd x.kvL (Sha.tagged 11 [s]) 0 (s19-0)).length) c19,.bool (qAr x.kvL (Sha.tagged 11 [s]) s19),Str (qBy x.kvL (Sha.tagged 11 [s]) s19),Str (qCG x.kvL (Sha.tagged 11 [s]) s19)] 82,_,_,_] _
 refine J.g2 O (YOp.eop (qB6 O O)) O O O O ?_
 intro _ _
 refine J.b9<|J.A (J.H hK5 ?_)
 refine J.E 4 5 ?_
 exact J.D<|J.b2 hw0 (λ_ _ h=>h) (rv2 O (RV.blkA 1 O O isAgg82 sizeOf82) O) (qAn (⟨A30,c30,m30,s19,A19,c19,m19⟩:LkR) O ⟨h30,hst19,hr19⟩ [0,2,4] O (by decide))
theorem qTH(F:Hp)(hK:KF F){x:SvR}(hf:qCI x.kvL){s:List UInt8}{r:LkR}(hr:LkP x s r)(hb:Le r.mb F){v:List UInt8}(hg:Sm.getP x.kvL (Sha.tagged 11 [s])=some v):Ct prog 23 [.agg #[.slice r.bA (bsd x.kvL (Sha.tagged 11 [s]) 0 (r.s-0)).length r.bc,.bool (qAr x.kvL (Sha.tagged 11 [s]) r.s),Str (qBy x.kvL (Sha.tagged 11 [s]) r.s),Str (qCG x.kvL (Sha.tagged 11 [s]) r.s)],Str (Sm.nd 128 x.kvL),Str (Sha.tagged 11 [s]),Str v,I ((0:Nat):Int)] [F] (λ_:Unit=> .bool true) (λ_=>True) (λ_=> [F]):=by
 have h16:(Sha.tagged 11 [s]).length=16:=Sha.tagged_length _ _
 have h:=qQd F hK r.bA r.bc _ (hr.rb.sl.mono hb) (qAr x.kvL (Sha.tagged 11 [s]) r.s) (qBy x.kvL (Sha.tagged 11 [s]) r.s) (qCG x.kvL (Sha.tagged 11 [s]) r.s) (Sha.tagged 11 [s]) 0 (qGM hf h16 hr.st) (Sm.nd 128 x.kvL) v (qGO hf _ _)
 have e:=qNM hf h16 hr.st
 rw [hg,Sm.ndB_zero,show(some v).getD []=v from rfl,show(some v).isSome=true from rfl] at e
 rw [e] at h
 exact h
attribute [local irreducible] Sha.tagged Wo.pub Wo.publicOf Wo.signs Wo.ends Wo.digs Wo.walk Wo.opn Mk.root Mk.path Mk.climb Xm.root sgC sgP qA3 qBS sgB normal qB3 SN.tagN
theorem qUc{v:Nat}{seed:List UInt8}{kh:Nat}{p:List UInt8}(h1:1≤v)(h2:v≤4294967295)(h3:kh≤6)(hp:p.length=16):qBS v (Wo.opn seed) (Xm.root seed kh) ((kh:Nat):Int) p=0:=(en_0 (by omega) (by omega) (by omega) (by omega) (Wo.opn_length _) (Mk.root_16 _ _) hp).1
def nmK(k:Nat):List UInt8:=([[97,108,105,99,101],[98,111,98],[208,182,209,131,208,186],[67,97,114,111,108]]:List (List UInt8)).getD (k%4) []
theorem qEK(k:Nat):(nmK k).length≤6:=by
 unfold nmK
 rcases(show k%4=0∨k%4=1∨k%4=2∨k%4=3 by omega) with h|h|h|h<;>rw [h]<;>decide
theorem qSs: ∀i j:Fin 3,nmK i.val=nmK j.val→i=j:=by decide
def qO0(k:Nat):List UInt8:=Sha.tagged 11 [nmK k]
theorem qQW(k:Nat):(qO0 k).length=16:=Sha.tagged_length _ _
noncomputable def keyN(k:Nat):List Nat:=SN.tagN 11 [(nmK k).map UInt8.toNat]
theorem qHY(k:Nat):(qO0 k).map UInt8.toNat=keyN k:=(SN.tagN_eq 11 [nmK k] (by have:=qEK k;simp;omega)).symm
theorem qTA:(List.range 3).map keyN=([[194,62,241,123,249,6,95,160,217,123,123,112,137,162,65,74],[5,150,249,201,224,131,101,239,77,22,183,200,93,26,157,228],[120,176,170,76,78,191,122,253,159,12,84,14,208,250,114,54]]:List (List Nat)):=by decide+kernel
theorem qJ0{k:Nat}(hk:k<3):keyN k=([[194,62,241,123,249,6,95,160,217,123,123,112,137,162,65,74],[5,150,249,201,224,131,101,239,77,22,183,200,93,26,157,228],[120,176,170,76,78,191,122,253,159,12,84,14,208,250,114,54]]:List (List Nat)).getD k []:=by
 rw [←qTA,List.getD_eq_getElem?_getD,List.getElem?_map,List.getElem?_range hk];rfl
theorem qTB: ∀i j:Fin 3,i≠j→([[194,62,241,123,249,6,95,160,217,123,123,112,137,162,65,74],[5,150,249,201,224,131,101,239,77,22,183,200,93,26,157,228],[120,176,170,76,78,191,122,253,159,12,84,14,208,250,114,54]]:List (List Nat)).getD i.val []≠([[194,62,241,123,249,6,95,160,217,123,123,112,137,162,65,74],[5,150,249,201,224,131,101,239,77,22,183,200,93,26,157,228],[120,176,170,76,78,191,122,253,159,12,84,14,208,250,114,54]]:List (List Nat)).getD j.val []:=by decide+kernel
theorem qS9: ∀i:Fin 3,∀j:Fin 15,([[194,62,241,123,249,6,95,160,217,123,123,112,137,162,65,74],[5,150,249,201,224,131,101,239,77,22,183,200,93,26,157,228],[120,176,170,76,78,191,122,253,159,12,84,14,208,250,114,54]]:List (List Nat)).getD i.val []≠qIO.getD j.val []:=by decide+kernel
theorem qTD{i j:Nat}(hi:i<3)(hj:j<3)(h:i≠j):qO0 i≠qO0 j:=λe=>
 qTB ⟨i,hi⟩ ⟨j,hj⟩ (λq=>h (congrArg Fin.val q)) (by rw [←qJ0 hi,←qJ0 hj,←qHY,←qHY,e])
theorem qTC{i j:Nat}(hi:i<3)(hj:j<15):qO0 i≠qB3 j:=λe=>qS9 ⟨i,hi⟩ ⟨j,hj⟩ (by rw [←qJ0 hi,←qEE hj,←qHY,e])
theorem qL2{k:Nat}(hk:k<3):normal (nmK k)=(nmK k,0):=by
 match k,hk with
 |0,_=>exact qDH (l:= [97,108,105,99,101]) (by decide) (by decide) (by decide)
 |1,_=>exact qDH (l:= [98,111,98]) (by decide) (by decide) (by decide)
 |2,_=>exact qDH (l:= [1078,1091,1082]) (by decide) (by decide) (by decide)
def OWN:List UInt8:= [111,119,110,101,114]
abbrev qEe:List UInt8:=Wo.opn OWN
abbrev qET:List UInt8:=Xm.root OWN 0
def qTr:List UInt8:=qCA 1 qEe qET ((0:Nat):Int) qAh
abbrev prK(k:Nat):Sm.PR:=(qO0 k,qTr)
abbrev chK(k:Nat):Chg:=⟨qO0 k,qTr⟩
abbrev pmK(k:Nat):List UInt8:=qED (nmK k) 1 qEe qET ((0:Nat):Int) qAh
abbrev qOz(k:Nat):List (List UInt8):=sgC OWN 0 (pmK k)
abbrev qMu:List (List UInt8):=sgP OWN 0 0
theorem qTt:qBS 1 qEe qET ((0:Nat):Int) qAh=0:=qUc (by decide) (by decide) (by decide) rfl
def SvR.subK(x:SvR)(k:Nat)(y:SbR):SvR:=x.e1 (nmK k) 1 qEe qET ((0:Nat):Int) qAh 0 (qOz k) qMu y
theorem qJX(F m G:Hp)(hK:KF F)(hA:qAL F ⟨2,0,none⟩ qBT)(hT:qBx F)(hGF:Le G F)(x:SvR)(hS:Srv m G x){k:Nat}(hk:k<3)(A1:Option Addr)(c1:Nat)(hch:Sl F 1 A1 (qOz k).length c1 (qAG (qOz k)))(A2:Option Addr)(c2:Nat)(hpt:Sl F 1 A2 qMu.length c2 (qAG qMu))(hno2:x.no.length<256)(hg0:qCH x.nxt (nmK k)=none):
    Ct prog 10 [Ptr x.gs,.agg #[Str (nmK k),N64 1,Str qEe,Str qET,I ((0:Nat):Int),Str qAh,I ((0:Nat):Int),.slice A1 (qOz k).length c1,.slice A2 qMu.length c2]] [m,F] (λ_:Hp×SbR=>I ((0:Nat):Int)) (λy=>Srv y.1 G (x.subK k y.2)) (λy=> [y.1,F]):=by
  have hl:=qEK k
  refine qR2 F m G hK hGF x hS (nmK k) (by omega) 1 qEe qET ((0:Nat):Int) qAh qTt 0 A1 _ c1 (qOz k) hch A2 _ c2 qMu hpt (by decide) (qG7 _ _ _) (by rw [qFH];decide) (qMv _ _ _) (qMt _ (by decide)) (by rw [qFH];decide) hno2 hg0 (λF' hF=>?_)
  exact qOA F' (hK.mono hF) (hA.mono hF) (hT.mono hF) OWN 0 (by decide) 0 (by decide) (nmK k) (by omega) (qL2 hk) 1 qAh qTt A1 _ c1 (hch.mono hF) A2 _ c2 (hpt.mono hF) (En.hist1 _ rfl rfl)
abbrev chP(c:Chg):Sm.PR:=(c.k,c.v)
theorem qN3: ∀{l:List Sm.PR} {cl:List Chg},Sm.Once (l++cl.map chP)→kvC l cl=l++cl.map chP
 |l,[],_=>(List.append_nil l).symm
 |l,c::cl,h=>by
  have h2:Sm.Once ((l++ [chP c])++cl.map chP):=by rw [List.append_assoc];exact h
  have h3: ∀p∈l,p.1≠c.k:=λp hp=>(List.pairwise_append.1 h).2.2 p hp (chP c) (.head _)
  show kvC (Sm.putP l c.k c.v) cl=_
  rw [qHB c.v h3,qN3 h2,List.append_assoc];rfl
theorem qOM{cl:List Chg}{d b:Nat}:(cl.filter (λx=>decide (ofV x.k d<b))++qBw cl d b).Perm (cl.filter λx=>decide (ofV x.k d<b+1)):=by
  have h:=List.filter_append_perm (λx:Chg=>decide (ofV x.k d<b)) (cl.filter λx=>decide (ofV x.k d<b+1))
  rw [List.filter_filter,List.filter_filter] at h
  have e1:(cl.filter λx=>decide (ofV x.k d<b)&&decide (ofV x.k d<b+1))=cl.filter λx=>decide (ofV x.k d<b):=List.filter_congr λx _=>by
    by_cases hx:ofV x.k d<b
    · rw [decide_eq_true hx,decide_eq_true (show ofV x.k d<b+1 by omega)];rfl
    · rw [decide_eq_false hx];rfl
  have e2:(cl.filter λx=>(!decide (ofV x.k d<b))&&decide (ofV x.k d<b+1))=qBw cl d b:=List.filter_congr λx _=>by
    by_cases hx:ofV x.k d<b
    · rw [decide_eq_true hx,decide_eq_false (show¬ofV x.k d=b by omega)];rfl
    · by_cases hy:ofV x.k d=b
      · rw [decide_eq_false hx,decide_eq_true (show ofV x.k d<b+1 by omega),decide_eq_true hy];rfl
      · rw [decide_eq_false hx,decide_eq_false (show¬ofV x.k d<b+1 by omega),decide_eq_false hy];rfl
  rw [e1,e2] at h
  exact h
theorem qN1{l:List Sm.PR}{cl:List Chg}(h:Sm.Once (l++cl.map chP))(d:Nat): ∀b,(kvT l cl d b).Perm (l++(cl.filter λx=>decide (ofV x.k d<b)).map chP)
 |0=>by
  rw [List.filter_eq_nil_iff.2 (λx _=>by simp)]
  show l.Perm (l++ [])
  rw [List.append_nil]
 |b+1=>by
  have ih:=qN1 h d b
  have hs:(l++(cl.filter λx=>decide (ofV x.k d<b+1)).map chP).Sublist (l++cl.map chP):=(List.Sublist.refl l).append (List.filter_sublist.map _)
  have hp:(kvT l cl d b++(qBw cl d b).map chP).Perm (l++(cl.filter λx=>decide (ofV x.k d<b+1)).map chP):=by
   refine(ih.append_right _).trans ?_
   rw [List.append_assoc,←List.map_append]
   exact(qOM.map _).append_left _
  have ho:Sm.Once (kvT l cl d b++(qBw cl d b).map chP):=Sm.Once.perm (List.Pairwise.sublist hs h) hp.symm
  show(kvC _ _).Perm _
  rw [qN3 ho];exact hp
theorem qUI(k:List UInt8)(d:Nat):ofV k d<2^d:=by
 unfold ofV
 split
 · exact qHn k d
 · exact Nat.two_pow_pos d
theorem qS7{l:List Sm.PR}{cl:List Chg}(h:Sm.Once (l++cl.map chP))(d:Nat):(kvT l cl d (2^d)).Perm (l++cl.map chP):=by
 have h1:=qN1 h d (2^d)
 rwa [List.filter_eq_self.2 (λx _=>decide_eq_true (qUI x.k d))] at h1
def qAX(n:Nat):Aud:=⟨[120,UInt8.ofNat (97+n%26)],qTu (UInt8.ofNat n),z16,1⟩
def qGl:List Sm.PR:=qFd [] [qAX 0] 1
theorem qJA:qGl= [(qB3 0,qRi (qAX 0))]:=rfl
theorem qHH{S:List Nat}(hn:S.Nodup)(hl: ∀k∈S,k<3):Sm.Once (qGl++S.map prK):=by
 unfold Sm.Once
 rw [qJA,List.pairwise_append]
 refine⟨by simp,List.pairwise_map.2 (hn.imp_of_mem λha hb h=>qTD (hl _ ha) (hl _ hb) h),λa ha b hb=>?_⟩
 obtain ⟨k,hk,rfl⟩:=List.mem_map.1 hb
 rw [List.mem_singleton.1 ha]
 exact λe=>qTC (hl k hk) (show 0<15 by decide) e.symm
theorem qFV{l l':List Sm.PR}(h:l.Perm l')(h2:Sm.Once l'):Sm.Once l:=h2.perm h.symm
structure qD2 (i:Nat) (S:List Nat) (x:SvR):Prop where
 dp:x.dp=1
 an:x.audN.length=1
 nd:S.Nodup
 lt: ∀k∈S,k<3
 nm:x.nxt.map Lb.nm=S.map nmK
 kv: ∃A B,S=A++B∧x.kvL.Perm (qGl++A.map prK)∧x.cl=B.map chK
 sz:100≤x.bk.size
 fit:x.bk.e+qCU x.no≤17*S.length+x.tg.length
 tg:x.tg.length≤i+1
theorem qD2.le{i j:Nat}{S:List Nat}{x:SvR}(h:qD2 i S x)(hij:i≤j):qD2 j S x:={h with tg:=by have:=h.tg;omega}
theorem qRU{S:List Nat}(hn:S.Nodup)(hl: ∀k∈S,k<3):S.length≤3:=by
 have:=List.Nodup.length_le_of_subset hn (λk hk=>List.mem_range.2 (hl k hk))
 rwa [List.length_range] at this
theorem qQf{ls:List Lb}{k:List UInt8}(h:k∉ls.map Lb.nm):qCH ls k=none:=by
 rw [qDI]
 intro hm
 refine h ?_
 unfold lbE at hm
 rw [List.map_map] at hm
 exact hm
theorem qD2.new_{i:Nat}{S:List Nat}{x:SvR}(h:qD2 i S x){k:Nat}(hk:k<3)(hn:k∉S):qCH x.nxt (nmK k)=none:=by
 refine qQf ?_
 rw [h.nm]
 intro hm
 obtain ⟨j,hj,e⟩:=List.mem_map.1 hm
 have:=congrArg Fin.val (qSs ⟨j,h.lt j hj⟩ ⟨k,hk⟩ e)
 exact hn (by rw [←show j=k from this];exact hj)
theorem qD2.few{i:Nat}{S:List Nat}{x:SvR}(h:qD2 i S x)(hI:SvI x):x.no.length≤3:=by
 obtain ⟨A,B,rfl,_,hc⟩:=h.kv
 rw [hI.nc,hc,List.length_map]
 have:=qRU h.nd h.lt
 rw [List.length_append] at this;omega
theorem qNi(k:Nat):qBM (117::upB (nmK k) (qA3 1 qEe qET ((0:Nat):Int) qAh) (sgB 0 (qOz k) qMu)).length≤17:=by
 have h1:=qG8 (i:=0) (qMv OWN 0 (pmK k)) (qMt OWN (h:=0) (i:=0) (by decide)) (qG7 OWN 0 (pmK k))
 have h2:=qGv (nmK k) (qA3 1 qEe qET ((0:Nat):Int) qAh) (sgB 0 (qOz k) qMu)
 have h3:=qBn qTt
 have h4:=qEK k
 have h5:qMu.length=0:=qFH _ _ _
 rw [List.length_cons,h2,h3,h1,h5]
 unfold qBM
 split<;>omega
theorem qD2.sub{i:Nat}{S:List Nat}{x:SvR}(h:qD2 i S x){k:Nat}(hk:k<3)(hn:k∉S)(y:SbR):qD2 i (S++ [k]) (x.subK k y):=by
  have hp:=qNi k
  have hf:=h.fit
  refine⟨h.dp,h.an,?_,?_,?_,?_,h.sz,?_,h.tg⟩
  · rw [List.nodup_append]
    exact⟨h.nd,by simp,λa ha b hb=>by rw [List.mem_singleton.1 hb];rintro rfl;exact hn ha⟩
  · intro j hj
    rcases List.mem_append.1 hj with hj|hj
    · exact h.lt j hj
    · rw [List.mem_singleton.1 hj];exact hk
  · show(x.nxt++ [_]).map Lb.nm=_
    rw [List.map_append,List.map_append,h.nm];rfl
  · obtain ⟨A,B,rfl,h1,h2⟩:=h.kv
    refine⟨A,B++ [k],by rw [List.append_assoc],h1,?_⟩
    show x.cl++ [_]=_
    rw [List.map_append,h2];rfl
  · show x.bk.e+qCU (x.no++ [_])≤17*(S++ [k]).length+x.tg.length
    rw [qB0,List.length_append,List.length_singleton];omega
theorem qD2.fin{i:Nat}{S:List Nat}{x:SvR}(h:qD2 i S x):(kvT x.kvL x.cl x.dp (2^x.dp)).Perm (qGl++S.map prK):=by
 obtain ⟨A,B,rfl,h1,h2⟩:=h.kv
 have e:(x.kvL++x.cl.map chP).Perm (qGl++(A++B).map prK):=by
  rw [h2,List.map_append,←List.append_assoc,List.map_map]
  exact h1.append_right _
 exact(qS7 (qFV e (qHH h.nd h.lt)) x.dp).trans e
theorem qLJ(n e:Nat):qBM (cmB n e).length=1:=by rw [qOU];rfl
theorem qD2.room{i:Nat}{S:List Nat}{x:SvR}(h:qD2 i S x)(hi:i≤7):x.bk.e+qCU (x.no++ [cmB x.no.length x.hd.length])≤x.bk.size:=by
 have h1:=h.fit
 have h2:=qRU h.nd h.lt
 have h3:=h.tg
 have h4:=h.sz
 rw [qB0,qLJ];omega
theorem qD2.pub{i:Nat}{S:List Nat}{x:SvR}(h:qD2 i S x)(hI:SvI x)(r:StR×WrR)(hL:CbL x.bk r.2.x (x.no++ [cmB x.no.length x.hd.length])):qD2 (i+1) S (x.pub r):=by
  have hf:=h.fit
  have ht:=h.tg
  refine⟨h.dp,h.an,h.nd,h.lt,h.nm,⟨S,[],(List.append_nil S).symm,?_,rfl⟩,(by rw [show(x.pub r).bk.size=x.bk.size from hL.sz];exact h.sz),?_,?_⟩
  · rw [x.pub_kvL r hI.tk];exact h.fin
  · show r.2.x.e+qCU []≤17*S.length+(x.tg++ [_]).length
    rw [hL.e,qB0,qLJ,List.length_append,List.length_singleton]
    show _+0≤_
    omega
  · show(x.tg++ [_]).length≤i+1+1
    rw [List.length_append,List.length_singleton];omega
theorem qP0{i j:Nat}{S T:List Nat}{x y:SvR}(h:qD2 i S x)(g:qD2 j T y)(hp:S.Perm T):Sm.nd 128 (kvT x.kvL x.cl x.dp (2^x.dp))=Sm.nd 128 (kvT y.kvL y.cl y.dp (2^y.dp)):=by
 have e:=h.fin.trans (((hp.map prK).append_left qGl).trans g.fin.symm)
 have ho:=qFV h.fin (qHH h.nd h.lt)
 refine Sm.nd_perm 128 (Sm.WF.top ho λp hp=>?_) e
 have:=h.fin.subset hp
 rcases List.mem_append.1 this with hm|hm
 · rw [qJA,List.mem_singleton] at hm;rw [hm];exact qEF 0
 · obtain ⟨k,_,rfl⟩:=List.mem_map.1 hm;exact qQW k
theorem gl24:qTq [qAX 0] where
 len:=by decide
 sm:=λx hx=>by rw [List.mem_singleton.1 hx];exact⟨Nat.le_of_ble_eq_true rfl,Nat.le_of_ble_eq_true rfl,Nat.le_of_ble_eq_true rfl⟩
 ok:=λi hi=>by
  match i,hi with
  |0,_=>
   have hc:qIz [120,97]=0:=by
    unfold qIz
    rw [show normal [120,97]=([120,97],0) from qDH (l:= [120,97]) (by decide) (by decide) (by decide)];rfl
   show qKH [] [120,97] (qTu 0) z16 1=0
   unfold qKH
   rw [may_1 hc,if_neg (by decide),if_neg (by decide),if_neg (by decide)]
theorem qJg(gd n first count:Nat)(hc:200≤count)(md:Hp)(r:NwR):qD2 0 [] (nwS gd n first count 1 [qAX 0] md r):=
 ⟨rfl,rfl,List.nodup_nil,(λk h=>by cases h),rfl,⟨[],[],rfl,List.Perm.refl _,rfl⟩,by show 100≤count/2;omega,Nat.zero_le _,Nat.le_refl _⟩
def dnL(S:List Nat):List Bool:= [decide (0∈S),decide (1∈S),decide (2∈S)]
theorem qOS(S:List Nat){k:Nat}(hk:k<3):(dnL S).getD k false=decide (k∈S):=by
 match k,hk with
 |0,_=>rfl
 |1,_=>rfl
 |2,_=>rfl
theorem qTS(S:List Nat){k:Nat}(hk:k<3):(dnL S).set k true=dnL (S++ [k]):=by
 unfold dnL
 match k,hk with
 |0,_=>simp
 |1,_=>simp
 |2,_=>simp
def TT(S:List Nat)(k:Nat):List Nat:=([2,1,0].take k).filter λn=>decide (n∈S)
theorem qOu(S:List Nat){k:Nat}(hk:k<3):TT S (k+1)=if 2-k∈S then TT S k++ [2-k] else TT S k:=by
 unfold TT
 match k,hk with
 |0,_=>by_cases h:2∈S<;>simp [h]
 |1,_=>by_cases h:2∈S<;>by_cases h1:1∈S<;>simp [h,h1]
 |2,_=>by_cases h:2∈S<;>by_cases h1:1∈S<;>by_cases h0:0∈S<;>simp [h,h1,h0]
theorem qRk(S:List Nat){k:Nat}(hk:k<3):2-k∉TT S k:=by
 unfold TT
 match k,hk with
 |0,_=>simp
 |1,_=>simp
 |2,_=>simp
theorem qTo{S:List Nat}(hn:S.Nodup)(hl: ∀k∈S,k<3):S.Perm (TT S 3):=by
  refine(List.perm_ext_iff_of_nodup hn (List.Pairwise.sublist List.filter_sublist (show([2,1,0]:List Nat).Nodup by decide))).2 λk=>?_
  rw [List.mem_filter]
  constructor
  · intro h
    have:=hl k h
    exact⟨by rcases(show k=0∨k=1∨k=2 by omega) with rfl|rfl|rfl<;>simp,decide_eq_true h⟩
  · intro h;exact of_decide_eq_true h.2
theorem qD2.get{i:Nat}{S:List Nat}{x:SvR}(h:qD2 i S x){k:Nat}(hk:k∈S):Sm.getP (kvT x.kvL x.cl x.dp (2^x.dp)) (qO0 k)=some qTr:=
 Sm.getP_mem (p:=(qO0 k,qTr)) (qFV h.fin (qHH h.nd h.lt)) (h.fin.symm.subset (List.mem_append_right _ (List.mem_map.2 ⟨k,hk,rfl⟩)))
end Go.Proofs.YtllnfioplpipiaaGreatDoor
namespace Go.Proofs.YtllnfioplpipiaaGreatDoor
open Go Go.Fw Go.Proofs.Tryz
set_option maxRecDepth 100000
set_option maxHeartbeats 1000000
theorem ent44:qAD prog 44:=qAD.of func44 rfl (by kernel_rfl)
theorem ent45:qAD prog 45:=qAD.of func45 rfl (by kernel_rfl)
theorem qHo(F:Hp)(n:Nat)(hn:n≤200):Ct prog 8 [I ((n:Nat):Int)] [F] (λ_:Unit=> .agg #[Str ((qAX n).nm),Str ((qAX n).op),Str ((qAX n).rt),I ((qAX n).ht)]) (λ_=>True) (λ_=> [F]):=by
 refine Ct.walk func8 rfl ntmps8 rfl (λw0 hw0=>?_)
 change J _ [(0,_)] _ _ _
 refine J.g λK1 hK1=>J.k (qAN (l:= [Str [],Str [],Str [],I 0]) O qUf O) O λg2 _=>?_
 change J _ _ _ [F,blk g2 [Str [],Str [],Str [],I 0] 34] _
 refine J.c hK1<|J.E 0 2 ?_
 refine J.j λK2 hK2=>J.c1 [F] [15] (.y 0 (.y 1 (.y 2 (.y 3 (.y 7 (.y 8 (.y 11 (.br (.e 4 (.y 5 (.y 6 (.e 9 (.y 10 (.y 12 (.y 13 (.y 14 (.e 15 .nil))))))))) (.e 9 (.y 10 (.y 12 (.y 13 (.e 4 (.y 5 (.y 6 (.y 14 (.e 15 .nil))))))))))))))))) Tryz.wide (by decide+kernel) (by simp) ?_
 refine J.T ?_
 refine J.q O (((qGR O O O (by omega)).nat (n%26) (by omega))) O O<|J.q O ((qAO O O O (by first|omega|(simp only [List.length_append,List.length_cons,List.length_nil,List.length_take,List.length_drop] at*;omega))).nat (97+(n%26)) (by omega)) rfl rfl<|J.q rfl (qAj (m:=97+(n%26)) rfl rfl u3_ u5_) rfl rfl<|J.T ?_
 refine J.q O (qAj (m:=n) O O u3_ u5_) O O<|J.q O ((qA1 (a:= [0,0,0,0,0,0,0,0,0,0,0,0,0,0,0,0]) (l:=1) (h:=([0,0,0,0,0,0,0,0,0,0,0,0,0,0,0,0]).length) u9_ O O O O ⟨by first|omega|(simp only [List.length_append,List.length_cons,List.length_nil,List.length_take,List.length_drop] at*;omega),by first|omega|(simp only [List.length_append,List.length_cons,List.length_nil,List.length_take,List.length_drop] at*;omega)⟩).as (v':=Str (([0,0,0,0,0,0,0,0,0,0,0,0,0,0,0,0]).drop 1)) (by rw [List.take_length])) rfl rfl<|J.g0 ?_ ?_
 ·
  refine J.g1 (λg=>_++ [blk g [B8 (UInt8.ofNat (97+n%26))] 5]) O (qAF (l:= [.tmp 6]) (xs:= [[B8 (UInt8.ofNat (97+(n%26)))]]) O O O O qBV el5 O (by decide) (by decide) (by simp)) rfl rfl rfl (λ_ _ h=>List.mem_append_left _ h) (by simp) ?_
  intro g7 _
  change J _ _ _ [_,_,blk g7 [B8 (UInt8.ofNat (97+(n%26)))] 5] _
  refine J.q O (qBY (l:= [UInt8.ofNat (97+(n%26))]) O O qBV u5_ u9_ (m:=blk g7 [B8 (UInt8.ofNat (97+(n%26)))] 5) (by simp) ((qA4 (q:=True) (qAR [UInt8.ofNat (97+(n%26))]) rfl (by simp [qAR]) rfl).sl)) rfl rfl<|J.q rfl (qA5 (a:= [120]) (b:= [UInt8.ofNat (97+(n%26))]) rfl rfl rfl (by first|omega|(simp only [List.length_append,List.length_cons,List.length_nil,List.length_take,List.length_drop] at*;omega))) rfl rfl<|J.g1 (λg=>_++ [blk g [B8 (UInt8.ofNat n)] 5]) rfl (qAF (l:= [.tmp 11]) (xs:= [[B8 (UInt8.ofNat n)]]) rfl rfl rfl rfl qBV el5 rfl (by decide) (by decide) (by simp)) rfl rfl rfl (λ_ _ h=>List.mem_append_left _ h) (by simp) ?_
  intro g12 _
  change J _ _ _ [_,_,_,blk g12 [B8 (UInt8.ofNat n)] 5] _
  refine J.q O (qBY (l:= [UInt8.ofNat n]) O O qBV u5_ u9_ (m:=blk g12 [B8 (UInt8.ofNat n)] 5) (by simp) ((qA4 (q:=True) (qAR [UInt8.ofNat n]) rfl (by simp [qAR]) rfl).sl)) rfl rfl<|J.q rfl (qA5 (a:= [UInt8.ofNat n]) (b:=([0,0,0,0,0,0,0,0,0,0,0,0,0,0,0,0]).drop 1) rfl rfl rfl (by first|omega|(simp only [List.length_append,List.length_cons,List.length_nil,List.length_take,List.length_drop] at*;omega))) rfl rfl<|J.q rfl (qAM (l:= [(0,.tmp 15),(1,.const ((Value.string (ByteArray.mk #[0,0,0,0,0,0,0,0,0,0,0,0,0,0,0,0])))),(2,.const ((Value.int IntKind.i64 1)))]) (vs:= [Str (([UInt8.ofNat n])++(([0,0,0,0,0,0,0,0,0,0,0,0,0,0,0,0]).drop 1)),Str ([0,0,0,0,0,0,0,0,0,0,0,0,0,0,0,0]),I ((1:Nat):Int)]) (places:= [(0,1),(1,1),(2,1)]) (r:= [Str (([UInt8.ofNat n])++(([0,0,0,0,0,0,0,0,0,0,0,0,0,0,0,0]).drop 1)),Str ([0,0,0,0,0,0,0,0,0,0,0,0,0,0,0,0]),I ((1:Nat):Int)]) rfl rfl rfl qH3 qTR (λ_=>by kernel_rfl) rfl) rfl rfl<|J.q rfl (qAM (l:= [(0,.tmp 9),(1,.tmp 16)]) (vs:= [Str (([120])++([UInt8.ofNat (97+(n%26))])),.agg #[Str (([UInt8.ofNat n])++(([0,0,0,0,0,0,0,0,0,0,0,0,0,0,0,0]).drop 1)),Str ([0,0,0,0,0,0,0,0,0,0,0,0,0,0,0,0]),I ((1:Nat):Int)]]) (places:= [(0,1),(1,3)]) (r:= [Str (([120])++([UInt8.ofNat (97+(n%26))])),Str (([UInt8.ofNat n])++(([0,0,0,0,0,0,0,0,0,0,0,0,0,0,0,0]).drop 1)),Str ([0,0,0,0,0,0,0,0,0,0,0,0,0,0,0,0]),I ((1:Nat):Int)]) rfl rfl rfl qMI qUf (λ_=>by kernel_rfl) rfl) rfl rfl<|J.d3 rfl (qAI (i:=1) (l:= [Str [],Str [],Str [],I 0]) (vs:= [Str (([120])++([UInt8.ofNat (97+(n%26))])),Str (([UInt8.ofNat n])++(([0,0,0,0,0,0,0,0,0,0,0,0,0,0,0,0]).drop 1)),Str ([0,0,0,0,0,0,0,0,0,0,0,0,0,0,0,0]),I ((1:Nat):Int)]) rfl rfl rfl rfl rfl qJJ rfl rfl) rfl rfl rfl λ_ _=>?_
  change J _ _ _ [_,blk g2 [Str (([120])++([UInt8.ofNat (97+(n%26))])),Str (([UInt8.ofNat n])++(([0,0,0,0,0,0,0,0,0,0,0,0,0,0,0,0]).drop 1)),Str ([0,0,0,0,0,0,0,0,0,0,0,0,0,0,0,0]),I ((1:Nat):Int)] 34,_,_] _
  refine J.b9<|J.A (J.H hK2 ?_)
  refine J.u 2 ?_
  exact J.D<|J.b2 hw0 (λ_ _ h=>h) (rv1 O (RV.blkA 1 O O isAgg34 qJJ)) (qAn () (O) trivial [0] O (by decide))
 refine J.g1 (λg=>_++ [blk g [B8 (UInt8.ofNat n)] 5]) O (qAF (l:= [.tmp 11]) (xs:= [[B8 (UInt8.ofNat n)]]) O O O O qBV el5 O (by decide) (by decide) (by simp)) rfl rfl rfl (λ_ _ h=>List.mem_append_left _ h) (by simp) ?_
 intro g12 _
 change J _ _ _ [F,blk g2 [Str [],Str [],Str [],I 0] 34,blk g12 [B8 (UInt8.ofNat n)] 5] _
 refine J.q O (qBY (l:= [UInt8.ofNat n]) O O qBV u5_ u9_ (m:=blk g12 [B8 (UInt8.ofNat n)] 5) (by simp) ((qA4 (q:=True) (qAR [UInt8.ofNat n]) rfl (by simp [qAR]) rfl).sl)) rfl rfl<|J.q rfl (qA5 (a:= [UInt8.ofNat n]) (b:=([0,0,0,0,0,0,0,0,0,0,0,0,0,0,0,0]).drop 1) rfl rfl rfl (by first|omega|(simp only [List.length_append,List.length_cons,List.length_nil,List.length_take,List.length_drop] at*;omega))) rfl rfl<|J.q rfl (qAM (l:= [(0,.tmp 15),(1,.const ((Value.string (ByteArray.mk #[0,0,0,0,0,0,0,0,0,0,0,0,0,0,0,0])))),(2,.const ((Value.int IntKind.i64 1)))]) (vs:= [Str (([UInt8.ofNat n])++(([0,0,0,0,0,0,0,0,0,0,0,0,0,0,0,0]).drop 1)),Str ([0,0,0,0,0,0,0,0,0,0,0,0,0,0,0,0]),I ((1:Nat):Int)]) (places:= [(0,1),(1,1),(2,1)]) (r:= [Str (([UInt8.ofNat n])++(([0,0,0,0,0,0,0,0,0,0,0,0,0,0,0,0]).drop 1)),Str ([0,0,0,0,0,0,0,0,0,0,0,0,0,0,0,0]),I ((1:Nat):Int)]) rfl rfl rfl qH3 qTR (λ_=>by kernel_rfl) rfl) rfl rfl<|J.g1 (λg=>_++ [blk g [B8 (UInt8.ofNat (97+n%26))] 5]) rfl (qAF (l:= [.tmp 6]) (xs:= [[B8 (UInt8.ofNat (97+(n%26)))]]) rfl rfl rfl rfl qBV el5 rfl (by decide) (by decide) (by simp)) rfl rfl rfl (λ_ _ h=>List.mem_append_left _ h) (by simp) ?_
 intro g7 _
 change J _ _ _ [_,_,_,blk g7 [B8 (UInt8.ofNat (97+(n%26)))] 5] _
 refine J.q O (qBY (l:= [UInt8.ofNat (97+(n%26))]) O O qBV u5_ u9_ (m:=blk g7 [B8 (UInt8.ofNat (97+(n%26)))] 5) (by simp) ((qA4 (q:=True) (qAR [UInt8.ofNat (97+(n%26))]) rfl (by simp [qAR]) rfl).sl)) rfl rfl<|J.q rfl (qA5 (a:= [120]) (b:= [UInt8.ofNat (97+(n%26))]) rfl rfl rfl (by first|omega|(simp only [List.length_append,List.length_cons,List.length_nil,List.length_take,List.length_drop] at*;omega))) rfl rfl<|J.q rfl (qAM (l:= [(0,.tmp 9),(1,.tmp 16)]) (vs:= [Str (([120])++([UInt8.ofNat (97+(n%26))])),.agg #[Str (([UInt8.ofNat n])++(([0,0,0,0,0,0,0,0,0,0,0,0,0,0,0,0]).drop 1)),Str ([0,0,0,0,0,0,0,0,0,0,0,0,0,0,0,0]),I ((1:Nat):Int)]]) (places:= [(0,1),(1,3)]) (r:= [Str (([120])++([UInt8.ofNat (97+(n%26))])),Str (([UInt8.ofNat n])++(([0,0,0,0,0,0,0,0,0,0,0,0,0,0,0,0]).drop 1)),Str ([0,0,0,0,0,0,0,0,0,0,0,0,0,0,0,0]),I ((1:Nat):Int)]) rfl rfl rfl qMI qUf (λ_=>by kernel_rfl) rfl) rfl rfl<|J.d3 rfl (qAI (i:=1) (l:= [Str [],Str [],Str [],I 0]) (vs:= [Str (([120])++([UInt8.ofNat (97+(n%26))])),Str (([UInt8.ofNat n])++(([0,0,0,0,0,0,0,0,0,0,0,0,0,0,0,0]).drop 1)),Str ([0,0,0,0,0,0,0,0,0,0,0,0,0,0,0,0]),I ((1:Nat):Int)]) rfl rfl rfl rfl rfl qJJ rfl rfl) rfl rfl rfl λ_ _=>?_
 change J _ _ _ [_,blk g2 [Str (([120])++([UInt8.ofNat (97+(n%26))])),Str (([UInt8.ofNat n])++(([0,0,0,0,0,0,0,0,0,0,0,0,0,0,0,0]).drop 1)),Str ([0,0,0,0,0,0,0,0,0,0,0,0,0,0,0,0]),I ((1:Nat):Int)] 34,_,_] _
 refine J.b9<|J.A (J.H hK2 ?_)
 refine J.u 2 ?_
 exact J.D<|J.b2 hw0 (λ_ _ h=>h) (rv1 O (RV.blkA 1 O O isAgg34 qJJ)) (qAn () (O) trivial [0] O (by decide))
theorem qId(F:Hp)(n:UInt8):Ct prog 12 [B8 (n)] [F] (λ_:Unit=>Str (nmK n.toNat)) (λ_=>True) (λ_=> [F]):=by
 refine Ct.walk func12 rfl ntmps12 rfl (λw0 hw0=>?_)
 change J _ [(0,_)] _ _ _
 refine J.g λK1 hK1=>J.b O<|J.c hK1<|J.u 0 ?_
 refine J.g λK2 hK2=>J.k (qAF (l:= [.const ((Value.string (ByteArray.mk #[97,108,105,99,101]))),.const ((Value.string (ByteArray.mk #[98,111,98]))),.const ((Value.string (ByteArray.mk #[208,182,209,131,208,186]))),.const ((Value.string (ByteArray.mk #[67,97,114,111,108])))]) (xs:= [[Str ([97,108,105,99,101])],[Str ([98,111,98])],[Str ([208,182,209,131,208,186])],[Str ([67,97,114,111,108])]]) O O O O qAe el9 O (by decide) (by decide) (by simp)) rfl λg4 _=>?_
 change J _ _ _ [F,blk g4 [Str ([97,108,105,99,101]),Str ([98,111,98]),Str ([208,182,209,131,208,186]),Str ([67,97,114,111,108])] 9] _
 refine J.b O<|J.c hK2<|J.E 0 3 ?_
 refine J.g λK3 hK3=>J.p 2 O<|J.f (qBZ O O u5_ u3_) O<|J.f (((qGR O O O (by omega)).nat (n.toNat%4) (by omega))) O<|J.f (qAH (i:=n.toNat%4) O O O qAe z9_ (qA4 (q:=True) (e:=9) (g:=g4) (qAG [[97,108,105,99,101],[98,111,98],[208,182,209,131,208,186],[67,97,114,111,108]]) O (by simp [qAG]) rfl).sl (by omega)) rfl<|J.f (qAJ rfl rfl b9_ (m:=blk g4 [Str [97,108,105,99,101],Str [98,111,98],Str [208,182,209,131,208,186],Str [67,97,114,111,108]] 9) (by simp) (((qA4 (q:=True) (e:=9) (g:=g4) (qAG [[97,108,105,99,101],[98,111,98],[208,182,209,131,208,186],[67,97,114,111,108]]) rfl (by simp [qAG]) rfl).sl).elem (qAQ (qAc [] (by first|omega|(simp only [List.length_append,List.length_cons,List.length_nil,List.length_take,List.length_drop] at*;omega)))))) rfl<|J.b rfl<|J.c hK3<|J.u 2 ?_
 exact J.D<|J.M hw0 O () (O) trivial [0] O (by decide)
theorem qGu(F:Hp)(hK:KF F)(g:Nat)(seed:List UInt8)(kh:Nat)(hk:qRm F g seed kh)(hs6:seed.length≤1048576)(h6:kh≤6)(s:List UInt8)(hsl:s.length≤1000000)(v:Nat)(p:List UInt8)(hE:qBS v (Wo.opn seed) (Xm.root seed kh) ((kh:Nat):Int) p=0):Ct prog 11 [Ptr g,Str s,N64 v,Str p] [F] (λx:(Option Addr×Nat×Hp)×(Option Addr×Nat×Hp)=> .agg #[Str s,N64 v,Str (Wo.opn seed),Str (Xm.root seed kh),I ((kh:Nat):Int),Str p,I ((0:Nat):Int),.slice x.1.1 (sgC seed 0 (qED s v (Wo.opn seed) (Xm.root seed kh) ((kh:Nat):Int) p)).length x.1.2.1,.slice x.2.1 (sgP seed kh 0).length x.2.2.1]) (λx=>Row x.1.2.2 9 1 x.1.1 (sgC seed 0 (qED s v (Wo.opn seed) (Xm.root seed kh) ((kh:Nat):Int) p)).length x.1.2.1 (qAG (sgC seed 0 (qED s v (Wo.opn seed) (Xm.root seed kh) ((kh:Nat):Int) p)))∧Row x.2.2.2 9 1 x.2.1 (sgP seed kh 0).length x.2.2.1 (qAG (sgP seed kh 0))) (λx=> [F,x.1.2.2,x.2.2.2]):=by
 refine Ct.walk func11 rfl ntmps11 rfl (λw0 hw0=>?_)
 change J _ [(0,_),(1,_),(2,_),(3,_)] _ _ _
 refine J.g λK1 hK1=>J.k (qAN (l:= [Str [],.int .u64 0,Str [],Str [],I 0,Str [],I 0,.slice none 0 0,.slice none 0 0]) O zeroValue48 O) O λg8 _=>?_
 change J _ _ _ [F,blk g8 [Str [],.int .u64 0,Str [],Str [],I 0,Str [],I 0,.slice none 0 0,.slice none 0 0] 48] _
 refine J.c hK1<|J.a0 0 1 2 3 8 ?_
 refine J.g λK2 hK2=>J.p 4 O<|J.k (qAA O O ent45 (Ct.use0 (λF' hF=>qO7 F' g seed kh (hk.mono (hF F (by simp)))))) rfl λg16 _=>J.b rfl<|J.f (qAM (l:= [(0,.tmp 14),(1,.tmp 16),(2,.tmp 17)]) (vs:= [N64 (v),.agg #[Str (Wo.opn (seed)),Str (Xm.root (seed) (kh)),I ((kh:Nat):Int)],Str (p)]) (places:= [(0,1),(1,3),(4,1)]) (r:= [N64 (v),Str (Wo.opn (seed)),Str (Xm.root (seed) (kh)),I ((kh:Nat):Int),Str (p)]) rfl rfl rfl qKT qUe (λ_=>by kernel_rfl) rfl) rfl<|J.k (qAA rfl rfl ent44 (Ct.use (new:=λx:(Option Addr×Nat×Hp)×(Option Addr×Nat×Hp)=> [x.1.2.2,x.2.2.2]) (λF' hF=>qPu F' (hK.mo hF) g seed kh (hk.mono (hF F (by simp))) hs6 h6 0 (Nat.two_pow_pos kh) s hsl v (Wo.opn seed) (Xm.root seed kh) ((kh:Nat):Int) p hE))) rfl ?_
 rintro⟨⟨A19,c19,m19⟩,⟨B19,d19,n19⟩⟩ ⟨h19,k19⟩
 change J _ ((19,.tuple #[.agg #[Str (s),N64 (v),Str (Wo.opn (seed)),Str (Xm.root (seed) (kh)),I ((kh:Nat):Int),Str (p),I ((0:Nat):Int),.slice A19 (sgC seed 0 (qED s v (Wo.opn seed) (Xm.root seed kh) ((kh:Nat):Int) p)).length c19,.slice B19 (sgP seed kh 0).length d19],I ((0:Nat):Int)])::_) _ [_,_,m19,n19] _
 refine J.p 3 O<|J.k (qAN (l:= [Str [],.int .u64 0,Str [],Str [],I 0,Str [],I 0,.slice none 0 0,.slice none 0 0]) O zeroValue48 O) O λg9 _=>?_
 change J _ _ _ [_,_,_,_,blk g9 [Str [],.int .u64 0,Str [],Str [],I 0,Str [],I 0,.slice none 0 0,.slice none 0 0] 48] _
 refine J.b0 (qAI (i:=4) (l:= [Str [],.int .u64 0,Str [],Str [],I 0,Str [],I 0,.slice none 0 0,.slice none 0 0]) (vs:= [Str (s),N64 (v),Str (Wo.opn (seed)),Str (Xm.root (seed) (kh)),I ((kh:Nat):Int),Str (p),I ((0:Nat):Int),.slice A19 ((sgC seed 0 (qED s v (Wo.opn seed) (Xm.root seed kh) ((kh:Nat):Int) p)).length) c19,.slice B19 ((sgP seed kh 0).length) d19]) O O O O O qOx O O) O O λ_ _=>?_
 change J _ _ _ [_,_,_,_,blk g9 [Str (s),N64 (v),Str (Wo.opn (seed)),Str (Xm.root (seed) (kh)),I ((kh:Nat):Int),Str (p),I ((0:Nat):Int),.slice A19 ((sgC seed 0 (qED s v (Wo.opn seed) (Xm.root seed kh) ((kh:Nat):Int) p)).length) c19,.slice B19 ((sgP seed kh 0).length) d19] 48] _
 refine J.b O<|J.c hK2<|J.E 8 9 ?_
 refine J.g λK3 hK3=>J.c9 4 isAgg48 qOx O O O O O<|J.b0 (qAI (i:=1) (l:= [Str [],.int .u64 0,Str [],Str [],I 0,Str [],I 0,.slice none 0 0,.slice none 0 0]) (vs:= [Str (s),N64 (v),Str (Wo.opn (seed)),Str (Xm.root (seed) (kh)),I ((kh:Nat):Int),Str (p),I ((0:Nat):Int),.slice A19 ((sgC seed 0 (qED s v (Wo.opn seed) (Xm.root seed kh) ((kh:Nat):Int) p)).length) c19,.slice B19 ((sgP seed kh 0).length) d19]) O O O O O qOx O O) O O λ_ _=>?_
 change J _ _ _ [_,blk g8 [Str (s),N64 (v),Str (Wo.opn (seed)),Str (Xm.root (seed) (kh)),I ((kh:Nat):Int),Str (p),I ((0:Nat):Int),.slice A19 ((sgC seed 0 (qED s v (Wo.opn seed) (Xm.root seed kh) ((kh:Nat):Int) p)).length) c19,.slice B19 ((sgP seed kh 0).length) d19] 48,_,_,_] _
 refine J.c hK3<|J.u 8 ?_
 exact J.D<|J.b2 hw0 (λ_ _ h=>h) (rv1 O (RV.blkA 1 O O isAgg48 qOx)) (qAn ((A19,c19,m19),(B19,d19,n19)) O ⟨h19,k19⟩ [0,2,3] O (by decide))
theorem ent6:qAD prog 6:=qAD.of func6 rfl (by kernel_rfl)
theorem ent7:qAD prog 7:=qAD.of func7 rfl (by kernel_rfl)
theorem ent8:qAD prog 8:=qAD.of func8 rfl (by kernel_rfl)
theorem ent9:qAD prog 9:=qAD.of func9 rfl (by kernel_rfl)
theorem ent10:qAD prog 10:=qAD.of func10 rfl (by kernel_rfl)
theorem ent11:qAD prog 11:=qAD.of func11 rfl (by kernel_rfl)
theorem ent13:qAD prog 13:=qAD.of func13 rfl (by kernel_rfl)
theorem ent14:qAD prog 14:=qAD.of func14 rfl (by kernel_rfl)
theorem ent21:qAD prog 21:=qAD.of func21 rfl (by kernel_rfl)
theorem ent22:qAD prog 22:=qAD.of func22 rfl (by kernel_rfl)
theorem ent23:qAD prog 23:=qAD.of func23 rfl (by kernel_rfl)
attribute [local irreducible] Sha.tagged Wo.pub Wo.publicOf Wo.signs Wo.ends Wo.digs Wo.walk Wo.opn Mk.root Mk.path Mk.climb Xm.root sgC sgP qA3 qBS sgB qB3 kvT
theorem qSW{m G G2:Hp}{x:SvR}{r:StR×WrR}(h:PbP m G G2 x r)(hI:SvI x)(k:List UInt8):qCs (lbE (x.pub r).now) k=qCs (lbE x.nxt) k:=(qOG hI.un h.pm.symm k).symm
theorem qQg{l:LE}{k:List UInt8}{v:List En}(h:k∉l.map Prod.fst):qCs (l++ [(k,v)]) k=v:=by
 induction l with
 |nil=>exact if_pos rfl
 |cons x r ih=>
  rw [List.map_cons,List.mem_cons,not_or] at h
  show(if x.1=k then x.2 else qCs (r++ [(k,v)]) k)=v
  rw [if_neg (λe=>h.1 e.symm),ih h.2]
theorem qT4{x:SvR}(hg:qCH x.nxt (nmK 0)=none)(y:SbR):qCs (lbE (x.subK 0 y).nxt) (nmK 0)= [(⟨1,qEe,qET,((0:Nat):Int),qAh⟩:En)]:=by
 show qCs (lbE (x.nxt++ [_])) _=_
 rw [qHW]
 exact qQg (qDI.1 hg)
theorem qJa(F:Hp)(hK:KF F)(hA:qAL F ⟨2,0,none⟩ qBT)(hT:qBx F):Ct prog 5 [] [F] (λ_:Unit=> .bool true) (λ_=>True) (λ_=> [F]):=by
 have hz0:nmK 0= [97,108,105,99,101]:=rfl
 refine Ct.walk func5 rfl ntmps5 rfl (λw0 hw0=>?_)
 change J _ [] _ _ _
 refine J.g λK1 hK1=>J.b O<|J.c hK1<|J.c3 [] trivial<|J.g λK2 hK2=>J.k (qAA O O ent6 (Ct.use (new:=λx:Nat×Hp=> [x.2]) (λF' _=>qFa F' 200 (by decide) (by decide)))) O ?_
 rintro⟨g13,m13⟩ hb13
 try dsimp only at hb13
 change J _ ((13,.tuple #[Ptr g13,I ((0:Nat):Int)])::_) _ [F,m13] _
 refine J.p 5 O<|J.c hK2<|J.E 1 2 ?_
 refine J.g λK3 hK3=>J.b O<|J.k (qAA O O ent8 (Ct.use0 (λF' hF=>qHo F' 0 (by first|decide|omega)))) O λg18 _=>J.k (qAF (l:= [.tmp 18]) (xs:= [[Str ((qAX 0).nm),Str ((qAX 0).op),Str ((qAX 0).rt),I ((qAX 0).ht)]]) O O O O qGw el34 O (by decide) (by decide) (by simp)) rfl λg19 _=>?_
 change J _ _ _ [_,_,blk g19 [Str ((qAX 0).nm),Str ((qAX 0).op),Str ((qAX 0).rt),I ((qAX 0).ht)] 34] _
 refine J.k (qAA O O ent7 (Ct.use1 1 (m':=λy:Hp×Hp×NwR=>y.1) (new:=λy=> [y.2.1]) O (λF' hF=>qJr F' m13 (hK.mo hF) (hA.mono (hF F (by simp))) (hT.mono (hF F (by simp))) g13 200 hb13 (by decide) (by decide) 0 200 (by decide) (by decide) 1 (by decide) _ _ [qAX 0] ((qAk (q:=True) (xs:=qBK [qAX 0]) rfl (by intro x hx;rw [List.mem_singleton.1 hx];rfl)).sl.mono (hF (blk g19 [Str ((qAX 0).nm),Str ((qAX 0).op),Str ((qAX 0).rt),I ((qAX 0).ht)] 34) (by simp))) gl24))) rfl ?_
 rintro⟨ms20,Gs20,r20⟩ hS20
 try dsimp only at hS20
 change J _ ((20,.tuple #[Ptr r20.gs,I ((0:Nat):Int)])::_) _ [_,ms20,_,Gs20] _
 obtain ⟨x,hx⟩: ∃x,x=nwS g13 200 0 200 1 [qAX 0] m13 r20:=⟨_,rfl⟩
 rw [←hx] at hS20
 rw [show r20.gs=x.gs by rw [hx];rfl]
 refine J.p 5 O<|J.c hK3<|J.G 2 3 4 ?_
 refine J.g λK4 hK4=>J.k (qAA O O ent9 (Ct.use (new:=λx:Nat×Hp=> [x.2]) (λF' hF=>qKL F' (hK.mo hF) OWN 0 (by decide) (by decide)))) O ?_
 rintro⟨g24,m24⟩ h24
 try dsimp only at h24
 change J _ ((24,.tuple #[Ptr g24,I 0])::_) _ [_,_,_,_,m24] _
 refine J.p 5 O<|J.c hK4<|J.a0 2 3 4 5 6 ?_
 refine J.j λK5 hK5=>J.j λK6 hK6=>?_
 have hO:qD2 0 [] x:=by rw [hx];exact qJg _ _ _ 200 (by decide) _ _
 have hg0:=hO.new_ (k:=0) (by decide) (by simp)
 have hO1:=λy=>hO.sub (k:=0) (by decide) (by simp) y
 refine J.L<|J.b O<|J.f ((qAb O O O).no (by decide)) O<|J.p 2 O<|J.Z ((qAb O O O).no (by decide)) O<|J.p 3 O<|J.Z ((qAb O O O).no (by decide)) O<|J.p 4 O<|J.d7 (qAA O O ent11 (Ct.use (new:=λx:(Option Addr×Nat×Hp)×(Option Addr×Nat×Hp)=> [x.1.2.2,x.2.2.2]) (λF' hF=>qGu F' (hK.mo hF) g24 OWN 0 (h24.mono (hF m24 (by simp))) (by decide) (by decide) (nmK 0) (by have:=qEK 0;omega) 1 qAh qTt))) rfl ?_
 rintro⟨⟨A40,c40,m40⟩,⟨B40,d40,n40⟩⟩ ⟨h40,k40⟩
 change J _ ((40,.agg #[Str (nmK 0),N64 1,Str qEe,Str qET,I ((0:Nat):Int),Str qAh,I ((0:Nat):Int),.slice A40 (qOz 0).length c40,.slice B40 qMu.length d40])::_) _ [_,_,_,_,_,m40,n40] _
 refine J.d7 (qAA O O ent10 (Ct.use1 1 (m':=λy:Hp×SbR=>y.1) (new:=λ_=> []) O (λF' hF=>qJX F' ms20 Gs20 (hK.mo hF) (hA.mono (hF F (by simp))) (hT.mono (hF F (by simp))) (hF Gs20 (by simp)) x hS20 (k:=0) (by decide) A40 c40 (h40.sl.mono (hF m40 (by simp))) B40 d40 (k40.sl.mono (hF n40 (by simp))) (by rw [hx];exact Nat.succ_pos 255) hg0))) rfl ?_
 rintro⟨ms41,y41⟩ hS41
 try dsimp only at hS41
 change J _ ((41,I ((0:Nat):Int))::_) _ [_,ms41,_,_,_,_,_] _
 refine J.Z ((qAb O O O).no (by decide)) O<|J.p 3 O<|J.d7 (qAA O O ent21 (Ct.use0 (λF' hF=>by have:=qPS F' (x.subK 0 y41) (hS41.cells.mono (hF ms41 (by simp)));rw [show(x.subK 0 y41).no.length=1 by rw [hx];rfl] at this;exact this))) rfl λg46 _=>J.Z ((qAb rfl rfl rfl).no (by decide)) rfl<|J.b rfl<|J.c hK6<|J.E 3 48 ?_
 refine J.a5 ?_
 refine J.W hK5<|J.u 3 ?_
 refine J.g λK7 hK7=>J.b O<|J.k (qAA O O ent13 (Ct.use1 1 (m':=λy:Hp×StR×WrR=>y.1) (new:=λy=> [y.2.1.G,y.2.1.mo]) O (λF' hF=>qHD F' ms41 Gs20 (hK.mo hF) (hF Gs20 (by simp)) (x.subK 0 y41) hS41 (by rw [hx];show 1<15;decide) ((hO1 y41).room (by decide))))) rfl ?_
 rintro⟨mp51,y51⟩ hp51
 try dsimp only at hp51
 change J _ ((51,.tuple #[.agg #[N64 ((x.subK 0 y41).hd.length),Str ((qBu (x.subK 0 y41).hdL).dig),I (((x.subK 0 y41).dp:Nat):Int),I (((x.subK 0 y41).audN.length:Nat):Int),.slice y51.1.nA (qAg (kvT (x.subK 0 y41).kvL (x.subK 0 y41).cl (x.subK 0 y41).dp (2^(x.subK 0 y41).dp)) (x.subK 0 y41).dp).length y51.1.nc],.slice y51.1.At y51.1.tl.length y51.1.ct,I ((0:Nat):Int)])::_) _ [_,mp51,_,_,_,_,_,y51.1.G,y51.1.mo] _
 refine J.p 4 O<|J.k (qAN (l:= [.int .u64 0,Str [],I 0,I 0,.slice none 0 0]) O qRe O) O λg7 _=>?_
 change J _ _ _ [_,_,_,_,_,_,_,_,_,blk g7 [.int .u64 0,Str [],I 0,I 0,.slice none 0 0] 52] _
 refine J.b0 (qAI (i:=9) (l:= [.int .u64 0,Str [],I 0,I 0,.slice none 0 0]) (vs:= [N64 ((x.subK 0 y41).hd.length),Str ((qBu (x.subK 0 y41).hdL).dig),I (((x.subK 0 y41).dp:Nat):Int),I (((x.subK 0 y41).audN.length:Nat):Int),.slice y51.1.nA (qAg (kvT (x.subK 0 y41).kvL (x.subK 0 y41).cl (x.subK 0 y41).dp (2^(x.subK 0 y41).dp)) (x.subK 0 y41).dp).length y51.1.nc]) O O O O O qHw O O) O O λ_ _=>?_
 change J _ _ _ [_,_,_,_,_,_,_,_,_,blk g7 [N64 ((x.subK 0 y41).hd.length),Str ((qBu (x.subK 0 y41).hdL).dig),I (((x.subK 0 y41).dp:Nat):Int),I (((x.subK 0 y41).audN.length:Nat):Int),.slice y51.1.nA (qAg (kvT (x.subK 0 y41).kvL (x.subK 0 y41).cl (x.subK 0 y41).dp (2^(x.subK 0 y41).dp)) (x.subK 0 y41).dp).length y51.1.nc] 52] _
 refine J.p 2 O<|J.c hK7<|J.O 3 7 8 9 ?_
 refine J.j λK8 hK8=>?_
 have hI1:=hS41.i
 have hS3: ∀F3,Le Gs20 F3→Le y51.1.G F3→Srv mp51 F3 ((x.subK 0 y41).pub y51):=hp51.s
 have hkv:((x.subK 0 y41).pub y51).kvL=(kvT (x.subK 0 y41).kvL (x.subK 0 y41).cl (x.subK 0 y41).dp (2^(x.subK 0 y41).dp)):=SvR.pub_kvL _ _ hI1.tk
 have hget:Sm.getP ((x.subK 0 y41).pub y51).kvL (qO0 0)=some qTr:=by
  rw [hkv];exact(hO1 y41).get (List.mem_singleton.2 rfl)
 have hnw:qCs (lbE ((x.subK 0 y41).pub y51).now) (nmK 0)= [(⟨1,qEe,qET,((0:Nat):Int),qAh⟩:En)]:=(qSW hp51 hI1 _).trans (qT4 hg0 _)
 refine J.L<|J.b O<|J.k (qAA O O ent22 (Ct.use (new:=λr:LkR=> [r.mb,r.m]) (λF' hF=>qPW F' (hK.mo hF) ((x.subK 0 y41).pub y51) (hS3 F' (hF Gs20 (by simp)) (hF y51.1.G (by simp))).i ((hS3 F' (hF Gs20 (by simp)) (hF y51.1.G (by simp))).cells.mono (hF mp51 (by simp))) ((hS3 F' (hF Gs20 (by simp)) (hF y51.1.G (by simp))).tsl.mono (hF mp51 (by simp))) (hS3 F' (hF Gs20 (by simp)) (hF y51.1.G (by simp))).tree (hS3 F' (hF Gs20 (by simp)) (hF y51.1.G (by simp))).p.nw (hS3 F' (hF Gs20 (by simp)) (hF y51.1.G (by simp))).p.nl (nmK 0) (by decide)))) rfl ?_
 rintro r57 hr57
 change J _ ((57,.tuple #[.agg #[Str (nmK 0),.slice r57.A (qCs (lbE ((x.subK 0 y41).pub y51).now) (nmK 0)).length r57.c,.slice r57.bA (bsd ((x.subK 0 y41).pub y51).kvL (Sha.tagged 11 [nmK 0]) 0 (r57.s-0)).length r57.bc,.bool (qAr ((x.subK 0 y41).pub y51).kvL (Sha.tagged 11 [nmK 0]) r57.s),Str (qBy ((x.subK 0 y41).pub y51).kvL (Sha.tagged 11 [nmK 0]) r57.s),Str (qCG ((x.subK 0 y41).pub y51).kvL (Sha.tagged 11 [nmK 0]) r57.s)],I ((0:Nat):Int)])::_) _ [_,_,_,_,_,_,_,_,_,_,r57.mb,r57.m] _
 have hro57:=hr57.ro
 rw [hnw] at hro57⊢
 refine J.p 3 O<|J.k (qAN (l:= [Str [],.slice none 0 0,.slice none 0 0,.bool false,Str [],Str []]) O zeroValue82 O) O λg10 _=>?_
 change J _ _ _ [_,_,_,_,_,_,_,_,_,_,_,_,blk g10 [Str [],.slice none 0 0,.slice none 0 0,.bool false,Str [],Str []] 82] _
 refine J.b0 (qAI (i:=12) (l:= [Str [],.slice none 0 0,.slice none 0 0,.bool false,Str [],Str []]) (vs:= [Str (nmK 0),.slice r57.A ([(⟨1,qEe,qET,((0:Nat):Int),qAh⟩:En)]:List En).length r57.c,.slice r57.bA (bsd ((x.subK 0 y41).pub y51).kvL (Sha.tagged 11 [nmK 0]) 0 (r57.s-0)).length r57.bc,.bool (qAr ((x.subK 0 y41).pub y51).kvL (Sha.tagged 11 [nmK 0]) r57.s),Str (qBy ((x.subK 0 y41).pub y51).kvL (Sha.tagged 11 [nmK 0]) r57.s),Str (qCG ((x.subK 0 y41).pub y51).kvL (Sha.tagged 11 [nmK 0]) r57.s)]) O O O O O sizeOf82 O O) O O λ_ _=>?_
 change J _ _ _ [_,_,_,_,_,_,_,_,_,_,_,_,blk g10 [Str (nmK 0),.slice r57.A ([(⟨1,qEe,qET,((0:Nat):Int),qAh⟩:En)]:List En).length r57.c,.slice r57.bA (bsd ((x.subK 0 y41).pub y51).kvL (Sha.tagged 11 [nmK 0]) 0 (r57.s-0)).length r57.bc,.bool (qAr ((x.subK 0 y41).pub y51).kvL (Sha.tagged 11 [nmK 0]) r57.s),Str (qBy ((x.subK 0 y41).pub y51).kvL (Sha.tagged 11 [nmK 0]) r57.s),Str (qCG ((x.subK 0 y41).pub y51).kvL (Sha.tagged 11 [nmK 0]) r57.s)] 82] _
 refine J.b O<|J.c hK8<|J.a0 7 8 9 10 11 ?_
 refine J.j λK9 hK9=>J.c1 [blk g7 [N64 ((x.subK 0 y41).hd.length),Str ((qBu (x.subK 0 y41).hdL).dig),I (((x.subK 0 y41).dp:Nat):Int),I (((x.subK 0 y41).audN.length:Nat):Int),.slice y51.1.nA (qAg (kvT (x.subK 0 y41).kvL (x.subK 0 y41).cl (x.subK 0 y41).dp (2^(x.subK 0 y41).dp)) (x.subK 0 y41).dp).length y51.1.nc] 52,blk g10 [Str (nmK 0),.slice r57.A ([(⟨1,qEe,qET,((0:Nat):Int),qAh⟩:En)]:List En).length r57.c,.slice r57.bA (bsd ((x.subK 0 y41).pub y51).kvL (Sha.tagged 11 [nmK 0]) 0 (r57.s-0)).length r57.bc,.bool (qAr ((x.subK 0 y41).pub y51).kvL (Sha.tagged 11 [nmK 0]) r57.s),Str (qBy ((x.subK 0 y41).pub y51).kvL (Sha.tagged 11 [nmK 0]) r57.s),Str (qCG ((x.subK 0 y41).pub y51).kvL (Sha.tagged 11 [nmK 0]) r57.s)] 82,r57.m,F] [] (.y 0 (.y 1 (.y 2 (.y 3 (.y 4 (.y 5 (.y 6 (.y 7 (.y 8 (.y 9 (.y 10 (.y 11 (.y 12 (.y 13 (.y 14 (.y 15 (.y 16 (.y 17 (.y 18 (.y 19 (.y 20 (.y 21 (.y 22 (.y 23 (.y 24 (.y 25 (.y 28 (.y 29 (.y 30 (.y 31 (.e 26 (.e 27 (.e 32 (.e 33 (.y 34 (.y 35 .nil)))))))))))))))))))))))))))))))))))) Tryz.wide (by decide+kernel) (by simp) ?_
 refine J.T ?_
 refine J.q O ((qAY O O O).yes (by decide)) O O<|J.T ?_
 refine J.c0 O (qAx O O) O O<|J.c0 O ((qAY O O O).yes (by decide)) O O<|J.d8 ?_
 refine J.T ?_
 refine J.c0 O (qAB (j:=0) O O qGx O qF9 O) O O<|J.c0 O (qAE 0 (v:=N64 ((x.subK 0 y41).hd.length)) O O O qHt O) O O<|J.c0 O ((qAY O O O).yes (by rw [hx];rfl)) rfl rfl<|J.d8 ?_
 refine J.T ?_
 refine J.c0 O (qAx O O) O O<|J.c0 O (qAP underlying53 O O) O O<|J.c0 O ((qAY O O O).yes (by rw [hp51.len,hx];rfl)) rfl rfl<|J.d8 ?_
 refine J.T ?_
 refine J.c0 O (qAB (j:=1) O O underlying82 O sizeOf78 O) O O<|J.c0 O (qAE 1 (v:= .slice r57.A ([(⟨1,qEe,qET,((0:Nat):Int),qAh⟩:En)]:List En).length r57.c) O O O isAgg78 O) O O<|J.c0 O (qAP qFz O O) O O<|J.c0 O ((qAY O O O).yes (O)) O O<|J.d8 ?_
 refine J.T ?_
 refine J.c0 O (qAB (j:=2) O O underlying82 O qHv O) O O<|J.c0 O (qAd (vs:= [.slice r57.bA (bsd ((x.subK 0 y41).pub y51).kvL (Sha.tagged 11 [nmK 0]) 0 (r57.s-0)).length r57.bc,.bool (qAr ((x.subK 0 y41).pub y51).kvL (Sha.tagged 11 [nmK 0]) r57.s),Str (qBy ((x.subK 0 y41).pub y51).kvL (Sha.tagged 11 [nmK 0]) r57.s),Str (qCG ((x.subK 0 y41).pub y51).kvL (Sha.tagged 11 [nmK 0]) r57.s)]) O O qML qHv (m:=blk g10 [Str (nmK 0),.slice r57.A ([(⟨1,qEe,qET,((0:Nat):Int),qAh⟩:En)]:List En).length r57.c,.slice r57.bA (bsd ((x.subK 0 y41).pub y51).kvL (Sha.tagged 11 [nmK 0]) 0 (r57.s-0)).length r57.bc,.bool (qAr ((x.subK 0 y41).pub y51).kvL (Sha.tagged 11 [nmK 0]) r57.s),Str (qBy ((x.subK 0 y41).pub y51).kvL (Sha.tagged 11 [nmK 0]) r57.s),Str (qCG ((x.subK 0 y41).pub y51).kvL (Sha.tagged 11 [nmK 0]) r57.s)] 82) (by simp) (qAL.blk0.sub 2 4) rfl) rfl rfl<|J.c0 rfl (qAy 0 rfl rfl rfl isAgg52 qHw rfl) rfl rfl<|J.c0 rfl (qAB (j:=1) rfl rfl underlying82 rfl sizeOf78 rfl) rfl rfl<|J.c0 rfl (qAE 1 (v:= .slice r57.A ([(⟨1,qEe,qET,((0:Nat):Int),qAh⟩:En)]:List En).length r57.c) rfl rfl rfl isAgg78 rfl) rfl rfl<|J.c0 rfl (qAH (i:=0) rfl rfl rfl qFz qCR hro57.sl (by first|omega|(simp only [List.length_append,List.length_cons,List.length_nil,List.length_take,List.length_drop] at*;omega))) rfl rfl<|J.c0 rfl (qAd (vs:= [N64 ((([(⟨1,qEe,qET,((0:Nat):Int),qAh⟩:En)]).getD 0 qD1).v),Str ((([(⟨1,qEe,qET,((0:Nat):Int),qAh⟩:En)]).getD 0 qD1).o),Str ((([(⟨1,qEe,qET,((0:Nat):Int),qAh⟩:En)]).getD 0 qD1).r),I ((([(⟨1,qEe,qET,((0:Nat):Int),qAh⟩:En)]).getD 0 qD1).h),Str ((([(⟨1,qEe,qET,((0:Nat):Int),qAh⟩:En)]).getD 0 qD1).p)]) rfl rfl qFy qCR (m:=r57.m) (by simp) (hro57.sl.elem (qQl (by first|omega|(simp only [List.length_append,List.length_cons,List.length_nil,List.length_take,List.length_drop] at*;omega)))) rfl) rfl rfl<|J.e6 rfl (qAA rfl rfl ent14 (Ct.use0 (λF' hF=>hp51.root (hK.mo hF) hI1 (hS3 F' (hF Gs20 (by simp)) (hF y51.1.G (by simp))) (hF y51.1.G (by simp))))) (Wan.is rfl rfl rfl rfl rfl) rfl rfl (by simp) ?_
 intro g86 _
 refine J.e6 O (qAA O O ent24 (Ct.use0 (λF' hF=>qEw F' (hK.mo hF) (nmK 0) (by decide)))) (Wan.is O O O O O) O O (by simp) ?_
 intro g87 _
 refine J.e6 O (qAA O O ent25 (Ct.use0 (λF' hF=>qDx F' (hK.mo hF) 1 qEe qET ((0:Nat):Int) qAh (by decide) (by rw [Wo.opn_length];decide) (by rw [show qET.length=16 from Mk.root_16 _ _];decide) (by decide)))) (Wan.is rfl rfl rfl rfl rfl) rfl rfl (by simp) ?_
 intro g92 _
 refine J.e6 O (qAA O O ent23 (Ct.use0 (λF' hF=>qTH F' (hK.mo hF) (x:=((x.subK 0 y41).pub y51)) (hS3 F' (hF Gs20 (by simp)) (hF y51.1.G (by simp))).i.kf (s:=nmK 0) hr57 (hF r57.mb (by simp)) (v:=qTr) hget))) (Wan.is rfl rfl rfl rfl rfl) rfl rfl (by simp) ?_
 intro g93 _
 refine J.d8 ?_
 refine J.c6 ?_
 refine J.b9<|J.A (J.H hK9 ?_)
 refine J.u 0 ?_
 exact J.D<|J.M hw0 O () O trivial [0] O (by decide)
end Go.Proofs.YtllnfioplpipiaaGreatDoor
