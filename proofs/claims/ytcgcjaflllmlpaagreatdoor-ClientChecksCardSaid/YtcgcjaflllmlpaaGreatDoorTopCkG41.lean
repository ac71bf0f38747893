/- A part of the proof. -/
import Derived.Test.YtcgcjaflllmlpaaGreatDoorTopCkG40
set_option maxRecDepth 100000
set_option maxHeartbeats 1000000
set_option linter.unusedSimpArgs false
set_option linter.unusedVariables false
namespace Go.Proofs.YtcgcjaflllmlpaaGreatDoor
open Go Go.Fw Go.Proofs.Tryz
attribute [local irreducible] Sha.tagged Wo.pub Wo.publicOf Wo.signs Wo.ends Wo.digs Wo.walk Wo.opn Mk.root Mk.path Mk.climb Xm.root
theorem valW{nm:Nat}(hnm:nm<3):Sha.tagged 16 [wN nm,qBM (Wo.opn (qAP nm)) (Xm.root (qAP nm) 2) ((2:Nat):Int)]=qCF nm:=by
 unfold qBM
 rw [if_pos ⟨xC,xC,Wo.opn_length _,qDs hnm⟩];rfl
theorem qZd{a nm:Nat}(ha:a≤3)(h:nm<a):Sm.getP (qAN a) (qAL nm)=some (qCF nm):=by
 rw [qUe xB]
 exact Sm.getP_mem (p:=(qBq nm,qCF nm)) (qD2 ha).once (List.mem_map.2 ⟨nm,List.mem_range.2 h,O⟩)
theorem br23{a d:Nat}(ha:a≤3)(hd:d≤0)(k:xA):qB0 (pW a d).nodes (pW a d).dep=Sm.ndB (qAN a) k 0:=by
 have h:=(qGD (qD2 ha) (d:=d) xB).2
 have e:Sm.ndB (qAN a) k 0=Sm.nd 128 (qAN a):=by
  show Sm.nd 128 (Sm.bel _ k 0)=_
  rw [Sm.bel_zero]
 rw [e];exact h
def vtY(a:Nat)(y:Hd)(b nm i:Nat)(A1:Option Addr)(c1:Nat)(A2:Option Addr)(c2:Nat)(s:Nat)(A3:Option Addr)(c3:Nat):VtD:=⟨y.ep,b,y.dig,nm,i,A1,c1,(sgC (qAP nm) i (atM y.ep b nm y.dig)),A2,c2,(sgP (qAP nm) 2 i),wN nm,Wo.opn (qAP nm),Xm.root (qAP nm) 2,2,A3,c3,(bsd (qAN a) (qAL nm) 0 (s-0)),qAm (qAN a) (qAL nm) s,qBm (qAN a) (qAL nm) s,qBs (qAN a) (qAL nm) s⟩
structure Hon (G:Hp) (a d:Nat) (y:Hd) (v:VtD) (b nm:Nat):Prop where
 ok:qSr G v
 ep:v.ep=y.ep
 hd:v.hd=y.dig
 eb:v.b=b
 en:v.nm=nm
 has:qRr (pW a d) v=true
 ver:qSw v=true
theorem Hon.mono{G G':Hp}{a d:Nat}{y:Hd}{v:VtD}{b nm:Nat}(h:Hon G a d y v b nm)(hl:Le G G'):Hon G' a d y v b nm:={h with ok:=h.ok.mono hl}
theorem qZc{G:Hp}{a d:Nat}{y:Hd}{b nm i:Nat}{A1:Option Addr}{c1:Nat}{A2:Option Addr}{c2 s:Nat}{A3:Option Addr}{c3:Nat}(ha:a≤3)(hd:d≤0)(hnm:nm<a)(hb:b<16)(he:y.ep≤4294967295)(hy:y.dig.length=16)(hi:i<2^2)(hst:qGR (qAN a) (qAL nm) 0 s)
    (h1:Sl G 1 A1 (sgC (qAP nm) i (atM y.ep b nm y.dig)).length c1 (qAG (sgC (qAP nm) i (atM y.ep b nm y.dig)))) (h2:Sl G 1 A2 (sgP (qAP nm) 2 i).length c2 (qAG (sgP (qAP nm) 2 i))) (h3:Sl G 1 A3 (bsd (qAN a) (qAL nm) 0 (s-0)).length c3 (qAG (bsd (qAN a) (qAL nm) 0 (s-0)))):Hon G a d y (vtY a y b nm i A1 c1 A2 c2 s A3 c3) b nm where
  ok:={ch:=h1,pt:=h2,bs:=h3,good:=qEG (qD2 ha) (qBx nm) hst,pvl:=qEJ (qD2 ha) (qAL nm) s,ch35:=qGm _ _ _,ch16:=qM1 _ _ _,ptl:=qFT _ _ _,pt16:=qM0 _ hi,h6:=(by show 2≤6;decide),hi:=hi,an:=jm rfl,op:=(by show(Wo.opn (qAP nm)).length≤_;rw [Wo.opn_length];decide),rt:=(by show(Xm.root (qAP nm) 2).length≤_;rw [qDs xB];decide),pe:=qPo xB,b16:=hb,nm64:=(by show nm<64;omega),ep:=he,hd:=hy}
  ep:=rfl
  hd:=rfl
  eb:=rfl
  en:=rfl
  has:=by
    have h:=qGu (qD2 ha) (qBx nm) hst
    rw [qZd ha hnm] at h
    unfold qRr
    rw [show valV (vtY a y b nm i A1 c1 A2 c2 s A3 c3)=qCF nm from valW xB,br23 ha hd (qAL nm)]
    exact h
  ver:=by
    have e:=Wo.recPub (qAP nm) i (Xm.digest (Wo.opn (qAP nm)) i (atM y.ep b nm y.dig)) (by rw [Xm.digest_length];decide)
    unfold qSw
    refine decide_eq_true ?_
    show Mk.climb (Wo.publicOf (Wo.opn (qAP nm)) i (Wo.ends (Wo.opn (qAP nm)) i (Wo.digs (Xm.digest (Wo.opn (qAP nm)) i (atM y.ep b nm y.dig))) (sgC (qAP nm) i (atM y.ep b nm y.dig)) 35)) i (sgP (qAP nm) 2 i)=Xm.root (qAP nm) 2
    unfold sgC
    rw [e]
    exact qHW (qAP nm) 2 _ hi
def qOL(G:Hp)(a d sl:Nat)(y:Hd)(W:Nat→List Int)(V:List VtD):Prop:= ∀j,j<V.length→ ∃b k nm,k<sl∧b<2^d∧j=b*sl+k∧(W b).getD k 0=((nm:Nat):Int)∧Hon G a d y (V.getD j qAo) b nm
theorem qOL.nil(G:Hp)(a d sl:Nat)(y:Hd)(W:Nat→List Int):qOL G a d sl y W []:=λj h=>absurd h (jy j)
theorem qOL.mono{G G':Hp}{a d sl:Nat}{y:Hd}{W:Nat→List Int}{V:List VtD}(h:qOL G a d sl y W V)(hl:Le G G'):qOL G' a d sl y W V:=λj hj=>by
 obtain ⟨b,k,nm,h1,h2,h3,h4,h5⟩:=h j hj
 exact⟨b,k,nm,h1,h2,h3,h4,h5.mono hl⟩
theorem qOL.snoc{G:Hp}{a d sl:Nat}{y:Hd}{W:Nat→List Int}{V:List VtD}{v:VtD}{b k nm:Nat}(h:qOL G a d sl y W V)(h1:k<sl)(h2:b<2^d)(h3:V.length=b*sl+k)(h4:(W b).getD k 0=((nm:Nat):Int))(h5:Hon G a d y v b nm):qOL G a d sl y W (V++ [v]):=λj hj=>by
 rw [jA,jI] at hj
 rw [qFf V v qAo j hj]
 split
 · exact h j xB
 · exact⟨b,k,nm,h1,h2,xB,h4,h5⟩
structure Pub6 (a d:Nat) (x:SvR):Prop where
 hd2:x.hd.length=2
 tg2:x.tg.length=2
 h0:qA0 (x.hd.getD 0 qAc)=pW a d
 k0:x.kv.getD 0 []=qAN a
 au:x.aud=wL a
structure VtsR where
 V:List VtD
 us:List Nat
 A:Option Addr
 c:Nat
 m:Hp
 mu:Hp
 G:Hp
structure VtsP (B a d sl:Nat) (y:Hd) (W:Nat→List Int) (gu uc:Nat) (us:List Nat) (r:VtsR):Prop where
 row:Row r.m 74 15 r.A r.V.length r.c (qOT r.V)
 len:r.V.length=2^d*sl
 hon:qOL r.G a d sl y W r.V
 ul:r.us.length=a
 ub: ∀j,r.us.getD j 0≤B+10
 ur:Row r.mu 3 1 (some ⟨gu,0,none⟩) a uc (qBP r.us)
theorem qRv(l:List Nat)(k v j:Nat):(l.set k v).getD j 0=if j=k∧k<l.length then v else l.getD j 0:=by
  rw [jB,zD]
  by_cases h:k=j
  · subst h
    rw [if_pos rfl]
    by_cases h2:k<l.length
    · rw [if_pos h2,if_pos ⟨rfl,h2⟩];rfl
    · rw [if_neg h2,if_neg (λx=>h2 x.2),jB,ji xB]
  · rw [if_neg h,if_neg (λx=>h x.1.symm),jB]
theorem qWT{us:List Nat}{N nm:Nat}(h: ∀j,us.getD j 0≤N): ∀j,(us.set nm (us.getD nm 0+1)).getD j 0≤N+1:=λj=>by
 rw [qRv]
 split
 · have:=h nm;omega
 · have:=h j;omega
end Go.Proofs.YtcgcjaflllmlpaaGreatDoor
namespace Go.Proofs.YtcgcjaflllmlpaaGreatDoor
open Go Go.Fw Go.Proofs.Tryz
attribute [local irreducible] Sha.tagged Wo.pub Wo.publicOf Wo.signs Wo.ends Wo.digs Wo.walk Wo.opn Mk.root Mk.path Mk.climb Xm.root sgC sgP qBI qBf sgB normal qAL SN.tagN
theorem qZp{v:Nat}{seed:xA}{kh:Nat}{p:xA}(h1:1≤v)(h2:v≤4294967295)(h3:kh≤6)(hp:p.length=16):qBf v (Wo.opn seed) (Xm.root seed kh) ((kh:Nat):Int) p=0:=(en_0 xB xB xB xB (Wo.opn_length _) (Mk.root_16 _ _) hp).1
theorem qVw:normal [97,108,105,99,101]=([97,108,105,99,101],0):=qDA (l:= [97,108,105,99,101]) xC xC xC
theorem entE(sd:xA):qBf 1 (Wo.opn sd) (Xm.root sd 0) ((0:Nat):Int) qAh=0:=qZp xC xC xC O
def SvR.put(x:SvR)(s sd:xA)(y:SbR):SvR:=x.e1 s 1 (Wo.opn sd) (Xm.root sd 0) ((0:Nat):Int) qAh 0 (sgC sd 0 (qFz s 1 (Wo.opn sd) (Xm.root sd 0) ((0:Nat):Int) qAh)) (sgP sd 0 0) y
theorem qWg(F m G:Hp)(hK:KF F)(hA:qAM F ⟨2,0,none⟩ qBd)(hT:qCI F)(hGF:Le G F)(x:SvR)(hS:Srv m G x)(s:xA)(hs2:s.length≤200)(hN:normal s=(s,0))(sd:xA)(A1:Option Addr)(c1:Nat)(hch:Sl F 1 A1 (sgC sd 0 (qFz s 1 (Wo.opn sd) (Xm.root sd 0) ((0:Nat):Int) qAh)).length c1 (qAG (sgC sd 0 (qFz s 1 (Wo.opn sd) (Xm.root sd 0) ((0:Nat):Int) qAh))))(A2:Option Addr)(c2:Nat)(hpt:Sl F 1 A2 (sgP sd 0 0).length c2 (qAG (sgP sd 0 0)))(hno2:x.no.length<256)(hg0:qCp x.nxt s=none):
    Ct prog 25 [Ptr x.gs,.agg #[Str s,N64 1,Str (Wo.opn sd),Str (Xm.root sd 0),I (0:Nat),Str qAh,I (0:Nat),.slice A1 (sgC sd 0 (qFz s 1 (Wo.opn sd) (Xm.root sd 0) ((0:Nat):Int) qAh)).length c1,.slice A2 (sgP sd 0 0).length c2]] [m,F] (λ_:Hp×SbR=>I (0:Nat)) (λy=>Srv y.1 G (x.put s sd y.2)) (λy=> [y.1,F]):=by
  refine qWh F m G hK hGF x hS s hs2 1 (Wo.opn sd) (Xm.root sd 0) ((0:Nat):Int) qAh (entE sd) 0 A1 _ c1 (sgC sd 0 (qFz s 1 (Wo.opn sd) (Xm.root sd 0) ((0:Nat):Int) qAh)) hch A2 _ c2 (sgP sd 0 0) hpt xC (qGm _ _ _) (by rw [qFT];decide) (qM1 _ _ _) (qM0 _ xC) (by rw [qFT];decide) hno2 hg0 (λF' hF=>?_)
  exact qRl F' (hK.mono hF) (hA.mono hF) (hT.mono hF) sd 0 xC 0 xC s xB hN 1 qAh (entE sd) A1 _ c1 (hch.mono hF) A2 _ c2 (hpt.mono hF) (En.hist1 _ O O)
theorem qLs(F ms G:Hp)(hK:KF F)(hA:qAM F ⟨2,0,none⟩ qBd)(hT:qCI F)(hGF:Le G F)(x:SvR)(hS:Srv ms G x)(gw a kc uc:Nat)(kA uA:Option Addr)(hw:qAM F ⟨gw,0,none⟩ [Ptr x.gs,.slice kA a kc,.slice uA a uc])(s:xA)(hs2:s.length≤200)(hN:normal s=(s,0))(sd:xA)(hsd:sd.length≤1000)(hno2:x.no.length<256)(hg0:qCp x.nxt s=none)(hnow:qDf (lbE x.now) s= []):Ct prog 9 [Ptr gw,Str s,Str sd] [ms,F] (λ_:Hp×SbR=> .bool true) (λy=>Srv y.1 G (x.put s sd y.2)) (λy=> [y.1,F]):=by
 refine Ct.walk func9 O ntmps9 O (λw0 hw0=>?_)
 refine J.g λ_ j1=>J.b O<|J.c j1<|J.g λ_ j2=>J.b O<|J.p (qBr O O (λF' hF=>qMj F' (hK.mo hF) sd 0 xB xC)) O ?_
 rintro⟨g17,m17⟩ h17
 try dsimp only at h17
 refine J.k 5 O<|J.c j2<|J.g λ_ j3=>J.b O<|J.f (qAB O O) O<|J.M 0 qEt qJl O O O O O<|J.f (qAI O O qLU (m:=F) xD (hw.at (i:=0) O)) O<|J.b O<|J.p (qBr O O (λF' hF=>qIq F' (hK.mo hF) x hS.i (hS.cells.mono (Fa hF)) (hS.tsl.mono (Fa hF)) (hS.tree.mono (hGF.trans (Fa hF))) (hS.p.nw.mono (hGF.trans (Fa hF))) (hS.p.nl.mono (hGF.trans (Fa hF))) s xB)) O ?_
 rintro r26 hr26
 rw [hnow]
 refine J.k 3 O<|J.p (qAJ O qR7 O) O λg9 _=>J.a6 (qAD (i:=5) (l:= [Str [],.slice none 0 0,.slice none 0 0,.bool false,Str [],Str []]) (vs:= [Str s,.slice r26.A ([]:List En).length r26.c,.slice r26.bA (bsd x.kvL (Sha.tagged 11 [s]) 0 (r26.s-0)).length r26.bc,.bool (qAm x.kvL (Sha.tagged 11 [s]) r26.s),Str (qBm x.kvL (Sha.tagged 11 [s]) r26.s),Str (qBs x.kvL (Sha.tagged 11 [s]) r26.s)]) O O O O O qJk O O) O O λ_ _=>J.b O<|J.c j3<|J.g λ_ j4=>J.b O<|J.p (qAa O O (λF' hF=>qIc F' g17 sd 0 (h17.mono (Fa hF)))) O λg30 _=>J.f (qAH (places:= [(0,1),(1,3),(4,1)]) (r:= [N64 (1),Str (Wo.opn sd),Str (Xm.root sd 0),I (0:Nat),Str ([0,0,0,0,0,0,0,0,0,0,0,0,0,0,0,0])]) O O O qFQ qFh (λ_=>xI) O) O<|J.p (qAJ O qFh O) O λg11 _=>J.a6 (qAD (i:=6) (l:= [.int .u64 0,Str [],Str [],I 0,Str []]) (vs:= [N64 (1),Str (Wo.opn sd),Str (Xm.root sd 0),I (0:Nat),Str (qAh)]) O O O O O qBY O O) O O λ_ _=>J.c j4<|J.q λ_ j5=>J.g λ_ j6=>J.M 1 qEX qF5 O O O O O<|J.a7 5 qLT O O O O O<|J.f (qAR qDJ O O) O<|J.b O<|J.c j6<|J.g λ_ j7=>J.b O<|J.f ((qAz O O O).no xC) O<|J.c j7<|J.a2 ?_
 refine J.T j5<|J.g λ_ j8=>J.k 2 O<|J.b8 6 qC6 qBY O O O O O<|J.p (qBr O O (λF' hF=>qT2 F' (hK.mo hF) g17 sd 0 (h17.mono (Fa hF)) xB xC 0 xC s xB 1 (Wo.opn sd) (Xm.root sd 0) ((0:Nat):Int) qAh (entE sd))) O ?_
 rintro⟨⟨A53,c53,m53⟩,⟨B53,d53,n53⟩⟩ ⟨h53,k53⟩
 refine J.k 3 O<|J.p (qAJ O zeroValue101 O) O λg13 _=>J.a6 (qAD (i:=9) (l:= [Str [],.int .u64 0,Str [],Str [],I 0,Str [],I 0,.slice none 0 0,.slice none 0 0]) (vs:= [Str (s),N64 (1),Str (Wo.opn sd),Str (Xm.root sd 0),I (0:Nat),Str (qAh),I (0:Nat),.slice A53 (sgC sd 0 (qFz s 1 (Wo.opn sd) (Xm.root sd 0) ((0:Nat):Int) qAh)).length c53,.slice B53 (sgP sd 0 0).length d53]) O O O O O sizeOf101 O O) O O λ_ _=>J.b O<|J.c j8<|J.q λ_ j9=>J.b1 [F,blk g13 [Str (s),N64 (1),Str (Wo.opn sd),Str (Xm.root sd 0),I (0:Nat),Str (qAh),I (0:Nat),.slice A53 (sgC sd 0 (qFz s 1 (Wo.opn sd) (Xm.root sd 0) ((0:Nat):Int) qAh)).length c53,.slice B53 (sgP sd 0 0).length d53] 101] [] (.y 0 (.y 1 (.y 2 (.y 3 (.y 4 (.y 5 (.y 6 (.y 7 (.y 8 (.y 9 (.y 10 (.y 11 (.e 12 (.y 13 (.y 14 (.y 15 .nil)))))))))))))))) Tryz.wide xF xD ?_
 refine J.L ?_
 refine J.j O ((qAX O O O).yes xC) O O<|J.L ?_
 refine J.c0 O (qA2 O O) O O<|J.c0 O ((qAX O O O).yes xC) O O<|J.d7 ?_
 refine J.L ?_
 refine J.c0 O (qA2 O O) O O<|J.c0 O (qAB O O) O O<|J.c0 O (qAA O O qEt O qJl O) O O<|J.c0 O (qAI O O qLU (m:=F) xD (hw.at (i:=0) O)) O O<|J.c0 O (qAW 1 O O O isAgg101 sizeOf101 O) O O<|J.e5 O (qAK O O ent (Ct.use1 0 O (λF' hF=>qWg F' ms G (hK.mo hF) (hA.mono (Fa hF)) (hT.mono (Fa hF)) (hGF.trans (Fa hF)) x hS s hs2 hN sd A53 c53 (h53.sl.mono (Fa hF)) B53 d53 (k53.sl.mono (Fa hF)) hno2 hg0))) (Wan.is O O O O O) O O xD ?_
 rintro⟨ms68,y68⟩ hS68
 try dsimp only at hS68
 refine J.c0 O ((qAX O O O).yes xC) O O<|J.d7 ?_
 refine J.b7 ?_
 refine J.a9<|J.u (J.G j9 ?_)
 exact J.A<|J.E hw0 O (ms68,y68) O hS68 [0,1] O xC
end Go.Proofs.YtcgcjaflllmlpaaGreatDoor
namespace Go.Proofs.YtcgcjaflllmlpaaGreatDoor
open Go Go.Fw Go.Proofs.Tryz
attribute [local irreducible] Sha.tagged Wo.pub Wo.publicOf Wo.signs Wo.ends Wo.digs Wo.walk Wo.opn Mk.root Mk.path Mk.climb Xm.root sgC sgP qBj qAN
theorem qPw{v:VtD}{W:Nat→List Int}{sl n:Nat}{x y:Hd}(hy:y.dig≠ [])(he:v.ep=y.ep)(hh:v.hd=y.dig)(hs:qLm W sl n v.b v.nm=true)(h1:qRr x v=true)(h2:qSw v=true):qMp x y W sl n v=0:=by
 unfold qMp
 rw [if_neg (λh=>h.elim hy (λh=>h.elim (λh=>h he) (λh=>h hh))),hs,if_neg xC,h1,if_neg xC,h2,if_neg xC]
theorem qQQ{x y:Hd}{W:Nat→List Int}{sl n nd:Nat}{vs:List VtD}(h1: ∀i,i<vs.length→qKA vs i=false)(h2: ∀i,i<vs.length→qMp x y W sl n (vs.getD i qAo)=0): ∀k,k≤vs.length→qHh x y W sl n nd vs k=if∀b,b<n→nd≤qLR vs b then 0 else 16
 |0,_=>rfl
 |k+1,hk=>by
  rw [qHh,h1 _ xB,if_neg xC,if_pos (h2 _ xB)]
  exact qQQ h1 h2 k xB
theorem qYP{x y:Hd}{W:Nat→List Int}{sl n nd:Nat}{vs:List VtD}(hn:x.next y=0)(h1: ∀i,i<vs.length→qKA vs i=false)(h2: ∀i,i<vs.length→qMp x y W sl n (vs.getD i qAo)=0):qEV x y W sl n nd vs=((if∀b,b<n→nd≤qLR vs b then 0 else 16:Nat):Int):=by
 unfold qEV
 rw [if_pos hn,qQQ h1 h2 _ (jK _)]
theorem qTd{W:Nat→List Int}{sl n b nm i:Nat}(hb:b<n)(hi:i<sl)(hl:sl≤(W b).length)(h:((nm:Nat):Int)=(W b).getD i 0):qLm W sl n b nm=true:=by
  have hf: ∀(l:List Int) (x:Int) (k:Nat),x∈l→0≤Wd.find l x k:=λl x=>by
    induction l with
    |nil=>intro k hx;cases hx
    |cons y r ih=>
      intro k hx
      unfold Wd.find
      by_cases e:x=y
      · rw [if_pos e];omega
      · rw [if_neg e]
        rcases List.mem_cons.1 hx with h|h
        · exact absurd h e
        · exact ih (k+1) h
  unfold qLm
  rw [decide_eq_true hb,Bool.true_and]
  refine decide_eq_true (hf _ _ _ ?_)
  rw [h,jB,jC xB]
  exact List.mem_take_iff_getElem.2 ⟨i,xB,O⟩
def hdN(a d:Nat)(kv:List Sm.PR):Hd:=⟨1,(pW a d).dig,((d:Nat):Int),((a:Nat):Int),qAq kv d⟩
theorem qML{a d:Nat}{kv:List Sm.PR}(ha:a≤3)(hd:d≤0)(hf:qCE kv):(hdN a d kv).err=0:=hdOk hf (ep:=1) xC (par:=(pW a d).dig) (qDE ha hd) (d:=d) xB (a:=a) xB
theorem qRp{a d:Nat}{kv:List Sm.PR}(ha:a≤3)(hd:d≤0)(hf:qCE kv):(hdN a d kv).dig.length=16:=qMW (qML ha hd hf)
theorem qNr{a d:Nat}{kv:List Sm.PR}(ha:a≤3)(hd:d≤0):(hdN a d kv).good:=by
 obtain ⟨_,h16⟩:=qH6 (show d≤4 by omega)
 exact⟨by show 1<_;decide,by show(pW a d).dig.length≤_;rw [qDE ha hd];decide,by show(qAq kv d).length≤_;unfold qAq;rw [qBe];omega⟩
theorem qNq{a d:Nat}{kv:List Sm.PR}(ha:a≤3)(hd:d≤0)(hf:qCE kv):(pW a d).next (hdN a d kv)=0:=by
 have h1:=qML (a:=a) ha hd hf
 have h2:=qDE ha hd
 refine qVs (by rw [h1];decide) ?_ ?_ ?_
 · show¬(1=0∨1-1≠0);decide
 · exact λe=>e.elim (λe=>by rw [e] at h2;exact absurd h2 xC) (λe=>e O)
 · show¬(((d:Nat):Int)≠((d:Nat):Int)∨((a:Nat):Int)<((a:Nat):Int));omega
structure qMg (G:Hp) (a sl:Nat) (y:Hd) (V:List VtD) (ks:List Nat):Prop where
 len:V.length=ks.length
 nd:ks.Nodup
 each: ∀j,j<V.length→ks.getD j 0<sl∧ ∃nm,(qBj a 0 sl 0).getD (ks.getD j 0) 0=((nm:Nat):Int)∧Hon G a 0 y (V.getD j qAo) 0 nm
theorem qMg.mono{G G':Hp}{a sl:Nat}{y:Hd}{V:List VtD}{ks:List Nat}(h:qMg G a sl y V ks)(hl:Le G G'):qMg G' a sl y V ks:=⟨h.len,h.nd,λj hj=>by
 obtain ⟨h1,nm,h2,h3⟩:=h.each j hj
 exact⟨h1,nm,h2,h3.mono hl⟩⟩
theorem qMg.vo{G:Hp}{a sl:Nat}{y:Hd}{V:List VtD}{ks:List Nat}(h:qMg G a sl y V ks): ∀i,i<V.length→qSr G (V.getD i qAo):=λi hi=>by
 obtain ⟨_,_,_,h3⟩:=h.each i hi
 exact h3.ok
theorem qKY{α:Type}{l:List α}(h:l.Nodup){i j:Nat}(hi:i<l.length)(hj:j<l.length)(e:l[i]=l[j]):i=j:=by
 rcases Nat.lt_trichotomy i j with q|q|q
 · exact absurd e (List.pairwise_iff_getElem.1 h i j hi hj q)
 · exact q
 · exact absurd e.symm (List.pairwise_iff_getElem.1 h j i hj hi q)
theorem qWQ{a sl:Nat}(ha:a≤3)(h1:1≤sl)(h2:sl≤a){i j:Nat}(hi:i<sl)(hj:j<sl)(e:(qBj a 0 sl 0).getD i 0=(qBj a 0 sl 0).getD j 0):i=j:=by
 obtain ⟨h3,h4,_⟩:=qIg ha (jG 0) h1 h2 (b:=0) xC
 have hl:((qBj a 0 sl 0).take sl).length=sl:=by rw [jF,h3];omega
 have g: ∀k,(hk:k<sl)→(qBj a 0 sl 0).getD k 0=((qBj a 0 sl 0).take sl)[k]' xB:=λk hk=>by
  rw [jB,jC xB,List.getElem_take];rfl
 rw [g i hi,g j hj] at e
 exact qKY h4 xB xB e
theorem qZx{G:Hp}{a sl nd:Nat}{y:Hd}{V:List VtD}{ks:List Nat}(ha:a≤3)(h1:1≤sl)(h2:sl≤a)(hn:(pW a 0).next y=0)(hy:y.dig.length=16)(h:qMg G a sl y V ks):qEV (pW a 0) y (qBj a 0 sl) sl (2^0) nd V=((if nd≤V.length then 0 else 16:Nat):Int):=by
  obtain ⟨h3,_,_⟩:=qIg ha (jG 0) h1 h2 (b:=0) xC
  rw [qYP hn (λi hi=>?_) (λi hi=>?_)]
  · have hc:qLR V 0=V.length:=by
      unfold qLR
      rw [List.filter_eq_self.2 (λv hv=>?_)]
      obtain ⟨j,hj,rfl⟩:=zN hv
      obtain ⟨_,_,_,h5⟩:=h.each j hj
      have:=h5.eb
      rw [jB,jC hj] at this
      exact decide_eq_true this
    congr 2
    refine propext ⟨λq=>by rw [←hc];exact q 0 xC,λq b hb=>?_⟩
    obtain rfl:b=0:=by have:b<1:=hb;omega
    rw [hc];exact q
  · rw [Bool.eq_false_iff]
    intro hs
    obtain ⟨v,hv,he⟩:=List.any_eq_true.1 hs
    obtain ⟨j,hj,rfl⟩:=zN hv
    rw [jF] at hj
    have hji:j<i:=xB
    have e:=of_decide_eq_true he
    rw [List.getElem_take] at e
    obtain ⟨k1,nm,q1,q2⟩:=h.each i hi
    obtain ⟨k2,nm',q3,q4⟩:=h.each j xB
    have e2:V[j]' xB=V.getD j qAo:=by rw [jB,jC xB];rfl
    rw [e2] at e
    have e3:=congrArg Prod.snd e
    have e4:(V.getD j qAo).nm=(V.getD i qAo).nm:=e3
    rw [q4.en,q2.en] at e4
    have e5:=qWQ ha h1 h2 k1 k2 (q1.trans (by rw [q3,e4]))
    have hil:i<ks.length:=by rw [←h.len];exact hi
    have hjl:j<ks.length:=xB
    rw [jB,jC hil,jB,jC hjl] at e5
    have:=qKY h.nd hil hjl e5
    omega
  · obtain ⟨k1,nm,q1,q2⟩:=h.each i hi
    refine qPw (λe=>by rw [e] at hy;cases hy) q2.ep q2.hd ?_ q2.has q2.ver
    rw [q2.eb,q2.en]
    exact qTd xC k1 xB q1.symm
theorem qOL.some{G:Hp}{a sl:Nat}{y:Hd}{V:List VtD}(h:qOL G a 0 sl y (qBj a 0 sl) V)(hl:V.length=2^0*sl):qMg G a sl y V (List.range sl):=by
 rw [Nat.pow_zero,Nat.one_mul] at hl
 refine⟨by rw [zX,hl],List.nodup_range,λj hj=>?_⟩
 obtain ⟨b,k,nm,h1,h2,h3,h4,h5⟩:=h j hj
 obtain rfl:b=0:=by have:b<1:=h2;omega
 obtain rfl:j=k:=by omega
 rw [jB,zC h1]
 exact⟨h1,nm,h4,h5⟩
theorem Wld.of{a:Nat}{us:List Nat}{G mu:Hp}{gw:Nat}{x x':SvR}{gs:List Nat}{kA:Option Addr}{kc gu uc:Nat}(h:Wld a us G mu gw x gs kA kc gu uc)(e:x'.gs=x.gs):Wld a us G mu gw x' gs kA kc gu uc:=⟨by rw [e];exact h.w,h.gl,h.kr,h.ks,h.ul,h.ur⟩
theorem qGq(s sd:xA)(hs:s.length≤20):qBg (117::upB s (qBI 1 (Wo.opn sd) (Xm.root sd 0) ((0:Nat):Int) qAh) (sgB 0 (sgC sd 0 (qFz s 1 (Wo.opn sd) (Xm.root sd 0) ((0:Nat):Int) qAh)) (sgP sd 0 0))).length≤18:=by
 have h1:=qIu (i:=0) (qM1 sd 0 (qFz s 1 (Wo.opn sd) (Xm.root sd 0) ((0:Nat):Int) qAh)) (qM0 sd (h:=0) (i:=0) xC) (qGm sd 0 (qFz s 1 (Wo.opn sd) (Xm.root sd 0) ((0:Nat):Int) qAh))
 have h2:=qIi s (qBI 1 (Wo.opn sd) (Xm.root sd 0) ((0:Nat):Int) qAh) (sgB 0 (sgC sd 0 (qFz s 1 (Wo.opn sd) (Xm.root sd 0) ((0:Nat):Int) qAh)) (sgP sd 0 0))
 have h3:=qCS (entE sd)
 have h5:(sgP sd 0 0).length=0:=qFT _ _ _
 rw [jD,h2,h3,h1,h5]
 unfold qBg
 split<;>omega
theorem qN6(n e:Nat):qBg (cmB n e).length=1:=by rw [qSI];rfl
theorem qPV.room{a d:Nat}{x:SvR}(h:qPV a d x){s sd:xA}(hs:s.length≤20)(y:SbR):(x.put s sd y).bk.e+qCd ((x.put s sd y).no++ [cmB (x.put s sd y).no.length (x.put s sd y).hd.length])≤(x.put s sd y).bk.size:=by
 show x.bk.e+qCd ((x.no++ [_])++ [cmB _ _])≤x.bk.size
 rw [qBz,qN6,h.no,h.e0,h.sz,qBz]
 have:=qGq s sd hs
 show 0+(qCd []+_+1)≤150
 have e:qCd []=0:=rfl
 rw [e];omega
theorem Bas6.put{a d:Nat}{x:SvR}(h:Bas6 a d x){s sd:xA}(y:SbR):Bas6 a d (x.put s sd y):=⟨h.dp,h.hd1,h.tg1,h.h0,h.k0,h.an⟩
theorem Bas6.pub{a:Nat}{x:SvR}(h:Bas6 a 0 x)(ha:a≤3)(hI:SvI x)(r:StR×WrR):Pub6 a 0 (x.pub r)∧qA0 (x.pub r).hdL=hdN a 0 (x.pub r).kvL∧(x.pub r).hd.getD 0 qAc=x.hd.getD 0 qAc:=by
  have e0: ∀l:List RhD,∀z:RhD,0<l.length→(l++ [z]).getD 0 qAc=l.getD 0 qAc:=λl z hl=>by
    rw [jB,jj hl,←jB]
  have hk1:x.kv.length=1:=hI.tk.trans h.tg1
  refine⟨⟨?_,?_,?_,?_,h.an⟩,?_,e0 _ _ (by rw [h.hd1];decide)⟩
  · show(x.hd++ [_]).length=2;rw [jA,h.hd1];rfl
  · show(x.tg++ [_]).length=2;rw [jA,h.tg1];rfl
  · show qA0 ((x.hd++ [_]).getD 0 qAc)=_;rw [e0 _ _ (by rw [h.hd1];decide)];exact h.h0
  · show(x.kv++ [_]).getD 0 []=_
    rw [jB,jj xB,←jB];exact h.k0
  · rw [SvR.pub_kvL _ r hI.tk,SvR.pub_hdL]
    have e1:x.hdL=x.hd.getD 0 qAc:=by show x.hd.getD (x.hd.length-1) qAc=_;rw [h.hd1]
    rw [e1,h.h0]
    unfold qA0 adH hdN
    dsimp only
    rw [h.hd1,h.an,qCA,h.dp]
end Go.Proofs.YtcgcjaflllmlpaaGreatDoor
namespace Go.Proofs.YtcgcjaflllmlpaaGreatDoor
open Go Go.Fw Go.Proofs.Tryz
theorem qDX(F:Hp)(x:Hd)(A:Option Addr)(c:Nat)(hg:x.good)(hsl:Sl F 1 A x.nodes.length c (qAG x.nodes)):
    Cz prog 22 [.agg #[N64 x.ep,Str x.par,I x.dep,I x.aud,.slice A x.nodes.length c]] F (I x.gen):=by
  refine Ct.walk func22 O ntmps22 O (λw0 hw0=>?_)
  refine J.g λ_ j1=>J.p (qAZ O O O) O λg1 _=>J.b O<|J.c j1 ?_
  refine J.g λ_ j2=>J.b8 1 qDF qBv O O O O O<|J.p (qAa O O (λF' hF=>qHL F' x A c hg (hsl.mono (Fa hF)))) O λg5 _=>J.b O<|J.c j2 ?_
  refine J.q λ_ j3=>J.V<|J.g λ_ j4=>J.b O<|J.f (qAe O O O) O<|J.b O<|J.c j4 ?_
  refine J.a0 O (λh6=>?_) (λh6=>?_)
  ·
    refine J.g λ_ j5=>J.k 2 O<|J.c j5 ?_
    exact J.A<|J.a8<|J.W<|J.E hw0 O () (congrArg I (gen_1 xB).symm) trivial [0] O xC
  refine J.g λ_ j6=>J.M 0 qDn qEW O O O O O<|J.a7 1 qFM O O O O O<|J.f (qAe O O O) O<|J.b O<|J.c j6 ?_
  refine J.a0 O (λh10=>?_) (λh10=>?_)
  ·
    refine J.g λ_ j7=>J.b O<|J.c j7 ?_
    exact J.A<|J.a8<|J.W<|J.E hw0 O () (congrArg I (qZe xB xB).symm) trivial [0] O xC
  refine J.q λ_ j8=>J.b1 [F,blk g1 [N64 x.ep,Str x.par,I x.dep,I x.aud,.slice A x.nodes.length c] 34] [] (.y 0 (.y 1 (.e 2 (.y 3 (.y 4 .nil))))) Tryz.wide xF xD ?_
  refine J.j O (qAA O O qDn O z9_ O) O O<|J.j O (qAC 1 O O O b9_ O) O O<|J.Z O (qAa O O (λF' hF=>qGp F' 16 xC xC)) O xD λg17 _=>J.j O (qDv O O O) O O<|J.b7 ?_
  refine J.a9<|J.u (J.G j8 ?_)
  refine J.a0 O (λh14=>?_) (λh14=>?_)
  ·
    change x.par≠qAh at h14
    refine J.g λ_ j9=>J.b O<|J.c j9 ?_
    exact J.A<|J.a8<|J.W<|J.E hw0 O () (congrArg I (gen_3 xB xB h14).symm) trivial [0] O xC
  change¬x.par≠qAh at h14
  refine J.b5<|J.a3<|J.u (J.G j3 ?_)
  refine J.g λ_ j10=>J.b O<|J.c j10 ?_
  exact J.A<|J.E hw0 O () (congrArg I (qX8 xB xB h14).symm) trivial [0] O xC
theorem qK4(F:Hp)(A:Option Addr)(n c:Nat)(l:List RhD)(hs:Sl F 5 A n c (qCk l))(hnb:n≤1000000):Ct prog 23 [.slice A n c] [F] (λx:Option Addr×Nat×Hp=> .slice x.1 (l).length x.2.1) (λx=>Row x.2.2 34 5 x.1 (l).length x.2.1 (qCk l)) (λx=> [F,x.2.2]):=by
 have hkn:l.length=n:=by have:=hs.1;simpa [qCk] using this
 refine Ct.walk func23 O ntmps23 O (λw0 hw0=>?_)
 refine J.g λ_ j1=>J.b O<|J.c j1 ?_
 refine J.q λ_ j2=>J.g λ_ j3=>J.b O<|J.f ((qE4 qEY O O O).as (v':= .bool (decide (A.isNone=true))) (congrArg Value.bool (by cases A<;>rfl))) O<|J.c j3 ?_
 refine J.a0 O (λh4=>?_) (λh4=>?_)
 ·
  refine J.g λ_ j4=>J.b O<|J.c j4 ?_
  refine J.A<|J.W ?_
  have hk0:l= []:=by
   refine jU ?_
   rcases yR n with h|h
   · omega
   · obtain ⟨g,o,rfl⟩:=hs.at h;cases h4
  exact J.d0 [0,1] [F,(λ_=>none)] O xC<|J.E hw0 O (none,0,(λ_=>none)) (by rw [hk0];rfl) (by rw [hk0];exact qBh.nil) [0,1] O xC
 refine J.T j2 ?_
 refine J.g λ_ j5=>J.p (qBV O qEY el34) O λg5 _=>J.b O<|J.p (qAU (i:=1) (m2:=F) O O O qEY qEY el34 O (qAl (q:=True) (xs:=qCk ([])) O (by intro x hx;first|exact absurd hx (jz)|(rw [List.mem_singleton.1 hx];rfl))) xD (hs) (qXd _) xB xB) O ?_
 rintro⟨A7,c7,m7⟩ h7
 try dsimp only at h7
 replace h7:Row m7 34 5 A7 (0+n) c7 (qCk (l)):=h7
 refine J.b O<|J.c j5 ?_
 refine J.A ?_
 rw [show 0+n=l.length by omega] at h7
 exact J.E hw0 O (A7,c7,m7) (by rw [←hkn,jX]) h7 [0,1] O xC
theorem qDR(F:Hp)(x:SvR)(hc:qAM F ⟨x.gs,0,none⟩ [I (x.dp:Nat),Ptr x.gb,.bool false,.map (some x.nA),Ptr x.rA,.map (some x.nB),Ptr x.rB,.slice x.cA x.cl.length x.cc,.slice x.oA x.no.length x.oc,.slice x.tA x.tg.length x.tc,.slice x.hA x.hd.length x.hc])(hs:Sl F 5 x.hA x.hd.length x.hc (qCk x.hd))(hnb:x.hd.length≤1000000):Ct prog 8 [Ptr x.gs] [F] (λq:Option Addr×Nat×Hp=> .slice q.1 x.hd.length q.2.1) (λq=>Row q.2.2 34 5 q.1 x.hd.length q.2.1 (qCk x.hd)) (λq=> [F,q.2.2]):=by
 refine Ct.walk func8 O ntmps8 O (λw0 hw0=>?_)
 refine J.g λ_ j1=>J.b O<|J.c j1 ?_
 refine J.q λ_ j2=>J.g λ_ j3=>J.b O<|J.f ((qA4 qYj O O O).as (v':= .bool false) O) O<|J.c j3 ?_
 refine J.a2 ?_
 refine J.T j2 ?_
 refine J.g λ_ j4=>J.b O<|J.f (qAB O O) O<|J.M 10 qCi qJp O O O O O<|J.f (qAI O O qPS (m:=F) xD (hc.at (i:=10) O)) O<|J.p (qBr O O (λF' hF=>qK4 F' x.hA x.hd.length x.hc x.hd (hs.mono (Fa hF)) xP)) O ?_
 rintro⟨A9,c9,m9⟩ h9
 try dsimp only at h9
 refine J.b O<|J.c j4 ?_
 exact J.A<|J.E hw0 O (A9,c9,m9) O h9 [0,1] O xC
theorem qSH(F:Hp)(h:RhD)(hg:(qA0 h).good)(hns:nsl F h)(hgen:(qA0 h).gen=0)(sl nd:Nat)(h1:1≤nd)(h2:nd≤sl)(h3:sl≤h.aud):Ct prog 7 [.agg #[N64 (h.ep),Str (h.par),I (h.dep:Nat),I (h.aud:Nat),.slice h.nsA h.ns.length h.nsc],.agg #[I (sl:Nat),I (nd:Nat)]] [F] (λr:Nat×Nat=> .tuple #[Ptr r.1,I (0:Nat)]) (λ_=>True) (λr=> [F,blk r.1 [I (sl:Nat),I (nd:Nat),.slice (some ⟨r.2,0,none⟩) 1 1] 89,blk r.2 [N64 (h.ep),Str (h.par),I (h.dep:Nat),I (h.aud:Nat),.slice h.nsA h.ns.length h.nsc] 34]):=by
 refine Ct.walk func7 O ntmps7 O (λw0 hw0=>?_)
 refine J.g λ_ j1=>J.p (qAZ O O O) O λg2 _=>J.p (qAZ O O O) O λg3 _=>J.k 2 O<|J.c j1 ?_
 refine J.q λ_ j2=>J.g λ_ j3=>J.b8 1 qDF qBv O O O O O<|J.p (qAa O O (λF' hF=>(by have:=qDX F' (qA0 h) h.nsA h.nsc hg (hns.mono (Fa hF));rw [hgen] at this;exact this))) O λg8 _=>J.b O<|J.c j3 ?_
 refine J.g λ_ j4=>J.b O<|J.f ((qAe O O O).no xC) O<|J.c j4 ?_
 refine J.a2 ?_
 refine J.T j2 ?_
 refine J.q λ_ j5=>J.V<|J.g λ_ j6=>J.M 1 qHx z3_ O O O O O<|J.a7 2 b3_ O O O O O<|J.f ((qAS O O O).no xB) O<|J.b O<|J.D (qAA O O qHx O z3_ O) O<|J.D (qAC 2 O O O b3_ O) O<|J.D (qAA O O qHx O z3_ O) O<|J.D (qAC 2 O O O b3_ O) O<|J.D ((qAz O O O).no xB) O<|J.k 2 O<|J.c j6 ?_
 refine J.a2 ?_
 refine J.g λ_ j7=>J.M 3 qDn z3_ O O O O O<|J.a7 1 b3_ O O O O O<|J.M 0 qHx z3_ O O O O O<|J.a7 2 b3_ O O O O O<|J.f ((qAS O O O).no xB) O<|J.b O<|J.c j7 ?_
 refine J.a2 ?_
 refine J.b5<|J.a3<|J.u (J.G j5 ?_)
 refine J.g λ_ j8=>J.b8 2 qS2 qON O O O O O<|J.b8 1 qDF qBv O O O O O<|J.p (qAE (l:= [.tmp 30]) (xs:= [[N64 (h.ep),Str (h.par),I (h.dep:Nat),I (h.aud:Nat),.slice h.nsA h.ns.length h.nsc]]) O O O O qEY el34 O xC xC xD) O λg31 _=>J.f (qAH (places:= [(0,2),(2,1)]) (r:= [I (sl:Nat),I (nd:Nat),.slice (some ⟨g31,0,none⟩) 1 1]) O O O qTG zeroValue89 (λ_=>xI) O) O<|J.p (qAZ O O O) O λg33 _=>J.k 2 O<|J.c j8 ?_
 exact J.A<|J.b0 hw0 (λ_ _ h=>h) (qCK O O O) (qAn (g33,g31) O trivial [0,4,3] O xC)
theorem qJe(F:Hp)(gc sl nd:Nat)(A:Option Addr)(n c:Nat)(l:List RhD)(hs:Sl F 5 A n c (qCk l))(h0:0<n)(hn:n≤1000000)(hC:qAM F ⟨gc,0,none⟩ [I (sl:Nat),I (nd:Nat),.slice A n c]):Cz prog 30 [Ptr gc] F (.agg #[N64 ((l.getD (n-1) qAc).ep),Str ((l.getD (n-1) qAc).par),I ((l.getD (n-1) qAc).dep:Nat),I ((l.getD (n-1) qAc).aud:Nat),.slice (l.getD (n-1) qAc).nsA (l.getD (n-1) qAc).ns.length (l.getD (n-1) qAc).nsc]):=by
 have hln:l.length=n:=by have:=hs.1;simpa [qCk] using this
 refine Ct.walk func30 O ntmps30 O (λw0 hw0=>?_)
 refine J.g λ_ j1=>J.p (qAJ O qUv O) O λg2 _=>J.c j1 ?_
 refine J.q λ_ j2=>J.b1 [F] [12] (.y 0 (.y 1 (.y 2 (.y 3 (.y 4 (.y 5 (.y 6 (.y 7 (.y 8 (.y 9 (.y 10 (.y 11 (.e 12 .nil))))))))))))) Tryz.wide xF xD ?_
 refine J.L ?_
 refine J.j O (qAB O O) O O<|J.j O (qAA O O qTG O qJp O) O O<|J.j O (qAI O O qPS (m:=F) xD (hC.at (i:=2) O)) O O<|J.L ?_
 refine J.j O (qAB O O) O O<|J.j O (qAA O O qTG O qJp O) O O<|J.j O (qAI O O qPS (m:=F) xD (hC.at (i:=2) O)) O O<|J.j O (qAR qEY O O) O O<|J.j O ((qA3 O O O xB).nat (n-1) xB) O O<|J.j O (qAF O O O qEY qBv hs xB) O O<|J.j O (qAV O O qDF qBv (m:=F) xD (hs.elem (qB3 xB)) O) O O<|J.c1 O (qAD (i:=1) (l:= [.int .u64 0,Str [],I 0,I 0,.slice none 0 0]) (vs:= [N64 ((l.getD (n-1) qAc).ep),Str ((l.getD (n-1) qAc).par),I ((l.getD (n-1) qAc).dep:Nat),I ((l.getD (n-1) qAc).aud:Nat),.slice (l.getD (n-1) qAc).nsA (l.getD (n-1) qAc).ns.length (l.getD (n-1) qAc).nsc]) O O O O O qBv O O) O O O λ_ _=>J.a9<|J.u (J.G j2 ?_)
 exact J.A<|J.b0 hw0 (λ_ _ h=>h) (rv1 O (RV.blkA 1 O O qDF qBv)) (qAn () O trivial [0] O xC)
theorem qYS(F:Hp)(gc sl nd:Nat)(A:Option Addr)(n c:Nat)(l:List RhD)(hs:Sl F 5 A n c (qCk l))(h0:0<n)(hn:n≤1000000)(hC:qAM F ⟨gc,0,none⟩ [I (sl:Nat),I (nd:Nat),.slice A n c]):Cz prog 16 [Ptr gc] F (I ((l.getD (n-2) qAc).aud:Nat)):=by
 have hln:l.length=n:=by have:=hs.1;simpa [qCk] using this
 refine Ct.walk func16 O ntmps16 O (λw0 hw0=>?_)
 refine J.g λ_ j1=>J.b O<|J.c j1 ?_
 refine J.q λ_ j2=>J.g λ_ j3=>J.b O<|J.f ((qA4 qTI O O O).as (v':= .bool false) O) O<|J.c j3 ?_
 refine J.a2 ?_
 refine J.T j2 ?_
 refine J.q λ_ j4=>J.b1 [F] [] (.y 0 (.y 1 (.y 2 (.y 3 (.y 4 (.y 5 (.y 6 (.y 7 (.y 8 (.y 9 (.y 10 (.y 11 (.y 12 (.y 13 (.y 14 .nil))))))))))))))) Tryz.wide xF xD ?_
 refine J.L ?_
 refine J.j O (qAB O O) O O<|J.j O (qAA O O qTG O qJp O) O O<|J.j O (qAI O O qPS (m:=F) xD (hC.at (i:=2) O)) O O<|J.L ?_
 refine J.j O (qAB O O) O O<|J.j O (qAA O O qTG O qJp O) O O<|J.j O (qAI O O qPS (m:=F) xD (hC.at (i:=2) O)) O O<|J.j O (qAR qEY O O) O O<|J.j O (qA3 O O O xB) O O<|J.j O ((qIB O O O).nat (n-2) xB) O O<|J.j O (qAF O O O qEY qBv hs xB) O O<|J.j O (qDU O O qDn O z3_ hs xB O) O O<|J.j O (qAI O O b3_ (m:=F) xD (hs.part (qB3 xB) 3 1)) O O<|J.b7 ?_
 refine J.a9<|J.u (J.G j4 ?_)
 exact J.A<|J.E hw0 O () O trivial [0] O xC
theorem qU2(F:Hp)(gc sl nd:Nat)(A:Option Addr)(n c:Nat)(l:List RhD)(hs:Sl F 5 A n c (qCk l))(h0:0<n)(hn:n≤1000000)(hC:qAM F ⟨gc,0,none⟩ [I (sl:Nat),I (nd:Nat),.slice A n c]):Ct prog 17 [Ptr gc] [F] (λx:Option Addr×Nat×Hp=> .slice x.1 (l).length x.2.1) (λx=>Row x.2.2 34 5 x.1 (l).length x.2.1 (qCk l)) (λx=> [F,x.2.2]):=by
 have hln:l.length=n:=by have:=hs.1;simpa [qCk] using this
 refine Ct.walk func17 O ntmps17 O (λw0 hw0=>?_)
 refine J.g λ_ j1=>J.b O<|J.c j1 ?_
 refine J.q λ_ j2=>J.g λ_ j3=>J.b O<|J.f ((qA4 qTI O O O).as (v':= .bool false) O) O<|J.c j3 ?_
 refine J.a2 ?_
 refine J.T j2 ?_
 refine J.g λ_ j4=>J.b O<|J.f (qAB O O) O<|J.M 2 qTG qJp O O O O O<|J.f (qAI O O qPS (m:=F) xD (hC.at (i:=2) O)) O<|J.p (qBr O O (λF' hF=>qK4 F' A n c l (hs.mono (Fa hF)) xP)) O ?_
 rintro⟨A9,c9,m9⟩ h9
 try dsimp only at h9
 refine J.b O<|J.c j4 ?_
 exact J.A<|J.E hw0 O (A9,c9,m9) O h9 [0,1] O xC
def zEn:En:=⟨0,[],[],0,[]⟩
def qIS(root nm:xA)(l:List En)(bs:List xA)(th:Bool)(pk pv:xA):En×Bool×Int:=
 if l.length=0 then(if qFD bs th pk pv root nm 0=true then(zEn,false,0) else(zEn,false,18))
 else if En.hist l≠0 then(zEn,false,En.hist l)
 else if qNs bs th pk pv root nm (l.getD (l.length-1) qA9).val 0=true then(l.getD (l.length-1) qA9,true,0) else(zEn,false,18)
section
variable{root nm:xA}{l:List En}{bs:List xA}{th:Bool}{pk pv:xA}
theorem qZw(h:l.length=0)(h2:qFD bs th pk pv root nm 0=true):qIS root nm l bs th pk pv=(zEn,false,0):=by unfold qIS;rw [if_pos h,if_pos h2]
theorem chk_2(h:l.length=0)(h2:qFD bs th pk pv root nm 0=false):qIS root nm l bs th pk pv=(zEn,false,18):=by unfold qIS;rw [if_pos h,h2];rfl
theorem chk_3(h: ¬l.length=0)(h2:En.hist l≠0):qIS root nm l bs th pk pv=(zEn,false,En.hist l):=by unfold qIS;rw [if_neg h,if_pos h2]
theorem chk_4(h: ¬l.length=0)(h2: ¬En.hist l≠0)(h3:qNs bs th pk pv root nm (l.getD (l.length-1) qA9).val 0=false):qIS root nm l bs th pk pv=(zEn,false,18):=by unfold qIS;rw [if_neg h,if_neg h2,h3];rfl
theorem qZv(h: ¬l.length=0)(h2: ¬En.hist l≠0)(h3:qNs bs th pk pv root nm (l.getD (l.length-1) qA9).val 0=true):qIS root nm l bs th pk pv=(l.getD (l.length-1) qA9,true,0):=by unfold qIS;rw [if_neg h,if_neg h2,if_pos h3]
end
theorem qMY(F:Hp)(hK:KF F)(gc sl nd:Nat)(A:Option Addr)(n c:Nat)(l:List RhD)(hs:Sl F 5 A n c (qCk l))(h0:0<n)(hn:n≤1000000)(hC:qAM F ⟨gc,0,none⟩ [I (sl:Nat),I (nd:Nat),.slice A n c])(hg:(qA0 (l.getD (n-1) qAc)).good)(hxs:nsl F (l.getD (n-1) qAc))(hsm: ∀s∈(l.getD (n-1) qAc).ns,s.length≤1048576)(s:xA)(hsl:s.length≤1000000)(Ae:Option Addr)(ne ce:Nat)(le:List En)(hse:Sl F 5 Ae ne ce (qDD le))(hel: ∀x∈le,x.good)(hne:ne≤1000000)(Ab:Option Addr)(cb:Nat)(bs:List xA)(hsb:Sl F 1 Ab bs.length cb (qAG bs))(th:Bool)(pk pv:xA)(hgp:qHb bs th pk pv (Sha.tagged 11 [s]) 0)(hpv:pv.length≤1000000):Cz prog 14 [Ptr gc,.agg #[Str (s),.slice Ae ne ce,.slice Ab bs.length cb,.bool (th),Str (pk),Str (pv)]] F (.tuple #[.agg #[N64 ((qIS (qB0 (l.getD (n-1) qAc).ns (((l.getD (n-1) qAc).dep:Nat):Int)) (Sha.tagged 11 [s]) le bs th pk pv).1.v),Str ((qIS (qB0 (l.getD (n-1) qAc).ns (((l.getD (n-1) qAc).dep:Nat):Int)) (Sha.tagged 11 [s]) le bs th pk pv).1.o),Str ((qIS (qB0 (l.getD (n-1) qAc).ns (((l.getD (n-1) qAc).dep:Nat):Int)) (Sha.tagged 11 [s]) le bs th pk pv).1.r),I ((qIS (qB0 (l.getD (n-1) qAc).ns (((l.getD (n-1) qAc).dep:Nat):Int)) (Sha.tagged 11 [s]) le bs th pk pv).1.h),Str ((qIS (qB0 (l.getD (n-1) qAc).ns (((l.getD (n-1) qAc).dep:Nat):Int)) (Sha.tagged 11 [s]) le bs th pk pv).1.p)],.bool ((qIS (qB0 (l.getD (n-1) qAc).ns (((l.getD (n-1) qAc).dep:Nat):Int)) (Sha.tagged 11 [s]) le bs th pk pv).2.1),I ((qIS (qB0 (l.getD (n-1) qAc).ns (((l.getD (n-1) qAc).dep:Nat):Int)) (Sha.tagged 11 [s]) le bs th pk pv).2.2)]):=by
 have hln:l.length=n:=by have:=hs.1;simpa [qCk] using this
 have hle:le.length=ne:=by have:=hse.1;simpa [qDD] using this
 refine Ct.walk func14 O ntmps14 O (λw0 hw0=>?_)
 refine J.g λ_ j1=>J.p (qAZ O O O) O λg3 _=>J.p (qAJ O qFh O) O λg4 _=>J.k 2 O<|J.c j1 ?_
 refine J.q λ_ j2=>J.g λ_ j3=>J.b O<|J.f ((qA4 qTI O O O).as (v':= .bool false) O) O<|J.c j3 ?_
 refine J.a2 ?_
 refine J.T j2 ?_
 refine J.d4 (X:=Unit) (λζ=> [(3,Ptr g3),(4,Ptr g4),(7,Str ((qB0 (l.getD (n-1) qAc).ns (((l.getD (n-1) qAc).dep:Nat):Int)))),(8,Str ((Sha.tagged 11 [s])))]) (λζ=> [F,blk g3 [Str (s),.slice Ae ne ce,.slice Ab bs.length cb,.bool (th),Str (pk),Str (pv)] 55,blk g4 [.int .u64 0,Str [],Str [],I 0,Str []] 61]) (λζ=>True) (λ_ j4=>?_) ?_
 ·
  refine J.b1 [F,blk g3 [Str (s),.slice Ae ne ce,.slice Ab bs.length cb,.bool (th),Str (pk),Str (pv)] 55] [] (.y 0 (.y 3 (.y 4 (.e 1 (.e 2 (.e 5 (.y 6 (.y 7 .nil)))))))) Tryz.wide xF xD ?_
  refine J.L ?_
  refine J.j O (qAA O O qEX O z9_ O) O O<|J.j O (qAC 1 O O O b9_ O) O O<|J.Z O (qAa O O (λF' hF=>qJe F' gc sl nd A n c l (hs.mono (Fa hF)) h0 hn (hC.mono (Fa hF)))) O xD λg15 _=>J.Z O (qAa O O (λF' hF=>qGG F' (hK.mo hF) (qA0 (l.getD (n-1) qAc)) (l.getD (n-1) qAc).nsA (l.getD (n-1) qAc).nsc hg (hxs.mono (Fa hF)) hsm)) O xD λg16 _=>J.Z O (qAa O O (λF' hF=>qFG F' (hK.mo hF) s xB)) O xD λg19 _=>J.b7 ?_
  refine J.b7 ?_
  exact J.a9<|J.u<|J.a5 () j4 (trivial) ⟨O,O,O,O,trivial⟩ (λ_ h=>h)
 rintro _ _
 refine J.q λ_ j5=>J.g λ_ j6=>J.M 1 qEX qF5 O O O O O<|J.a7 1 qLT O O O O O<|J.f (qAR qDJ O O) O<|J.f (qAX O O O) O<|J.c j6 ?_
 refine J.a0 O (λh23=>?_) (λh23=>?_)
 ·
  refine J.q λ_ j7=>J.g λ_ j8=>J.M 2 qEX qB9 O O O O O<|J.f (qAV O O qEb qB9 (m:=blk g3 [Str (s),.slice Ae ne ce,.slice Ab bs.length cb,.bool (th),Str (pk),Str (pv)] 55) xD (qAM.blk0.sub 2 4) O) O<|J.k 2 O<|J.p (qAa O O (λF' hF=>qPC F' (hK.mo hF) Ab cb bs (hsb.mono (Fa hF)) th pk pv (Sha.tagged 11 [s]) 0 hgp (qB0 (l.getD (n-1) qAc).ns (((l.getD (n-1) qAc).dep:Nat):Int)) hpv)) O λg28 _=>J.f (qAt O O) O<|J.c j8 ?_
  refine J.c7 O (λh29=>?_) (λh29=>?_)
  ·
   refine J.g λ_ j9=>J.f (qAH (places:= [(0,1),(1,3),(4,1)]) (r:= [.int .u64 0,Str [],Str [],I 0,Str []]) O O O qFQ qFh (λ_=>xI) O) O<|J.a6 (qAD (i:=2) O O O O O qBY O O) O O λ_ _=>J.k 2 O<|J.c j9 ?_
   exact J.A<|J.W<|J.W<|J.b0 hw0 (λ_ _ h=>h) (rv3 O (RV.blkA 2 O O qC6 qBY) O O) (qAn () (by rw [chk_2 xB (by simpa using h29)];rfl) trivial [0] O xC)
  refine J.T j7 ?_
  refine J.g λ_ j10=>J.f (qAH (places:= [(0,1),(1,3),(4,1)]) (r:= [.int .u64 0,Str [],Str [],I 0,Str []]) O O O qFQ qFh (λ_=>xI) O) O<|J.a6 (qAD (i:=2) O O O O O qBY O O) O O λ_ _=>J.k 2 O<|J.c j10 ?_
  exact J.A<|J.W<|J.b0 hw0 (λ_ _ h=>h) (rv3 O (RV.blkA 2 O O qC6 qBY) O O) (qAn () (by rw [qZw xB (by simpa using h29)];rfl) trivial [0] O xC)
 refine J.T j5 ?_
 refine J.q λ_ j11=>J.g λ_ j12=>J.M 1 qEX qF5 O O O O O<|J.a7 1 qLT O O O O O<|J.p (qAa O O (λF' hF=>qHQ F' (hK.mo hF) le hel Ae ne ce (hse.mono (Fa hF)) xB)) O λg34 _=>J.b O<|J.c j12 ?_
 refine J.g λ_ j13=>J.b O<|J.f (qAe O O O) O<|J.c j13 ?_
 refine J.a0 O (λh36=>?_) (λh36=>?_)
 ·
  refine J.g λ_ j14=>J.f (qAH (places:= [(0,1),(1,3),(4,1)]) (r:= [.int .u64 0,Str [],Str [],I 0,Str []]) O O O qFQ qFh (λ_=>xI) O) O<|J.b O<|J.a6 (qAD (i:=2) O O O O O qBY O O) O O λ_ _=>J.k 2 O<|J.c j14 ?_
  exact J.A<|J.W<|J.b0 hw0 (λ_ _ h=>h) (rv3 O (RV.blkA 2 O O qC6 qBY) O O) (qAn () (by rw [chk_3 xB h36];rfl) trivial [0] O xC)
 refine J.T j11 ?_
 refine J.q λ_ j15=>?_
 have hE:(le.getD (ne-1) qA9).good:=hel _ (by rw [jB,jC (show ne-1<le.length by omega)];exact ja _)
 refine J.H<|J.M 1 qEX qF5 O O O O O<|J.a7 1 qLT O O O O O<|J.M 1 qEX qF5 O O O O O<|J.a7 1 qLT O O O O O<|J.f (qAR qDJ O O) O<|J.f ((qA3 O O O xB).nat (ne-1) xB) O<|J.f (qAF O O O qDJ qBY hse xB) O<|J.f (qAV O O qC6 qBY (m:=F) xD (hse.elem (qNy xB)) O) O<|J.p (qAJ O qFh O) O λg10 _=>J.a6 (qAD (i:=3) (l:= [.int .u64 0,Str [],Str [],I 0,Str []]) (vs:= [N64 ((le.getD (ne-1) qA9).v),Str ((le.getD (ne-1) qA9).o),Str ((le.getD (ne-1) qA9).r),I ((le.getD (ne-1) qA9).h),Str ((le.getD (ne-1) qA9).p)]) O O O O O qBY O O) O O λ_ _=>J.c j15 ?_
 refine J.q λ_ j16=>J.q λ_ j17=>J.b1 [F,blk g3 [Str (s),.slice Ae ne ce,.slice Ab bs.length cb,.bool (th),Str (pk),Str (pv)] 55,blk g10 [N64 ((le.getD (ne-1) qA9).v),Str ((le.getD (ne-1) qA9).o),Str ((le.getD (ne-1) qA9).r),I ((le.getD (ne-1) qA9).h),Str ((le.getD (ne-1) qA9).p)] 61] [] (.y 0 (.y 1 (.y 2 (.y 3 (.y 4 (.e 5 (.e 6 (.y 7 .nil)))))))) Tryz.wide xF xD ?_
 refine J.j O (qAA O O qEX O qB9 O) O O<|J.j O (qAV O O qEb qB9 (m:=blk g3 [Str (s),.slice Ae ne ce,.slice Ab bs.length cb,.bool (th),Str (pk),Str (pv)] 55) xD (qAM.blk0.sub 2 4) O) O O<|J.L ?_
 refine J.L ?_
 refine J.j O (qAW 2 O O O qC6 qBY O) O O<|J.Z O (qAa O O (λF' hF=>qDC F' (hK.mo hF) (le.getD (ne-1) qA9).v (le.getD (ne-1) qA9).o (le.getD (ne-1) qA9).r (le.getD (ne-1) qA9).h (le.getD (ne-1) qA9).p hE.1 hE.2.1 hE.2.2.1 hE.2.2.2)) O xD λg52 _=>J.Z O (qAa O O (λF' hF=>qNt F' (hK.mo hF) Ab cb bs (hsb.mono (Fa hF)) th pk pv (Sha.tagged 11 [s]) 0 hgp (qB0 (l.getD (n-1) qAc).ns (((l.getD (n-1) qAc).dep:Nat):Int)) (qCV (le.getD (ne-1) qA9).v (le.getD (ne-1) qA9).o (le.getD (ne-1) qA9).r (le.getD (ne-1) qA9).h (le.getD (ne-1) qA9).p) hpv)) O xD λg53 _=>J.j O (qAt O O) O O<|J.a9<|J.u (J.G j17 ?_)
 refine J.c7 O (λh54=>?_) (λh54=>?_)
 ·
  refine J.g λ_ j18=>J.f (qAH (places:= [(0,1),(1,3),(4,1)]) (r:= [.int .u64 0,Str [],Str [],I 0,Str []]) O O O qFQ qFh (λ_=>xI) O) O<|J.a6 (qAD (i:=2) O O O O O qBY O O) O O λ_ _=>J.k 2 O<|J.c j18 ?_
  exact J.A<|J.W<|J.b0 hw0 (λ_ _ h=>h) (rv3 O (RV.blkA 2 O O qC6 qBY) O O) (qAn () (by rw [chk_4 xB h36 (by rw [hle];exact(by simpa using h54:qNs bs th pk pv (qB0 (l.getD (n-1) qAc).ns (((l.getD (n-1) qAc).dep:Nat):Int)) (Sha.tagged 11 [s]) (qCV (le.getD (ne-1) qA9).v (le.getD (ne-1) qA9).o (le.getD (ne-1) qA9).r (le.getD (ne-1) qA9).h (le.getD (ne-1) qA9).p) 0=false))];rfl) trivial [0] O xC)
 refine J.T j16 ?_
 refine J.g λ_ j19=>J.b8 3 qC6 qBY O O O O O<|J.a6 (qAD (i:=2) (l:= [.int .u64 0,Str [],Str [],I 0,Str []]) (vs:= [N64 ((le.getD (ne-1) qA9).v),Str ((le.getD (ne-1) qA9).o),Str ((le.getD (ne-1) qA9).r),I ((le.getD (ne-1) qA9).h),Str ((le.getD (ne-1) qA9).p)]) O O O O O qBY O O) O O λ_ _=>J.k 2 O<|J.c j19 ?_
 exact J.A<|J.b0 hw0 (λ_ _ h=>h) (rv3 O (RV.blkA 2 O O qC6 qBY) O O) (qAn () (by rw [qZv xB h36 (by rw [hle];exact(by simpa using h54:qNs bs th pk pv (qB0 (l.getD (n-1) qAc).ns (((l.getD (n-1) qAc).dep:Nat):Int)) (Sha.tagged 11 [s]) (qCV (le.getD (ne-1) qA9).v (le.getD (ne-1) qA9).o (le.getD (ne-1) qA9).r (le.getD (ne-1) qA9).h (le.getD (ne-1) qA9).p) 0=true)),hle]) trivial [0] O xC)
end Go.Proofs.YtcgcjaflllmlpaaGreatDoor
namespace Go.Proofs.YtcgcjaflllmlpaaGreatDoor
open Go Go.Fw Go.Proofs.Tryz
attribute [local irreducible] Sha.tagged Wo.pub Wo.publicOf Wo.signs Wo.ends Wo.digs Wo.walk Wo.opn Mk.root Mk.path Mk.climb Xm.root sgC sgP qBI qBf sgB qAL qBj qAN
theorem qQc{m G G2:Hp}{x:SvR}{r:StR×WrR}(h:PbP m G G2 x r)(hI:SvI x)(k:xA):qDf (lbE (x.pub r).now) k=qDf (lbE x.nxt) k:=(qRt hI.un h.pm.symm k).symm
theorem qKn: ∀(l:List Sm.PR) (k v:xA),Sm.getP (Sm.putP l k v) k=some v
  | [],k,v=>if_pos rfl
  |p::r,k,v=>by
    show Sm.getP (if p.1=k then(k,v)::r else p::Sm.putP r k v) k=_
    by_cases h:p.1=k
    · rw [if_pos h];exact if_pos O
    · rw [if_neg h]
      show(if p.1=k then some p.2 else Sm.getP (Sm.putP r k v) k)=_
      rw [if_neg h];exact qKn r k v
abbrev enW(sd:xA):En:=⟨1,Wo.opn sd,Xm.root sd 0,((0:Nat):Int),qAh⟩
theorem qXf(k:xA):ofV k 0=0:=by
  unfold ofV
  split
  · have h:qFm k 0<1:=qJh k 0
    omega
  · rfl
theorem qPV.get{a:Nat}{x:SvR}(h:qPV a 0 x){s sd:xA}(y:SbR)(hI:SvI (x.put s sd y))(r:StR×WrR):Sm.getP ((x.put s sd y).pub r).kvL (Sha.tagged 11 [s])=some (enW sd).val:=by
 rw [SvR.pub_kvL _ r hI.tk]
 have hc:(x.put s sd y).cl= [⟨Sha.tagged 11 [s],(enW sd).val⟩]:=by show x.cl++ [_]=_;rw [h.cl];rfl
 have hb:qCu [(⟨Sha.tagged 11 [s],(enW sd).val⟩:Chg)] 0 0= [⟨Sha.tagged 11 [s],(enW sd).val⟩]:=by
  unfold qCu
  rw [yN (by rw [qXf];rfl)];rfl
 rw [hc,show(x.put s sd y).dp=0 from h.dp]
 show Sm.getP (kvC _ (qCu _ 0 0)) _=_
 rw [hb]
 exact qKn _ _ _
theorem qPV.now_{a:Nat}{x:SvR}(h:qPV a 0 x){s sd:xA}(y:SbR)(hI:SvI (x.put s sd y)){m G G2:Hp}{r:StR×WrR}(hp:PbP m G G2 (x.put s sd y) r):qDf (lbE ((x.put s sd y).pub r).now) s= [enW sd]:=by
 refine(qQc hp hI _).trans ?_
 show qDf (lbE (x.nxt++ [_])) s=_
 rw [h.nxt]
 exact if_pos O
theorem qN7{kv:List Sm.PR}(hf:qCE kv){k:xA}(hk:k.length=16){s0:Nat}(hst:qGR kv k 0 s0){yl:RhD}{a:Nat}(hy:qA0 yl=hdN a 0 kv){sd:xA}(hg:Sm.getP kv k=some (enW sd).val):qIS (qB0 yl.ns ((yl.dep:Nat):Int)) k [enW sd] (bsd kv k 0 (s0-0)) (qAm kv k s0) (qBm kv k s0) (qBs kv k s0)=(enW sd,true,0):=by
 have e1:yl.ns=qAq kv 0:=congrArg Hd.nodes hy
 have e2:yl.dep=0:=yE (congrArg Hd.dep hy)
 refine qZv (by show¬1=0;decide) (by rw [En.hist1 (enW sd) rfl rfl];decide) ?_
 have e:=qGu hf hk hst
 rw [hg,Sm.ndB_zero] at e
 rw [e1,e2,(qGD hf (d:=0) xC).2]
 exact e
theorem rep0(a j:Nat):(List.replicate a 0).getD j 0≤0:=by
 rw [jB,yM]
 split<;>exact jK _
theorem qVi(gh:Nat)(p:RhD):Row (blk gh p.cells 34) 34 5 (some ⟨gh,0,none⟩) 1 1 (qCk [p]):=qAl (q:=True) (xs:=qCk [p]) O (by intro x hx;rw [List.mem_singleton.1 hx];rfl)
theorem qCH(kv:List Sm.PR): ∀s∈qAq kv 0,s.length≤1048576:=λs hs=>by
 unfold qAq qCZ at hs
 obtain ⟨j,_,rfl⟩:=List.mem_map.1 hs
 exact jZ (Sm.nd_small _ _) xC
theorem qKZ(kv:List Sm.PR):(qAq kv 0).length=1:=by unfold qAq;rw [qBe]
end Go.Proofs.YtcgcjaflllmlpaaGreatDoor
namespace Go.Proofs.YtcgcjaflllmlpaaGreatDoor
open Go Go.Fw Go.Proofs.Tryz
attribute [local irreducible] SN.tagN Sha.tagged Xm.root Wo.opn
abbrev qD9:xA:= [111,119,110,101,114]
def nmS(j:Nat):xA:= [[97,108,105,99,101],[98,111,98],[101,118,101]].getD j []
def nmD(j:Nat):xA:=Sha.tagged 11 [nmS j]
theorem qHC(j:Nat):(nmD j).length=16:=Sha.tagged_length _ _
theorem qJK: ∀j:Fin 3,Tn.nat (nmD j.val)=([[194,62,241,123,249,6,95,160,217,123,123,112,137,162,65,74],[5,150,249,201,224,131,101,239,77,22,183,200,93,26,157,228],[245,82,177,20,123,193,72,30,186,220,0,136,127,221,205,194]]:List (List Nat)).getD j.val []:=λj=>by
 rw [show Tn.nat (nmD j.val)=SN.tagN 11 [(nmS j.val).map UInt8.toNat] from(SN.tagN_eq 11 [nmS j.val] (by match j with|0=>decide|1=>decide|2=>decide)).symm]
 exact(show∀j:Fin 3,SN.tagN 11 [(nmS j.val).map UInt8.toNat]=([[194,62,241,123,249,6,95,160,217,123,123,112,137,162,65,74],[5,150,249,201,224,131,101,239,77,22,183,200,93,26,157,228],[245,82,177,20,123,193,72,30,186,220,0,136,127,221,205,194]]:List (List Nat)).getD j.val [] by decide+kernel) j
theorem qSb{k:xA}{n:List Nat}(h:Tn.nat k=n)(hk:k.length=16):Sm.bit k 0=n.getD 0 0/128%2:=by
 subst h
 unfold Sm.bit Tn.nat
 rw [if_pos xB,jB (l:=k.map _),jN,jC (show 0<k.length by omega),jB,jC xB];rfl
theorem qVk{i:Nat}(hi:i<2):Tn.nat (qBq i)=([[105,72,128,237,61,5,50,182,223,75,24,94,147,245,19,39],[88,245,185,155,41,107,180,138,125,166,83,171,115,216,18,165]]:List (List Nat)).getD i []:=by
 match i,hi with
 |0,_=>exact congrArg Prod.fst qF9
 |1,_=>exact congrArg Prod.fst qI4
theorem qHB{i j:Nat}(hi:i<3)(hj:j<3)(h:i≠j):nmD i≠nmD j:=λe=>by
 have h1:=qJK ⟨i,hi⟩
 have h2:=qJK ⟨j,hj⟩
 dsimp only at h1 h2
 rw [e,h2] at h1
 exact(show∀a b:Fin 3,a≠b→([[194,62,241,123,249,6,95,160,217,123,123,112,137,162,65,74],[5,150,249,201,224,131,101,239,77,22,183,200,93,26,157,228],[245,82,177,20,123,193,72,30,186,220,0,136,127,221,205,194]]:List (List Nat)).getD b.val []≠([[194,62,241,123,249,6,95,160,217,123,123,112,137,162,65,74],[5,150,249,201,224,131,101,239,77,22,183,200,93,26,157,228],[245,82,177,20,123,193,72,30,186,220,0,136,127,221,205,194]]:List (List Nat)).getD a.val [] by decide) ⟨i,hi⟩ ⟨j,hj⟩ (λq=>h (congrArg Fin.val q)) h1
theorem qVr{i j:Nat}(hi:i<3)(hj:j<2):nmD i≠qBq j:=λe=>by
 have h1:=qJK ⟨i,hi⟩
 dsimp only at h1
 rw [e,qVk hj] at h1
 exact(show∀a:Fin 3,∀b:Fin 2,([[105,72,128,237,61,5,50,182,223,75,24,94,147,245,19,39],[88,245,185,155,41,107,180,138,125,166,83,171,115,216,18,165]]:List (List Nat)).getD b.val []≠([[194,62,241,123,249,6,95,160,217,123,123,112,137,162,65,74],[5,150,249,201,224,131,101,239,77,22,183,200,93,26,157,228],[245,82,177,20,123,193,72,30,186,220,0,136,127,221,205,194]]:List (List Nat)).getD a.val [] by decide) ⟨i,hi⟩ ⟨j,hj⟩ h1
def enX(v h:Nat)(p:xA):En:=⟨v,Wo.opn qD9,Xm.root qD9 0,((h:Nat):Int),p⟩
abbrev enO:En:=enW qD9
theorem oowN:Tn.nat (Wo.opn qD9)=SN.tagN 3 [[111,119,110,101,114]]:=qI6 _ xC
theorem qMT{v h:Nat}{p:xA}{P:List Nat}(hv:1≤v∧v≤4294967295)(hh:h≤6)(hp:p.length=16)(hP:Tn.nat p=P):Tn.nat (enX v h p).val=SN.tagN 12 [Tn.nat (Sha.numB (UInt64.ofNat v) 4)++(SN.tagN 3 [[111,119,110,101,114]]++ [63,174,31,251,89,211,89,43,101,35,182,34,6,185,58,236]++ [h])++P]:=by
 have hr:Tn.nat (Xm.root qD9 0)= [63,174,31,251,89,211,89,43,101,35,182,34,6,185,58,236]:=qY3
 have hrl:(Xm.root qD9 0).length=16:=by have:=congrArg List.length hr;unfold Tn.nat at this;rwa [jO] at this
 have h1:qBJ (Wo.opn qD9) (Xm.root qD9 0) ((h:Nat):Int)=0:=if_pos ⟨xB,xB,Wo.opn_length _,hrl⟩
 have h2:qBf v (Wo.opn qD9) (Xm.root qD9 0) ((h:Nat):Int) p=0:=by unfold qBf;rw [if_neg xB,if_pos ⟨h1,hp⟩]
 have h3:qBM (Wo.opn qD9) (Xm.root qD9 0) ((h:Nat):Int)=Wo.opn qD9++Xm.root qD9 0++ [UInt8.ofNat h]:=if_pos ⟨xB,xB,Wo.opn_length _,hrl⟩
 have h4:(enX v h p).val=Sha.tagged 12 [Sha.numB (UInt64.ofNat v) 4++(Wo.opn qD9++Xm.root qD9 0++ [UInt8.ofNat h])++p]:=by
  show qCV v (Wo.opn qD9) (Xm.root qD9 0) ((h:Nat):Int) p=_
  unfold qCV qBI
  rw [if_pos h2,if_pos h2,h3]
 rw [h4,show Tn.nat (Sha.tagged 12 [Sha.numB (UInt64.ofNat v) 4++(Wo.opn qD9++Xm.root qD9 0++ [UInt8.ofNat h])++p])=_ from(SN.tagN_eq 12 [_] (by
  simp only [jc,js,jR,jA,jD,jE,hrl,hp,Wo.opn_length]
  unfold Sha.numB;simp)).symm]
 rw [←hP,←hr,←oowN]
 unfold Tn.nat
 rw [zo,jM,jM,jM,jM,zo,zT,jb xB];rfl
theorem valO:Tn.nat enO.val= [229,80,73,1,200,137,124,31,234,221,163,106,48,84,140,154]:=(qMT (v:=1) (h:=0) xC xC (p:=qAh) rfl qFC).trans xF
theorem qWR:(enX 1 5 qAh).val≠enO.val:=λe=>by
 have h:=qMT (v:=1) (h:=5) xC xC (p:=qAh) O qFC
 rw [e,valO] at h
 revert h
 decide+kernel
theorem qWS:(enX 2 0 enO.val).val≠enO.val:=λe=>by
 have hl:enO.val.length=16:=by have:=congrArg List.length valO;unfold Tn.nat at this;rwa [jO] at this
 have h:=qMT (v:=2) (h:=0) xC xC (p:=enO.val) hl valO
 rw [e,valO] at h
 revert h
 decide+kernel
end Go.Proofs.YtcgcjaflllmlpaaGreatDoor
namespace Go.Proofs.YtcgcjaflllmlpaaGreatDoor
open Go Go.Fw Go.Proofs.Tryz
theorem rv3c{P:Program}{env:Env}{ms:List Hp}{fn:Func}{n:Nat}{w0:Wd}{x t x' t' u v v' v''}(h:fn.results= #[.cell x t,.cell x' t',.tmp u])(h1:RV P env ms (.cell x t) v)(h2:RV P env ms (.cell x' t') v')(h3:RV P env ms (.tmp u) v''): ∀a w,Kn n env a→St w0 ms w→(results fn a.tmps).run P w= .ok (.tuple #[v,v',v'']) w:=λa w hk hs=>by
  have e:=RV.run hk hs h1
  have e':=RV.run hk hs h2
  have e'':=RV.run hk hs h3
  have hA: ∀(f:Value→World→Result Value) (x:Tmp) (t:TypeId) (u:Value),(do loadVar t (←asAddr (a.tmps.getD x undef)):Sem Value).run P w= .ok u w→
      ((Sem.run P (asAddr (a.tmps[x]?.getD undef)) w).andThen λb w'=>(Sem.run P (loadVar t b) w').andThen f)=f u w:=λf x t u hu=>by
    have h3:((Sem.run P (asAddr (a.tmps[x]?.getD undef)) w).andThen λb w'=>(Sem.run P (loadVar t b) w'))= .ok u w:=by simpa using hu
    cases hq:Sem.run P (asAddr (a.tmps[x]?.getD undef)) w with
    |ok b w'=>rw [hq] at h3;simp only [Result.andThen_ok] at h3⊢;rw [h3];rfl
    |halt x w'=>rw [hq] at h3;cases h3
  simp at e''
  unfold results
  rw [h]
  simp
  rw [hA _ _ _ _ e]
  rw [hA _ _ _ _ e']
  simp [e'']
theorem qXF(F:Hp)(g:Nat)(RA:Option Addr)(rn rc:Nat)(l:List Aud)(hrc:qAM F ⟨g,0,none⟩ [.slice RA rn rc])(hrs:Sl F 4 RA rn rc (qBc l))(k:Nat)(hk:k<l.length):Cz prog 85 [Ptr g,I (k:Nat)] F (.tuple #[.agg #[Str ((l.getD k qAu).nm),Str ((l.getD k qAu).op),Str ((l.getD k qAu).rt),I ((l.getD k qAu).ht)],I (0:Nat)]):=by
 have hrl:l.length=rn:=by have:=hrs.1;rw [qD7] at this;exact this
 refine Ct.walk func85 O ntmps85 O (λw0 hw0=>?_)
 refine J.g λ_ j1=>J.p (qAJ O qPa O) O λg4 _=>J.b O<|J.c j1<|J.q λ_ j2=>J.g λ_ j3=>J.b O<|J.f ((qAS O O O).no xB) O<|J.k 3 O<|J.c8 (qAa O O (λF' hF=>qM7 F' g RA rn rc (hrc.mono (Fa hF)))) O λg11 _=>J.D ((qBL O O O).no xB) O<|J.b O<|J.c j3<|J.a2 ?_
 exact J.T j2<|J.g λ_ j4=>J.b O<|J.f (qAB O O) O<|J.M 0 qGe qSv O O O O O<|J.f (qAI O O isAgg76 (m:=F) xD (hrc)) O<|J.b O<|J.f (qAF O O O qGd qDk hrs xB) O<|J.f (qAV O O qLE qDk (m:=F) xD (hrs.elem (qFN xB)) O) O<|J.a6 (qAD (i:=1) (l:= [Str [],Str [],Str [],I 0]) (vs:= [Str ((l.getD k qAu).nm),Str ((l.getD k qAu).op),Str ((l.getD k qAu).rt),I ((l.getD k qAu).ht)]) O O O O O qDk O O) O O λ_ _=>J.b O<|J.c j4<|J.A<|J.b0 hw0 (λ_ _ h=>h) (rv2 O (RV.blkA 1 O O qLE qDk) O) (qAn () O trivial [0] O xC)
structure MbR where
 s:Nat
 A:Option Addr
 c:Nat
 m:Hp
structure MbP (x:SvR) (e k:Nat) (r:MbR):Prop where
 st:qGR (x.kv.getD e []) (qAL k) 0 r.s
 rb:Row r.m 9 1 r.A (bsd (x.kv.getD e []) (qAL k) 0 (r.s-0)).length r.c (qAG (bsd (x.kv.getD e []) (qAL k) 0 (r.s-0)))
theorem qGk(F:Hp)(hK:KF F)(x:SvR)(hc:qAM F ⟨x.gs,0,none⟩ [I (x.dp:Nat),Ptr x.gb,.bool false,.map (some x.nA),Ptr x.rA,.map (some x.nB),Ptr x.rB,.slice x.cA x.cl.length x.cc,.slice x.oA x.no.length x.oc,.slice x.tA x.tg.length x.tc,.slice x.hA x.hd.length x.hc])(hts:Sl F 1 x.tA x.tg.length x.tc (qBw x.tg))(hhs:Sl F 5 x.hA x.hd.length x.hc (qCk x.hd))(hnb:x.hd.length≤1000)(hra:qSt F x.rA x.aud)(e k:Nat)(he:e<x.hd.length)(het:e<x.tg.length)(hk:k<(x.hd.getD e qAc).aud)(hka:k<x.aud.length)(hal:x.aud.length≤64)(hT:qCh F (x.tg.getD e 0) (x.kv.getD e []))(hf:qCE (x.kv.getD e [])):Ct prog 36 [Ptr x.gs,N64 e,I (k:Nat)] [F] (λr:MbR=> .tuple #[.agg #[Str ((x.aud.getD k qAu).nm),Str ((x.aud.getD k qAu).op),Str ((x.aud.getD k qAu).rt),I ((x.aud.getD k qAu).ht)],.agg #[.slice r.A (bsd (x.kv.getD e []) (qAL k) 0 (r.s-0)).length r.c,.bool (qAm (x.kv.getD e []) (qAL k) r.s),Str (qBm (x.kv.getD e []) (qAL k) r.s),Str (qBs (x.kv.getD e []) (qAL k) r.s)],I (0:Nat)]) (MbP x e k) (λr=> [F,r.m]):=by
 obtain ⟨RA,rn,rc,hrc,hrs⟩:=hra
 have hrl:x.aud.length=rn:=by have:=hrs.1;rw [qD7] at this;exact this
 refine Ct.walk func36 O ntmps36 O (λw0 hw0=>?_)
 refine J.g λ_ j1=>J.p (qAJ O qPa O) O λg6 _=>J.p (qAJ O qPN O) O λg7 _=>J.b O<|J.c j1<|J.q λ_ j2=>J.V<|J.g λ_ j3=>J.b O<|J.f ((qA4 qYj O O O).as (v':= .bool false) O) O<|J.k 3 O<|J.D (qAB O O) O<|J.D (qAA O O qCi O qJp O) O<|J.D (qAI O O qPS (m:=F) xD (hc.at (i:=10) O)) O<|J.D (qAR qEY O O) O<|J.D (qEO O O u3_ qEd xB) O<|J.D ((qBL O O O).no xB) O<|J.k 2 O<|J.c j3<|J.a2 ?_
 refine J.g λ_ j4=>J.b O<|J.f ((qAS O O O).no xB) O<|J.k 3 O<|J.D (qAB O O) O<|J.D (qAA O O qCi O qJp O) O<|J.D (qAI O O qPS (m:=F) xD (hc.at (i:=10) O)) O<|J.b O<|J.D (qAF O O O qEY qBv hhs xB) O<|J.D (qDU O O qDn O z3_ hhs xB O) O<|J.D (qAI O O b3_ (m:=F) xD (hhs.part (qB3 xB) 3 1)) O<|J.D ((qBL O O O).no xB) O<|J.k 2 O<|J.c j4<|J.a2 ?_
 refine J.b5<|J.a3<|J.u (J.G j2 ?_)
 refine J.g λ_ j5=>J.b O<|J.f (qAB O O) O<|J.M 3 qCi qGS O O O O O<|J.M 4 qLd sizeOf93 O O O O O<|J.f (qAI O O isAgg93 (m:=F) xD (hc.at (i:=4) O)) O<|J.b O<|J.p (qAa O O (λF' hF=>(by have:=qXF F' x.rA RA rn rc x.aud (hrc.mono (Fa hF)) (hrs.mono (Fa hF)) k hka;exact this))) O λg51 _=>J.k 3 O<|J.p (qAJ O qPa O) O λg9 _=>J.a6 (qAD (i:=3) (l:= [Str [],Str [],Str [],I 0]) (vs:= [Str ((x.aud.getD k qAu).nm),Str ((x.aud.getD k qAu).op),Str ((x.aud.getD k qAu).rt),I ((x.aud.getD k qAu).ht)]) O O O O O qDk O O) O O λ_ _=>J.b O<|J.c j5<|J.q λ_ j6=>J.g λ_ j7=>J.b O<|J.f ((qAe O O O).no xC) O<|J.c j7<|J.a2 ?_
 refine J.T j6<|J.q λ_ j8=>J.b1 [F] [14,15,100012] (.y 0 (.y 1 (.y 2 (.y 3 (.y 4 (.y 5 (.y 6 (.y 7 (.br (.e 8 (.br (.e 9 (.y 10 (.y 11 (.y 12 (.e 13 (.e 14 (.e 15 .nil))))))) (.e 13 (.e 9 (.y 10 (.y 11 (.y 12 (.e 14 (.e 15 .nil))))))))) (.e 13 (.e 8 (.e 9 (.y 10 (.y 11 (.y 12 (.e 14 (.e 15 .nil))))))))))))))))) Tryz.wide xF xD ?_
 refine J.L ?_
 refine J.j O (qAB O O) O O<|J.j O (qAA O O qCi O sizeOf97 O) O O<|J.j O (qAI O O isAgg97 (m:=F) xD (hc.at (i:=9) O)) O O<|J.L ?_
 refine J.j O (qAF O O O qYi sizeOf118 hts xB) O O<|J.j O (qAI O O isAgg118 (m:=F) xD (hts.elem (qGs xB))) O O<|J.L ?_
 refine J.d5 ?_ ?_
 ·
  refine J.Z O (qAa O O (λF' hF=>qEH F' (hK.mo hF) k xB)) O xD λg68 _=>J.d5 ?_ ?_
  ·
   refine J.Z O (qBr O O (λF' hF=>qE0 F' (hK.mo hF) (x.tg.getD e 0) (x.kv.getD e []) (hT.mono (Fa hF)) hf (qAL k) (qBx k) 0 xB)) O xD ?_
   rintro⟨s69,A69,c69,m69⟩ ⟨hst69,hr69⟩
   refine J.L ?_
   refine J.c2 (.agg #[.slice A69 (bsd (x.kv.getD e []) (qAL k) 0 (s69-0)).length c69,.bool (qAm (x.kv.getD e []) (qAL k) s69),Str (qBm (x.kv.getD e []) (qAL k) s69),Str (qBs (x.kv.getD e []) (qAL k) s69)]) ?_
   refine J.d3 O (qAb O O O) O O O ?_
   refine J.Z O (qAJ O qPN O) O xD λg11 _=>J.c1 O (qAD (i:=5) (l:= [.slice none 0 0,.bool false,Str [],Str []]) (vs:= [.slice A69 (bsd (x.kv.getD e []) (qAL k) 0 (s69-0)).length c69,.bool (qAm (x.kv.getD e []) (qAL k) s69),Str (qBm (x.kv.getD e []) (qAL k) s69),Str (qBs (x.kv.getD e []) (qAL k) s69)]) O O O O O qB9 O O) O O O λ_ _=>J.d1 O (YOp.eop (qBG O O)) O O O O ?_
   intro _ _
   refine J.a9<|J.u (J.G j8 ?_)
   refine J.q λ_ j9=>J.b1 [blk g9 [Str ((x.aud.getD k qAu).nm),Str ((x.aud.getD k qAu).op),Str ((x.aud.getD k qAu).rt),I ((x.aud.getD k qAu).ht)] 72,blk g11 [.slice A69 (bsd (x.kv.getD e []) (qAL k) 0 (s69-0)).length c69,.bool (qAm (x.kv.getD e []) (qAL k) s69),Str (qBm (x.kv.getD e []) (qAL k) s69),Str (qBs (x.kv.getD e []) (qAL k) s69)] 53] [] (.y 0 (.y 1 (.y 2 (.e 3 (.e 4 (.y 5 .nil)))))) Tryz.wide xF xD ?_
   refine J.j O (qAW 0 O O O qLE qDk O) O O<|J.j O (qAW 1 O O O qEb qB9 O) O O<|J.L ?_
   refine J.d2 O (qAD (i:=1) (l:= [Str [],Str [],Str [],I 0]) (vs:= [Str ((x.aud.getD k qAu).nm),Str ((x.aud.getD k qAu).op),Str ((x.aud.getD k qAu).rt),I ((x.aud.getD k qAu).ht)]) O O O O O qDk O O) O O xD λ_ _=>J.d2 O (qAD (i:=2) (l:= [.slice none 0 0,.bool false,Str [],Str []]) (vs:= [.slice A69 (bsd (x.kv.getD e []) (qAL k) 0 (s69-0)).length c69,.bool (qAm (x.kv.getD e []) (qAL k) s69),Str (qBm (x.kv.getD e []) (qAL k) s69),Str (qBs (x.kv.getD e []) (qAL k) s69)]) O O O O O qB9 O O) O O xD λ_ _=>J.b7 ?_
   refine J.a9<|J.u (J.G j9 ?_)
   exact J.A<|J.b0 hw0 (λ_ _ h=>h) (rv3c O (RV.blkA 1 O O qLE qDk) (RV.blkA 2 O O qEb qB9) O) (qAn (⟨s69,A69,c69,m69⟩:MbR) O ⟨hst69,hr69⟩ [0,4] O xC)
  refine J.Z O (qAJ O qPN O) O xD λg11 _=>J.Z O (qBr O O (λF' hF=>qE0 F' (hK.mo hF) (x.tg.getD e 0) (x.kv.getD e []) (hT.mono (Fa hF)) hf (qAL k) (qBx k) 0 xB)) O xD ?_
  rintro⟨s69,A69,c69,m69⟩ ⟨hst69,hr69⟩
  refine J.L ?_
  refine J.c2 (.agg #[.slice A69 (bsd (x.kv.getD e []) (qAL k) 0 (s69-0)).length c69,.bool (qAm (x.kv.getD e []) (qAL k) s69),Str (qBm (x.kv.getD e []) (qAL k) s69),Str (qBs (x.kv.getD e []) (qAL k) s69)]) ?_
  refine J.d3 O (qAb O O O) O O O ?_
  refine J.c1 O (qAD (i:=4) (l:= [.slice none 0 0,.bool false,Str [],Str []]) (vs:= [.slice A69 (bsd (x.kv.getD e []) (qAL k) 0 (s69-0)).length c69,.bool (qAm (x.kv.getD e []) (qAL k) s69),Str (qBm (x.kv.getD e []) (qAL k) s69),Str (qBs (x.kv.getD e []) (qAL k) s69)]) O O O O O qB9 O O) O O O λ_ _=>J.d1 O (YOp.eop (qBG O O)) O O O O ?_
  intro _ _
  refine J.a9<|J.u (J.G j8 ?_)
  refine J.q λ_ j10=>J.b1 [blk g9 [Str ((x.aud.getD k qAu).nm),Str ((x.aud.getD k qAu).op),Str ((x.aud.getD k qAu).rt),I ((x.aud.getD k qAu).ht)] 72,blk g11 [.slice A69 (bsd (x.kv.getD e []) (qAL k) 0 (s69-0)).length c69,.bool (qAm (x.kv.getD e []) (qAL k) s69),Str (qBm (x.kv.getD e []) (qAL k) s69),Str (qBs (x.kv.getD e []) (qAL k) s69)] 53] [] (.y 0 (.y 1 (.y 2 (.e 3 (.e 4 (.y 5 .nil)))))) Tryz.wide xF xD ?_
  refine J.j O (qAW 0 O O O qLE qDk O) O O<|J.j O (qAW 1 O O O qEb qB9 O) O O<|J.L ?_
  refine J.d2 O (qAD (i:=1) (l:= [Str [],Str [],Str [],I 0]) (vs:= [Str ((x.aud.getD k qAu).nm),Str ((x.aud.getD k qAu).op),Str ((x.aud.getD k qAu).rt),I ((x.aud.getD k qAu).ht)]) O O O O O qDk O O) O O xD λ_ _=>J.d2 O (qAD (i:=2) (l:= [.slice none 0 0,.bool false,Str [],Str []]) (vs:= [.slice A69 (bsd (x.kv.getD e []) (qAL k) 0 (s69-0)).length c69,.bool (qAm (x.kv.getD e []) (qAL k) s69),Str (qBm (x.kv.getD e []) (qAL k) s69),Str (qBs (x.kv.getD e []) (qAL k) s69)]) O O O O O qB9 O O) O O xD λ_ _=>J.b7 ?_
  refine J.a9<|J.u (J.G j10 ?_)
  exact J.A<|J.b0 hw0 (λ_ _ h=>h) (rv3c O (RV.blkA 1 O O qLE qDk) (RV.blkA 2 O O qEb qB9) O) (qAn (⟨s69,A69,c69,m69⟩:MbR) O ⟨hst69,hr69⟩ [0,5] O xC)
 refine J.Z O (qAJ O qPN O) O xD λg11 _=>J.Z O (qAa O O (λF' hF=>qEH F' (hK.mo hF) k xB)) O xD λg68 _=>J.Z O (qBr O O (λF' hF=>qE0 F' (hK.mo hF) (x.tg.getD e 0) (x.kv.getD e []) (hT.mono (Fa hF)) hf (qAL k) (qBx k) 0 xB)) O xD ?_
 rintro⟨s69,A69,c69,m69⟩ ⟨hst69,hr69⟩
 refine J.L ?_
 refine J.c2 (.agg #[.slice A69 (bsd (x.kv.getD e []) (qAL k) 0 (s69-0)).length c69,.bool (qAm (x.kv.getD e []) (qAL k) s69),Str (qBm (x.kv.getD e []) (qAL k) s69),Str (qBs (x.kv.getD e []) (qAL k) s69)]) ?_
 refine J.d3 O (qAb O O O) O O O ?_
 refine J.c1 O (qAD (i:=4) (l:= [.slice none 0 0,.bool false,Str [],Str []]) (vs:= [.slice A69 (bsd (x.kv.getD e []) (qAL k) 0 (s69-0)).length c69,.bool (qAm (x.kv.getD e []) (qAL k) s69),Str (qBm (x.kv.getD e []) (qAL k) s69),Str (qBs (x.kv.getD e []) (qAL k) s69)]) O O O O O qB9 O O) O O O λ_ _=>J.d1 O (YOp.eop (qBG O O)) O O O O ?_
 intro _ _
 refine J.a9<|J.u (J.G j8 ?_)
 refine J.q λ_ j11=>J.b1 [blk g9 [Str ((x.aud.getD k qAu).nm),Str ((x.aud.getD k qAu).op),Str ((x.aud.getD k qAu).rt),I ((x.aud.getD k qAu).ht)] 72,blk g11 [.slice A69 (bsd (x.kv.getD e []) (qAL k) 0 (s69-0)).length c69,.bool (qAm (x.kv.getD e []) (qAL k) s69),Str (qBm (x.kv.getD e []) (qAL k) s69),Str (qBs (x.kv.getD e []) (qAL k) s69)] 53] [] (.y 0 (.y 1 (.y 2 (.e 3 (.e 4 (.y 5 .nil)))))) Tryz.wide xF xD ?_
 refine J.j O (qAW 0 O O O qLE qDk O) O O<|J.j O (qAW 1 O O O qEb qB9 O) O O<|J.L ?_
 refine J.d2 O (qAD (i:=1) (l:= [Str [],Str [],Str [],I 0]) (vs:= [Str ((x.aud.getD k qAu).nm),Str ((x.aud.getD k qAu).op),Str ((x.aud.getD k qAu).rt),I ((x.aud.getD k qAu).ht)]) O O O O O qDk O O) O O xD λ_ _=>J.d2 O (qAD (i:=2) (l:= [.slice none 0 0,.bool false,Str [],Str []]) (vs:= [.slice A69 (bsd (x.kv.getD e []) (qAL k) 0 (s69-0)).length c69,.bool (qAm (x.kv.getD e []) (qAL k) s69),Str (qBm (x.kv.getD e []) (qAL k) s69),Str (qBs (x.kv.getD e []) (qAL k) s69)]) O O O O O qB9 O O) O O xD λ_ _=>J.b7 ?_
 refine J.a9<|J.u (J.G j11 ?_)
 exact J.A<|J.b0 hw0 (λ_ _ h=>h) (rv3c O (RV.blkA 1 O O qLE qDk) (RV.blkA 2 O O qEb qB9) O) (qAn (⟨s69,A69,c69,m69⟩:MbR) O ⟨hst69,hr69⟩ [0,5] O xC)
structure CaR where
 hd:List RhD
 A:Option Addr
 c:Nat
 m:Hp
 N:Hp
structure CaP (hd:List RhD) (y:RhD) (E:Int) (r:CaR):Prop where
 row:Row r.m 34 5 r.A r.hd.length r.c (qCk r.hd)
 no:E≠0→r.hd=hd
 yes:E=0→ ∃A c,r.hd=hd++ [⟨y.ep,y.par,y.dep,y.aud,A,c,y.ns⟩]∧Sl r.N 1 A y.ns.length c (qAG y.ns)
theorem qIW(F mh:Hp)(hK:KF F)(gc sl nd:Nat)(A:Option Addr)(c:Nat)(l:List RhD)(hR:Row mh 34 5 A l.length c (qCk l))(h0:0<l.length)(hn:l.length≤1000)(hg:(qA0 (l.getD (l.length-1) qAc)).good)(hxs:nsl F (l.getD (l.length-1) qAc))(hsm: ∀s∈(l.getD (l.length-1) qAc).ns,s.length≤1048576)(d ac:Nat)(hd:d≤4)(hxd:(l.getD (l.length-1) qAc).dep=d)(hx:(qA0 (l.getD (l.length-1) qAc)).err=0)(h1:1≤nd)(h2:nd≤sl)(h3:sl≤ac)(h4:ac≤64)(hac:(l.getD (l.length-2) qAc).aud=ac)(W:Nat→List Int)(hW:qMh (qA0 (l.getD (l.length-1) qAc)).dig (2^d) ac sl W)(y:RhD)(hgy:(qA0 y).good)(hsy:nsl F y)(hyn:y.ns.length≤1000000)(Av:Option Addr)(nv cv:Nat)(vs:List VtD)(hvs:Sl F 15 Av nv cv (qOT vs))(hnv:nv≤100000)(hvo: ∀i,i<vs.length→qSr F (vs.getD i qAo)):Ct prog 11 [Ptr gc,.agg #[N64 (y.ep),Str (y.par),I (y.dep:Nat),I (y.aud:Nat),.slice y.nsA y.ns.length y.nsc,.slice Av nv cv]] [blk gc [I (sl:Nat),I (nd:Nat),.slice A l.length c] 89,mh,F] (λ_:CaR=>I (qEV (qA0 (l.getD (l.length-1) qAc)) (qA0 y) W sl (2^d) nd vs)) (CaP l y (qEV (qA0 (l.getD (l.length-1) qAc)) (qA0 y) W sl (2^d) nd vs)) (λr=> [blk gc [I (sl:Nat),I (nd:Nat),.slice r.A r.hd.length r.c] 89,r.m,F,r.N]):=by
 refine Ct.walk func11 O ntmps11 O (λw0 hw0=>?_)
 refine J.g λ_ j1=>J.p (qAZ O O O) O λg3 _=>J.b O<|J.c j1<|J.q λ_ j2=>J.g λ_ j3=>J.b O<|J.f (qA4 qTI O O O) O<|J.c j3<|J.a2 ?_
 refine J.T j2<|J.d4 (X:=Unit) (λζ=> [(0,Ptr gc),(3,Ptr g3)]) (λζ=> [blk gc [I (sl:Nat),I (nd:Nat),.slice A l.length c] 89,mh,F,blk g3 [N64 (y.ep),Str (y.par),I (y.dep:Nat),I (y.aud:Nat),.slice y.nsA y.ns.length y.nsc,.slice Av nv cv] 50]) (λζ=>(qEV (qA0 (l.getD (l.length-1) qAc)) (qA0 y) W sl (2^d) nd vs)=0) (λ_ j4=>?_) ?_
 ·
  refine J.q λ_ j5=>J.b1 [F,blk g3 [N64 (y.ep),Str (y.par),I (y.dep:Nat),I (y.aud:Nat),.slice y.nsA y.ns.length y.nsc,.slice Av nv cv] 50,blk gc [I (sl:Nat),I (nd:Nat),.slice A l.length c] 89,mh] [] (.y 0 (.y 1 (.y 3 (.y 5 (.y 6 (.y 7 (.y 8 (.e 2 (.e 4 (.e 9 (.y 10 .nil))))))))))) Tryz.wide xF xD ?_
  refine J.j O (qAW 1 O O O isAgg50 sizeOf50 O) O O<|J.L ?_
  refine J.L ?_
  refine J.L ?_
  refine J.j O (qAB O O) O O<|J.j O (qAA O O qTG O qON O) O O<|J.j O (qAV O O qS2 qON (m:=blk gc [I (sl:Nat),I (nd:Nat),.slice A l.length c] 89) xD (qAM.blk0.sub 0 2) O) O O<|J.Z O (qAa O O (λF' hF=>qJe F' (gc) sl nd A l.length c l (hR.sl.mono (Fa hF)) h0 xB (qAM.blk0.mono (hF (blk gc [I (sl:Nat),I (nd:Nat),.slice A l.length c] 89) xD)))) O xD λg11 _=>J.Z O (qAa O O (λF' hF=>(by have:=qYS F' (gc) sl nd A l.length c l (hR.sl.mono (Fa hF)) h0 xB (qAM.blk0.mono (hF (blk gc [I (sl:Nat),I (nd:Nat),.slice A l.length c] 89) xD));rw [hac] at this;exact this))) O xD λg13 _=>J.Z O (qAa O O (λF' hF=>qSQ F' (hK.mo hF) (qA0 (l.getD (l.length-1) qAc)) (l.getD (l.length-1) qAc).nsA (l.getD (l.length-1) qAc).nsc hg (hxs.mono (Fa hF)) (qA0 y) y.nsA y.nsc hgy (hsy.mono (Fa hF)) hsm d ac sl nd hd (congrArg (λn:Nat=>(n:Int)) hxd) hx h1 h2 h3 h4 W hW Av nv cv vs (hvs.mono (Fa hF)) hnv (λi hi=>(hvo i hi).mono (Fa hF)))) O xD λg18 _=>J.b7 ?_
  refine J.a9<|J.u (J.G j5 ?_)
  refine J.g λ_ j6=>J.b O<|J.f (qAe O O O) O<|J.c j6<|J.a0 O (λh20=>?_) (λh20=>?_)
  ·
   exact J.g λ_ j7=>J.k 2 O<|J.d0 [0,1,2,4] [blk gc [I (sl:Nat),I (nd:Nat),.slice A l.length c] 89,mh,F,(λ_=>none)] O xC<|J.c j7<|J.A<|J.W<|J.E hw0 O (⟨l,A,c,mh,λ_=>none⟩:CaR) O ⟨hR,λ_=>rfl,λe=>absurd e h20⟩ [0,1,2,3] O xC
  exact J.b5<|J.u<|J.a5 () j4 ((Decidable.not_not.1 h20)) ⟨O,O,trivial⟩ (λ_ h=>h)
 rintro _ hE
 refine J.g λ_ j8=>J.M 0 qVd qBv O O O O O<|J.f (qAV O O qDF qBv (m:=blk g3 [N64 (y.ep),Str (y.par),I (y.dep:Nat),I (y.aud:Nat),.slice y.nsA y.ns.length y.nsc,.slice Av nv cv] 50) xD (qAM.blk0.sub 0 5) O) O<|J.p (qAJ O qUv O) O λg6 _=>J.a6 (qAD (i:=4) (l:= [.int .u64 0,Str [],I 0,I 0,.slice none 0 0]) (vs:= [N64 (y.ep),Str (y.par),I (y.dep:Nat),I (y.aud:Nat),.slice y.nsA y.ns.length y.nsc]) O O O O O qBv O O) O O λ_ _=>J.c j8<|J.g λ_ j9=>J.M 4 qDn qB1 O O O O O<|J.a7 4 qCC O O O O O<|J.p (qBr O O (λF' hF=>qJc F' y.nsA y.ns.length y.nsc y.ns (hsy.mono (Fa hF)) xB)) O ?_
 rintro⟨A26,c26,m26⟩ h26
 try dsimp only at h26
 refine J.M 4 qDn qB1 O O O O O<|J.a6 (qAT (i:=4) O O O O O qB1 O xD) O O λ_ _=>?_
 change J _ _ _ [_,_,_,_,blk g6 [N64 (y.ep),Str (y.par),I (y.dep:Nat),I (y.aud:Nat),.slice A26 y.ns.length c26] 34,_] _
 refine J.c j9<|J.q λ_ j10=>?_
 obtain ⟨x35,hx35⟩: ∃x:RhD,x=⟨y.ep,y.par,y.dep,y.aud,A26,c26,y.ns⟩:=⟨_,rfl⟩
 refine J.b1 [blk gc [I (sl:Nat),I (nd:Nat),.slice A l.length c] 89,blk g6 [N64 (y.ep),Str (y.par),I (y.dep:Nat),I (y.aud:Nat),.slice A26 y.ns.length c26] 34,F] [10] (.y 0 (.y 1 (.y 2 (.y 3 (.y 4 (.y 5 (.e 6 (.e 7 (.y 8 (.y 9 (.e 10 .nil))))))))))) Tryz.wide xF xD ?_
 refine J.L ?_
 refine J.L ?_
 refine J.j O (qAB O O) O O<|J.j O (qAA O O qTG O qJp O) O O<|J.j O (qAC 0 O O O qPS O) O O<|J.j O (qAW 1 O O O qDF qBv O) O O<|J.Z O (qAE (l:= [.tmp 33]) (xs:= [[N64 (y.ep),Str (y.par),I (y.dep:Nat),I (y.aud:Nat),.slice A26 y.ns.length c26]]) O O O O qEY el34 O xC xC xD) O xD λg34 _=>J.Z O (qAU (i:=1) (m2:=blk g34 [N64 (y.ep),Str (y.par),I (y.dep:Nat),I (y.aud:Nat),.slice A26 y.ns.length c26] 34) O O O qEY qEY el34 O hR xD ((qAl (q:=True) (xs:=qCk [(⟨y.ep,y.par,y.dep,y.aud,A26,c26,y.ns⟩:RhD)]) O (by intro x hx;rw [List.mem_singleton.1 hx];rfl)).sl) O xB xB) O xD ?_
 rintro⟨A35,c35,m35⟩ h35
 try dsimp only at h35
 replace h35:Row m35 34 5 A35 (l.length+1) c35 (qCk (l++ [x35])):=by rw [qKG,hx35];exact h35
 rw [show l.length+1=(l++ [x35]).length by rw [jA];rfl] at h35⊢
 refine J.j O (qAB O O) O O<|J.j O (qAA O O qTG O qJp O) O O<|J.c1 O (qAT (i:=0) O O O O O qJp O xD) O O O λ_ _=>J.a9<|J.u (J.G j10 ?_)
 exact J.g λ_ j11=>J.b O<|J.c j11<|J.A<|J.E hw0 O (⟨l++ [x35],A35,c35,m35,m26⟩:CaR) (by rw [hE]) ⟨h35,λe=>absurd hE e,λ_=>⟨A26,c26,by rw [hx35],h26.sl⟩⟩ [0,1,2,5] O xC
end Go.Proofs.YtcgcjaflllmlpaaGreatDoor