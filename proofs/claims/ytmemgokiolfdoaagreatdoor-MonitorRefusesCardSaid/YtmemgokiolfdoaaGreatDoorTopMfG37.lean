/- A part of the proof. -/
import Derived.Test.YtmemgokiolfdoaaGreatDoorTopMfG17
import Derived.Test.YtmemgokiolfdoaaGreatDoorTopMfG30
set_option maxRecDepth 100000
set_option maxHeartbeats 1000000
set_option linter.unusedSimpArgs false
set_option linter.unusedVariables false
namespace Go.Proofs.YtmemgokiolfdoaaGreatDoor
open Go Go.Fw Go.Proofs.Tryz
theorem el83:qCe prog 83 [.slice none 0 0] 24:=qCe.of xH O
structure WnD where
 lA:Option Addr
 lc:Nat
 l:List Int
def WnD.cells(x:WnD):List Value:= [.slice x.lA x.l.length x.lc]
def qEX:WnD:=⟨none,0,[]⟩
def qPG(l:List WnD):List (List Value):=l.map WnD.cells
theorem qSn{l:List WnD}{k:Nat}(h:k<l.length):(qPG l)[k]?=some (l.getD k qEX).cells:=by
 unfold qPG
 rw [jO,qAk qEX h];rfl
theorem qPW(a:List WnD)(x:WnD):qPG (a++ [x])=qPG a++ [x.cells]:=by simp [qPG]
theorem qO6{α:Type}(l:List α)(x no:α)(j:Nat)(h:j<l.length+1):(l++ [x]).getD j no=if j<l.length then l.getD j no else x:=by
  rw [jB]
  by_cases hlt:j<l.length
  · rw [if_pos hlt,jg hlt,←jB]
  · obtain rfl:j=l.length:=by omega
    rw [if_neg hlt,jh (jK _),zE];rfl
theorem qMO{a b:Hp}(h:Dj a b):Le a (U [a,b]):=qFx (qAZ.2 (by simpa using h)) (.head _)
theorem qVX{a b:Hp}(h:Dj a b):Le b (U [a,b]):=qFx (qAZ.2 (by simpa using h)) (.tail _ (.head _))
def qE6(G:Hp)(W:Nat→List Int)(sl:Nat)(ws:List WnD):Prop:= ∀b,b<ws.length→(ws.getD b qEX).l=(W b).take sl∧(ws.getD b qEX).l.length=sl∧Sl G 1 (ws.getD b qEX).lA (ws.getD b qEX).l.length (ws.getD b qEX).lc (qC8 (ws.getD b qEX).l)
theorem qE6.mono{G G':Hp}{W:Nat→List Int}{sl:Nat}{ws:List WnD}(h:qE6 G W sl ws)(hl:Le G G'):qE6 G' W sl ws:=λb hb=>⟨(h b hb).1,(h b hb).2.1,(h b hb).2.2.mono hl⟩
theorem qE6.nil(G:Hp)(W:Nat→List Int)(sl:Nat):qE6 G W sl []:=λb h=>absurd h (zB b)
theorem qE6.snoc{G:Hp}{W:Nat→List Int}{sl:Nat}{ws:List WnD}{x:WnD}(h:qE6 G W sl ws)(h1:x.l=(W ws.length).take sl)(h2:x.l.length=sl)(h3:Sl G 1 x.lA x.l.length x.lc (qC8 x.l)):qE6 G W sl (ws++ [x]):=λb hb=>by
 rw [jA,jJ] at hb
 rw [qO6 ws x qEX b hb]
 split
 · exact h b xB
 · rw [show b=ws.length by omega];exact⟨h1,h2,h3⟩
def qU7(dg:xA)(n a sl:Nat)(W:Nat→List Int):Prop:= ∀b,b<n→ ∃st,Wd.wins 1 a (Sha.Strm.new (Wd.seedOf dg b)) sl=some (W b,st)
theorem qMq{fuel a:Nat}{s0:Sha.Strm}: ∀{k:Nat} {x:List Int×Sha.Strm},Wd.wins fuel a s0 k=some x→x.1.length=a
 |0,x,h=>by
  have:(Wd.start a,s0)=x:=zX h
  rw [←this];simp [Wd.start]
 |k+1,x,h=>by
  obtain ⟨z,hz,h2⟩:=Option.bind_eq_some_iff.1 (show(Wd.wins fuel a s0 k).bind _=some x from h)
  obtain ⟨y,_,h3⟩:=Option.map_eq_some_iff.1 h2
  rw [←h3]
  dsimp only
  rw [jk,jk];exact qMq hz
structure WnR where
 A:Option Addr
 c:Nat
 mr:Hp
 G:Hp
 ws:List WnD
structure WnP (W:Nat→List Int) (n sl:Nat) (r:WnR):Prop where
 len:r.ws.length=n
 row:Row r.mr 83 1 r.A r.ws.length r.c (qPG r.ws)
 ok:qE6 r.G W sl r.ws
theorem qWG{g a sl:Nat}{l:List Int}(hl:l.length=a)(hs:sl≤a):Sl (blk g (l.map λx=>I x) 3) 1 (some ⟨g,0,none⟩) (l.take sl).length sl (qC8 (l.take sl)):=by
  refine⟨by simp [qC8],by rw [jE];omega,λi x hx=>?_⟩
  unfold qC8 at hx
  rw [jO,zI] at hx
  split at hx
  · rename_i hi
    cases hq:l[i]? with
    |none=>rw [hq] at hx;cases hx
    |some v=>
      rw [hq] at hx
      have hx2: [I v]=x:=zX hx
      subst hx2
      refine⟨O,⟨g,0,none⟩,O,?_⟩
      rw [Addr.add_lit]
      exact qAG.blk1 (0+i*1) (by rw [jO,jj,Nat.mul_one,hq];rfl)
  · cases hx
theorem qOH(F:Hp)(hK:qAG F ⟨3,0,none⟩ (Sha.K.map W32))(x:Hd)(A:Option Addr)(c:Nat)(hg:x.good)(hsl:Sl F 1 A x.nodes.length c (qAH x.nodes))(d a sl nd:Nat)(hd:d≤4)(hxd:x.dep=((d:Nat):Int))(hx:x.err=0)(h1:1≤nd)(h2:nd≤sl)(h3:sl≤a)(h4:a≤64)(W:Nat→List Int)(hW:qU7 x.dig (2^d) a sl W):
    Ct prog 236 [.agg #[N64 x.ep,Str x.par,I x.dep,I x.aud,.slice A x.nodes.length c],I (a:Nat),.agg #[I (sl:Nat),I (nd:Nat)]] [F] (λr:WnR=> .tuple #[.slice r.A r.ws.length r.c,I 0]) (WnP W (2^d) sl) (λr=> [F,r.mr,r.G]):=by
  have hdl:=qJe hx
  have hdn:x.dig≠ []:=λe=>by rw [e] at hdl;exact absurd hdl xC
  have hpw:=qWm hd
  have hcn:=qDA hd
  refine Ct.walk func236 O ntmps236 O (λw0 hw0=>?_)
  refine J.f λ_ j1=>J.k (qAd O O O) O λg3 _=>J.k (qAd O O O) O λg5 _=>J.j 2 O<|J.c j1 ?_
  refine J.f λ_ j2=>J.b9 1 qGG qDM O O O O O<|J.k (qAY O O (λF' hF=>qCg F' (hK.mo hF) x A c hg (hsl.mono (Fa hF)))) O λg14 _=>J.b O<|J.c j2 ?_
  refine J.q λ_ j3=>J.f λ_ j4=>J.b O<|J.g ((qBY O O O).no (hdn)) O<|J.b O<|J.H (qAA O O qHr O z3_ O) O<|J.H (qAC 2 O O O b3_ O) O<|J.H ((qAS O O O).no xB) O<|J.j 2 O<|J.H (qAA O O qHr O z3_ O) O<|J.H (qAC 2 O O O b3_ O) O<|J.H (qAA O O qHr O z3_ O) O<|J.H (qAC 2 O O O b3_ O) O<|J.H ((qA7 O O O).no xB) O<|J.b O<|J.c j4 ?_
  refine J.a3 ?_
  refine J.M j3 ?_
  refine J.f λ_ j5=>J.b O<|J.c j5 ?_
  refine J.q λ_ j6=>J.f λ_ j7=>J.V 2 qEH z3_ O O O O O<|J.a6 1 b3_ O O O O O<|J.k (qAY O O (λF' hF=>(by have:=qCN F' x.dep;rw [hxd,hcn] at this;rw [hxd];exact this))) O λg31 _=>J.b O<|J.c j7 ?_
  refine J.T<|J.b8 (X:=Nat×List WnD×Option Addr×Nat×Hp×Hp) (λζ=> [(1,I (a:Nat)),(5,Ptr g5),(8,Str (x.dig)),(9,.slice ζ.2.2.1 ζ.2.1.length ζ.2.2.2.1),(31,I (2^d:Nat)),(32,I (ζ.1:Nat))]) (λζ=> [ζ.2.2.2.2.2,F,blk g3 [N64 x.ep,Str (x.par),I (x.dep),I (x.aud),.slice A x.nodes.length c] 52,blk g5 [I (sl:Nat),I (nd:Nat)] 191,ζ.2.2.2.2.1]) (λζ=>ζ.1≤2^d∧ζ.2.1.length=ζ.1∧Row ζ.2.2.2.2.1 83 1 ζ.2.2.1 ζ.2.1.length ζ.2.2.2.1 (qPG ζ.2.1)∧qE6 ζ.2.2.2.2.2 W sl ζ.2.1) (λζ=>2^d-ζ.1) (0,[],none,0,(λ_=>none),(λ_=>none)) (⟨jG _,O,qBc.nil,qE6.nil _ _ _⟩) ⟨O,O,O,O,O,O,trivial⟩ (λ_ h=>h.empty.empty.pick [3,0,1,2,4] xC) ?_
  rintro⟨i,ws,Ar,cr,mr,G⟩ ⟨hi,hwsl,hrw,hok⟩ I0 hI0
  dsimp only at hi hwsl hrw hok⊢
  refine J.f λ_ j8=>J.g (qAS O O O) O<|J.c j8 ?_
  refine J.q λ_ j9=>J.Z O (λh33=>?_) (λh33=>?_)
  ·
    refine J.M j9 ?_
    refine J.q λ_ j10=>J.T<|J.f λ_ j11=>J.j 2 O<|J.c j11 ?_
    refine J.q λ_ j12=>?_
    obtain ⟨st,hst⟩:=hW i xB
    refine J.L<|J.j 3 O<|J.V 0 qHr z3_ O O O O O<|J.a6 3 b3_ O O O O O<|J.k (qBP O O (λF' hF=>of_ct F' (hK.mo hF) x.dig (by rw [hdl];decide) i a sl xB h4 xB h3 1 (W i) st hst)) O ?_
    rintro g41 _
    have hwl:(W i).length=a:=qMq hst
    have htl:((W i).take sl).length=sl:=by rw [jE];omega
    rw [show(Value.slice (some ⟨g41,0,none⟩) sl sl)= .slice (some ⟨g41,0,none⟩) ((W i).take sl).length sl by rw [htl]]
    refine J.j 5 O<|J.c j12 ?_
    refine J.q λ_ j13=>J.f λ_ j14=>J.b O<|J.g ((qAf O O O).no xC) O<|J.c j14 ?_
    refine J.a3 ?_
    refine J.M j13 ?_
    obtain ⟨wx,hwx⟩: ∃x:WnD,x=⟨(some ⟨g41,0,none⟩),sl,(W i).take sl⟩:=⟨_,rfl⟩
    refine J.L<|J.j 2 O<|J.k (qAF (l:= [.tmp 48]) (xs:= [[.slice (some ⟨g41,0,none⟩) (((W i).take sl).length) sl]]) O O O O qOM el83 O xC xC xD) O λg49 _=>J.k (qAc (i:=4) (m2:=blk g49 [.slice (some ⟨g41,0,none⟩) (((W i).take sl).length) sl] 83) O O O qOM qOM el83 O hrw xD ((qAp (q:=True) (xs:=qPG [(⟨(some ⟨g41,0,none⟩),sl,((W i).take sl)⟩:WnD)]) O (by intro x hx;rw [List.mem_singleton.1 hx];rfl)).sl) O xB xB) O ?_
    rintro⟨A50,c50,m50⟩ h50
    try dsimp only at h50
    replace h50:Row m50 83 1 A50 (ws.length+1) c50 (qPG (ws++ [wx])):=by rw [qPW,hwx];exact h50
    rw [show ws.length+1=(ws++ [wx]).length by rw [jA];rfl] at h50⊢
    refine J.b O<|J.c4 [0,5,1,2,3,4] [G,blk g41 ((W i).map λx=>I x) 3,F,blk g3 [N64 x.ep,Str (x.par),I (x.dep),I (x.aud),.slice A x.nodes.length c] 52,blk g5 [I (sl:Nat),I (nd:Nat)] 191,m50] O xC<|J.d4 (λhj=>?_)
    refine J.a5<|J.a4<|J.u (J.D j10 ?_)
    exact J.L<|J.g ((qAR O O O xB).nat (i+1) xB) O<|J.b O<|J.a5<|J.u<|J.b0 (i+1,ws++ [wx],A50,c50,m50,U [G,blk g41 ((W i).map λx=>I x) 3]) (λη (hη:_∧2^d-η.1<2^d-i)=>hI0 η hη.1 hη.2) ⟨⟨by dsimp only;omega,by dsimp only;rw [jA,hwsl];rfl,h50,(hok.mono (qMO hj)).snoc (by rw [hwx,hwsl]) (by rw [hwx];exact htl) (by rw [hwx];exact(qWG hwl h3).mono (qVX hj))⟩,by first|omega|(dsimp only;omega)⟩ ⟨O,O,O,O,O,O,trivial⟩ (λ_ h=>h)
  refine J.b5<|J.a0<|J.a0<|J.b6 ?_
  refine J.u (J.D j6 ?_)
  refine J.f λ_ j15=>J.j 3 O<|J.c j15 ?_
  exact J.A<|J.a9 hw0 (λ_ _ h=>h) (qBs O O O) (qAi (⟨Ar,cr,mr,G,ws⟩:WnR) O ⟨by dsimp only;omega,hrw,hok⟩ [1,4,0] O xC)
end Go.Proofs.YtmemgokiolfdoaaGreatDoor