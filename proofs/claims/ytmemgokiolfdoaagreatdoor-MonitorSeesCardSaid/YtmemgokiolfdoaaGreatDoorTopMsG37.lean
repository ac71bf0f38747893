/- A part of the proof. -/
import Derived.Test.YtmemgokiolfdoaaGreatDoorTopMsG17
import Derived.Test.YtmemgokiolfdoaaGreatDoorTopMsG30
set_option maxRecDepth 100000
set_option maxHeartbeats 1000000
set_option linter.unusedSimpArgs false
set_option linter.unusedVariables false
namespace Go.Proofs.YtmemgokiolfdoaaGreatDoor
open Go Go.Fw Go.Proofs.Tryz
theorem el83:qCY prog 83 [.slice none 0 0] 24:=qCY.of xI O
theorem qIa{l:List Int}{k:Nat}(h:k<l.length):(qB6 l)[k]?=some [I (l.getD k 0)]:=by
 unfold qB6
 rw [jN,jC h,jB,jC h];rfl
structure WnD where
 lA:Option Addr
 lc:Nat
 l:List Int
def WnD.cells(x:WnD):List Value:= [.slice x.lA x.l.length x.lc]
def qEY:WnD:=⟨none,0,[]⟩
def qPR(l:List WnD):List (List Value):=l.map WnD.cells
theorem qTA{l:List WnD}{k:Nat}(h:k<l.length):(qPR l)[k]?=some (l.getD k qEY).cells:=by
 unfold qPR
 rw [jN,qAi qEY h];rfl
theorem qPi(a:List WnD)(x:WnD):qPR (a++ [x])=qPR a++ [x.cells]:=by simp [qPR]
theorem qPE{α:Type}(l:List α)(x no:α)(j:Nat)(h:j<l.length+1):(l++ [x]).getD j no=if j<l.length then l.getD j no else x:=by
  rw [jB]
  by_cases hlt:j<l.length
  · rw [if_pos hlt,jc hlt,←jB]
  · obtain rfl:j=l.length:=by omega
    rw [if_neg hlt,ja (jJ _),jv];rfl
theorem qSw{a b:Hp}(h:Dj a b):Le a (U [a,b]):=qFr (qAa.2 (by simpa using h)) (.head _)
theorem qYj{a b:Hp}(h:Dj a b):Le b (U [a,b]):=qFr (qAa.2 (by simpa using h)) (.tail _ (.head _))
def qEu(G:Hp)(W:Nat→List Int)(sl:Nat)(ws:List WnD):Prop:= ∀b,b<ws.length→(ws.getD b qEY).l=(W b).take sl∧(ws.getD b qEY).l.length=sl∧Sl G 1 (ws.getD b qEY).lA (ws.getD b qEY).l.length (ws.getD b qEY).lc (qB6 (ws.getD b qEY).l)
theorem qEu.mono{G G':Hp}{W:Nat→List Int}{sl:Nat}{ws:List WnD}(h:qEu G W sl ws)(hl:Le G G'):qEu G' W sl ws:=λb hb=>⟨(h b hb).1,(h b hb).2.1,(h b hb).2.2.mono hl⟩
theorem qEu.nil(G:Hp)(W:Nat→List Int)(sl:Nat):qEu G W sl []:=λb h=>absurd h (jy b)
theorem qEu.snoc{G:Hp}{W:Nat→List Int}{sl:Nat}{ws:List WnD}{x:WnD}(h:qEu G W sl ws)(h1:x.l=(W ws.length).take sl)(h2:x.l.length=sl)(h3:Sl G 1 x.lA x.l.length x.lc (qB6 x.l)):qEu G W sl (ws++ [x]):=λb hb=>by
 rw [jA,jH] at hb
 rw [qPE ws x qEY b hb]
 split
 · exact h b xB
 · rw [show b=ws.length by omega];exact⟨h1,h2,h3⟩
def qVb(dg:xA)(n a sl:Nat)(W:Nat→List Int):Prop:= ∀b,b<n→ ∃st,Wd.wins 1 a (Sha.Strm.new (Wd.seedOf dg b)) sl=some (W b,st)
theorem qMy{fuel a:Nat}{s0:Sha.Strm}: ∀{k:Nat} {x:List Int×Sha.Strm},Wd.wins fuel a s0 k=some x→x.1.length=a
 |0,x,h=>by
  have:(Wd.start a,s0)=x:=zX h
  rw [←this];simp [Wd.start]
 |k+1,x,h=>by
  obtain ⟨z,hz,h2⟩:=Option.bind_eq_some_iff.1 (show(Wd.wins fuel a s0 k).bind _=some x from h)
  obtain ⟨y,_,h3⟩:=Option.map_eq_some_iff.1 h2
  rw [←h3]
  dsimp only
  rw [jk,jk];exact qMy hz
structure WnR where
 A:Option Addr
 c:Nat
 mr:Hp
 G:Hp
 ws:List WnD
structure WnP (W:Nat→List Int) (n sl:Nat) (r:WnR):Prop where
 len:r.ws.length=n
 row:Row r.mr 83 1 r.A r.ws.length r.c (qPR r.ws)
 ok:qEu r.G W sl r.ws
theorem qWi{g a sl:Nat}{l:List Int}(hl:l.length=a)(hs:sl≤a):Sl (blk g (l.map λx=>I x) 3) 1 (some ⟨g,0,none⟩) (l.take sl).length sl (qB6 (l.take sl)):=by
  refine⟨by simp [qB6],by rw [jF];omega,λi x hx=>?_⟩
  unfold qB6 at hx
  rw [jN,zI] at hx
  split at hx
  · rename_i hi
    cases hq:l[i]? with
    |none=>rw [hq] at hx;cases hx
    |some v=>
      rw [hq] at hx
      have hx2: [I v]=x:=zX hx
      subst hx2
      refine⟨O,⟨g,0,none⟩,O,?_⟩
      rw [Addr.add_lit]
      exact qAG.blk1 (0+i*1) (by rw [jN,jj,Nat.mul_one,hq];rfl)
  · cases hx
theorem qOL(F:Hp)(hK:qAG F ⟨3,0,none⟩ (Sha.K.map W32))(x:Hd)(A:Option Addr)(c:Nat)(hg:x.good)(hsl:Sl F 1 A x.nodes.length c (qAH x.nodes))(d a sl nd:Nat)(hd:d≤4)(hxd:x.dep=((d:Nat):Int))(hx:x.err=0)(h1:1≤nd)(h2:nd≤sl)(h3:sl≤a)(h4:a≤64)(W:Nat→List Int)(hW:qVb x.dig (2^d) a sl W):
    Ct prog 236 [.agg #[N64 x.ep,Str x.par,I x.dep,I x.aud,.slice A x.nodes.length c],I (a:Nat),.agg #[I (sl:Nat),I (nd:Nat)]] [F] (λr:WnR=> .tuple #[.slice r.A r.ws.length r.c,I 0]) (WnP W (2^d) sl) (λr=> [F,r.mr,r.G]):=by
  have hdl:=qJi hx
  have hdn:x.dig≠ []:=λe=>by rw [e] at hdl;exact absurd hdl xC
  have hpw:=qXE hd
  have hcn:=qDC hd
  refine Ct.walk func236 O ntmps236 O (λw0 hw0=>?_)
  refine J.f λ_ j1=>J.q (qAb O O O) O λg3 _=>J.q (qAb O O O) O λg5 _=>J.p 2 O<|J.c j1 ?_
  refine J.f λ_ j2=>J.c0 1 qGA qDP O O O O O<|J.q (qAZ O O (λF' hF=>qCo F' (hK.mo hF) x A c hg (hsl.mono (Fa hF)))) O λg14 _=>J.b O<|J.c j2 ?_
  refine J.k λ_ j3=>J.f λ_ j4=>J.b O<|J.g ((qBY O O O).no (hdn)) O<|J.b O<|J.G (qAA O O qHp O z3_ O) O<|J.G (qAD 2 O O O b3_ O) O<|J.G ((qAS O O O).no xB) O<|J.p 2 O<|J.G (qAA O O qHp O z3_ O) O<|J.G (qAD 2 O O O b3_ O) O<|J.G (qAA O O qHp O z3_ O) O<|J.G (qAD 2 O O O b3_ O) O<|J.G ((qA5 O O O).no xB) O<|J.b O<|J.c j4 ?_
  refine J.a3 ?_
  refine J.M j3 ?_
  refine J.f λ_ j5=>J.b O<|J.c j5 ?_
  refine J.k λ_ j6=>J.f λ_ j7=>J.W 2 qEJ z3_ O O O O O<|J.a6 1 b3_ O O O O O<|J.q (qAZ O O (λF' hF=>(by have:=qCP F' x.dep;rw [hxd,hcn] at this;rw [hxd];exact this))) O λg31 _=>J.b O<|J.c j7 ?_
  refine J.T<|J.b5 (X:=Nat×List WnD×Option Addr×Nat×Hp×Hp) (λζ=> [(1,I (a:Nat)),(5,Ptr g5),(8,Str (x.dig)),(9,.slice ζ.2.2.1 ζ.2.1.length ζ.2.2.2.1),(31,I (2^d:Nat)),(32,I (ζ.1:Nat))]) (λζ=> [ζ.2.2.2.2.2,F,blk g3 [N64 x.ep,Str (x.par),I (x.dep),I (x.aud),.slice A x.nodes.length c] 52,blk g5 [I (sl:Nat),I (nd:Nat)] 191,ζ.2.2.2.2.1]) (λζ=>ζ.1≤2^d∧ζ.2.1.length=ζ.1∧Row ζ.2.2.2.2.1 83 1 ζ.2.2.1 ζ.2.1.length ζ.2.2.2.1 (qPR ζ.2.1)∧qEu ζ.2.2.2.2.2 W sl ζ.2.1) (λζ=>2^d-ζ.1) (0,[],none,0,(λ_=>none),(λ_=>none)) (⟨jE _,O,qBZ.nil,qEu.nil _ _ _⟩) ⟨O,O,O,O,O,O,trivial⟩ (λ_ h=>h.empty.empty.pick [3,0,1,2,4] xC) ?_
  rintro⟨i,ws,Ar,cr,mr,G⟩ ⟨hi,hwsl,hrw,hok⟩ I0 hI0
  dsimp only at hi hwsl hrw hok⊢
  refine J.f λ_ j8=>J.g (qAS O O O) O<|J.c j8 ?_
  refine J.k λ_ j9=>J.Z O (λh33=>?_) (λh33=>?_)
  ·
    refine J.M j9 ?_
    refine J.k λ_ j10=>J.T<|J.f λ_ j11=>J.p 2 O<|J.c j11 ?_
    refine J.k λ_ j12=>?_
    obtain ⟨st,hst⟩:=hW i xB
    refine J.H<|J.p 3 O<|J.W 0 qHp z3_ O O O O O<|J.a6 3 b3_ O O O O O<|J.q (qBb O O (λF' hF=>of_ct F' (hK.mo hF) x.dig (by rw [hdl];decide) i a sl xB h4 xB h3 1 (W i) st hst)) O ?_
    rintro g41 _
    have hwl:(W i).length=a:=qMy hst
    have htl:((W i).take sl).length=sl:=by rw [jF];omega
    rw [show(Value.slice (some ⟨g41,0,none⟩) sl sl)= .slice (some ⟨g41,0,none⟩) ((W i).take sl).length sl by rw [htl]]
    refine J.p 5 O<|J.c j12 ?_
    refine J.k λ_ j13=>J.f λ_ j14=>J.b O<|J.g ((qAV O O O).no xC) O<|J.c j14 ?_
    refine J.a3 ?_
    refine J.M j13 ?_
    obtain ⟨wx,hwx⟩: ∃x:WnD,x=⟨(some ⟨g41,0,none⟩),sl,(W i).take sl⟩:=⟨_,rfl⟩
    refine J.H<|J.p 2 O<|J.q (qAE (l:= [.tmp 48]) (xs:= [[.slice (some ⟨g41,0,none⟩) (((W i).take sl).length) sl]]) O O O O qOR el83 O xC xC xD) O λg49 _=>J.q (qAX (i:=4) (m2:=blk g49 [.slice (some ⟨g41,0,none⟩) (((W i).take sl).length) sl] 83) O O O qOR qOR el83 O hrw xD ((qAm (q:=True) (xs:=qPR [(⟨(some ⟨g41,0,none⟩),sl,((W i).take sl)⟩:WnD)]) O (by intro x hx;rw [List.mem_singleton.1 hx];rfl)).sl) O xB xB) O ?_
    rintro⟨A50,c50,m50⟩ h50
    try dsimp only at h50
    replace h50:Row m50 83 1 A50 (ws.length+1) c50 (qPR (ws++ [wx])):=by rw [qPi,hwx];exact h50
    rw [show ws.length+1=(ws++ [wx]).length by rw [jA];rfl] at h50⊢
    refine J.b O<|J.c2 [0,5,1,2,3,4] [G,blk g41 ((W i).map λx=>I x) 3,F,blk g3 [N64 x.ep,Str (x.par),I (x.dep),I (x.aud),.slice A x.nodes.length c] 52,blk g5 [I (sl:Nat),I (nd:Nat)] 191,m50] O xC<|J.d5 (λhj=>?_)
    refine J.a4<|J.a2<|J.u (J.D j10 ?_)
    exact J.H<|J.g ((qAR O O O xB).nat (i+1) xB) O<|J.b O<|J.a4<|J.u<|J.a8 (i+1,ws++ [wx],A50,c50,m50,U [G,blk g41 ((W i).map λx=>I x) 3]) (λη (hη:_∧2^d-η.1<2^d-i)=>hI0 η hη.1 hη.2) ⟨⟨by dsimp only;omega,by dsimp only;rw [jA,hwsl];rfl,h50,(hok.mono (qSw hj)).snoc (by rw [hwx,hwsl]) (by rw [hwx];exact htl) (by rw [hwx];exact(qWi hwl h3).mono (qYj hj))⟩,by first|omega|(dsimp only;omega)⟩ ⟨O,O,O,O,O,O,trivial⟩ (λ_ h=>h)
  refine J.b3<|J.a0<|J.a0<|J.b4 ?_
  refine J.u (J.D j6 ?_)
  refine J.f λ_ j15=>J.p 3 O<|J.c j15 ?_
  exact J.A<|J.a9 hw0 (λ_ _ h=>h) (qBw O O O) (qAg (⟨Ar,cr,mr,G,ws⟩:WnR) O ⟨by dsimp only;omega,hrw,hok⟩ [1,4,0] O xC)
end Go.Proofs.YtmemgokiolfdoaaGreatDoor