/- A part of the proof. -/
import Derived.Test.YtcgcjaflllmlpaaGreatDoorTopCfG8
import Derived.Test.YtcgcjaflllmlpaaGreatDoorTopCfG27
import Derived.Test.YtcgcjaflllmlpaaGreatDoorTopCfG28
import Derived.Test.YtcgcjaflllmlpaaGreatDoorTopCfG6
set_option linter.unusedSimpArgs false
set_option linter.unusedVariables false
namespace Go.Proofs.YtcgcjaflllmlpaaGreatDoor
open Go Go.Fw Go.Proofs.Tryz
set_option maxRecDepth 100000
set_option maxHeartbeats 1000000
theorem el38:qCe prog 38 [.slice none 0 0] 24:=qCe.of (by kernel_rfl) rfl
theorem qOh{l:List Int}{k:Nat}(h:k<l.length):(qFc l)[k]?=some [I (l.getD k 0)]:=by
 unfold qFc
 rw [jO,jC h,jB,jC h];rfl
structure WnD where
 lA:Option Addr
 lc:Nat
 l:List Int
def WnD.cells(x:WnD):List Value:= [.slice x.lA x.l.length x.lc]
def qDj:WnD:=⟨none,0,[]⟩
def qOv(l:List WnD):List (List Value):=l.map WnD.cells
theorem qIC{l:List WnD}{k:Nat}(h:k<l.length):(qOv l)[k]?=some (l.getD k qDj).cells:=by
 unfold qOv
 rw [jO,qAj qDj h];rfl
theorem qPB(a:List WnD)(x:WnD):qOv (a++ [x])=qOv a++ [x.cells]:=by simp [qOv]
theorem qFG{α:Type}(l:List α)(x no:α)(j:Nat)(h:j<l.length+1):(l++ [x]).getD j no=if j<l.length then l.getD j no else x:=by
  rw [jB]
  by_cases hlt:j<l.length
  · rw [if_pos hlt,jh hlt,←jB]
  · obtain rfl:j=l.length:=by omega
    rw [if_neg hlt,ji (jK _),zH];rfl
theorem qK4{a b:Hp}(h:Dj a b):Le a (U [a,b]):=qEy (qAZ.2 (by simpa using h)) (.head _)
theorem qSK{a b:Hp}(h:Dj a b):Le b (U [a,b]):=qEy (qAZ.2 (by simpa using h)) (.tail _ (.head _))
def qES(G:Hp)(W:Nat→List Int)(sl:Nat)(ws:List WnD):Prop:= ∀b,b<ws.length→(ws.getD b qDj).l=(W b).take sl∧(ws.getD b qDj).l.length=sl∧Sl G 1 (ws.getD b qDj).lA (ws.getD b qDj).l.length (ws.getD b qDj).lc (qFc (ws.getD b qDj).l)
theorem qES.mono{G G':Hp}{W:Nat→List Int}{sl:Nat}{ws:List WnD}(h:qES G W sl ws)(hl:Le G G'):qES G' W sl ws:=λb hb=>⟨(h b hb).1,(h b hb).2.1,(h b hb).2.2.mono hl⟩
theorem qES.nil(G:Hp)(W:Nat→List Int)(sl:Nat):qES G W sl []:=λb h=>absurd h (zA b)
theorem qES.snoc{G:Hp}{W:Nat→List Int}{sl:Nat}{ws:List WnD}{x:WnD}(h:qES G W sl ws)(h1:x.l=(W ws.length).take sl)(h2:x.l.length=sl)(h3:Sl G 1 x.lA x.l.length x.lc (qFc x.l)):qES G W sl (ws++ [x]):=λb hb=>by
 rw [jA,jH] at hb
 rw [qFG ws x qDj b hb]
 split
 · exact h b (by omega)
 · rw [show b=ws.length by omega];exact⟨h1,h2,h3⟩
def qMH(dg:List UInt8)(n a sl:Nat)(W:Nat→List Int):Prop:= ∀b,b<n→ ∃st,Wd.wins 1 a (Sha.Strm.new (Wd.seedOf dg b)) sl=some (W b,st)
theorem qMM{fuel a:Nat}{s0:Sha.Strm}: ∀{k:Nat} {x:List Int×Sha.Strm},Wd.wins fuel a s0 k=some x→x.1.length=a
 |0,x,h=>by
  have:(Wd.start a,s0)=x:=zY h
  rw [←this];simp [Wd.start]
 |k+1,x,h=>by
  obtain ⟨z,hz,h2⟩:=Option.bind_eq_some_iff.1 (show(Wd.wins fuel a s0 k).bind _=some x from h)
  obtain ⟨y,_,h3⟩:=Option.map_eq_some_iff.1 h2
  rw [←h3]
  dsimp only
  rw [jm,jm];exact qMM hz
structure WnR where
 A:Option Addr
 c:Nat
 mr:Hp
 G:Hp
 ws:List WnD
structure WnP (W:Nat→List Int) (n sl:Nat) (r:WnR):Prop where
 len:r.ws.length=n
 row:Row r.mr 38 1 r.A r.ws.length r.c (qOv r.ws)
 ok:qES r.G W sl r.ws
theorem qVz{g a sl:Nat}{l:List Int}(hl:l.length=a)(hs:sl≤a):Sl (blk g (l.map λx=>I x) 3) 1 (some ⟨g,0,none⟩) (l.take sl).length sl (qFc (l.take sl)):=by
  refine⟨by simp [qFc],by rw [jF];omega,λi x hx=>?_⟩
  unfold qFc at hx
  rw [jO,zF] at hx
  split at hx
  · rename_i hi
    cases hq:l[i]? with
    |none=>rw [hq] at hx;cases hx
    |some v=>
      rw [hq] at hx
      have hx2: [I v]=x:=zY hx
      subst hx2
      refine⟨rfl,⟨g,0,none⟩,rfl,?_⟩
      rw [Addr.add_lit]
      exact qAR.blk1 (0+i*1) (by rw [jO,jj,Nat.mul_one,hq];rfl)
  · cases hx
theorem qHT(F:Hp)(hK:KF F)(x:Hd)(A:Option Addr)(c:Nat)(hg:x.good)(hsl:Sl F 1 A x.nodes.length c (qAI x.nodes))(d a sl nd:Nat)(hd:d≤4)(hxd:x.dep=((d:Nat):Int))(hx:x.err=0)(h1:1≤nd)(h2:nd≤sl)(h3:sl≤a)(h4:a≤64)(W:Nat→List Int)(hW:qMH x.dig (2^d) a sl W):
    Ct prog 32 [.agg #[N64 x.ep,Str x.par,I x.dep,I x.aud,.slice A x.nodes.length c],I ((a:Nat):Int),.agg #[I ((sl:Nat):Int),I ((nd:Nat):Int)]] [F] (λr:WnR=> .tuple #[.slice r.A r.ws.length r.c,I 0]) (WnP W (2^d) sl) (λr=> [F,r.mr,r.G]):=by
  have hdl:=qL7 hx
  have hdn:x.dig≠ []:=λe=>by rw [e] at hdl;exact absurd hdl (by decide)
  have hpw:=qWV hd
  have hcn:=qCt hd
  refine Ct.walk func32 rfl ntmps32 rfl (λw0 hw0=>?_)
  refine J.f λ_ j1=>J.p (qAd O O O) O λg3 _=>J.p (qAd O O O) O λg5 _=>J.q 2 O<|J.c j1 ?_
  refine J.f λ_ j2=>J.b7 1 qDT qBz O O O O O<|J.p (qAB O O ent33 (Ct.use0 (λF' hF=>qCW F' (hK.mo hF) x A c hg (hsl.mono (Fa hF))))) O λg14 _=>J.b O<|J.c j2 ?_
  refine J.k λ_ j3=>J.f λ_ j4=>J.b O<|J.g ((qBS O O O).no (hdn)) O<|J.b O<|J.G (qAA O O qPR O z3_ O) O<|J.G (qAE 2 O O O b3_ O) O<|J.G ((qAT O O O).no (by omega)) O<|J.q 2 O<|J.G (qAA O O qPR O z3_ O) O<|J.G (qAE 2 O O O b3_ O) O<|J.G (qAA O O qPR O z3_ O) O<|J.G (qAE 2 O O O b3_ O) O<|J.G ((qA5 O O O).no (by omega)) O<|J.b O<|J.c j4 ?_
  refine J.a1 ?_
  refine J.M j3 ?_
  refine J.f λ_ j5=>J.b O<|J.c j5 ?_
  refine J.k λ_ j6=>J.f λ_ j7=>J.T 2 qDW z3_ O O O O O<|J.a5 1 b3_ O O O O O<|J.p (qAB O O ent51 (Ct.use0 (λF' hF=>(by have:=qCF F' x.dep;rw [hxd,hcn] at this;rw [hxd];exact this)))) rfl λg31 _=>J.b rfl<|J.c j7 ?_
  refine J.O<|J.b4 (X:=Nat×List WnD×Option Addr×Nat×Hp×Hp) (λζ=> [(1,I ((a:Nat):Int)),(5,Ptr g5),(8,Str (x.dig)),(9,.slice ζ.2.2.1 ζ.2.1.length ζ.2.2.2.1),(31,I ((2^d:Nat):Int)),(32,I ((ζ.1:Nat):Int))]) (λζ=> [ζ.2.2.2.2.2,F,blk g3 [N64 x.ep,Str (x.par),I (x.dep),I (x.aud),.slice A x.nodes.length c] 34,blk g5 [I ((sl:Nat):Int),I ((nd:Nat):Int)] 26,ζ.2.2.2.2.1]) (λζ=>ζ.1≤2^d∧ζ.2.1.length=ζ.1∧Row ζ.2.2.2.2.1 38 1 ζ.2.2.1 ζ.2.1.length ζ.2.2.2.1 (qOv ζ.2.1)∧qES ζ.2.2.2.2.2 W sl ζ.2.1) (λζ=>2^d-ζ.1) (0,[],none,0,(λ_=>none),(λ_=>none)) (⟨jG _,O,qBb.nil,qES.nil _ _ _⟩) ⟨O,O,O,O,O,O,trivial⟩ (λ_ h=>h.empty.empty.pick [3,0,1,2,4] (by decide)) ?_
  rintro⟨i,ws,Ar,cr,mr,G⟩ ⟨hi,hwsl,hrw,hok⟩ I0 hI0
  dsimp only at hi hwsl hrw hok⊢
  refine J.f λ_ j8=>J.g (qAT O O O) O<|J.c j8 ?_
  refine J.k λ_ j9=>J.W O (λh33=>?_) (λh33=>?_)
  ·
    refine J.M j9 ?_
    refine J.k λ_ j10=>J.O<|J.f λ_ j11=>J.q 2 O<|J.c j11 ?_
    refine J.k λ_ j12=>?_
    obtain ⟨st,hst⟩:=hW i (by omega)
    refine J.H<|J.q 3 O<|J.T 0 qPR z3_ O O O O O<|J.a5 3 b3_ O O O O O<|J.p (qAB O O ent77 (Ct.use (λF' hF=>of_ct F' (hK.mo hF) x.dig (by rw [hdl];decide) i a sl (by omega) h4 (by omega) h3 1 (W i) st hst))) rfl ?_
    rintro g41 _
    have hwl:(W i).length=a:=qMM hst
    have htl:((W i).take sl).length=sl:=by rw [jF];omega
    rw [show(Value.slice (some ⟨g41,0,none⟩) sl sl)= .slice (some ⟨g41,0,none⟩) ((W i).take sl).length sl by rw [htl]]
    refine J.q 5 O<|J.c j12 ?_
    refine J.k λ_ j13=>J.f λ_ j14=>J.b O<|J.g ((qAe O O O).no (by decide)) O<|J.c j14 ?_
    refine J.a1 ?_
    refine J.M j13 ?_
    obtain ⟨wx,hwx⟩: ∃x:WnD,x=⟨(some ⟨g41,0,none⟩),sl,(W i).take sl⟩:=⟨_,rfl⟩
    refine J.H<|J.q 2 O<|J.p (qAG (l:= [.tmp 48]) (xs:= [[.slice (some ⟨g41,0,none⟩) (((W i).take sl).length) sl]]) O O O O qIJ el38 O (by decide) (by decide) (by simp)) rfl λg49 _=>J.p (qAV (i:=4) (m2:=blk g49 [.slice (some ⟨g41,0,none⟩) (((W i).take sl).length) sl] 38) rfl rfl rfl qIJ qIJ el38 rfl hrw (by simp) ((qAl (q:=True) (xs:=qOv [(⟨(some ⟨g41,0,none⟩),sl,((W i).take sl)⟩:WnD)]) rfl (by intro x hx;rw [List.mem_singleton.1 hx];rfl)).sl) rfl (by omega) (by omega)) rfl ?_
    rintro⟨A50,c50,m50⟩ h50
    try dsimp only at h50
    replace h50:Row m50 38 1 A50 (ws.length+1) c50 (qOv (ws++ [wx])):=by rw [qPB,hwx];exact h50
    rw [show ws.length+1=(ws++ [wx]).length by rw [jA];rfl] at h50⊢
    refine J.b O<|J.c1 [0,5,1,2,3,4] [G,blk g41 ((W i).map λx=>I x) 3,F,blk g3 [N64 x.ep,Str (x.par),I (x.dep),I (x.aud),.slice A x.nodes.length c] 34,blk g5 [I ((sl:Nat):Int),I ((nd:Nat):Int)] 26,m50] O (by decide)<|J.d1 (λhj=>?_)
    refine J.a3<|J.a2<|J.u (J.D j10 ?_)
    exact J.H<|J.g ((qAS O O O (by omega)).nat (i+1) (by omega)) O<|J.b O<|J.a3<|J.u<|J.a4 (i+1,ws++ [wx],A50,c50,m50,U [G,blk g41 ((W i).map λx=>I x) 3]) (λη (hη:_∧2^d-η.1<2^d-i)=>hI0 η hη.1 hη.2) ⟨⟨by dsimp only;omega,by dsimp only;rw [jA,hwsl];rfl,h50,(hok.mono (qK4 hj)).snoc (by rw [hwx,hwsl]) (by rw [hwx];exact htl) (by rw [hwx];exact(qVz hwl h3).mono (qSK hj))⟩,by first|omega|(dsimp only;omega)⟩ ⟨rfl,rfl,rfl,rfl,rfl,rfl,trivial⟩ (λ_ h=>h)
  refine J.b2<|J.a0<|J.a0<|J.b3 ?_
  refine J.u (J.D j6 ?_)
  refine J.f λ_ j15=>J.q 3 O<|J.c j15 ?_
  exact J.A<|J.a9 hw0 (λ_ _ h=>h) (qCG O O O) (qAq (⟨Ar,cr,mr,G,ws⟩:WnR) O ⟨by dsimp only;omega,hrw,hok⟩ [1,4,0] O (by decide))
theorem qVZ(x m j:Nat):(x^^^2^m)/2^j%2=if j=m then 1-x/2^j%2 else x/2^j%2:=by
  have h1:=Nat.testBit_eq_decide_div_mod_eq (x:=x^^^2^m) (i:=j)
  have h2:=Nat.testBit_eq_decide_div_mod_eq (x:=x) (i:=j)
  rw [Nat.testBit_xor,Nat.testBit_two_pow,h2] at h1
  have a1:(x^^^2^m)/2^j%2<2:=Nat.mod_lt _ (by decide)
  have a2:x/2^j%2<2:=Nat.mod_lt _ (by decide)
  by_cases h:j=m
  · rw [if_pos h]
    rw [decide_eq_true h.symm] at h1
    by_cases h3:x/2^j%2=1
    · rw [decide_eq_true h3] at h1
      have: ¬(x^^^2^m)/2^j%2=1:=by simpa using h1.symm
      omega
    · rw [decide_eq_false h3] at h1
      have:(x^^^2^m)/2^j%2=1:=by simpa using h1.symm
      omega
  · rw [if_neg h]
    rw [show decide (m=j)=false from decide_eq_false (λe=>h e.symm),Bool.xor_false] at h1
    have:=decide_eq_decide.1 h1
    omega
def turn(k:List UInt8)(d:Nat):List UInt8:=k.set (d/8) (k.getD (d/8) 0^^^UInt8.ofNat (1*2^(7-d%8)))
theorem qB6(k:List UInt8)(d:Nat):(turn k d).length=k.length:=by unfold turn;rw [jm]
theorem qEY{k:List UInt8}(hk:k.length=16){d i:Nat}(hd:d<128)(hi:i<128):Sm.bit (turn k d) i=if i=d then 1-Sm.bit k i else Sm.bit k i:=by
  have hlt:i<8*k.length:=by omega
  unfold Sm.bit
  rw [qB6,if_pos hlt,if_pos hlt]
  unfold turn
  have h1:(1*2^(7-d%8))%256=2^(7-d%8):=by
    rw [Nat.one_mul]
    exact jd (zQ (jf (by decide) (show 7-d%8≤7 by omega)) (by decide))
  by_cases hq:i/8=d/8
  · rw [hq]
    have hg:(k.set (d/8) (k.getD (d/8) 0^^^UInt8.ofNat (1*2^(7-d%8)))).getD (d/8) 0=k.getD (d/8) 0^^^UInt8.ofNat (1*2^(7-d%8)):=by
      rw [jB,List.getElem?_set_self (by omega)];rfl
    rw [hg,UInt8.toNat_xor,show(UInt8.ofNat (1*2^(7-d%8))).toNat=2^(7-d%8) by rw [zb];exact h1,qVZ]
    by_cases hid:i=d
    · rw [if_pos (by rw [hid]),if_pos hid]
    · rw [if_neg (by omega),if_neg hid]
  · rw [jB,List.getElem?_set_ne (λe=>hq e.symm),←jB,if_neg (λe=>hq (by rw [e]))]
theorem qPU{k:List UInt8}(hk:k.length=16){d:Nat}(hd:d<128):Sm.kv (turn k d)/2^(127-d)=2*(Sm.kv k/2^(128-d))+(1-Sm.bit k d):=by
 have h1:Sm.belowB (turn k d) k d=true:=Sm.belowB_yes λi hi=>by rw [qEY hk hd (by omega),if_neg (by omega)]
 have h2:=(Sm.belowB_kv ((qB6 k d).trans hk) hk (by omega)).1 h1
 have e:=Sm.pre_succ (Sm.kv (turn k d)) (127-d)
 rw [show 127-d+1=128-d by omega,h2,←Sm.bit_kv ((qB6 k d).trans hk) hd,qEY hk hd hd,if_pos rfl] at e
 exact e
theorem qPk{k:List UInt8}(hk:k.length=16){d:Nat}(hd:d<128):Sm.kv k/2^(127-d)=2*(Sm.kv k/2^(128-d))+Sm.bit k d:=by
 have e:=Sm.pre_succ (Sm.kv k) (127-d)
 rw [show 127-d+1=128-d by omega,←Sm.bit_kv hk hd] at e
 exact e
def up(k:List UInt8)(d:Nat)(x s:List UInt8):List UInt8:=if Sm.bit k d=0 then Sb.join x s else Sb.join s x
theorem qPO{kv:List Sm.PR}(hf:qCJ kv){k:List UInt8}(hk:k.length=16){d:Nat}(hd:d<128):up k d (Sm.ndB kv k (d+1)) (Sm.ndB kv (turn k d) (d+1))=Sm.ndB kv k d:=by
  have hb:=Sm.bit_le k d
  have ht:=qPU hk hd
  have hs:=qPk hk hd
  unfold up
  split
  · rename_i h
    rw [h] at ht hs
    exact Sm.ndB_join hf.once hf.k16 hk hk ((qB6 k d).trans hk) hd hs ht
  · rename_i h
    rw [show Sm.bit k d=1 by omega] at ht hs
    exact Sm.ndB_join hf.once hf.k16 hk ((qB6 k d).trans hk) hk hd ht hs
def bsd(kv:List Sm.PR)(k:List UInt8)(d n:Nat):List (List UInt8):=(List.range n).map λi=>Sm.ndB kv (turn k (d+i)) (d+i+1)
theorem qUS(kv:List Sm.PR)(k:List UInt8)(d n:Nat):bsd kv k d (n+1)=bsd kv k d n++ [Sm.ndB kv (turn k (d+n)) (d+n+1)]:=by unfold bsd;rw [jw,jM];rfl
theorem qCc(kv:List Sm.PR)(k:List UInt8)(d n:Nat):(bsd kv k d n).length=n:=by unfold bsd;rw [jN,zV]
theorem qMA(kv:List Sm.PR)(k:List UInt8)(d:Nat){n i:Nat}(hi:i<n):(bsd kv k d n).getD i []=Sm.ndB kv (turn k (d+i)) (d+i+1):=by
 unfold bsd
 rw [jB,jO,jv hi];rfl
def clm(k:List UInt8)(d:Nat)(bs:List (List UInt8))(x:List UInt8):Nat→List UInt8
 |0=>x
 |i+1=>up k (d+(bs.length-1-i)) (clm k d bs x i) (bs.getD (bs.length-1-i) [])
theorem qJH{kv:List Sm.PR}(hf:qCJ kv){k:List UInt8}(hk:k.length=16){d n:Nat}(hd:d+n≤128): ∀i,i≤n→clm k d (bsd kv k d n) (Sm.ndB kv k (d+n)) i=Sm.ndB kv k (d+n-i)
 |0,_=>rfl
 |i+1,hi=>by
  rw [clm,qJH hf hk hd i (by omega),qCc,qMA _ _ _ (by omega)]
  have h:=qPO hf hk (d:=d+(n-1-i)) (by omega)
  rw [show d+(n-1-i)+1=d+n-i by omega] at h⊢
  rw [h,show d+(n-1-i)=d+n-(i+1) by omega]
theorem qNP{a b:List UInt8}(ha:a.length≤17)(hb:b.length≤17):(Sb.join a b).length≤17:=by
  have e:Sb.join a b=if a= [0]∧(b= [0]∨Sb.isLf b) then b else if b= [0]∧Sb.isLf a then a else 2::Sha.tagged 10 [a,b]:=by unfold Sb.join;rfl
  rw [e]
  split
  · exact hb
  · split
    · exact ha
    · rw [jD,Sha.tagged_length];decide
theorem qKj{k:List UInt8}{d:Nat}{bs:List (List UInt8)}{x:List UInt8}(hb: ∀s∈bs,s.length≤17)(hx:x.length≤17): ∀i,(clm k d bs x i).length≤17
 |0=>hx
 |i+1=>by
  have h1:=qKj (k:=k) (d:=d) hb hx i
  have h2:(bs.getD (bs.length-1-i) []).length≤17:=by
   by_cases h:bs.length-1-i<bs.length
   · rw [jB,jC h];exact hb _ (jX h)
   · rw [jB,jg (by omega)];exact jG _
  rw [clm,up]
  split
  · exact qNP h1 h2
  · exact qNP h2 h1
def cur(kv:List Sm.PR)(k:List UInt8)(d:Nat):List Sm.PR:=Sm.bel kv k d
def kd(kv:List Sm.PR)(k:List UInt8)(d:Nat):List (List UInt8):=(Sm.keysS kv).filter λq=>Sm.belowB q k d
theorem qHq{kv:List Sm.PR}(ho:Sm.Once kv)(k:List UInt8)(d:Nat):(kd kv k d).length=(cur kv k d).length:=by
 have h:(Sm.prs kv (kd kv k d)).length=(kd kv k d).length:=Sm.prs_len _ _
 rw [←h]
 unfold kd
 rw [Sm.prs_filter]
 exact((Sm.prs_perm ho).filter _).length_eq
theorem qOq{q k:List UInt8}{d:Nat}(h:Sm.belowB q k (d+1)=true):Sm.belowB q k d=true:=by
 rw [Sm.belowB_succ,jY] at h;exact h.1
theorem qXA(kv:List Sm.PR)(k:List UInt8)(d:Nat):(kd kv k d).filter (λq=>Sm.belowB q k (d+1))=kd kv k (d+1):=by
 unfold kd
 rw [zl]
 refine zr λq _=>?_
 cases h:Sm.belowB q k (d+1) with
 |false=>rfl
 |true=>rw [qOq h];rfl
structure qKv (kv:List Sm.PR) (k:List UInt8) (d s:Nat):Prop where
 ge:d≤s
 le:s≤128
 one:(cur kv k s).length≤1
 two: ∀e,d≤e→e<s→2≤(cur kv k e).length
theorem qKv.from{kv:List Sm.PR}{k:List UInt8}{d e s:Nat}(h:qKv kv k d s)(h1:d≤e)(h2:e≤s):qKv kv k e s:=⟨h2,h.le,h.one,λx q1 q2=>h.two x (by omega) q2⟩
theorem qXQ{kv:List Sm.PR}(hf:qCJ kv){k:List UInt8}(hk:k.length=16):(cur kv k 128).length≤1:=(Sm.bel_wf hf.once hf.k16 hk (d:=128) (jK _)).short
def qAo(kv:List Sm.PR)(k:List UInt8)(s:Nat):Bool:=decide ((kd kv k s).length=1)
def qBo(kv:List Sm.PR)(k:List UInt8)(s:Nat):List UInt8:=if(kd kv k s).length=1 then(kd kv k s).getD 0 [] else []
def qBr(kv:List Sm.PR)(k:List UInt8)(s:Nat):List UInt8:=if(kd kv k s).length=1 then(Sm.getP kv ((kd kv k s).getD 0 [])).getD [] else []
theorem qJD{kv:List Sm.PR}(ho:Sm.Once kv){k:List UInt8}{s:Nat}(h:(kd kv k s).length=1):cur kv k s= [(qBo kv k s,qBr kv k s)]:=by
 obtain ⟨q,hq⟩:=List.length_eq_one_iff.1 h
 have h1:(cur kv k s).Perm (Sm.prs kv (kd kv k s)):=by
  unfold kd
  rw [Sm.prs_filter]
  exact(Sm.prs_perm ho).symm.filter _
 unfold qBo qBr
 rw [if_pos h,if_pos h,hq]
 rw [hq] at h1
 exact List.perm_singleton.1 h1
theorem qIv: ∀{f:Nat} {l:List Sm.PR},Sm.WF f l→Sm.nd f l= [0]∨((Sm.nd f l).length=17∧(((Sm.nd f l).getD 0 0).toNat=1∨((Sm.nd f l).getD 0 0).toNat=2))
  |f,[],_=> .inl (Sm.nd_nil f)
  |f,[p],_=> .inr (by rw [Sm.nd_one];unfold Sb.leafN;exact⟨by rw [jD,Sha.tagged_length],.inl rfl⟩)
  |0,a::b::r,hw=>by have:=hw.short;simp at this
  |f+1,a::b::r,hw=>by
    rw [Sm.nd_two f (by simp)]
    have e: ∀x y,Sb.join x y=if x= [0]∧(y= [0]∨Sb.isLf y) then y else if y= [0]∧Sb.isLf x then x else 2::Sha.tagged 10 [x,y]:=λx y=>by unfold Sb.join;rfl
    rw [e]
    split
    · exact qIv (hw.side false)
    · split
      · exact qIv (hw.side true)
      · exact .inr ⟨by rw [jD,Sha.tagged_length],.inr rfl⟩
theorem qLm: ∀{f:Nat} {l:List Sm.PR},Sm.WF f l→2≤l.length→((Sm.nd f l).getD 0 0).toNat=2
  |0,l,hw,h=>by have:=hw.short;omega
  |f+1,l,hw,h=>by
    rw [Sm.nd_two f h]
    have e: ∀x y,Sb.join x y=if x= [0]∧(y= [0]∨Sb.isLf y) then y else if y= [0]∧Sb.isLf x then x else 2::Sha.tagged 10 [x,y]:=λx y=>by unfold Sb.join;rfl
    have hs:=Sm.side_len f l
    have z1:=Sm.nd_eq0 (hw.side true)
    have z2:=Sm.nd_eq0 (hw.side false)
    rw [e]
    split
    · rename_i hc
      have h0:(Sm.side f true l).length=0:=by rw [z1.1 hc.1];rfl
      have h2:=qLm (hw.side false) (by omega)
      exact h2
    · split
      · rename_i hc
        have h0:(Sm.side f false l).length=0:=by rw [z2.1 hc.1];rfl
        exact qLm (hw.side true) (by omega)
      · rfl
def qQj(s:List UInt8):Bool:=decide (s= [0]∨(s.length=17∧((s.getD 0 0).toNat=1∨(s.getD 0 0).toNat=2)))
structure qK0 (bs:List (List UInt8)) (th:Bool) (pk pv k:List UInt8) (d:Nat):Prop where
 k16:k.length=16
 le:d+bs.length≤128
 nodes: ∀j,j<bs.length→qQj (bs.getD j [])=true
 last:0<bs.length→bs.getD (bs.length-1) []≠ [0]∧(th=false→((bs.getD (bs.length-1) []).getD 0 0).toNat=2)
 no:th=false→pk= []∧pv= []
 yes:th=true→pk.length=16∧Sm.belowB pk k (d+bs.length)=true
 small: ∀s∈bs,s.length≤17
theorem qRs(kv:List Sm.PR)(k:List UInt8)(d n:Nat): ∀s∈bsd kv k d n,s.length≤17:=λs hs=>by
 unfold bsd at hs
 obtain ⟨i,_,rfl⟩:=List.mem_map.1 hs
 exact qQm _ _ _
theorem qVK{kv:List Sm.PR}{k q:List UInt8}{s:Nat}(h:q∈kd kv k s):(∃v,(q,v)∈kv)∧Sm.belowB q k s=true:=by
 obtain ⟨h1,h2⟩:=List.mem_filter.1 h
 exact⟨Sm.keysS_mem.1 h1,h2⟩
theorem qQV{kv:List Sm.PR}(hf:qCJ kv){k:List UInt8}(hk:k.length=16){e:Nat}(he:e<128):(cur kv k (e+1)).length+(Sm.bel kv (turn k e) (e+1)).length=(cur kv k e).length:=by
  have hb:=Sm.bit_le k e
  have ht:=qPU hk he
  have hs:=qPk hk he
  have h:=Sm.side_len (127-e) (Sm.bel kv k e)
  have hl:=hf.k16
  unfold cur
  by_cases h0:Sm.bit k e=0
  · rw [h0] at ht hs
    rw [Sm.bel_half hl hk hk he true (by rw [if_pos rfl];exact hs),Sm.bel_half hl hk ((qB6 k e).trans hk) he false (by rw [if_neg (by decide)];exact ht)]
    exact h
  · rw [show Sm.bit k e=1 by omega] at ht hs
    rw [Sm.bel_half hl hk hk he false (by rw [if_neg (by decide)];exact hs),Sm.bel_half hl hk ((qB6 k e).trans hk) he true (by rw [if_pos rfl];exact ht)]
    omega
theorem qE7{kv:List Sm.PR}(hf:qCJ kv){k:List UInt8}(hk:k.length=16){d s:Nat}(h:qKv kv k d s):qK0 (bsd kv k d (s-d)) (qAo kv k s) (qBo kv k s) (qBr kv k s) k d:=by
  have hle:=h.le
  have hge:=h.ge
  have ht16: ∀e,(turn k e).length=16:=λe=>(qB6 k e).trans hk
  refine⟨hk,by rw [qCc];omega,λj hj=>?_,λh0=>?_,λht=>?_,λht=>?_,qRs _ _ _ _⟩
  · rw [qCc] at hj
    rw [qMA _ _ _ hj]
    exact decide_eq_true (qIv (Sm.bel_wf hf.once hf.k16 (ht16 _) (by omega)))
  · rw [qCc] at h0⊢
    rw [qMA _ _ _ (by omega)]
    have h2:=h.two (d+(s-d-1)) (by omega) (by omega)
    have ho:=qQV hf hk (e:=d+(s-d-1)) (by omega)
    have hone:=h.one
    rw [show d+(s-d-1)+1=s by omega] at ho⊢
    have hw:=Sm.bel_wf hf.once hf.k16 (ht16 (d+(s-d-1))) (d:=s) hle
    refine⟨λe=>?_,λhth=>?_⟩
    · have:=(Sm.nd_eq0 hw).1 e
      rw [this] at ho
      simp at ho
      omega
    · have h3:(kd kv k s).length≠1:=of_decide_eq_false hth
      rw [qHq hf.once] at h3
      exact qLm hw (by omega)
  · have h3:(kd kv k s).length≠1:=of_decide_eq_false ht
    unfold qBo qBr
    rw [if_neg h3,if_neg h3];exact⟨rfl,rfl⟩
  · have h3:(kd kv k s).length=1:=of_decide_eq_true ht
    obtain ⟨q,hq⟩:=List.length_eq_one_iff.1 h3
    have hm:q∈kd kv k s:=by rw [hq];exact .head _
    obtain ⟨⟨v,hv⟩,hb⟩:=qVK hm
    unfold qBo
    rw [if_pos h3,hq,qCc,show d+(s-d)=s by omega]
    exact⟨hf.k16 _ hv,hb⟩
theorem qUG{kv:List Sm.PR}(hf:qCJ kv){k:List UInt8}{d s:Nat}(h:qKv kv k d s):(if qAo kv k s=true then Sb.leafN (qBo kv k s) (qBr kv k s) else [0])=Sm.ndB kv k s:=by
  unfold Sm.ndB
  have e1:Sm.bel kv k s=cur kv k s:=rfl
  have hone:=h.one
  by_cases h3:(kd kv k s).length=1
  · rw [if_pos (show qAo kv k s=true from decide_eq_true h3),e1,qJD hf.once h3,Sm.nd_one]
  · rw [if_neg (by unfold qAo;rw [decide_eq_false h3];decide)]
    rw [qHq hf.once] at h3
    rw [e1,jU (show(cur kv k s).length=0 by omega),Sm.nd_nil]
theorem tells{kv:List Sm.PR}(hf:qCJ kv){k:List UInt8}{d s:Nat}(h:qKv kv k d s):
    (Sm.getP kv k).isSome=(qAo kv k s&&decide (qBo kv k s=k))∧(qAo kv k s=true→qBo kv k s=k→Sm.getP kv k=some (qBr kv k s)):=by
  have hself:Sm.belowB k k s=true:=Sm.belowB_yes λ_ _=>rfl
  have hone:=h.one
  have hmem: ∀v,Sm.getP kv k=some v→(k,v)∈cur kv k s:=λv hv=>List.mem_filter.2 ⟨Sm.getP_some hv,hself⟩
  by_cases h3:(kd kv k s).length=1
  · have hc:=qJD hf.once h3
    have ht:qAo kv k s=true:=decide_eq_true h3
    have hin:(qBo kv k s,qBr kv k s)∈kv:=(List.mem_filter.1 (show(qBo kv k s,qBr kv k s)∈cur kv k s by rw [hc];exact .head _)).1
    rw [ht,Bool.true_and]
    by_cases hk:qBo kv k s=k
    · have hg:=Sm.getP_mem hf.once hin
      rw [show(qBo kv k s,qBr kv k s).1=k from hk] at hg
      rw [hg,decide_eq_true hk]
      exact⟨rfl,λ_ _=>rfl⟩
    · rw [decide_eq_false hk]
      refine⟨?_,λ_ q=>absurd q hk⟩
      cases hg:Sm.getP kv k with
      |none=>rfl
      |some v=>
        have:=hmem v hg
        rw [hc,jR] at this
        injection this with e _
        exact absurd e.symm hk
  · have ht:qAo kv k s=false:=decide_eq_false h3
    rw [ht,Bool.false_and]
    refine⟨?_,λq=>by cases q⟩
    rw [qHq hf.once] at h3
    have h0:cur kv k s= []:=jU (by omega)
    cases hg:Sm.getP kv k with
    |none=>rfl
    |some v=>
      have:=hmem v hg
      rw [h0] at this;cases this
theorem qNA{s:List UInt8}(h:s= [0]):qQj s=true:=decide_eq_true (.inl h)
theorem qFW{s:List UInt8}(h1:s.length=17)(h2:(s.getD 0 0).toNat=1∨(s.getD 0 0).toNat=2):qQj s=true:=decide_eq_true (.inr ⟨h1,h2⟩)
theorem qDi{s:List UInt8}(h0: ¬s= [0])(h: ¬(s.length=17∧((s.getD 0 0).toNat=1∨(s.getD 0 0).toNat=2))):qQj s=false:=decide_eq_false (λq=>q.elim h0 h)
theorem qTu{s:List UInt8}(h:(s.getD 0 0).toNat=2):0<s.length:=by
 cases s with
 |nil=>cases h
 |cons a r=>exact Nat.zero_lt_succ _
theorem ent87:qAD prog 87:=qAD.of func87 rfl (by kernel_rfl)
theorem ent156:qAD prog 156:=qAD.of func156 rfl (by kernel_rfl)
theorem ent195:qAD prog 195:=qAD.of func195 rfl (by kernel_rfl)
theorem ent220:qAD prog 220:=qAD.of func220 rfl (by kernel_rfl)
theorem qJy(F:Hp)(k:List UInt8)(z:Int):Cz prog 87 [Str (k),I (z)] F (.bool (decide (k.length=16∧0≤z∧z≤128))):=by
 refine Ct.walk func87 rfl ntmps87 rfl (λw0 hw0=>?_)
 refine J.f λ_ j1=>J.b O<|J.c j1<|J.f λ_ j2=>J.b O<|J.g (qAt u9_ O O) O<|J.g (qAg O O O) O<|J.b O<|J.b9 (d:=8) O (λh8=>?_) (λh8=>?_)
 ·
  refine J.b O<|J.G (qBA O O O) O<|J.q 2 O<|J.b9 (d:=12) O (λh12=>?_) (λh12=>?_)
  ·
   exact J.b O<|J.G (qCM O O O) O<|J.q 2 O<|J.c j2<|J.A<|J.E hw0 O () (by first|rw [decide_eq_false (by omega)]|rw [decide_eq_true (by omega)]|exact congrArg Value.bool (decide_eq_decide.2 (by omega))) trivial [0] rfl (by decide)
  exact J.q 4 O<|J.c j2<|J.A<|J.E hw0 O () (by first|rw [decide_eq_false (by omega)]|rw [decide_eq_true (by omega)]|exact congrArg Value.bool (decide_eq_decide.2 (by omega))) trivial [0] rfl (by decide)
 exact J.q 8 O<|J.c j2<|J.A<|J.E hw0 O () (by first|rw [decide_eq_false (by omega)]|rw [decide_eq_true (by omega)]|exact congrArg Value.bool (decide_eq_decide.2 (by omega))) trivial [0] rfl (by decide)
theorem qPT(F:Hp)(k:List UInt8)(hk:k.length=16)(d:Nat)(hd:d<128):Cz prog 94 [Str (k),I ((d:Nat):Int)] F (Str (turn k d)):=by
 refine Ct.walk func94 rfl ntmps94 rfl (λw0 hw0=>?_)
 refine J.f λ_ j1=>J.b O<|J.c j1<|J.f λ_ j2=>J.b O<|J.p (qHg O O u9_ qBl u5_) O ?_
 rintro⟨g7,c7,m7⟩ h7
 try dsimp only at h7
 change J _ ((7,.slice (some ⟨g7,0,none⟩) k.length c7)::_) _ [F,m7] _
 refine J.b O<|J.c j2<|J.k λ_ j3=>J.b0 [F,m7] [11] (.y 0 (.y 1 (.y 2 (.y 3 (.y 4 (.y 5 (.y 6 (.y 7 (.y 8 (.y 9 (.y 10 (.e 11 .nil)))))))))))) Tryz.wide (by decide+kernel) (by simp) ?_
 refine J.L ?_
 refine J.L ?_
 refine J.j O ((qHh O O O (by first|omega|(simp only [jA,jD,jE,jF,jI] at*;omega))).nat (d/8) (by omega)) rfl rfl<|J.j rfl (qAi (i:=d/8) (j:=0+(d/8)*1) rfl rfl rfl qBl z5_ (by first|omega|(simp only [jA,jD,jE,jF,jI] at*;omega)) (by omega)) rfl rfl<|J.j rfl (qAJ rfl rfl b5_ (m:=m7) (by simp) (h7.sl.cells (qBk (qAj 0 (by first|omega|(simp only [jA,jD,jE,jF,jI] at*;omega)))))) rfl rfl<|J.L ?_
 refine J.j O ((qM0 O O O (by first|omega|(simp only [jA,jD,jE,jF,jI] at*;omega))).nat (d%8) (by omega)) rfl rfl<|J.j rfl ((qA4 rfl rfl rfl (by omega)).nat (7-d%8) (by omega)) rfl rfl<|J.j rfl ((qWf (a:=1) (m:=7-d%8) rfl rfl rfl).as (v':=B8 (UInt8.ofNat (1*2^(7-d%8)))) (by rw [jn (by omega)];rfl)) rfl rfl<|J.j rfl (qWc rfl rfl rfl) rfl rfl<|J.j rfl (qAi (i:=d/8) (j:=0+(d/8)*1) rfl rfl rfl qBl z5_ (by first|omega|(simp only [jA,jD,jE,jF,jI] at*;omega)) (by omega)) rfl rfl<|J.c2 rfl (qBR (i:=1) (k:=d/8) (off:=0) (b:= [B8 (k.getD (d/8) 0^^^UInt8.ofNat (1*2^(7-d%8)))]) rfl rfl rfl rfl h7 (vs:= [B8 (k.getD (d/8) 0^^^UInt8.ofNat (1*2^(7-d%8)))]) rfl z5_ rfl (by omega) (qBk (qAj 0 (by first|omega|(simp only [jA,jD,jE,jF,jI] at*;omega)))) rfl (jK _)) rfl rfl rfl ?_
 rintro m2_1 hm2_1
 rw [qFM] at hm2_1
 refine J.a8<|J.u (J.D j3 ?_)
 exact J.f λ_ j4=>J.b O<|J.g (qBi O O qBl u5_ u9_ (m:=m2_1) (by simp) hm2_1.sl) rfl<|J.b rfl<|J.c j4<|J.A<|J.E hw0 rfl () (by unfold turn;rfl) trivial [0] rfl (by decide)
theorem qTR(F:Hp)(s:List UInt8):Cz prog 156 [Str (s)] F (.bool (qQj s)):=by
 refine Ct.walk func156 rfl ntmps156 rfl (λw0 hw0=>?_)
 refine J.f λ_ j1=>J.b O<|J.c j1<|J.f λ_ j2=>J.b O<|J.g (qBS O O O) O<|J.b O<|J.b9 (d:=5) O (λh5=>?_) (λh5=>?_)
 ·
  refine J.q 4 O<|J.c8 (Wan.un O O O O) O O ?_
  refine J.c8 (Wan.un O O O O) O O ?_
  refine J.c8 (Wan.un O O O O) O O ?_
  refine J.c8 (Wan.un O O O O) O O ?_
  refine J.c8 (Wan.un O O O O) O O ?_
  refine J.c8 (Wan.un O O O O) O O ?_
  refine J.c8 (Wan.un O O O O) O O ?_
  refine J.c8 (Wan.un O O O O) O O ?_
  exact J.q 3 O<|J.c j2<|J.A<|J.E hw0 O () (by first|rw [qNA (by assumption)]|rw [qFW (by omega) (by omega)]|rw [qDi (by assumption) (by omega)]|(by_cases q:(s.getD 0 0).toNat=2;rw [qFW (by omega) (.inr q),decide_eq_true (by omega)];rw [qDi (by assumption) (by omega),decide_eq_false (by omega)])) trivial [0] rfl (by decide)
 refine J.b O<|J.G (qAt u9_ O O) O<|J.G (qAg O O O) O<|J.b O<|J.b9 (d:=9) O (λh9=>?_) (λh9=>?_)
 ·
  refine J.b O<|J.G (qBf (c:=s.getD 0 0) u9_ O O O (qAj 0 (by first|omega|(simp only [jA,jD,jE,jF,jI] at*;omega)))) rfl<|J.G (qAg rfl rfl rfl) rfl<|J.b rfl<|J.b9 (d:=13) rfl (λh13=>?_) (λh13=>?_)
  ·
   exact J.q 7 O<|J.c j2<|J.A<|J.E hw0 O () (by first|rw [qNA (by assumption)]|rw [qFW (by omega) (by omega)]|rw [qDi (by assumption) (by omega)]|(by_cases q:(s.getD 0 0).toNat=2;rw [qFW (by omega) (.inr q),decide_eq_true (by omega)];rw [qDi (by assumption) (by omega),decide_eq_false (by omega)])) trivial [0] rfl (by decide)
  exact J.b O<|J.G (qBf (c:=s.getD 0 0) u9_ O O O (qAj 0 (by first|omega|(simp only [jA,jD,jE,jF,jI] at*;omega)))) rfl<|J.G (qAg rfl rfl rfl) rfl<|J.q 4 rfl<|J.c j2<|J.A<|J.E hw0 rfl () (by first|rw [qNA (by assumption)]|rw [qFW (by omega) (by omega)]|rw [qDi (by assumption) (by omega)]|(by_cases q:(s.getD 0 0).toNat=2;rw [qFW (by omega) (.inr q),decide_eq_true (by omega)];rw [qDi (by assumption) (by omega),decide_eq_false (by omega)])) trivial [0] rfl (by decide)
 refine J.q 4 O<|J.c8 (Wan.un O O O O) O O ?_
 refine J.c8 (Wan.un O O O O) O O ?_
 refine J.c8 (Wan.un O O O O) O O ?_
 exact J.q 4 O<|J.c j2<|J.A<|J.E hw0 O () (by first|rw [qNA (by assumption)]|rw [qFW (by omega) (by omega)]|rw [qDi (by assumption) (by omega)]|(by_cases q:(s.getD 0 0).toNat=2;rw [qFW (by omega) (.inr q),decide_eq_true (by omega)];rw [qDi (by assumption) (by omega),decide_eq_false (by omega)])) trivial [0] rfl (by decide)
theorem qLx(F:Hp)(A:Option Addr)(c:Nat)(bs:List (List UInt8))(hs:Sl F 1 A bs.length c (qAI bs))(th:Bool)(pk pv k:List UInt8)(d:Nat)(hg:qK0 bs th pk pv k d):Cz prog 97 [.agg #[.slice A bs.length c,.bool (th),Str (pk),Str (pv)],Str (k),I ((d:Nat):Int)] F (.bool true):=by
 have hle:=hg.le
 have hk16:=hg.k16
 refine Ct.walk func97 rfl ntmps97 rfl (λw0 hw0=>?_)
 refine J.f λ_ j1=>J.p (qAd O O O) O λg3 _=>J.b O<|J.c j1<|J.f λ_ j2=>J.T 0 qDs qBs O O O O O<|J.a5 1 qB8 O O O O O<|J.g (qAU qAk O O) O<|J.b O<|J.c j2<|J.k λ_ j3=>J.f λ_ j4=>J.q 2 O<|J.p (qAB O O ent87 (Ct.use0 (λF' hF=>qJy F' k ((d:Nat):Int)))) O λg16 _=>J.g ((qAy O O).as (v':= .bool false) (by rw [decide_eq_true (show k.length=16∧(0:Int)≤((d:Nat):Int)∧((d:Nat):Int)≤128 from⟨hk16,by omega,by omega⟩)];rfl)) rfl<|J.q 3 rfl<|J.G (qA4 rfl rfl rfl (by first|omega|(simp only [jA,jD,jE,jF,jI] at*;omega))) rfl<|J.G ((qA5 rfl rfl rfl).no (by omega)) rfl<|J.b rfl<|J.c j4<|J.a1 ?_
 refine J.M j3<|J.k λ_ j5=>J.f λ_ j6=>J.T 0 qDs qBs O O O O O<|J.a5 1 qB8 O O O O O<|J.g (qAU qAk O O) O<|J.b O<|J.c j6<|J.O<|J.b4 (X:=Nat) (λζ=> [(1,Str (k)),(2,I ((d:Nat):Int)),(3,Ptr g3),(7,I ((bs.length:Nat):Int)),(25,.slice A bs.length c),(26,I ((bs.length:Nat):Int)),(27,I ((ζ:Nat):Int))]) (λζ=> [F,blk g3 [.slice A bs.length c,.bool (th),Str (pk),Str (pv)] 53]) (λζ=>ζ≤bs.length) (λζ=>bs.length-ζ) 0 (jG _) ⟨O,O,O,O,O,O,O,trivial⟩ (λ_ h=>h) ?_
 rintro i hi I0 hI0
 refine J.f λ_ j7=>J.g (qAT O O O) O<|J.c j7<|J.k λ_ j8=>J.W O (λh28=>?_) (λh28=>?_)
 ·
  refine J.M j8<|J.k λ_ j9=>J.O<|J.f λ_ j10=>J.g (qAH O O O qAk z9_ hs (by first|omega|(simp only [jA,jD,jE,jF,jI] at*;omega))) rfl<|J.g (qAJ rfl rfl b9_ (m:=F) (by simp) (hs.elem (qAa (qAj [] (by first|omega|(simp only [jA,jD,jE,jF,jI] at*;omega)))))) rfl<|J.b rfl<|J.c j10<|J.f λ_ j11=>J.b rfl<|J.p (qAB rfl rfl ent156 (Ct.use0 (λF' hF=>qTR F' (bs.getD i [])))) rfl λg32 _=>J.g ((qAy rfl rfl).as (v':= .bool false) (by rw [hg.nodes i (by omega)];rfl)) rfl<|J.c j11<|J.a1 ?_
  refine J.b5<|J.a2<|J.u (J.D j9 ?_)
  exact J.H<|J.g ((qAS O O O (by first|omega|(simp only [jA,jD,jE,jF,jI] at*;omega))).nat (i+1) (by omega)) rfl<|J.b rfl<|J.a3<|J.u<|J.a4 (i+1) (λη (hη:_∧bs.length-η<bs.length-i)=>hI0 η hη.1 hη.2) ⟨(by omega),by first|omega|(dsimp only;omega)⟩ ⟨rfl,rfl,rfl,rfl,rfl,rfl,rfl,trivial⟩ (λ_ h=>h)
 refine J.b2<|J.a0<|J.a0<|J.b3 ?_
 refine J.u (J.D j5 ?_)
 refine J.k λ_ j12=>J.f λ_ j13=>J.b O<|J.g (qA5 O O O) O<|J.c j13<|J.W O (λh36=>?_) (λh36=>?_)
 ·
  obtain ⟨hl1,hl2⟩:=hg.last (by omega)
  refine J.f λ_ j14=>J.T 0 qDs qBs O O O O O<|J.a5 1 qB8 O O O O O<|J.b O<|J.g ((qA4 O O O (by omega)).nat (bs.length-1) (by omega)) O<|J.g (qAH O O O qAk z9_ hs (by first|omega|(simp only [jA,jD,jE,jF,jI] at*;omega))) rfl<|J.g (qAJ rfl rfl b9_ (m:=F) (by simp) (hs.elem (qAa (qAj [] (by first|omega|(simp only [jA,jD,jE,jF,jI] at*;omega)))))) rfl<|J.b rfl<|J.c j14<|J.f λ_ j15=>J.b rfl<|J.g ((qBS rfl rfl rfl).no (hl1)) rfl<|J.b rfl<|J.G (qAA rfl rfl qDs rfl z4_ rfl) rfl<|J.G (qAE 1 rfl rfl rfl b4_ rfl) rfl<|J.G (qAy rfl rfl) rfl<|J.b rfl<|J.e8 (d:=49) rfl (λh49=>?_) (λh49=>?_)
  ·
   refine J.b O ?_
   have hl3:=qTu (hl2 (by simpa using h49))
   refine J.G (qBf (c:=(bs.getD (bs.length-1) []).getD 0 0) u9_ O O O (qAj 0 (by first|omega|(simp only [jA,jD,jE,jF,jI] at*;omega)))) rfl<|J.G ((qAe rfl rfl rfl).no (by have:=hl2 (by simpa using h49);omega)) rfl<|J.q 2 rfl<|J.c j15<|J.a1 ?_
   refine J.M j12<|J.k λ_ j16=>J.f λ_ j17=>J.T 1 qDs z4_ O O O O O<|J.a5 1 b4_ O O O O O<|J.g (qAy O O) O<|J.c j17<|J.c6 O (λh57=>?_) (λh57=>?_)
   ·
    exact J.f λ_ j18=>J.T 2 qDs z9_ O O O O O<|J.a5 1 b9_ O O O O O<|J.g ((qBS O O O).yes ((hg.no (by simpa using h57)).1)) O<|J.b O<|J.G (qAA O O qDs O z9_ O) O<|J.G (qAE 1 O O O b9_ O) O<|J.G ((qBS O O O).yes ((hg.no (by simpa using h57)).2)) O<|J.q 2 O<|J.c j18<|J.A<|J.V<|J.E hw0 O () (by first|rfl|(rw [jT,jn (by omega),(hg.yes (by simpa using h57)).2])) trivial [0] rfl (by decide)
   refine J.M j16<|J.f λ_ j19=>J.T 2 qDs z9_ O O O O O<|J.a5 1 b9_ O O O O O<|J.g (qAt u9_ O O) O<|J.g ((qAg O O O).yes (by have:=(hg.yes (by simpa using h57)).1;omega)) O<|J.b O<|J.G (qAA O O qDs O z9_ O) O<|J.G (qAE 1 O O O b9_ O) O<|J.q 3 O<|J.G ((qAS O O O (by first|omega|(simp only [jA,jD,jE,jF,jI] at*;omega))).nat (d+bs.length) (by omega)) rfl ?_
   have hpl:=(hg.yes (by simpa using h57)).1
   exact J.c9 (qAB O O ent92 (Ct.use0 (λF' hF=>qEw F' pk (by omega) k (by omega) ((d+bs.length:Nat):Int)))) O λg77 _=>J.q 2 O<|J.c j19<|J.A<|J.E hw0 O () (by first|rfl|(rw [jT,jn (by omega),(hg.yes (by simpa using h57)).2])) trivial [0] rfl (by decide)
  refine J.q 5 O<|J.c j15<|J.a1 ?_
  refine J.M j12<|J.k λ_ j20=>J.f λ_ j21=>J.T 1 qDs z4_ O O O O O<|J.a5 1 b4_ O O O O O<|J.g (qAy O O) O<|J.c j21<|J.c6 O (λh57=>?_) (λh57=>?_)
  ·
   exact J.f λ_ j22=>J.T 2 qDs z9_ O O O O O<|J.a5 1 b9_ O O O O O<|J.g ((qBS O O O).yes ((hg.no (by simpa using h57)).1)) O<|J.b O<|J.G (qAA O O qDs O z9_ O) O<|J.G (qAE 1 O O O b9_ O) O<|J.G ((qBS O O O).yes ((hg.no (by simpa using h57)).2)) O<|J.q 2 O<|J.c j22<|J.A<|J.V<|J.E hw0 O () (by first|rfl|(rw [jT,jn (by omega),(hg.yes (by simpa using h57)).2])) trivial [0] rfl (by decide)
  refine J.M j20<|J.f λ_ j23=>J.T 2 qDs z9_ O O O O O<|J.a5 1 b9_ O O O O O<|J.g (qAt u9_ O O) O<|J.g ((qAg O O O).yes (by have:=(hg.yes (by simpa using h57)).1;omega)) O<|J.b O<|J.G (qAA O O qDs O z9_ O) O<|J.G (qAE 1 O O O b9_ O) O<|J.q 3 O<|J.G ((qAS O O O (by first|omega|(simp only [jA,jD,jE,jF,jI] at*;omega))).nat (d+bs.length) (by omega)) rfl ?_
  have hpl:=(hg.yes (by simpa using h57)).1
  exact J.c9 (qAB O O ent92 (Ct.use0 (λF' hF=>qEw F' pk (by omega) k (by omega) ((d+bs.length:Nat):Int)))) O λg77 _=>J.q 2 O<|J.c j23<|J.A<|J.E hw0 O () (by first|rfl|(rw [jT,jn (by omega),(hg.yes (by simpa using h57)).2])) trivial [0] rfl (by decide)
 refine J.M j12<|J.k λ_ j24=>J.f λ_ j25=>J.T 1 qDs z4_ O O O O O<|J.a5 1 b4_ O O O O O<|J.g (qAy O O) O<|J.c j25<|J.c6 O (λh57=>?_) (λh57=>?_)
 ·
  exact J.f λ_ j26=>J.T 2 qDs z9_ O O O O O<|J.a5 1 b9_ O O O O O<|J.g ((qBS O O O).yes ((hg.no (by simpa using h57)).1)) O<|J.b O<|J.G (qAA O O qDs O z9_ O) O<|J.G (qAE 1 O O O b9_ O) O<|J.G ((qBS O O O).yes ((hg.no (by simpa using h57)).2)) O<|J.q 2 O<|J.c j26<|J.A<|J.V<|J.E hw0 O () (by first|rfl|(rw [jT,jn (by omega),(hg.yes (by simpa using h57)).2])) trivial [0] rfl (by decide)
 refine J.M j24<|J.f λ_ j27=>J.T 2 qDs z9_ O O O O O<|J.a5 1 b9_ O O O O O<|J.g (qAt u9_ O O) O<|J.g ((qAg O O O).yes (by have:=(hg.yes (by simpa using h57)).1;omega)) O<|J.b O<|J.G (qAA O O qDs O z9_ O) O<|J.G (qAE 1 O O O b9_ O) O<|J.q 3 O<|J.G ((qAS O O O (by first|omega|(simp only [jA,jD,jE,jF,jI] at*;omega))).nat (d+bs.length) (by omega)) rfl ?_
 have hpl:=(hg.yes (by simpa using h57)).1
 exact J.c9 (qAB O O ent92 (Ct.use0 (λF' hF=>qEw F' pk (by omega) k (by omega) ((d+bs.length:Nat):Int)))) O λg77 _=>J.q 2 O<|J.c j27<|J.A<|J.E hw0 O () (by first|rfl|(rw [jT,jn (by omega),(hg.yes (by simpa using h57)).2])) trivial [0] rfl (by decide)
theorem qUZ(F:Hp)(B:Option Addr)(n e:Nat):Ct prog 195 [.slice B n e] [F] (λx:Nat=> .func (.func 220) #[] #[Ptr x]) (λ_=>True) (λx=> [F,blk x [.slice B n e] 32]):=by
 refine Ct.walk func195 rfl ntmps195 rfl (λw0 hw0=>?_)
 exact J.f λ_ j1=>J.p (qAd O O O) O λg1 _=>J.b O<|J.c j1<|J.f λ_ j2=>J.g (qBg O O) O<|J.b O<|J.c j2<|J.A<|J.E hw0 O g1 O trivial [0,1] O (by decide)
theorem qR0(Fr:Hp)(gB:Nat)(B:Option Addr)(W:List (List UInt8))(e:Nat)(hn2:W.length≤1073741824)(ha:qAR Fr ⟨gB,0,none⟩ [.slice B W.length e])(hs:Sl Fr 1 B W.length e (qAI W)):
    qJL prog 220 [Ptr gB] Fr (λi=> [I ((W.length-1-i:Nat):Int),Str (W.getD (W.length-1-i) [])]) W.length:=by
  refine qJL.walk func220 rfl ntmps220 rfl (λ{X} M IY S l x0 w0 hw0 h0 hY=>?_)
  refine J.f λ_ j1=>J.g (qAJ O O qB8 (m:=Fr) (by simp) (ha)) rfl<|J.g (qAU qAk rfl rfl) rfl<|J.g ((qA4 rfl rfl rfl (by omega)).as (v':=I ((W.length:Int)-1-((0:Nat):Int))) (congrArg I (by omega))) rfl<|J.b rfl<|J.c j1<|J.O<|J.b4 (X:=Nat×X) (λy=> [(0,.func (.yield l) #[] #[]),(1,Ptr gB),(3,I ((W.length:Int)-1-(y.1:Int)))]) (λy=> [Fr,M y.2]) (λy=>y.1≤W.length∧IY y.1 y.2) (λy=>W.length-y.1) (0,x0) (⟨jG _,h0⟩) ⟨rfl,rfl,rfl,trivial⟩ (λ_ h=>h) ?_
  rintro⟨i,x⟩ ⟨hi,hI⟩ I0 hI0
  dsimp only at hi hI⊢
  refine J.k λ_ j2=>J.f λ_ j3=>J.b O<|J.g (qBA O O O) O<|J.c j3<|J.W O (λh8=>?_) (λh8=>?_)
  ·
    refine J.M j2<|J.k λ_ j4=>J.O<|J.k λ_ j5=>J.f5 ?_
    refine J.c5 (qA0 O O) O O O ?_
    refine J.c5 ((qA0 O O).nat (W.length-1-i) (by omega)) O O O ?_
    refine J.c5 (qAJ O O qB8 (m:=Fr) (by simp) (ha)) rfl rfl rfl ?_
    refine J.c5 ((qA0 O O).nat (W.length-1-i) (by omega)) O O O ?_
    refine J.c5 (qAH O O O qAk z9_ hs (by first|omega|(simp only [jA,jD,jE,jF,jI] at*;omega))) rfl rfl rfl ?_
    refine J.c5 (qAJ O O b9_ (m:=Fr) (by simp) (hs.elem (qAa (qAj [] (by first|omega|(simp only [jA,jD,jE,jF,jI] at*;omega)))))) rfl rfl rfl ?_
    refine J.f6 (ex:= []) O O O O O O (hY i x (by omega) hI) ?_
    rintro x' b hb1 hb2
    cases b
    ·
      have hyb:=hb2 rfl
      refine J.c5 (qAy O O) O O O ?_
      refine J.e2 ?_
      refine J.u (J.D j5 ?_)
      refine J.c4 ?_
      exact J.A<|J.a7<|J.V<|J.V<|J.a7<|J.a9 hw0 (λ_ _ h=>h) (qJP O) (λw hs=>⟨x',⟨_,O⟩,.inr hyb,hs⟩)
    have hyb:=hb1 rfl
    refine J.c5 (qAy O O) O O O ?_
    refine J.e2 ?_
    refine J.u (J.D j5 ?_)
    refine J.a1 ?_
    refine J.b5<|J.a2<|J.u (J.D j4 ?_)
    exact J.H<|J.b O<|J.g ((qA4 O O O (by omega)).as (v':=I ((W.length:Int)-1-((i+1:Nat):Int))) (congrArg I (by omega))) O<|J.b O<|J.a3<|J.u<|J.a4 (i+1,x') (λy (hy:_∧W.length-y.1<W.length-i)=>hI0 y hy.1 hy.2) ⟨⟨by dsimp only;omega,hyb⟩,by dsimp only;omega⟩ ⟨O,O,O,trivial⟩ (λ_ h=>h)
  refine J.b2<|J.a0<|J.a0<|J.b3 ?_
  exact J.d7 hw0 (λ_ _ h=>h) (qJP O) (λw hs=>⟨x,⟨_,O⟩,.inl (by rw [show W.length=i by omega];exact hI),hs⟩)
theorem qJ3(F:Hp)(hK:KF F)(A:Option Addr)(c:Nat)(bs:List (List UInt8))(hs:Sl F 1 A bs.length c (qAI bs))(th:Bool)(pk pv xx k:List UInt8)(d:Nat)(hle:d+bs.length≤128)(hk16:k.length=16)(hsm: ∀s∈bs,s.length≤17)(hx:xx.length≤17):
    Cz prog 158 [.agg #[.slice A bs.length c,.bool (th),Str (pk),Str (pv)],Str xx,Str k,I ((d:Nat):Int)] F (Str (clm k d bs xx bs.length)):=by
  refine Ct.walk func158 rfl ntmps158 rfl (λw0 hw0=>?_)
  refine J.f λ_ j1=>J.p (qAd O O O) O λg4 _=>J.p (qAd O O O) O λg5 _=>J.p (qAd O O O) O λg6 _=>J.p (qAd O O O) O λg7 _=>J.b O<|J.c j1<|J.k λ_ j2=>J.f λ_ j3=>J.T 0 qDs qBs O O O O O<|J.a5 1 qB8 O O O O O<|J.p (qAB O O ent195 (Ct.use (λF' _=>qUZ F' A bs.length c))) O ?_
  rintro gB _
  refine J.c j3<|J.O<|J.c1 [2,0,1,3,4,5] [blk g5 [Str (xx)] 9,F,blk g4 [.slice A bs.length c,.bool (th),Str (pk),Str (pv)] 53,blk g6 [Str (k)] 9,blk g7 [I ((d:Nat):Int)] 3,blk gB [.slice A bs.length c] 32] O (by decide)<|J.f8 (λx:List UInt8=> [blk g5 [Str (x)] 9]) [F,blk g4 [.slice A bs.length c,.bool (th),Str (pk),Str (pv)] 53,blk g6 [Str (k)] 9,blk g7 [I ((d:Nat):Int)] 3,blk gB [.slice A bs.length c] 32] (λi x=>x=clm k d bs xx i) (λ_ _=>False) xx O ent220 (λFr hF=>qR0 Fr gB A bs c (by omega) (qAR.blk0.mono (hF (blk gB [.slice A bs.length c] 32) (by simp))) (hs.mono (Fa hF))) (λ_ _=>rfl) rfl (rfl) ?_ ?_ ?_
  ·
    intro i x l wa wb hi hI K4 Post4 j4 hN4 hR4 hE4
    subst hI
    obtain ⟨y,hy⟩: ∃y,y=clm k d bs xx i:=⟨_,rfl⟩
    obtain ⟨s,hsd⟩: ∃s,s=bs.getD (bs.length-1-i) []:=⟨_,rfl⟩
    have hyl:y.length≤17:=by rw [hy];exact qKj hsm hx i
    have hsl:s.length≤17:=by rw [hsd,jB,jC (show bs.length-1-i<bs.length by omega)];exact hsm _ (jX _)
    rw [←hy,←hsd]
    refine J.f3 (λ_ j5=>?_)
    refine J.d9 ?_
    refine J.b O<|J.e0 ?_
    refine J.u (J.D j5 ?_)
    refine J.d9 ?_
    refine J.b O<|J.e0 ?_
    refine J.u (j4 _ _ ?_)
    refine J.f4 ?_
    refine J.f3 (λ_ j6=>?_)
    refine J.d9 ?_
    refine J.a5 3 b9_ O O O O O<|J.a5 4 b3_ O O O O O<|J.b O<|J.g ((qAS O O O (by omega)).nat (d+(bs.length-1-i)) (by omega)) O<|J.p (qAB O O ent151 (Ct.use0 (λF' hF=>qKp F' k (by omega) (d+(bs.length-1-i)) (by omega)))) O λg20 _=>J.g (qAg O O O) O<|J.e0 ?_
    refine J.u (J.D j6 ?_)
    refine J.g4 O (λh21=>?_) (λh21=>?_)
    ·
      refine J.d9 ?_
      refine J.a5 0 b9_ O O O O O<|J.b O<|J.p (qAB O O ent155 (Ct.use0 (λF' hF=>qFl F' (hK.mo hF) y s (by omega) (by omega)))) O λg24 _=>J.a6 (qAF (l:= [Str (y)]) (i:=0) (vs:= [Str (Sb.join y s)]) O O O O O z9_ O O) O O λ_ _=>J.e0 ?_
      refine J.a2 ?_
      exact hN4 _ (Sb.join y s) (by rw [clm,up,if_pos (by omega),←hy,←hsd])
    refine J.d9 ?_
    refine J.b O<|J.a5 0 b9_ O O O O O<|J.p (qAB O O ent155 (Ct.use0 (λF' hF=>qFl F' (hK.mo hF) s y (by omega) (by omega)))) O λg27 _=>J.a6 (qAF (l:= [Str (y)]) (i:=0) (vs:= [Str (Sb.join s y)]) O O O O O z9_ O O) O O λ_ _=>J.e0 ?_
    refine J.a2 ?_
    exact hN4 _ (Sb.join s y) (by rw [clm,up,if_neg (by omega),←hy,←hsd])
  ·
    intro w4 x hx4 hI
    subst hI
    refine J.a2<|J.u (J.D j2 ?_)
    exact J.f λ_ j7=>J.a5 0 b9_ O O O O O<|J.b O<|J.c j7<|J.A<|J.e7 hw0 hx4 (λ_ _ h=>h) (qJv O O) (qAq () O trivial [1] O (by decide))
  intro w4 x c hx4 hS
  exact hS.elim
theorem qMn{kv:List Sm.PR}(ho:Sm.Once kv){k v:List UInt8}{p:Sm.PR}:p∈Sm.putP kv k v↔(p∈kv∧p.1≠k)∨p=(k,v):=by
 rw [(Sm.putP_perm k v ho).mem_iff]
 unfold Sm.setP
 rw [List.mem_append,List.mem_filter,decide_eq_true_eq,jR]
theorem qCJ.put{kv:List Sm.PR}(hf:qCJ kv){k v:List UInt8}(hk:k.length=16)(hv:v.length≤1000000)(hl:kv.length≤100000):qCJ (Sm.putP kv k v):=by
  refine⟨(Sm.setP_once k v hf.once).perm (Sm.putP_perm k v hf.once).symm,λp q=>?_,λp q=>?_,jb (Sm.putP_len kv k v) (by omega)⟩
  · rcases(qMn hf.once).1 q with ⟨q,_⟩|rfl
    · exact hf.k16 p q
    · exact hk
  · rcases(qMn hf.once).1 q with ⟨q,_⟩|rfl
    · exact hf.small p q
    · exact hv
theorem qOG{kv:List Sm.PR}(hf:qCJ kv){k v:List UInt8}(hk:k.length=16){b:List UInt8}(hb:b.length=16){d:Nat}(hd:d≤128)(hn:Sm.belowB k b d=false)(hv:v.length≤1000000)(hl:kv.length≤100000):
    Sm.ndB (Sm.putP kv k v) b d=Sm.ndB kv b d:=by
  have hf':=hf.put hk hv hl
  have h1:Sm.ndB (Sm.putP kv k v) b d=Sm.ndB (Sm.setP kv k v) b d:=Sm.ndB_perm hf'.once hf'.k16 (Sm.putP_perm k v hf.once) hb hd
  rw [h1]
  unfold Sm.ndB Sm.bel Sm.setP
  rw [zG,jl,if_neg (by rw [hn];decide),zq,jQ,zl]
  congr 1
  refine zr λp hp=>?_
  by_cases h:p.1=k
  · rw [h,hn];rfl
  · rw [decide_eq_true h,Bool.and_true]
theorem qXf{kv:List Sm.PR}(hf:qCJ kv){k v:List UInt8}(hk:k.length=16)(hv:v.length≤1000000)(hl:kv.length≤100000){d n:Nat}(hd:d+n≤128):bsd (Sm.putP kv k v) k d n=bsd kv k d n:=by
 unfold bsd
 refine yI λi hi=>?_
 have:=List.mem_range.1 hi
 have hb:=Sm.bit_le k (d+i)
 refine qOG hf hk ((qB6 _ _).trans hk) (by omega) (Sm.belowB_no (i:=d+i) (by omega) ?_) hv hl
 rw [qEY hk (by omega) (by omega),if_pos rfl]
 omega
theorem qWQ{kv:List Sm.PR}(hf:qCJ kv){k v:List UInt8}(hk:k.length=16)(hv:v.length≤1000000)(hl:kv.length≤100000){s:Nat}(hs:s≤128)(ho: ∀p∈cur kv k s,p.1=k):Sm.ndB (Sm.putP kv k v) k s=Sb.leafN k v:=by
 have hf':=hf.put hk hv hl
 have h1:Sm.ndB (Sm.putP kv k v) k s=Sm.ndB (Sm.setP kv k v) k s:=Sm.ndB_perm hf'.once hf'.k16 (Sm.putP_perm k v hf.once) hk hs
 have hself:Sm.belowB k k s=true:=Sm.belowB_yes λ_ _=>rfl
 rw [h1]
 unfold Sm.ndB Sm.bel Sm.setP
 rw [zG,jl,if_pos hself,zq,zl,List.filter_eq_nil_iff.2 (λp hp=>by
  intro q
  rw [jY,decide_eq_true_eq] at q
  exact q.2 (ho p (List.mem_filter.2 ⟨hp,q.1⟩))),jq,Sm.nd_one]
theorem qTN{kv:List Sm.PR}(hf:qCJ kv){k v q w:List UInt8}(hk:k.length=16)(hv:v.length≤1000000)(hl:kv.length≤100000){s:Nat}(hs:s≤128)(hc:cur kv k s= [(q,w)])(hq:q≠k):Sm.ndB (Sm.putP kv k v) k s=Sm.ndB [(k,v),(q,w)] k s:=by
 have hf':=hf.put hk hv hl
 have h1:Sm.ndB (Sm.putP kv k v) k s=Sm.ndB (Sm.setP kv k v) k s:=Sm.ndB_perm hf'.once hf'.k16 (Sm.putP_perm k v hf.once) hk hs
 have hself:Sm.belowB k k s=true:=Sm.belowB_yes λ_ _=>rfl
 have hqb:Sm.belowB q k s=true:=(List.mem_filter.1 (show(q,w)∈cur kv k s by rw [hc];exact .head _)).2
 have e1:Sm.bel (Sm.setP kv k v) k s= [(q,w),(k,v)]:=by
  unfold Sm.bel Sm.setP
  rw [zG,jl,if_pos hself,zq,zl]
  have e2:kv.filter (λp=>Sm.belowB p.1 k s&&decide (p.1≠k))=(cur kv k s).filter (λp=>decide (p.1≠k)):=by
   show _=(kv.filter λp=>Sm.belowB p.1 k s).filter (λp=>decide (p.1≠k))
   rw [zl]
   refine zr λp _=>?_
   rw [Bool.and_comm]
  rw [e2,hc,jl,if_pos (decide_eq_true hq),zq];rfl
 have e3:Sm.bel [(k,v),(q,w)] k s= [(k,v),(q,w)]:=by unfold Sm.bel;rw [jl,if_pos hself,jl,if_pos hqb,zq]
 have hw:Sm.WF (128-s) (Sm.bel (Sm.setP kv k v) k s):=(Sm.bel_wf hf'.once hf'.k16 hk hs).perm ((Sm.putP_perm k v hf.once).filter _)
 rw [h1]
 unfold Sm.ndB
 rw [e3]
 exact Sm.nd_perm _ hw (show(Sm.bel (Sm.setP kv k v) k s).Perm [(k,v),(q,w)] by rw [e1];exact List.Perm.swap _ _ _)
structure Two (k q:List UInt8) (a:Nat):Prop where
 k16:k.length=16
 q16:q.length=16
 lt:a<128
 same: ∀i,i<a→Sm.bit k i=Sm.bit q i
 differ:Sm.bit k a≠Sm.bit q a
theorem Two.ne{k q:List UInt8}{a:Nat}(h:Two k q a):q≠k:=λe=>h.differ (by rw [e])
theorem Two.fine{k q v w:List UInt8}{a:Nat}(h:Two k q a)(hv:v.length≤1000000)(hw:w.length≤1000000):qCJ [(k,v),(q,w)]:=by
  refine⟨?_,λp hp=>?_,λp hp=>?_,by simp⟩
  · unfold Sm.Once
    rw [js]
    exact⟨λp hp=>by rw [List.mem_singleton.1 hp];exact λe=>h.ne e.symm,by simp⟩
  · rcases List.mem_cons.1 hp with rfl|hp
    · exact h.k16
    · rw [List.mem_singleton.1 hp];exact h.q16
  · rcases List.mem_cons.1 hp with rfl|hp
    · exact hv
    · rw [List.mem_singleton.1 hp];exact hw
theorem Two.top{k q v w:List UInt8}{a:Nat}(h:Two k q a)(hv:v.length≤1000000)(hw:w.length≤1000000):Sm.ndB [(k,v),(q,w)] k a=up k a (Sb.leafN k v) (Sb.leafN q w):=by
 rw [←qPO (h.fine hv hw) h.k16 h.lt]
 have hb:=Sm.bit_le k a
 have hb2:=Sm.bit_le q a
 have hd:=h.differ
 have h1:Sm.belowB k k (a+1)=true:=Sm.belowB_yes λ_ _=>rfl
 have h2:Sm.belowB q k (a+1)=false:=Sm.belowB_no (i:=a) (by omega) λe=>h.differ e.symm
 have h3:Sm.belowB k (turn k a) (a+1)=false:=Sm.belowB_no (i:=a) (by omega) (by rw [qEY h.k16 h.lt h.lt,if_pos rfl];omega)
 have h4:Sm.belowB q (turn k a) (a+1)=true:=Sm.belowB_yes λi hi=>by
  have hlt:=h.lt
  rw [qEY h.k16 h.lt (by omega)]
  by_cases hia:i=a
  · rw [if_pos hia,hia];omega
  · rw [if_neg hia];exact(h.same i (by omega)).symm
 unfold Sm.ndB
 have e1:Sm.bel [(k,v),(q,w)] k (a+1)= [(k,v)]:=by unfold Sm.bel;rw [jl,if_pos h1,jl,if_neg (by rw [h2];decide),zq]
 have e2:Sm.bel [(k,v),(q,w)] (turn k a) (a+1)= [(q,w)]:=by unfold Sm.bel;rw [jl,if_neg (by rw [h3];decide),jl,if_pos h4,zq]
 rw [e1,e2,Sm.nd_one,Sm.nd_one]
theorem Two.le{k q:List UInt8}{a s:Nat}(h:Two k q a)(hs:Sm.belowB q k s=true):s≤a:=by
  rcases zy a s with h1|h1
  · have:=List.all_eq_true.1 hs a (List.mem_range.2 h1)
    exact absurd (of_decide_eq_true this).symm h.differ
  · exact h1
end Go.Proofs.YtcgcjaflllmlpaaGreatDoor
