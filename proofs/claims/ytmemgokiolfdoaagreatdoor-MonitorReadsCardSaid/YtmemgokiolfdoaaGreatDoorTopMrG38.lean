/- A part of the proof. -/
import Derived.Test.YtmemgokiolfdoaaGreatDoorTopMrG31
set_option maxRecDepth 100000
set_option maxHeartbeats 1000000
set_option linter.unusedSimpArgs false
set_option linter.unusedVariables false
namespace Go.Proofs.YtmemgokiolfdoaaGreatDoor
open Go Go.Fw Go.Proofs.Tryz
theorem qPh{P:Program}{env:Env}{rs:List Hp}{o:Oper}{t e x q r sz A n' c h m}(ho:o.op= .slice t x none (some q) (some r))(hx:ev env x=some (.slice A n' c))(hu:P.underlying t=some (.slice e))(hz: ∀w,(sizeOf e).run P w= .ok sz w)
    (hhi:ev env q=some (I (h:Nat))) (hmx:ev env r=some (I (m:Nat))) (hr:h≤m∧m≤c):YOp P env rs o (.slice A h m):=λn a w hk _=>by
  simp [execOp,ho,hk.ev hx,hk.ev hhi,hk.ev hmx,Instr.sliceAt,Instr.slice,run_underlying hu,Instr.sliceBounds,Instr.sliceBound,asIntOf,hr.1,hr.2,hz]
  intro _
  cases A<;>simp [Addr.add]
namespace Wd
open Sha
def drawN(fuel:Nat)(n:UInt64)(s:Strm):Option (UInt64×Strm):=if n.toNat<2 then some (0,s) else(draw (stop n) fuel s).map λx=>(x.1%n,x.2)
def start(a:Nat):List Int:=(List.range a).map λi:Nat=>(i:Int)
def wins(fuel a:Nat)(s0:Strm):Nat→Option (List Int×Strm)
  |0=>some (start a,s0)
  |k+1=>(wins fuel a s0 k).bind λx=>(drawN fuel (UInt64.ofNat (a-k)) x.2).map λy=>
      ((x.1.set k (x.1.getD (k+y.1.toNat) 0)).set (k+y.1.toNat) (x.1.getD k 0),y.2)
def seedOf(seed:xA)(band:Nat):xA:=Sha.tagged 17 [seed,[UInt8.ofNat band]]
theorem drawN_lt{fuel:Nat}{n:UInt64}{s:Strm}{v:UInt64}{s':Strm}(h:drawN fuel n s=some (v,s'))(hn:1≤n.toNat):v.toNat<n.toNat:=by
  unfold drawN at h
  split at h
  · simp only [zG,zb] at h
    rw [←h.1];exact hn
  · obtain ⟨x,_,h2⟩:=Option.map_eq_some_iff.1 h
    simp only [zb] at h2
    rw [←h2.1,UInt64.toNat_mod]
    exact Nat.mod_lt _ hn
theorem drawN_ok{fuel:Nat}{n:UInt64}{s:Strm}{v:UInt64}{s':Strm}(h:drawN fuel n s=some (v,s'))(ho:s.Ok8):s'.Ok8∧s'.seed=s.seed:=by
  unfold drawN at h
  split at h
  · simp only [zG,zb] at h
    rw [←h.2];exact⟨ho,O⟩
  · obtain ⟨x,h1,h2⟩:=Option.map_eq_some_iff.1 h
    obtain ⟨k,s1⟩:=x
    simp only [zb] at h2
    rw [←h2.2];exact qQj h1 ho
theorem wins_pre{fuel a:Nat}{s0:Strm}: ∀{k j:Nat} {x:List Int×Strm},wins fuel a s0 k=some x→j≤k→ ∃y,wins fuel a s0 j=some y
  |0,j,x,h,hj=>⟨x,by rw [show j=0 by omega];exact h⟩
  |k+1,j,x,h,hj=>by
    by_cases e:j=k+1
    · exact⟨x,by rw [e];exact h⟩
    · obtain ⟨z,hz,_⟩:=Option.bind_eq_some_iff.1 (show(wins fuel a s0 k).bind _=some x from h)
      exact wins_pre hz xB
def part(a k:Nat):List Value:=((List.range k).map λi=>I (i:Nat))++List.replicate (a-k) (I 0)
theorem part_zero(a:Nat):(List.replicate a [I 0]).flatten=part a 0:=by
 unfold part
 simp only [List.range_zero,zQ,jq,zo]
 induction a with
 |zero=>rfl
 |succ a ih=>simp only [yE,ji,ih];rfl
theorem part_len(a k:Nat)(h:k≤a):(part a k).length=a:=by simp [part];omega
theorem part_succ(a k:Nat)(h:k<a):qA7 (part a k) k [I k]=part a (k+1):=by
 have e:a-k=(a-(k+1))+1:=xB
 have h2:=qLB ((List.range k).map λi=>I (i:Nat)) (I 0) (a-(k+1)) (I k)
 rw [jP,zd] at h2
 unfold qA7 part
 rw [e,jL,h2,jz,jO]
 rfl
theorem part_full(a:Nat):part a a=(start a).map λx=>I x:=by simp [part,start]
theorem setAt_ints(l:List Int)(k:Nat)(x:Int)(h:k<l.length):qA7 (l.map λx=>I x) k [I x]=(l.set k x).map λx=>I x:=by
 unfold qA7
 rw [jL,List.set_eq_take_append_cons_drop,if_pos h,jO,jf,List.map_take,List.map_drop]
 simp
theorem getI{l:List Int}{j:Nat}(h:j<l.length):(l.map λx=>I x)[j]?=some (I (l.getD j 0)):=by
 rw [jN,jC h,jB,jC h];rfl
def find:List Int→Int→Nat→Int
 | [],_,_=> -1
 |a::r,v,k=>if v=a then(k:Int) else find r v (k+1)
end Wd
theorem qQ6(F:Hp)(hK:qAG F ⟨3,0,none⟩ (Sha.K.map W32))(g:Nat)(s:Sha.Strm)(ho:s.Ok8)(hs:s.seed.length≤1048576)(n:UInt64)(fuel:Nat)(k:UInt64)(s':Sha.Strm)(hd:Wd.drawN fuel n s=some (k,s')):
    Ct prog 296 [Ptr g,W64 n] [blk g s.cells 420,F] (λ_:Unit=>W64 k) (λ_=>True) (λ_=> [blk g s'.cells 420,F]):=by
  unfold Wd.drawN at hd
  split at hd
  · rename_i hn
    simp only [zG,zb] at hd
    obtain ⟨rfl,rfl⟩:=hd
    exact qLs F g s n hn
  · rename_i hn
    obtain ⟨x,h1,h2⟩:=Option.map_eq_some_iff.1 hd
    obtain ⟨y,s1⟩:=x
    simp only [zb] at h2
    obtain ⟨rfl,rfl⟩:=h2
    exact qNb F hK g s ho hs n xB fuel y s1 h1
theorem of_ct(F:Hp)(hK:qAG F ⟨3,0,none⟩ (Sha.K.map W32))(seed:xA)(hseed:seed.length≤1048576)(b a sl:Nat)(hb:b<16)(ha:a≤64)(h1:1≤sl)(hsl:sl≤a)(fuel:Nat)(l:List Int)(st:Sha.Strm)(hw:Wd.wins fuel a (Sha.Strm.new (Wd.seedOf seed b)) sl=some (l,st)):
    Ct prog 276 [Str seed,I b,I a,I sl] [F] (λg:Nat=> .tuple #[.slice (some ⟨g,0,none⟩) sl sl,I 0]) (λ_=>True) (λg=> [F,blk g (l.map λx=>I x) 3]):=by
  have hsd:(Wd.seedOf seed b).length≤1048576:=by unfold Wd.seedOf;rw [Sha.tagged_length];decide
  refine Ct.walk func276 O ntmps276 O (λw0 hw0=>?_)
  refine J.f λ_ j1=>J.j 2 O<|J.c j1<|J.p λ_ j2=>J.T<|J.f λ_ j3=>J.b O<|J.g ((qAQ O O O).no xB) O<|J.j 2 O<|J.G ((qBA O O O).no xB) O<|J.j 3 O<|J.G ((qAQ O O O).no xB) O<|J.j 3 O<|J.G ((qA0 O O O).no xB) O<|J.j 3 O<|J.G ((qAQ O O O).no xB) O<|J.j 2 O<|J.c j3<|J.a3 ?_
  refine J.f λ_ j4=>J.j 2 O<|J.g ((qA0 O O O).no xB) O<|J.b O<|J.c j4<|J.a3 ?_
  refine J.b2<|J.a1<|J.u (J.D j2 ?_)
  refine J.f λ_ j5=>J.j 2 O<|J.g (qAv O O u3_ u5_) O<|J.q (qAE (l:= [.tmp 40]) (xs:= [[B8 (UInt8.ofNat b)]]) O O O O qBm el5 O xC xC xD) O λg41 _=>J.g (qBp (l:= [UInt8.ofNat b]) O O qBm u5_ u9_ (m:=blk g41 [B8 (UInt8.ofNat b)] 5) xD (qAm (q:=True) (xs:= [[B8 (UInt8.ofNat b)]]) O xD).sl) O<|J.q (qAE (l:= [.tmp 38,.tmp 42]) (xs:= [[Str seed],[Str [UInt8.ofNat b]]]) O O O O qAj el9 O xC xC xD) O λg43 _=>J.q (qAa O O (λF' hF=>qAy F' (hK.mono (Fa hF)) 17 (some ⟨g43,0,none⟩) 2 2 [seed,[UInt8.ofNat b]] (((qAm (q:=True) (xs:=qAH [seed,[UInt8.ofNat b]]) O (by simp [qAH])).sl (m:=blk g43 [Str seed,Str [UInt8.ofNat b]] 9)).mono (Fa hF)) xJ xC)) O λg44 _=>J.q (qBV O O (λF' _=>qJ1 F' (Wd.seedOf seed b))) O λg45 _=>J.b O<|J.c j5<|J.f λ_ j6=>J.b O<|J.q (qB6 O O qFn el3 xB xB) O λg47 _=>J.c3 [0,3,4] [F,blk g45 (Sha.Strm.new (Wd.seedOf seed b)).cells 420,blk g47 (List.replicate a [I 0]).flatten 3] O xC<|J.b O<|J.c j6<|J.p λ_ j7=>J.f λ_ j8=>J.b O<|J.g (qAP qFn O O) O<|J.b O<|J.c j8<|J.T<|J.b6 (λk:Nat=> [(2,I a),(3,I sl),(10,Ptr g45),(11,.slice (some ⟨g47,0,none⟩) a a),(49,I a),(50,I k)]) (λk=> [F,blk g45 (Sha.Strm.new (Wd.seedOf seed b)).cells 420,blk g47 (Wd.part a k) 3]) (λk=>k≤a) (λk=>a-k) 0 (jF _) ⟨O,O,O,O,O,O,trivial⟩ (λ_ h=>by rw [←Wd.part_zero];exact h) ?_
  intro k hk I1 hI1
  refine J.f λ_ j9=>J.g (qAQ O O O) O<|J.c j9<|J.p λ_ j10=>J.Z O (λh51=>?_) (λh51=>?_)
  ·
    refine J.M j10<|J.p λ_ j11=>J.T<|J.f λ_ j12=>J.j 2 O<|J.c j12<|J.H<|J.j 3 O<|J.g (qAi (i:=k) (j:=k) O O O qFn z3_ xB xB) O<|J.a8 (qAV (i:=2) O O O O O z3_ O (by rw [Wd.part_len a k xB];show k+1≤a;omega)) O O λ_ _=>J.a4<|J.a1<|J.u (J.D j11 ?_)
    exact J.H<|J.g (qAR O O O xB) O<|J.b O<|J.a4<|J.u<|J.a7 (k+1) (λx (hx:x≤a∧a-x<a-k)=>hI1 x hx.1 hx.2) ⟨xB,xB⟩ ⟨O,O,O,O,O,O,trivial⟩ (λ_ h=>by rw [←Wd.part_succ a k xB];exact h)
  refine J.b4<|J.a0<|J.a0<|J.b5 ?_
  refine J.u (J.D j7 ?_)
  refine J.p λ_ j13=>J.p λ_ j14=>?_
  have hka:a=k:=xB
  subst hka
  refine J.H<|J.j 2 O<|J.c j14<|J.T<|J.b6 (X:=Nat×List Int×Sha.Strm) (λx=> [(2,I a),(3,I sl),(10,Ptr g45),(11,.slice (some ⟨g47,0,none⟩) a a),(58,I sl),(59,I x.1)]) (λx=> [F,blk g45 x.2.2.cells 420,blk g47 (x.2.1.map λx=>I x) 3]) (λx=>x.1≤sl∧Wd.wins fuel a (Sha.Strm.new (Wd.seedOf seed b)) x.1=some (x.2.1,x.2.2)∧x.2.1.length=a∧x.2.2.Ok8∧x.2.2.seed=Wd.seedOf seed b) (λx=>sl-x.1) (0,Wd.start a,(Sha.Strm.new (Wd.seedOf seed b))) (⟨jF _,O,by simp [Wd.start],O,O⟩) ⟨O,O,O,O,O,O,trivial⟩ (λ_ h=>by rw [←Wd.part_full];exact h) ?_
  rintro⟨k,li,s1⟩ ⟨hk,hwk,hll,ho,hse⟩ I3 hI3
  dsimp only at hk hwk hll ho hse⊢
  refine J.f λ_ j15=>J.g (qAQ O O O) O<|J.c j15<|J.p λ_ j16=>J.Z O (λh60=>?_) (λh60=>?_)
  ·
    refine J.M j16<|J.p λ_ j17=>J.T<|J.f λ_ j18=>J.j 2 O<|J.c j18<|J.p λ_ j19=>?_
    have hks:k<sl:=xB
    obtain ⟨y,hy⟩:=Wd.wins_pre hw (show k+1≤sl by omega)
    have hy2:=hy
    rw [Wd.wins,hwk] at hy2
    obtain ⟨⟨v,s2⟩,hdr,hy3⟩:=Option.map_eq_some_iff.1 (show(Wd.drawN fuel (UInt64.ofNat (a-k)) s1).map _=some y from hy2)
    have hak:(UInt64.ofNat (a-k)).toNat=a-k:=by rw [ze];exact je xB
    have hv:=Wd.drawN_lt hdr xB
    have hok2:=Wd.drawN_ok hdr ho
    rw [hak] at hv
    refine J.H<|J.j 4 O<|J.g ((qA1 O O O xB).nat (a-k) xB) O<|J.g (qAt O O u3_ qEF xB) O<|J.q (qAK O O ent (Ct.use1 1 O (λF' hF=>qQ6 F' (hK.mono (Fa hF)) g45 s1 ho (by rw [hse];exact hsd) (UInt64.ofNat (a-k)) fuel v s2 hdr))) O λg68 _=>J.g (qEm O O qEF u3_ xB) O<|J.g ((qAR O O O xB).nat (k+v.toNat) xB) O<|J.b O<|J.c j19<|J.b1 [blk g47 (li.map λx=>I x) 3] [13,14,15,100002,100003] (.y 0 (.y 1 (.y 2 (.y 3 (.y 4 (.y 5 (.y 6 (.y 7 (.y 8 (.y 9 (.y 10 (.y 11 (.y 12 (.e 13 (.e 14 (.e 15 .nil)))))))))))))))) Tryz.wide xF xD ?_
    refine J.L ?_
    refine J.L ?_
    refine J.d1 O (qAz O O) O O O ?_
    refine J.d1 O (qAz O O) O O O ?_
    refine J.L ?_
    refine J.L ?_
    refine J.k O (qAi (i:=k+v.toNat) (j:=k+v.toNat) O O O qFn z3_ xB xB) O O<|J.k O (qAC 0 O O O b3_ (Wd.getI (l:=li) (j:=k+v.toNat) xB)) O O<|J.L ?_
    refine J.L ?_
    refine J.k O (qAi (i:=k) (j:=k) O O O qFn z3_ xB xB) O O<|J.k O (qAC 0 O O O b3_ (Wd.getI (l:=li) (j:=k) xB)) O O<|J.k O (qAi (i:=k) (j:=k) O O O qFn z3_ xB xB) O O<|J.c1 O (qAV (i:=2) O O O O O z3_ O (by rw [jP];show k+1≤_;omega)) O O O λ_ _=>J.d4 O (YOp.eop (qAi (i:=k+v.toNat) (j:=k+v.toNat) O O O qFn z3_ xB xB)) O O O O ?_
    intro _ _
    refine J.c1 O (qAV (i:=2) O O O O O z3_ O (by rw [qCw (by rw [jP];omega),jP];show k+v.toNat+1≤_;omega)) O O O λ_ _=>J.b0<|J.a1<|J.u (J.D j17 ?_)
    refine J.H<|J.g (qAR O O O xB) O<|J.b O<|J.a4<|J.u ?_
    rw [Wd.setAt_ints _ _ _ xB,Wd.setAt_ints _ _ _ (by rw [jk];omega)]
    exact J.a7 (k+1,(li.set k (li.getD (k+v.toNat) 0)).set (k+v.toNat) (li.getD k 0),s2) (λx (hx:_∧sl-x.1<sl-k)=>hI3 x hx.1 hx.2) ⟨⟨by dsimp only;omega,by dsimp only;rw [hy];exact congrArg some hy3.symm,by dsimp only;rw [jk,jk];exact hll,hok2.1,hok2.2.trans hse⟩,by dsimp only;omega⟩ ⟨O,O,O,O,O,O,trivial⟩ (λ_ h=>h)
  refine J.b4<|J.a0<|J.a0<|J.b5 ?_
  refine J.u (J.D j13 ?_)
  refine J.p λ_ j20=>?_
  have hks:sl=k:=xB
  subst hks
  rw [hwk] at hw
  simp only [zG,zb] at hw
  exact J.H<|J.j 3 O<|J.g (qPh O O qFn z3_ O O xB) O<|J.j 2 O<|J.c j20<|J.A<|J.a9 hw0 (λ_ _ h=>h) (qBk O O O) (qAg g47 O trivial [0,2] (by rw [←hw.1];rfl) xC)
theorem qS4(F:Hp)(A:Option Addr)(n c:Nat)(l:List Int)(hl:Sl F 1 A n c (qBs l))(v:Int)(hn:n<4611686018427387904):
    Cz prog 308 [.slice A n c,I v] F (I (Wd.find l v 0)):=by
  have hlen:l.length=n:=by have:=hl.1;simpa [qBs] using this
  refine Ct.walk func308 O ntmps308 O (λw0 hw0=>?_)
  refine J.f λ_ j1=>J.b O<|J.c j1<|J.p λ_ j2=>J.f λ_ j3=>J.b O<|J.g (qAP qFn O O) O<|J.b O<|J.c j3<|J.T<|J.b6 (λk:Nat=> [(0,.slice A n c),(1,I v),(7,I n),(8,I k)]) (λ_=> [F]) (λk=>k≤n∧Wd.find (l.drop k) v k=Wd.find l v 0) (λk=>n-k) 0 (⟨jF _,O⟩) ⟨O,O,O,O,trivial⟩ (λ_ h=>h) ?_
  rintro k ⟨hk,hc⟩ I0 hI0
  refine J.f λ_ j4=>J.g (qAQ O O O) O<|J.c j4<|J.p λ_ j5=>J.Z O (λh9=>?_) (λh9=>?_)
  ·
    refine J.M j5<|J.p λ_ j6=>J.T<|J.f λ_ j7=>J.j 2 O<|J.c j7<|J.p λ_ j8=>?_
    have hkn:k<n:=xB
    obtain ⟨s,hs⟩: ∃s,l[k]?=some s:=⟨_,jC xB⟩
    have hdr:l.drop k=s::l.drop (k+1):=by
      obtain ⟨hk2,rfl⟩:=List.getElem?_eq_some_iff.1 hs
      exact zC hk2
    rw [hdr,Wd.find] at hc
    refine J.H<|J.j 3 O<|J.g (qAF O O O qFn z3_ hl xB) O<|J.g (qAI O O b3_ (m:=F) xD (hl.elem (qQQ hs))) O<|J.g (qAZ O O O) O<|J.c j8<|J.Z O (λh16=>?_) (λh16=>?_)
    ·
      refine J.f λ_ j9=>J.j 2 O<|J.c j9<|J.A<|J.a6<|J.V<|J.V<|J.a6<|J.V ?_
      rw [if_pos h16] at hc
      exact J.E hw0 O () (by rw [←hc]) trivial [0] O xC
    refine J.b2<|J.a1<|J.u (J.D j6 ?_)
    refine J.H<|J.g (qAR O O O xB) O<|J.b O<|J.a4<|J.u ?_
    rw [if_neg h16] at hc
    exact J.a7 (k+1) (λx (hx:_∧n-x<n-k)=>hI0 x hx.1 hx.2) ⟨⟨xB,hc⟩,xB⟩ ⟨O,O,O,O,trivial⟩ (λ_ h=>h)
  refine J.b4<|J.a0<|J.a0<|J.b5 ?_
  refine J.u (J.D j2 ?_)
  refine J.p λ_ j10=>?_
  rw [js xB] at hc
  exact J.H<|J.b O<|J.c j10<|J.A<|J.E hw0 O () (by rw [←hc];rfl) trivial [0] O xC
theorem qUg(F:Hp)(A:Option Addr)(n c:Nat)(l:List Int)(hl:Sl F 1 A n c (qBs l))(v:Int)(hn:n<4611686018427387904):
    Cz prog 297 [.slice A n c,I v] F (.tuple #[I (max (Wd.find l v 0) 0),.bool (decide (0≤Wd.find l v 0))]):=by
  refine Ct.walk func297 O ntmps297 O (λw0 hw0=>?_)
  exact J.f λ_ j1=>J.j 2 O<|J.c j1<|J.f λ_ j2=>J.j 2 O<|J.q (qAK O O ent (qS4 F A n c l hl v hn)) O λg9 _=>J.b O<|J.c j2<|J.f λ_ j3=>J.b O<|J.g (qHm O O O) O<|J.b O<|J.g (qBA O O O) O<|J.j 2 O<|J.c j3<|J.A<|J.a9 hw0 (λ_ _ h=>h) (qBk O O O) (qAg () O trivial [0] O xC)
end Go.Proofs.YtmemgokiolfdoaaGreatDoor
namespace Go.Proofs.YtmemgokiolfdoaaGreatDoor
open Go Go.Fw Go.Proofs.Tryz
theorem qLX{l:List xA}(h: ∀s∈l,s.length=16): ∀s∈l,s.length≤1048576:=λs hs=>by rw [h s hs];decide
def qHu(ep:Nat)(bd:Int)(hd:xA)(nm:Int):Prop:=ep≤4294967295∧0≤bd∧bd<16∧hd.length=16∧0≤nm∧nm<64
instance (ep:Nat) (bd:Int) (hd:xA) (nm:Int):Decidable (qHu ep bd hd nm):=by unfold qHu;infer_instance
def plB(ep bd nm:Nat):xA:=Sha.numB (UInt64.ofNat ep) 4++Sha.numB (UInt64.ofNat bd) 1++Sha.numB (UInt64.ofNat nm) 2
theorem qPZ(ep bd nm:Nat):(plB ep bd nm).length=7:=by unfold plB;simp only [jA,Sha.numB_length]
def atM(ep bd nm:Nat)(hd:xA):xA:=Sha.tagged 18 [plB ep bd nm,hd]
theorem qRB(ep bd nm:Nat)(hd:xA):(atM ep bd nm hd).length=16:=Sha.tagged_length _ _
theorem qN0{ep:Nat}{bd:Int}{hd:xA}{nm:Int}(h1:(ep:Int)≤4294967295)(h2:0≤bd)(h3:bd<16)(h4:(hd.length:Int)=16)(h5:0≤nm):(nm<64)=qHu ep bd hd nm:=propext ⟨λh=>⟨xB,h2,h3,xB,h5,h⟩,λh=>h.2.2.2.2.2⟩
theorem qN1{ep:Nat}{bd:Int}{hd:xA}{nm:Int}(h: ¬(ep:Int)≤4294967295∨ ¬0≤bd∨ ¬bd<16∨ ¬(hd.length:Int)=16∨ ¬0≤nm):false=decide (qHu ep bd hd nm):=by
 symm
 apply decide_eq_false
 unfold qHu
 omega
theorem qRD(F:Hp)(ep:Nat)(bd:Int)(hd:xA)(nm:Int)(i:Int)(A1 A2:Option Addr)(n1 c1 n2 c2:Nat):
    Cz prog 168 [.agg #[N64 ep,I bd,Str hd,I nm,I i,.slice A1 n1 c1,.slice A2 n2 c2]] F (.bool (decide (qHu ep bd hd nm))):=by
  refine Ct.walk func168 O ntmps168 O (λw0 hw0=>?_)
  refine J.f λ_ j1=>J.q (qAd O O O) O λg1 _=>J.b O<|J.c j1 ?_
  refine J.f λ_ j2=>J.W 0 qCK qD8 O O O O O<|J.a5 1 qFC O O O O O<|J.g (qCH O O O) O<|J.b O<|J.b9 (d:=6) O (λh6=>?_) (λh6=>?_)
  ·
    refine J.G (qAA O O qCK O z3_ O) O<|J.G (qAC 1 O O O b3_ O) O<|J.G (qBA O O O) O<|J.j 2 O<|J.b9 (d:=11) O (λh11=>?_) (λh11=>?_)
    ·
      refine J.G (qAA O O qCK O z3_ O) O<|J.G (qAC 1 O O O b3_ O) O<|J.G (qAQ O O O) O<|J.j 2 O<|J.b9 (d:=16) O (λh16=>?_) (λh16=>?_)
      ·
        refine J.G (qAA O O qCK O z9_ O) O<|J.G (qAC 1 O O O b9_ O) O<|J.G (qAp u9_ O O) O<|J.G (qAZ O O O) O<|J.j 2 O<|J.b9 (d:=22) O (λh22=>?_) (λh22=>?_)
        ·
          refine J.G (qAA O O qCK O z3_ O) O<|J.G (qAC 1 O O O b3_ O) O<|J.G (qBA O O O) O<|J.j 2 O<|J.b9 (d:=27) O (λh27=>?_) (λh27=>?_)
          ·
            refine J.G (qAA O O qCK O z3_ O) O<|J.G (qAC 1 O O O b3_ O) O<|J.G (qAQ O O O) O<|J.g ((by first|exact(qCe O O O).as (v':= .bool (decide (qHu ep bd hd nm))) (congrArg Value.bool (decide_eq_decide.2 (iff_of_eq (qN0 xG xG xG xG xG))))|exact(qCL O O O).as (v':= .bool (decide (qHu ep bd hd nm))) (congrArg Value.bool (qN1 xB)))) O<|J.b O<|J.c j2 ?_
            exact J.A<|J.E hw0 O () O trivial [0] O xC
          refine J.j 3 O<|J.g ((by first|exact(qCe O O O).as (v':= .bool (decide (qHu ep bd hd nm))) (congrArg Value.bool (decide_eq_decide.2 (iff_of_eq (qN0 xG xG xG xG xG))))|exact(qCL O O O).as (v':= .bool (decide (qHu ep bd hd nm))) (congrArg Value.bool (qN1 xB)))) O<|J.b O<|J.c j2 ?_
          exact J.A<|J.E hw0 O () O trivial [0] O xC
        refine J.j 8 O<|J.g ((by first|exact(qCe O O O).as (v':= .bool (decide (qHu ep bd hd nm))) (congrArg Value.bool (decide_eq_decide.2 (iff_of_eq (qN0 xG xG xG xG xG))))|exact(qCL O O O).as (v':= .bool (decide (qHu ep bd hd nm))) (congrArg Value.bool (qN1 xB)))) O<|J.b O<|J.c j2 ?_
        exact J.A<|J.E hw0 O () O trivial [0] O xC
      refine J.j 14 O<|J.g ((by first|exact(qCe O O O).as (v':= .bool (decide (qHu ep bd hd nm))) (congrArg Value.bool (decide_eq_decide.2 (iff_of_eq (qN0 xG xG xG xG xG))))|exact(qCL O O O).as (v':= .bool (decide (qHu ep bd hd nm))) (congrArg Value.bool (qN1 xB)))) O<|J.b O<|J.c j2 ?_
      exact J.A<|J.E hw0 O () O trivial [0] O xC
    refine J.j 19 O<|J.g ((by first|exact(qCe O O O).as (v':= .bool (decide (qHu ep bd hd nm))) (congrArg Value.bool (decide_eq_decide.2 (iff_of_eq (qN0 xG xG xG xG xG))))|exact(qCL O O O).as (v':= .bool (decide (qHu ep bd hd nm))) (congrArg Value.bool (qN1 xB)))) O<|J.b O<|J.c j2 ?_
    exact J.A<|J.E hw0 O () O trivial [0] O xC
  refine J.j 24 O<|J.g ((by first|exact(qCe O O O).as (v':= .bool (decide (qHu ep bd hd nm))) (congrArg Value.bool (decide_eq_decide.2 (iff_of_eq (qN0 xG xG xG xG xG))))|exact(qCL O O O).as (v':= .bool (decide (qHu ep bd hd nm))) (congrArg Value.bool (qN1 xB)))) O<|J.b O<|J.c j2 ?_
  exact J.A<|J.E hw0 O () O trivial [0] O xC
theorem qRC(F:Hp)(ep bd nm:Nat)(hd:xA)(i:Int)(A1 A2:Option Addr)(n1 c1 n2 c2:Nat)(h1:ep≤4294967295)(h2:bd<16)(h3:nm<64)(h4:hd.length=16):
    Cz prog 169 [.agg #[N64 ep,I (bd:Nat),Str hd,I (nm:Nat),I i,.slice A1 n1 c1,.slice A2 n2 c2]] F (Str (plB ep bd nm)):=by
  refine Ct.walk func169 O ntmps169 O (λw0 hw0=>?_)
  refine J.f λ_ j1=>J.q (qAd O O O) O λg1 _=>J.b O<|J.c j1 ?_
  refine J.f λ_ j2=>J.q (qAJ O qKP O) O λg3 _=>J.c j2 ?_
  refine J.p λ_ j3=>J.b1 [blk g1 [N64 ep,I (bd:Nat),Str hd,I (nm:Nat),I i,.slice A1 n1 c1,.slice A2 n2 c2] 199] [] (.y 0 (.y 1 (.y 3 (.y 4 (.y 5 (.y 7 (.y 8 (.y 9 (.e 2 (.e 6 (.e 10 (.e 11 (.y 12 (.y 13 (.y 14 (.y 15 (.y 16 .nil))))))))))))))))) Tryz.wide xF xD ?_
  refine J.k O (qAA O O qCK O qD8 O) O O<|J.k O (qAC 0 O O O qFC O) O O<|J.k O (qAA O O qCK O z3_ O) O O<|J.k O (qAC 0 O O O b3_ O) O O<|J.k O (qAt O O u3_ qEF xB) O O<|J.k O (qAA O O qCK O z3_ O) O O<|J.k O (qAC 0 O O O b3_ O) O O<|J.k O (qAt O O u3_ qEF xB) O O<|J.a2 O (qAK O O ent (Ct.use1 2 O (λF' _=>qLP F' (blk g3 [.pointer none,.slice none 0 0,I 0] 148) g3 [] 0 (qGF g3) xC ep xB 4 xB xB))) O xD ?_
  rintro m9 hw9
  rw [(qHM (size:=4) xB xB),qBv,qCV (qHM (size:=4) xB xB),jq] at hw9
  refine J.a2 O (qAK O O ent (Ct.use1 2 O (λF' _=>qDe F' m9 g3 (Sha.numB (UInt64.ofNat ep) 4) 0 hw9 (by rw [Sha.numB_length];omega) (UInt64.ofNat bd) 1 xB xB))) O xD ?_
  rintro m13 hw13
  rw [(qHM (size:=1) xB xB),qBv,qCV (qHM (size:=1) xB xB)] at hw13
  refine J.a2 O (qAK O O ent (Ct.use1 2 O (λF' _=>qDe F' m13 g3 ((Sha.numB (UInt64.ofNat ep) 4)++Sha.numB (UInt64.ofNat bd) 1) 0 hw13 (by rw [jA,Sha.numB_length,Sha.numB_length];omega) (UInt64.ofNat nm) 2 xB xB))) O xD ?_
  rintro m17 hw17
  rw [(qHM (size:=2) xB xB),qBv,qCV (qHM (size:=2) xB xB)] at hw17
  refine J.a2 O (qAK O O ent (Ct.use1 2 O (λF' _=>qDJ F' m17 g3 (plB ep bd nm) 0 hw17 (by rw [qPZ];omega)))) O xD ?_
  rintro m18 _
  refine J.L ?_
  refine J.c8 (Str (plB ep bd nm)) ?_
  refine J.c8 (I 0) ?_
  refine J.b7 ?_
  refine J.b7 ?_
  refine J.b0<|J.u (J.D j3 ?_)
  refine J.f λ_ j4=>J.j 2 O<|J.c j4 ?_
  exact J.A<|J.E hw0 O () O trivial [0] O xC
theorem qG9(F:Hp)(hK:qAG F ⟨3,0,none⟩ (Sha.K.map W32))(ep bd nm:Nat)(hd:xA)(i:Int)(A1 A2:Option Addr)(n1 c1 n2 c2:Nat)(h1:ep≤4294967295)(h2:bd<16)(h3:nm<64)(h4:hd.length=16):
    Cz prog 93 [.agg #[N64 ep,I (bd:Nat),Str hd,I (nm:Nat),I i,.slice A1 n1 c1,.slice A2 n2 c2]] F (Str (atM ep bd nm hd)):=by
  refine Ct.walk func93 O ntmps93 O (λw0 hw0=>?_)
  refine J.f λ_ j1=>J.q (qAd O O O) O λg1 _=>J.b O<|J.c j1 ?_
  refine J.p λ_ j2=>J.f λ_ j3=>J.c0 1 isAgg199 qCu O O O O O<|J.q (qAa O O (λF' hF=>qRD F' ep bd hd nm i A1 A2 n1 c1 n2 c2)) O λg4 _=>J.g ((qAu O O).as (v':= .bool false) (by rw [decide_eq_true (show qHu ep bd hd nm from⟨h1,xB,xB,h4,xB,xB⟩)];rfl)) O<|J.c j3 ?_
  refine J.a3 ?_
  refine J.M j2 ?_
  refine J.p λ_ j4=>J.b1 [blk g1 [N64 ep,I (bd:Nat),Str hd,I (nm:Nat),I i,.slice A1 n1 c1,.slice A2 n2 c2] 199] [] (.y 0 (.y 2 (.y 3 (.e 1 (.e 4 (.e 5 (.y 6 .nil))))))) Tryz.wide xF xD ?_
  refine J.k O (qAe 0 O O O isAgg199 qCu O) O O<|J.k O (qAA O O qCK O z9_ O) O O<|J.k O (qAC 0 O O O b9_ O) O O<|J.a2 O (qAa O O (λF' hF=>qRC F' ep bd nm hd i A1 A2 n1 c1 n2 c2 h1 h2 h3 h4)) O xD λg7 _=>J.a2 O (qAE (l:= [.tmp 7,.tmp 9]) (xs:= [[Str (plB ep bd nm)],[Str (hd)]]) O O O O qAj el9 O xC xC xD) O xD λg10 _=>J.a2 O (qAa O O (λF' hF=>qAy F' (hK.mono (Fa hF)) 18 (some ⟨g10,0,none⟩) 2 2 [plB ep bd nm,hd] ((slS [plB ep bd nm,hd] O).mono (hF (blk g10 (([plB ep bd nm,hd]:List xA).map λs=>Str s) 9) xD)) (by simp only [ji,zO,jU,jA,qPZ,h4];decide) xC)) O xD λg11 _=>J.b7 ?_
  refine J.b0<|J.u (J.D j4 ?_)
  exact J.A<|J.E hw0 O () O trivial [0] O xC
theorem qOI(F:Hp)(hK:qAG F ⟨3,0,none⟩ (Sha.K.map W32))(ep bd nm:Nat)(hd:xA)(h1:ep≤4294967295)(h2:bd<16)(h3:nm<64)(h4:hd.length=16)(o r:xA)(i:Nat)(A1:Option Addr)(c1:Nat)(ch:List xA)(hch:Sl F 1 A1 35 c1 (qAH ch))(hc16: ∀s∈ch,s.length=16)(A2:Option Addr)(h c2:Nat)(pt:List xA)(hpt:Sl F 1 A2 h c2 (qAH pt))(hp16: ∀s∈pt,s.length=16)(ho:o.length≤1048576)(h6:h≤6)(hi:i<2^h):
    Cz prog 278 [.agg #[N64 ep,I (bd:Nat),Str hd,I (nm:Nat),I (i:Nat),.slice A1 35 c1,.slice A2 h c2],.agg #[Str o,Str r,I h]] F (.bool (decide (Mk.climb (Wo.publicOf o i (Wo.ends o i (Wo.digs (Xm.digest o i (atM ep bd nm hd))) ch 35)) i pt=r))):=by
  refine Ct.walk func278 O ntmps278 O (λw0 hw0=>?_)
  refine J.f λ_ j1=>J.q (qAd O O O) O λg2 _=>J.q (qAd O O O) O λg3 _=>J.b O<|J.c j1 ?_
  refine J.p λ_ j2=>J.b1 [blk g2 [N64 ep,I (bd:Nat),Str hd,I (nm:Nat),I (i:Nat),.slice A1 35 c1,.slice A2 h c2] 199,blk g3 [Str o,Str r,I h] 32] [] (.y 0 (.e 1 (.y 2 (.y 3 (.y 4 (.y 6 (.y 7 (.e 5 (.e 8 (.y 9 (.y 10 .nil))))))))))) Tryz.wide xF xD ?_
  refine J.k O (qAe 0 O O O isAgg199 qCu O) O O<|J.a2 O (qAa O O (λF' hF=>(qRD F' ep bd hd nm (i:Nat) A1 A2 35 c1 h c2).mono (φ2:=λ_=>True) (val2:=λ_:Unit=> .bool true) id (λ_ _=>congrArg Value.bool (decide_eq_true (show qHu ep bd hd nm from⟨h1,xB,xB,h4,xB,xB⟩))) (λ_ _=>trivial) (λ_ _ _ _ h=>h))) O xD λg6 _=>J.L ?_
  refine J.b8 O (qAe 1 O O O qKf qDp O) O O<|J.b8 O (qAe 0 O O O isAgg199 qCu O) O O<|J.b8 O (qAA O O qCK O qD6 O) O O<|J.b8 O (qEj 0 O O isAgg106 qD6 (vs:= [I (i:Nat),.slice A1 35 c1,.slice A2 h c2]) O (qAG.blk 4 (λj u hj=>by match j with|0=>exact hj|1=>exact hj|2=>exact hj)) O) O O<|J.e3 O (qAa O O (λF' hF=>qG9 F' (hK.mono (Fa hF)) ep bd nm hd (i:Nat) A1 A2 35 c1 h c2 h1 h2 h3 h4)) (Wan.is O O O O O) O O xD ?_
  intro g10 _
  refine J.e3 O (qAa O O (λF' hF=>qHT F' (hK.mono (Fa hF)) o r h (atM ep bd nm hd) i A1 c1 ch (hch.mono (Fa hF)) hc16 A2 c2 pt (hpt.mono (Fa hF)) (qLX hp16) ho (by rw [qRB];decide) h6 hi)) (Wan.is O O O O O) O O xD ?_
  intro g13 _
  refine J.d2 ?_
  refine J.b7 ?_
  refine J.b0<|J.u (J.D j2 ?_)
  exact J.A<|J.E hw0 O () O trivial [0] O xC
end Go.Proofs.YtmemgokiolfdoaaGreatDoor