/- A part of the proof. -/
import Derived.Test.YtcgcjaflllmlpaaGreatDoorTopCfG8
import Derived.Test.YtcgcjaflllmlpaaGreatDoorTopCfG16
import Derived.Test.YtcgcjaflllmlpaaGreatDoorTopCfG17
import Derived.Test.YtcgcjaflllmlpaaGreatDoorTopCfG6
import Derived.Test.YtcgcjaflllmlpaaGreatDoorTopCfG11
set_option linter.unusedSimpArgs false
set_option linter.unusedVariables false
namespace Go.Proofs.YtcgcjaflllmlpaaGreatDoor
open Go Go.Fw Go.Proofs.Tryz
set_option maxRecDepth 100000
set_option maxHeartbeats 1000000
theorem qQW{P:Program}{env:Env}{rs:List Hp}{o:Oper}{t e x q r sz A n' c h m}(ho:o.op= .slice t x none (some q) (some r))(hx:ev env x=some (.slice A n' c))(hu:P.underlying t=some (.slice e))(hz: ∀w,(sizeOf e).run P w= .ok sz w)
    (hhi:ev env q=some (I ((h:Nat):Int))) (hmx:ev env r=some (I ((m:Nat):Int))) (hr:h≤m∧m≤c):YOp P env rs o (.slice A h m):=λn a w hk _=>by
  simp [execOp,ho,hk.ev hx,hk.ev hhi,hk.ev hmx,Instr.sliceAt,Instr.slice,run_underlying hu,Instr.sliceBounds,Instr.sliceBound,asIntOf,hr.1,hr.2,hz]
  intro _
  cases A<;>simp [Addr.add]
theorem ent77:qAD prog 77:=qAD.of func77 rfl (by kernel_rfl)
theorem ent188:qAD prog 188:=qAD.of func188 rfl (by kernel_rfl)
theorem ent216:qAD prog 216:=qAD.of func216 rfl (by kernel_rfl)
namespace Wd
open Sha
def drawN(fuel:Nat)(n:UInt64)(s:Strm):Option (UInt64×Strm):=if n.toNat<2 then some (0,s) else(draw (stop n) fuel s).map λx=>(x.1%n,x.2)
def start(a:Nat):List Int:=(List.range a).map λi:Nat=>(i:Int)
def wins(fuel a:Nat)(s0:Strm):Nat→Option (List Int×Strm)
  |0=>some (start a,s0)
  |k+1=>(wins fuel a s0 k).bind λx=>(drawN fuel (UInt64.ofNat (a-k)) x.2).map λy=>
      ((x.1.set k (x.1.getD (k+y.1.toNat) 0)).set (k+y.1.toNat) (x.1.getD k 0),y.2)
def seedOf(seed:List UInt8)(band:Nat):List UInt8:=Sha.tagged 17 [seed,[UInt8.ofNat band]]
theorem drawN_lt{fuel:Nat}{n:UInt64}{s:Strm}{v:UInt64}{s':Strm}(h:drawN fuel n s=some (v,s'))(hn:1≤n.toNat):v.toNat<n.toNat:=by
  unfold drawN at h
  split at h
  · simp only [zN,ze] at h
    rw [←h.1];exact hn
  · obtain ⟨x,_,h2⟩:=Option.map_eq_some_iff.1 h
    simp only [ze] at h2
    rw [←h2.1,UInt64.toNat_mod]
    exact Nat.mod_lt _ hn
theorem drawN_ok{fuel:Nat}{n:UInt64}{s:Strm}{v:UInt64}{s':Strm}(h:drawN fuel n s=some (v,s'))(ho:s.Ok8):s'.Ok8∧s'.seed=s.seed:=by
  unfold drawN at h
  split at h
  · simp only [zN,ze] at h
    rw [←h.2];exact⟨ho,rfl⟩
  · obtain ⟨x,h1,h2⟩:=Option.map_eq_some_iff.1 h
    obtain ⟨k,s1⟩:=x
    simp only [ze] at h2
    rw [←h2.2];exact qRV h1 ho
theorem wins_pre{fuel a:Nat}{s0:Strm}: ∀{k j:Nat} {x:List Int×Strm},wins fuel a s0 k=some x→j≤k→ ∃y,wins fuel a s0 j=some y
  |0,j,x,h,hj=>⟨x,by rw [show j=0 by omega];exact h⟩
  |k+1,j,x,h,hj=>by
    by_cases e:j=k+1
    · exact⟨x,by rw [e];exact h⟩
    · obtain ⟨z,hz,_⟩:=Option.bind_eq_some_iff.1 (show(wins fuel a s0 k).bind _=some x from h)
      exact wins_pre hz (by omega)
def part(a k:Nat):List Value:=((List.range k).map λi=>I ((i:Nat):Int))++List.replicate (a-k) (I 0)
theorem part_zero(a:Nat):(List.replicate a [I 0]).flatten=part a 0:=by
 unfold part
 simp only [List.range_zero,zT,jq,zz]
 induction a with
 |zero=>rfl
 |succ a ih=>simp only [yH,ja,ih];rfl
theorem part_len(a k:Nat)(h:k≤a):(part a k).length=a:=by simp [part];omega
theorem part_succ(a k:Nat)(h:k<a):qBC (part a k) k [I k]=part a (k+1):=by
 have e:a-k=(a-(k+1))+1:=by omega
 have h2:=qLP ((List.range k).map λi=>I ((i:Nat):Int)) (I 0) (a-(k+1)) (I k)
 rw [jN,zV] at h2
 unfold qBC part
 rw [e,jH,h2,jw,jM]
 rfl
theorem part_full(a:Nat):part a a=(start a).map λx=>I x:=by simp [part,start]
theorem setAt_ints(l:List Int)(k:Nat)(x:Int)(h:k<l.length):qBC (l.map λx=>I x) k [I x]=(l.set k x).map λx=>I x:=by
 unfold qBC
 rw [jH,List.set_eq_take_append_cons_drop,if_pos h,jM,jZ,List.map_take,List.map_drop]
 simp
theorem getI{l:List Int}{j:Nat}(h:j<l.length):(l.map λx=>I x)[j]?=some (I (l.getD j 0)):=by
 rw [jO,jC h,jB,jC h];rfl
def find:List Int→Int→Nat→Int
 | [],_,_=> -1
 |a::r,v,k=>if v=a then(k:Int) else find r v (k+1)
end Wd
theorem qRx(F:Hp)(hK:KF F)(g:Nat)(s:Sha.Strm)(ho:s.Ok8)(hs:s.seed.length≤1048576)(n:UInt64)(fuel:Nat)(k:UInt64)(s':Sha.Strm)(hd:Wd.drawN fuel n s=some (k,s')):
    Ct prog 146 [Ptr g,W64 n] [blk g s.cells 286,F] (λ_:Unit=>W64 k) (λ_=>True) (λ_=> [blk g s'.cells 286,F]):=by
  unfold Wd.drawN at hd
  split at hd
  · rename_i hn
    simp only [zN,ze] at hd
    obtain ⟨rfl,rfl⟩:=hd
    exact qMD F g s n hn
  · rename_i hn
    obtain ⟨x,h1,h2⟩:=Option.map_eq_some_iff.1 hd
    obtain ⟨y,s1⟩:=x
    simp only [ze] at h2
    obtain ⟨rfl,rfl⟩:=h2
    exact qN4 F hK g s ho hs n (by omega) fuel y s1 h1
theorem of_ct(F:Hp)(hK:KF F)(seed:List UInt8)(hseed:seed.length≤1048576)(b a sl:Nat)(hb:b<16)(ha:a≤64)(h1:1≤sl)(hsl:sl≤a)(fuel:Nat)(l:List Int)(st:Sha.Strm)(hw:Wd.wins fuel a (Sha.Strm.new (Wd.seedOf seed b)) sl=some (l,st)):
    Ct prog 77 [Str seed,I b,I a,I sl] [F] (λg:Nat=> .tuple #[.slice (some ⟨g,0,none⟩) sl sl,I 0]) (λ_=>True) (λg=> [F,blk g (l.map λx=>I x) 3]):=by
  have hsd:(Wd.seedOf seed b).length≤1048576:=by unfold Wd.seedOf;rw [Sha.tagged_length];decide
  refine Ct.walk func77 rfl ntmps77 rfl (λw0 hw0=>?_)
  refine J.f λ_ j1=>J.q 2 O<|J.c j1<|J.k λ_ j2=>J.O<|J.f λ_ j3=>J.b O<|J.g ((qAT O O O).no (by omega)) O<|J.q 2 O<|J.G ((qBA O O O).no (by omega)) O<|J.q 3 O<|J.G ((qAT O O O).no (by omega)) O<|J.q 3 O<|J.G ((qA5 O O O).no (by omega)) O<|J.q 3 O<|J.G ((qAT O O O).no (by omega)) O<|J.q 2 O<|J.c j3<|J.a1 ?_
  refine J.f λ_ j4=>J.q 2 O<|J.g ((qA5 O O O).no (by omega)) O<|J.b O<|J.c j4<|J.a1 ?_
  refine J.b5<|J.a2<|J.u (J.D j2 ?_)
  refine J.f λ_ j5=>J.q 2 O<|J.g (qAv O O u3_ u5_) O<|J.p (qAG (l:= [.tmp 40]) (xs:= [[B8 (UInt8.ofNat b)]]) O O O O qBl el5 O (by decide) (by decide) (by simp)) rfl λg41 _=>J.g (qBi (l:= [UInt8.ofNat b]) rfl rfl qBl u5_ u9_ (m:=blk g41 [B8 (UInt8.ofNat b)] 5) (by simp) (qAl (q:=True) (xs:= [[B8 (UInt8.ofNat b)]]) rfl (by simp)).sl) rfl<|J.p (qAG (l:= [.tmp 38,.tmp 42]) (xs:= [[Str seed],[Str [UInt8.ofNat b]]]) rfl rfl rfl rfl qAk el9 rfl (by decide) (by decide) (by simp)) rfl λg43 _=>J.p (qAB rfl rfl ent46 (Ct.use0 (λF' hF=>qA3 F' (hK.mono (Fa hF)) 17 (some ⟨g43,0,none⟩) 2 2 [seed,[UInt8.ofNat b]] (((qAl (q:=True) (xs:=qAI [seed,[UInt8.ofNat b]]) rfl (by simp [qAI])).sl (m:=blk g43 [Str seed,Str [UInt8.ofNat b]] 9)).mono (Fa hF)) (by simp;omega) (by decide)))) rfl λg44 _=>J.p (qAB rfl rfl ent145 (Ct.use (λF' _=>qKG F' (Wd.seedOf seed b)))) rfl λg45 _=>J.b rfl<|J.c j5<|J.f λ_ j6=>J.b rfl<|J.p (qCC rfl rfl qC7 el3 (by omega) (by omega)) rfl λg47 _=>J.c1 [0,3,4] [F,blk g45 (Sha.Strm.new (Wd.seedOf seed b)).cells 286,blk g47 (List.replicate a [I 0]).flatten 3] rfl (by decide)<|J.b rfl<|J.c j6<|J.k λ_ j7=>J.f λ_ j8=>J.b rfl<|J.g (qAU qC7 rfl rfl) rfl<|J.b rfl<|J.c j8<|J.O<|J.b4 (λk:Nat=> [(2,I a),(3,I sl),(10,Ptr g45),(11,.slice (some ⟨g47,0,none⟩) a a),(49,I a),(50,I k)]) (λk=> [F,blk g45 (Sha.Strm.new (Wd.seedOf seed b)).cells 286,blk g47 (Wd.part a k) 3]) (λk=>k≤a) (λk=>a-k) 0 (jG _) ⟨rfl,rfl,rfl,rfl,rfl,rfl,trivial⟩ (λ_ h=>by rw [←Wd.part_zero];exact h) ?_
  intro k hk I1 hI1
  refine J.f λ_ j9=>J.g (qAT O O O) O<|J.c j9<|J.k λ_ j10=>J.W O (λh51=>?_) (λh51=>?_)
  ·
    refine J.M j10<|J.k λ_ j11=>J.O<|J.f λ_ j12=>J.q 2 O<|J.c j12<|J.H<|J.q 3 O<|J.g (qAi (i:=k) (j:=k) O O O qC7 z3_ (by omega) (by omega)) O<|J.a6 (qAW (i:=2) O O O O O z3_ O (by rw [Wd.part_len a k (by omega)];show k+1≤a;omega)) rfl rfl λ_ _=>J.a3<|J.a2<|J.u (J.D j11 ?_)
    exact J.H<|J.g (qAS O O O (by omega)) O<|J.b O<|J.a3<|J.u<|J.a4 (k+1) (λx (hx:x≤a∧a-x<a-k)=>hI1 x hx.1 hx.2) ⟨by omega,by omega⟩ ⟨O,O,O,O,O,O,trivial⟩ (λ_ h=>by rw [←Wd.part_succ a k (by omega)];exact h)
  refine J.b2<|J.a0<|J.a0<|J.b3 ?_
  refine J.u (J.D j7 ?_)
  refine J.k λ_ j13=>J.k λ_ j14=>?_
  have hka:a=k:=by omega
  subst hka
  refine J.H<|J.q 2 O<|J.c j14<|J.O<|J.b4 (X:=Nat×List Int×Sha.Strm) (λx=> [(2,I a),(3,I sl),(10,Ptr g45),(11,.slice (some ⟨g47,0,none⟩) a a),(58,I sl),(59,I x.1)]) (λx=> [F,blk g45 x.2.2.cells 286,blk g47 (x.2.1.map λx=>I x) 3]) (λx=>x.1≤sl∧Wd.wins fuel a (Sha.Strm.new (Wd.seedOf seed b)) x.1=some (x.2.1,x.2.2)∧x.2.1.length=a∧x.2.2.Ok8∧x.2.2.seed=Wd.seedOf seed b) (λx=>sl-x.1) (0,Wd.start a,(Sha.Strm.new (Wd.seedOf seed b))) (⟨jG _,O,by simp [Wd.start],rfl,rfl⟩) ⟨rfl,rfl,rfl,rfl,rfl,rfl,trivial⟩ (λ_ h=>by rw [←Wd.part_full];exact h) ?_
  rintro⟨k,li,s1⟩ ⟨hk,hwk,hll,ho,hse⟩ I3 hI3
  dsimp only at hk hwk hll ho hse⊢
  refine J.f λ_ j15=>J.g (qAT O O O) O<|J.c j15<|J.k λ_ j16=>J.W O (λh60=>?_) (λh60=>?_)
  ·
    refine J.M j16<|J.k λ_ j17=>J.O<|J.f λ_ j18=>J.q 2 O<|J.c j18<|J.k λ_ j19=>?_
    have hks:k<sl:=by omega
    obtain ⟨y,hy⟩:=Wd.wins_pre hw (show k+1≤sl by omega)
    have hy2:=hy
    rw [Wd.wins,hwk] at hy2
    obtain ⟨⟨v,s2⟩,hdr,hy3⟩:=Option.map_eq_some_iff.1 (show(Wd.drawN fuel (UInt64.ofNat (a-k)) s1).map _=some y from hy2)
    have hak:(UInt64.ofNat (a-k)).toNat=a-k:=by rw [zB];exact jd (by omega)
    have hv:=Wd.drawN_lt hdr (by omega)
    have hok2:=Wd.drawN_ok hdr ho
    rw [hak] at hv
    refine J.H<|J.q 4 O<|J.g ((qA4 O O O (by omega)).nat (a-k) (by omega)) O<|J.g (qAw O O u3_ qEU (by omega)) O<|J.p (qAB O O ent146 (Ct.use1 1 O (λF' hF=>qRx F' (hK.mono (Fa hF)) g45 s1 ho (by rw [hse];exact hsd) (UInt64.ofNat (a-k)) fuel v s2 hdr))) rfl λg68 _=>J.g (qEm rfl rfl qEU u3_ (by omega)) rfl<|J.g ((qAS rfl rfl rfl (by omega)).nat (k+v.toNat) (by omega)) rfl<|J.b rfl<|J.c j19<|J.b0 [blk g47 (li.map λx=>I x) 3] [13,14,15,100002,100003] (.y 0 (.y 1 (.y 2 (.y 3 (.y 4 (.y 5 (.y 6 (.y 7 (.y 8 (.y 9 (.y 10 (.y 11 (.y 12 (.e 13 (.e 14 (.e 15 .nil)))))))))))))))) Tryz.wide (by decide+kernel) (by simp) ?_
    refine J.L ?_
    refine J.L ?_
    refine J.d8 O (qA0 O O) O O O ?_
    refine J.d8 O (qA0 O O) O O O ?_
    refine J.L ?_
    refine J.L ?_
    refine J.j O (qAi (i:=k+v.toNat) (j:=k+v.toNat) O O O qC7 z3_ (by omega) (by omega)) O O<|J.j O (qAE 0 O O O b3_ (Wd.getI (l:=li) (j:=k+v.toNat) (by omega))) O O<|J.L ?_
    refine J.L ?_
    refine J.j O (qAi (i:=k) (j:=k) O O O qC7 z3_ (by omega) (by omega)) O O<|J.j O (qAE 0 O O O b3_ (Wd.getI (l:=li) (j:=k) (by omega))) O O<|J.j O (qAi (i:=k) (j:=k) O O O qC7 z3_ (by omega) (by omega)) O O<|J.c2 O (qAW (i:=2) O O O O O z3_ O (by rw [jN];show k+1≤_;omega)) rfl rfl rfl λ_ _=>J.d6 rfl (YOp.eop (qAi (i:=k+v.toNat) (j:=k+v.toNat) rfl rfl rfl qC7 z3_ (by omega) (by omega))) rfl rfl rfl rfl ?_
    intro _ _
    refine J.c2 O (qAW (i:=2) O O O O O z3_ O (by rw [qCv (by rw [jN];omega),jN];show k+v.toNat+1≤_;omega)) rfl rfl rfl λ_ _=>J.a8<|J.a2<|J.u (J.D j17 ?_)
    refine J.H<|J.g (qAS O O O (by omega)) O<|J.b O<|J.a3<|J.u ?_
    rw [Wd.setAt_ints _ _ _ (by omega),Wd.setAt_ints _ _ _ (by rw [jm];omega)]
    exact J.a4 (k+1,(li.set k (li.getD (k+v.toNat) 0)).set (k+v.toNat) (li.getD k 0),s2) (λx (hx:_∧sl-x.1<sl-k)=>hI3 x hx.1 hx.2) ⟨⟨by dsimp only;omega,by dsimp only;rw [hy];exact congrArg some hy3.symm,by dsimp only;rw [jm,jm];exact hll,hok2.1,hok2.2.trans hse⟩,by dsimp only;omega⟩ ⟨rfl,rfl,rfl,rfl,rfl,rfl,trivial⟩ (λ_ h=>h)
  refine J.b2<|J.a0<|J.a0<|J.b3 ?_
  refine J.u (J.D j13 ?_)
  refine J.k λ_ j20=>?_
  have hks:sl=k:=by omega
  subst hks
  rw [hwk] at hw
  simp only [zN,ze] at hw
  exact J.H<|J.q 3 O<|J.g (qQW O O qC7 z3_ O O (by omega)) O<|J.q 2 O<|J.c j20<|J.A<|J.a9 hw0 (λ_ _ h=>h) (qCG O O O) (qAq g47 O trivial [0,2] (by rw [←hw.1];rfl) (by decide))
theorem qT6(F:Hp)(A:Option Addr)(n c:Nat)(l:List Int)(hl:Sl F 1 A n c (qFc l))(v:Int)(hn:n<4611686018427387904):
    Cz prog 216 [.slice A n c,I v] F (I (Wd.find l v 0)):=by
  have hlen:l.length=n:=by have:=hl.1;simpa [qFc] using this
  refine Ct.walk func216 rfl ntmps216 rfl (λw0 hw0=>?_)
  refine J.f λ_ j1=>J.b O<|J.c j1<|J.k λ_ j2=>J.f λ_ j3=>J.b O<|J.g (qAU qC7 O O) O<|J.b O<|J.c j3<|J.O<|J.b4 (λk:Nat=> [(0,.slice A n c),(1,I v),(7,I n),(8,I k)]) (λ_=> [F]) (λk=>k≤n∧Wd.find (l.drop k) v k=Wd.find l v 0) (λk=>n-k) 0 (⟨jG _,O⟩) ⟨O,O,O,O,trivial⟩ (λ_ h=>h) ?_
  rintro k ⟨hk,hc⟩ I0 hI0
  refine J.f λ_ j4=>J.g (qAT O O O) O<|J.c j4<|J.k λ_ j5=>J.W O (λh9=>?_) (λh9=>?_)
  ·
    refine J.M j5<|J.k λ_ j6=>J.O<|J.f λ_ j7=>J.q 2 O<|J.c j7<|J.k λ_ j8=>?_
    have hkn:k<n:=by omega
    obtain ⟨s,hs⟩: ∃s,l[k]?=some s:=⟨_,jC (by omega)⟩
    have hdr:l.drop k=s::l.drop (k+1):=by
      obtain ⟨hk2,rfl⟩:=List.getElem?_eq_some_iff.1 hs
      exact zE hk2
    rw [hdr,Wd.find] at hc
    refine J.H<|J.q 3 O<|J.g (qAH O O O qC7 z3_ hl (by omega)) O<|J.g (qAJ O O b3_ (m:=F) (by simp) (hl.elem (qRA hs))) rfl<|J.g (qAg rfl rfl rfl) rfl<|J.c j8<|J.W rfl (λh16=>?_) (λh16=>?_)
    ·
      refine J.f λ_ j9=>J.q 2 O<|J.c j9<|J.A<|J.a7<|J.V<|J.V<|J.a7<|J.V ?_
      rw [if_pos h16] at hc
      exact J.E hw0 O () (by rw [←hc]) trivial [0] rfl (by decide)
    refine J.b5<|J.a2<|J.u (J.D j6 ?_)
    refine J.H<|J.g (qAS O O O (by omega)) O<|J.b O<|J.a3<|J.u ?_
    rw [if_neg h16] at hc
    exact J.a4 (k+1) (λx (hx:_∧n-x<n-k)=>hI0 x hx.1 hx.2) ⟨⟨by omega,hc⟩,by omega⟩ ⟨O,O,O,O,trivial⟩ (λ_ h=>h)
  refine J.b2<|J.a0<|J.a0<|J.b3 ?_
  refine J.u (J.D j2 ?_)
  refine J.k λ_ j10=>?_
  rw [jp (by omega)] at hc
  exact J.H<|J.b O<|J.c j10<|J.A<|J.E hw0 O () (by rw [←hc];rfl) trivial [0] rfl (by decide)
theorem qVx(F:Hp)(A:Option Addr)(n c:Nat)(l:List Int)(hl:Sl F 1 A n c (qFc l))(v:Int)(hn:n<4611686018427387904):
    Cz prog 188 [.slice A n c,I v] F (.tuple #[I (max (Wd.find l v 0) 0),.bool (decide (0≤Wd.find l v 0))]):=by
  refine Ct.walk func188 rfl ntmps188 rfl (λw0 hw0=>?_)
  exact J.f λ_ j1=>J.q 2 O<|J.c j1<|J.f λ_ j2=>J.q 2 O<|J.p (qAB O O ent216 (qT6 F A n c l hl v hn)) O λg9 _=>J.b O<|J.c j2<|J.f λ_ j3=>J.b O<|J.g (qHi O O O) O<|J.b O<|J.g (qBA O O O) O<|J.q 2 O<|J.c j3<|J.A<|J.a9 hw0 (λ_ _ h=>h) (qCG O O O) (qAq () O trivial [0] O (by decide))
end Go.Proofs.YtcgcjaflllmlpaaGreatDoor
namespace Go.Proofs.YtcgcjaflllmlpaaGreatDoor
open Go Go.Fw Go.Proofs.Tryz
set_option maxRecDepth 100000
set_option maxHeartbeats 1000000
def sgB(i:Nat)(ch pt:List (List UInt8)):List UInt8:= [UInt8.ofNat i]++ch.flatten++ [UInt8.ofNat pt.length]++pt.flatten
theorem qU9: ∀k,k<256→Sha.numB (UInt64.ofNat k) 1= [UInt8.ofNat k]:=by decide+kernel
theorem qTb: ∀k,k<256→okN (UInt64.ofNat k) 1=true:=by decide+kernel
theorem qKW{l:List (List UInt8)}{k:Nat}(h:k<l.length):(l.take (k+1)).flatten=(l.take k).flatten++l.getD k []:=by
 rw [jP h,zM,ja,jx,jQ,jB,jC h];rfl
theorem qFY{l:List (List UInt8)}(h: ∀s∈l,s.length=16):l.flatten.length=16*l.length:=by
 induction l with
 |nil=>rfl
 |cons a l ih=>
  rw [ja,jA,ih (λs hs=>h s (.tail _ hs)),h a (.head _),jD];omega
theorem qHw{l:List (List UInt8)}(h: ∀s∈l,s.length=16){k:Nat}(hk:k<l.length):(l.getD k []).length=16:=by
 rw [jB,jC hk]
 exact h _ (jX hk)
theorem qMT{l:List (List UInt8)}(h: ∀s∈l,s.length=16)(k:Nat):(l.take k).flatten.length≤16*l.length:=by
 rw [qFY (λs hs=>h s (yF hs)),jF];omega
theorem qN8(F:Hp)(i:Nat)(A1:Option Addr)(c1:Nat)(ch:List (List UInt8))(hch:Sl F 1 A1 35 c1 (qAI ch))(A2:Option Addr)(n2 c2:Nat)(pt:List (List UInt8))(hpt:Sl F 1 A2 n2 c2 (qAI pt))
    (hi:i≤63) (hn:n2≤6) (hc16: ∀s∈ch,s.length=16) (hp16: ∀s∈pt,s.length=16):
    Cz prog 133 [.agg #[I i,.slice A1 35 c1,.slice A2 n2 c2]] F (.tuple #[Str (sgB i ch pt),I 0]):=by
  have hl1:ch.length=35:=by have:=hch.1;simpa [qAI] using this
  have hl2:pt.length=n2:=by have:=hpt.1;simpa [qAI] using this
  refine Ct.walk func133 rfl ntmps133 rfl (λw0 hw0=>?_)
  refine J.f λ_ j1=>J.p (qAd O O O) O λg1 _=>J.q 2 O<|J.c j1 ?_
  refine J.k λ_ j2=>J.f λ_ j3=>J.T 0 qJZ z3_ O O O O O<|J.a5 1 b3_ O O O O O<|J.g ((qAT O O O).no (by omega)) O<|J.b O<|J.G (qAA O O qJZ O z3_ O) O<|J.G (qAE 1 O O O b3_ O) O<|J.G ((qA5 O O O).no (by omega)) O<|J.q 2 O<|J.G (qAA O O qJZ O qBs O) O<|J.G (qAE 1 O O O qB8 O) O<|J.G (qAU qAk O O) O<|J.G ((qAe O O O).no (by omega)) O<|J.q 2 O<|J.G (qAA O O qJZ O qBs O) O<|J.G (qAE 1 O O O qB8 O) O<|J.G (qAU qAk O O) O<|J.G ((qA5 O O O).no (by omega)) O<|J.b O<|J.c j3 ?_
  refine J.a1 ?_
  refine J.M j2 ?_
  refine J.f λ_ j4=>J.p (qAL O qKb O) O λg4 _=>J.c j4 ?_
  refine J.f λ_ j5=>J.T 0 qJZ z3_ O O O O O<|J.a5 1 b3_ O O O O O<|J.g ((qAw O O u3_ qEU (by omega))) O<|J.p (qAB O O ent67 (Ct.use1 2 O (λF' _=>qDg F' (blk g4 [.pointer none,.slice none 0 0,I 0] 158) g4 [] 0 (qF5 g4) (by decide) (UInt64.ofNat i) 1 (by omega) (by omega)))) O ?_
  rintro m32 hw32
  rw [qTb i (by omega),qB2,qCX (qTb i (by omega)),qU9 i (by omega),jq] at hw32
  refine J.c j5 ?_
  refine J.k λ_ j6=>J.f λ_ j7=>J.T 1 qJZ qBs O O O O O<|J.a5 1 qB8 O O O O O<|J.g (qAU qAk O O) O<|J.b O<|J.c j7 ?_
  refine J.O<|J.b4 (X:=Nat×Hp) (λx=> [(1,Ptr g1),(4,Ptr g4),(34,.slice A1 35 c1),(35,I 35),(36,I x.1)]) (λx=> [F,blk g1 [I i,.slice A1 35 c1,.slice A2 n2 c2] 68,x.2]) (λx=>x.1≤35∧Wtr x.2 g4 ([UInt8.ofNat i]++(ch.take x.1).flatten) 0) (λx=>35-x.1) (0,m32) (⟨jG _,by rw [zg,jx,jQ];exact hw32⟩) ⟨rfl,rfl,rfl,rfl,rfl,trivial⟩ (λ_ h=>h) ?_
  rintro⟨k,m⟩ ⟨hk,hw⟩ I0 hI0
  dsimp only at hk hw⊢
  refine J.f λ_ j8=>J.g (qAT O O O) O<|J.c j8 ?_
  refine J.k λ_ j9=>J.W O (λh37=>?_) (λh37=>?_)
  ·
    refine J.M j9 ?_
    refine J.k λ_ j10=>J.O<|J.f λ_ j11=>J.g (qAH O O O qAk z9_ hch (by omega)) O<|J.g (qAJ O O b9_ (m:=F) (by simp) (hch.elem (qAa (qAj [] (show k<ch.length by omega))))) rfl<|J.b rfl<|J.c j11 ?_
    have hg16:=qHw hc16 (show k<ch.length by omega)
    refine J.H<|J.b O<|J.p (qAB O O ent101 (Ct.use1 2 O (λF' _=>qDH F' m g4 ([UInt8.ofNat i]++(ch.take k).flatten) 0 hw (by have:=qMT hc16 k;have:=qMT hp16 k;have h3:=qFY hc16;simp only [jA,jH];omega) (ch.getD k []) (by omega) 16))) rfl ?_
    rintro m41 hw41
    rw [qGB (qHw hc16 (by omega)),qLh (qHw hc16 (by omega)),qB2,jV,←qKW (by omega)] at hw41
    refine J.a3<|J.a2<|J.u (J.D j10 ?_)
    exact J.H<|J.g ((qAS O O O (by omega)).nat (k+1) (by omega)) O<|J.b O<|J.a3<|J.u<|J.a4 (k+1,m41) (λx (hx:_∧35-x.1<35-k)=>hI0 x hx.1 hx.2) ⟨⟨by dsimp only;omega,hw41⟩,by dsimp only;omega⟩ ⟨O,O,O,O,O,trivial⟩ (λ_ h=>h)
  refine J.b2<|J.a0<|J.a0<|J.b3 ?_
  refine J.u (J.D j6 ?_)
  refine J.k λ_ j12=>?_
  rw [jc (by omega)] at hw
  refine J.H<|J.T 2 qJZ qBs O O O O O<|J.a5 1 qB8 O O O O O<|J.g (qAU qAk O O) O<|J.g ((qAw O O u3_ qEU (by omega))) O<|J.p (qAB O O ent67 (Ct.use1 2 O (λF' _=>qDg F' m g4 ([UInt8.ofNat i]++ch.flatten) 0 hw (by have h3:=qFY hc16;simp only [jA,jH];omega) (UInt64.ofNat n2) 1 (by omega) (by omega)))) rfl ?_
  rintro m47 hw47
  rw [qTb n2 (by omega),qB2,qCX (qTb n2 (by omega)),qU9 n2 (by omega)] at hw47
  refine J.c j12 ?_
  refine J.k λ_ j13=>J.f λ_ j14=>J.T 2 qJZ qBs O O O O O<|J.a5 1 qB8 O O O O O<|J.g (qAU qAk O O) O<|J.b O<|J.c j14 ?_
  refine J.O<|J.b4 (X:=Nat×Hp) (λx=> [(4,Ptr g4),(49,.slice A2 n2 c2),(50,I n2),(51,I x.1)]) (λx=> [F,blk g1 [I i,.slice A1 35 c1,.slice A2 n2 c2] 68,x.2]) (λx=>x.1≤n2∧Wtr x.2 g4 (([UInt8.ofNat i]++ch.flatten++ [UInt8.ofNat pt.length])++(pt.take x.1).flatten) 0) (λx=>n2-x.1) (0,m47) (⟨jG _,by rw [zg,jx,jQ,hl2];exact hw47⟩) ⟨rfl,rfl,rfl,rfl,trivial⟩ (λ_ h=>h) ?_
  rintro⟨k,mp⟩ ⟨hk,hw2⟩ I2 hI2
  dsimp only at hk hw2⊢
  refine J.f λ_ j15=>J.g (qAT O O O) O<|J.c j15 ?_
  refine J.k λ_ j16=>J.W O (λh52=>?_) (λh52=>?_)
  ·
    refine J.M j16 ?_
    refine J.k λ_ j17=>J.O<|J.f λ_ j18=>J.g (qAH O O O qAk z9_ hpt (by omega)) O<|J.g (qAJ O O b9_ (m:=F) (by simp) (hpt.elem (qAa (qAj [] (show k<pt.length by omega))))) rfl<|J.b rfl<|J.c j18 ?_
    have hg16:=qHw hp16 (show k<pt.length by omega)
    refine J.H<|J.b O<|J.p (qAB O O ent101 (Ct.use1 2 O (λF' _=>qDH F' mp g4 (([UInt8.ofNat i]++ch.flatten++ [UInt8.ofNat pt.length])++(pt.take k).flatten) 0 hw2 (by have:=qMT hc16 k;have:=qMT hp16 k;have h3:=qFY hc16;simp only [jA,jH];omega) (pt.getD k []) (by omega) 16))) rfl ?_
    rintro m56 hw56
    rw [qGB (qHw hp16 (by omega)),qLh (qHw hp16 (by omega)),qB2,jV,←qKW (by omega)] at hw56
    refine J.a3<|J.a2<|J.u (J.D j17 ?_)
    exact J.H<|J.g ((qAS O O O (by omega)).nat (k+1) (by omega)) O<|J.b O<|J.a3<|J.u<|J.a4 (k+1,m56) (λx (hx:_∧n2-x.1<n2-k)=>hI2 x hx.1 hx.2) ⟨⟨by dsimp only;omega,hw56⟩,by dsimp only;omega⟩ ⟨O,O,O,O,trivial⟩ (λ_ h=>h)
  refine J.b2<|J.a0<|J.a0<|J.b3 ?_
  refine J.u (J.D j13 ?_)
  refine J.k λ_ j19=>?_
  rw [jc (by omega)] at hw2
  refine J.H<|J.p (qAB O O ent68 (Ct.use1 2 O (λF' _=>qDJ F' mp g4 (sgB i ch pt) 0 hw2 (by unfold sgB;have h3:=qFY hc16;have h4:=qFY hp16;simp only [jA,jH];omega)))) rfl ?_
  rintro m58 hw58
  refine J.q 4 O<|J.c j19 ?_
  exact J.A<|J.a9 hw0 (λ_ _ h=>h) (qCG O O O) (qAq () O trivial [0] O (by decide))
def RS.tk(st:RS)(n:Nat):Nat→RS
 |0=>st
 |k+1=>(st.tk n k).take n
def RS.os(st:RS)(n:Nat):Nat→List (List UInt8)
 |0=> []
 |k+1=>st.os n k++ [(st.tk n k).out n]
def ck(s:List UInt8)(n k:Nat):List (List UInt8):=(List.range k).map λj=>(s.drop (n*j)).take n
def dA(s:List UInt8):RS:=((⟨s,0⟩:RS).take 1).tk 16 35
theorem ck_16{s:List UInt8}{k:Nat}(h:16*k≤s.length): ∀x∈ck s 16 k,x.length=16:=λx hx=>by
 simp only [ck,zc,List.mem_range] at hx
 obtain ⟨j,hj,rfl⟩:=hx
 rw [jF,jI];omega
theorem qIS{i:Nat}{ch pt:List (List UInt8)}(hc: ∀s∈ch,s.length=16)(hp: ∀s∈pt,s.length=16)(h1:ch.length=35):(sgB i ch pt).length=562+16*pt.length:=by
 unfold sgB
 simp only [jA,jH,qFY hc,qFY hp,h1]
theorem Mk.lvl_16(l:List (List UInt8))(hs: ∀s∈l,s.length=16): ∀j,∀s∈Mk.lvl l j,s.length=16
 |0,s,h=>hs s h
 |j+1,s,h=>by
  simp only [Mk.lvl,Mk.above,zc] at h
  obtain ⟨k,_,rfl⟩:=h
  exact Mk.node_length _ _
theorem Mk.path_16(l:List (List UInt8))(i h:Nat)(hs: ∀s∈l,s.length=16)(hl:l.length=2^h)(hi:i<2^h): ∀s∈Mk.path l i h,s.length=16:=λs hp=>by
 unfold Mk.path at hp
 simp only [zc,List.mem_range] at hp
 obtain ⟨j,hj,rfl⟩:=hp
 refine Mk.lvl_16 l hs j _ (Mk.getS_mem ?_)
 rw [Mk.lvl_length l h hl j (by omega),show h-j=(h-1-j)+1 by omega,jr,zp]
 refine Mk.xor_one _ _ ?_
 rw [z7 (jz j),Nat.mul_assoc,←Nat.pow_add,zp,←jr,show(h-1-j+j).succ=h by omega]
 exact hi
theorem Xm.leaves_16(seed:List UInt8)(k:Nat): ∀s∈Xm.leaves seed k,s.length=16:=λs hs=>by
 simp only [Xm.leaves,zc] at hs
 obtain ⟨i,_,rfl⟩:=hs
 exact Xm.pub_length _ _
theorem Mk.root_16(seed:List UInt8)(h:Nat):(Xm.root seed h).length=16:=by
 unfold Xm.root Mk.root
 exact Mk.lvl_16 _ (Xm.leaves_16 _ _) h _ (Mk.getS_mem (by rw [Mk.lvl_length _ h (Xm.leaves_length _ _) h (jK _),zH];decide))
theorem Wo.signs_len(seed:List UInt8)(i:Nat)(d:List Nat):(Wo.signs seed i d 35).length=35:=by simp [Wo.signs]
def qUo(m:Hp)(g:Nat)(seed:List UInt8)(h:Nat):Prop:= ∃A c,qAR m ⟨g,0,none⟩ (qBT seed (Wo.opn seed) (Xm.root seed h) h A (2^h) c)∧Sl m 1 A (2^h) c (qAI (Xm.leaves seed (2^h)))
theorem qUo.mono{m m':Hp}{g:Nat}{seed:List UInt8}{h:Nat}(hk:qUo m g seed h)(hl:Le m m'):qUo m' g seed h:=by
 obtain ⟨A,c,h1,h2⟩:=hk
 exact⟨A,c,h1.mono hl,h2.mono hl⟩
def sgC(seed:List UInt8)(i:Nat)(mg:List UInt8):List (List UInt8):=Wo.signs seed i (Wo.digs (Xm.digest (Wo.opn seed) i mg)) 35
def sgP(seed:List UInt8)(h i:Nat):List (List UInt8):=Mk.path (Xm.leaves seed (2^h)) i h
theorem qGO(seed:List UInt8)(i:Nat)(mg:List UInt8):(sgC seed i mg).length=35:=Wo.signs_len _ _ _
theorem qMc(seed:List UInt8)(i:Nat)(mg:List UInt8): ∀s∈sgC seed i mg,s.length=16:=Wo.signs_16 _ _ _ _
theorem qE3(seed:List UInt8)(h i:Nat):(sgP seed h i).length=h:=Mk.path_length _ _ _
theorem qMb(seed:List UInt8){h i:Nat}(hi:i<2^h): ∀s∈sgP seed h i,s.length=16:=Mk.path_16 _ _ _ (Xm.leaves_16 _ _) (Xm.leaves_length _ _) hi
theorem qMJ(F:Hp)(hK:KF F)(seed:List UInt8)(h:Nat)(hs:seed.length≤1048576)(h6:h≤6):
    Ct prog 18 [Str seed,I ((h:Nat):Int)] [F] (λx:Nat×Hp=> .tuple #[Ptr x.1,I 0]) (λx=>qUo x.2 x.1 seed h) (λx=> [F,x.2]):=λw0 w hw=>
  (qVa F hK seed h hs h6 w0 w hw).mono λe w' ⟨x,he,hx,hs'⟩=>⟨x,he,hx.see,hs'.pick [1,0] (by decide)⟩
theorem qJT(F:Hp)(hK:KF F)(g:Nat)(seed:List UInt8)(h:Nat)(hk:qUo F g seed h)(hs:seed.length≤1048576)(h6:h≤6)(i:Nat)(hi:i<2^h)(mg:List UInt8)(hm:mg.length≤1048576):
    Ct prog 34 [Ptr g,I ((i:Nat):Int),Str mg] [F] (λx:(Option Addr×Nat×Hp)×(Option Addr×Nat×Hp)=> .tuple #[.agg #[I ((i:Nat):Int),.slice x.1.1 (sgC seed i mg).length x.1.2.1,.slice x.2.1 (sgP seed h i).length x.2.2.1],I 0])
      (λx=>Row x.1.2.2 9 1 x.1.1 (sgC seed i mg).length x.1.2.1 (qAI (sgC seed i mg))∧Row x.2.2.2 9 1 x.2.1 (sgP seed h i).length x.2.2.1 (qAI (sgP seed h i))) (λx=> [F,x.1.2.2,x.2.2.2]):=by
  obtain ⟨A,c,h1,h2⟩:=hk
  rw [qGO,qE3]
  exact qSS F hK g seed h A c h1 h2 hs h6 mg hm i hi
theorem qH9(F:Hp)(g:Nat)(seed:List UInt8)(h:Nat)(hk:qUo F g seed h):Cz prog 19 [Ptr g] F (.agg #[Str (Wo.opn seed),Str (Xm.root seed h),I ((h:Nat):Int)]):=by
 obtain ⟨A,c,h1,h2⟩:=hk
 exact qNo F g seed (Wo.opn seed) (Xm.root seed h) h A (2^h) c h1
theorem qG0(seed:List UInt8)(h i:Nat)(hi:i<2^h):Mk.climb (Wo.pub seed i) i (sgP seed h i)=Xm.root seed h:=by
 have:=Mk.climb_root (Xm.leaves seed (2^h)) h i (Xm.leaves_length _ _) hi
 rw [Xm.leaves_get seed _ i hi] at this
 exact this
theorem qH8(F:Hp)(hK:KF F)(seed:List UInt8)(h i:Nat)(mg:List UInt8)(A1:Option Addr)(n1 c1:Nat)(hch:Sl F 1 A1 n1 c1 (qAI (sgC seed i mg)))(A2:Option Addr)(n2 c2:Nat)(hpt:Sl F 1 A2 n2 c2 (qAI (sgP seed h i)))(hm:mg.length≤1048576)(h6:h≤6)(hi:i<2^h):
    Cz prog 132 [.agg #[Str (Wo.opn seed),Str (Xm.root seed h),I ((h:Nat):Int)],Str mg,.agg #[I ((i:Nat):Int),.slice A1 n1 c1,.slice A2 n2 c2]] F (.bool true):=by
  have e1:(sgC seed i mg).length=n1:=by have:=hch.1;simpa [qAI] using this
  have e2:(sgP seed h i).length=n2:=by have:=hpt.1;simpa [qAI] using this
  rw [qGO] at e1
  rw [qE3] at e2
  subst e1
  subst e2
  have:=qHO F hK (Wo.opn seed) (Xm.root seed h) h mg i A1 c1 (sgC seed i mg) hch (qMc _ _ _) A2 c2 (sgP seed h i) hpt (λs hs=>by rw [qMb seed hi s hs];decide) (by rw [Wo.opn_length];decide) hm h6 hi
  have e:Wo.publicOf (Wo.opn seed) i (Wo.ends (Wo.opn seed) i (Wo.digs (Xm.digest (Wo.opn seed) i mg)) (sgC seed i mg) 35)=Wo.pub seed i:=Wo.recPub seed i _ (by rw [Xm.digest_length];decide)
  rw [e,qG0 seed h i hi,decide_eq_true rfl] at this
  exact this
theorem qLr{l:List (List UInt8)}(h: ∀s∈l,s.length=16): ∀s∈l,s.length≤1048576:=λs hs=>by rw [h s hs];decide
def qHo(ep:Nat)(bd:Int)(hd:List UInt8)(nm:Int):Prop:=ep≤4294967295∧0≤bd∧bd<16∧hd.length=16∧0≤nm∧nm<64
instance (ep:Nat) (bd:Int) (hd:List UInt8) (nm:Int):Decidable (qHo ep bd hd nm):=by unfold qHo;infer_instance
def plB(ep bd nm:Nat):List UInt8:=Sha.numB (UInt64.ofNat ep) 4++Sha.numB (UInt64.ofNat bd) 1++Sha.numB (UInt64.ofNat nm) 2
theorem qQJ(ep bd nm:Nat):(plB ep bd nm).length=7:=by unfold plB;simp only [jA,Sha.numB_length]
def atM(ep bd nm:Nat)(hd:List UInt8):List UInt8:=Sha.tagged 18 [plB ep bd nm,hd]
theorem qR2(ep bd nm:Nat)(hd:List UInt8):(atM ep bd nm hd).length=16:=Sha.tagged_length _ _
theorem qOX{ep:Nat}{bd:Int}{hd:List UInt8}{nm:Int}(h1:(ep:Int)≤4294967295)(h2:0≤bd)(h3:bd<16)(h4:(hd.length:Int)=16)(h5:0≤nm):(nm<64)=qHo ep bd hd nm:=propext ⟨λh=>⟨by omega,h2,h3,by omega,h5,h⟩,λh=>h.2.2.2.2.2⟩
theorem qOY{ep:Nat}{bd:Int}{hd:List UInt8}{nm:Int}(h: ¬(ep:Int)≤4294967295∨ ¬0≤bd∨ ¬bd<16∨ ¬(hd.length:Int)=16∨ ¬0≤nm):false=decide (qHo ep bd hd nm):=by
 symm
 apply decide_eq_false
 unfold qHo
 omega
theorem qR4(F:Hp)(ep:Nat)(bd:Int)(hd:List UInt8)(nm:Int)(i:Int)(A1 A2:Option Addr)(n1 c1 n2 c2:Nat):
    Cz prog 83 [.agg #[N64 ep,I bd,Str hd,I nm,I i,.slice A1 n1 c1,.slice A2 n2 c2]] F (.bool (decide (qHo ep bd hd nm))):=by
  refine Ct.walk func83 rfl ntmps83 rfl (λw0 hw0=>?_)
  refine J.f λ_ j1=>J.p (qAd O O O) O λg1 _=>J.b O<|J.c j1 ?_
  refine J.f λ_ j2=>J.T 0 qFi qD9 O O O O O<|J.a5 1 qEz O O O O O<|J.g (qCM O O O) O<|J.b O<|J.b9 (d:=6) O (λh6=>?_) (λh6=>?_)
  ·
    refine J.G (qAA O O qFi O z3_ O) O<|J.G (qAE 1 O O O b3_ O) O<|J.G (qBA O O O) O<|J.q 2 O<|J.b9 (d:=11) O (λh11=>?_) (λh11=>?_)
    ·
      refine J.G (qAA O O qFi O z3_ O) O<|J.G (qAE 1 O O O b3_ O) O<|J.G (qAT O O O) O<|J.q 2 O<|J.b9 (d:=16) O (λh16=>?_) (λh16=>?_)
      ·
        refine J.G (qAA O O qFi O z9_ O) O<|J.G (qAE 1 O O O b9_ O) O<|J.G (qAt u9_ O O) O<|J.G (qAg O O O) O<|J.q 2 O<|J.b9 (d:=22) O (λh22=>?_) (λh22=>?_)
        ·
          refine J.G (qAA O O qFi O z3_ O) O<|J.G (qAE 1 O O O b3_ O) O<|J.G (qBA O O O) O<|J.q 2 O<|J.b9 (d:=27) O (λh27=>?_) (λh27=>?_)
          ·
            refine J.G (qAA O O qFi O z3_ O) O<|J.G (qAE 1 O O O b3_ O) O<|J.G (qAT O O O) O<|J.g ((by first|exact(qCg O O O).as (v':= .bool (decide (qHo ep bd hd nm))) (congrArg Value.bool (decide_eq_decide.2 (iff_of_eq (qOX (by assumption) (by assumption) (by assumption) (by assumption) (by assumption)))))|exact(qCQ O O O).as (v':= .bool (decide (qHo ep bd hd nm))) (congrArg Value.bool (qOY (by omega))))) O<|J.b O<|J.c j2 ?_
            exact J.A<|J.E hw0 O () O trivial [0] O (by decide)
          refine J.q 3 O<|J.g ((by first|exact(qCg O O O).as (v':= .bool (decide (qHo ep bd hd nm))) (congrArg Value.bool (decide_eq_decide.2 (iff_of_eq (qOX (by assumption) (by assumption) (by assumption) (by assumption) (by assumption)))))|exact(qCQ O O O).as (v':= .bool (decide (qHo ep bd hd nm))) (congrArg Value.bool (qOY (by omega))))) O<|J.b O<|J.c j2 ?_
          exact J.A<|J.E hw0 O () O trivial [0] O (by decide)
        refine J.q 8 O<|J.g ((by first|exact(qCg O O O).as (v':= .bool (decide (qHo ep bd hd nm))) (congrArg Value.bool (decide_eq_decide.2 (iff_of_eq (qOX (by assumption) (by assumption) (by assumption) (by assumption) (by assumption)))))|exact(qCQ O O O).as (v':= .bool (decide (qHo ep bd hd nm))) (congrArg Value.bool (qOY (by omega))))) O<|J.b O<|J.c j2 ?_
        exact J.A<|J.E hw0 O () O trivial [0] O (by decide)
      refine J.q 14 O<|J.g ((by first|exact(qCg O O O).as (v':= .bool (decide (qHo ep bd hd nm))) (congrArg Value.bool (decide_eq_decide.2 (iff_of_eq (qOX (by assumption) (by assumption) (by assumption) (by assumption) (by assumption)))))|exact(qCQ O O O).as (v':= .bool (decide (qHo ep bd hd nm))) (congrArg Value.bool (qOY (by omega))))) O<|J.b O<|J.c j2 ?_
      exact J.A<|J.E hw0 O () O trivial [0] O (by decide)
    refine J.q 19 O<|J.g ((by first|exact(qCg O O O).as (v':= .bool (decide (qHo ep bd hd nm))) (congrArg Value.bool (decide_eq_decide.2 (iff_of_eq (qOX (by assumption) (by assumption) (by assumption) (by assumption) (by assumption)))))|exact(qCQ O O O).as (v':= .bool (decide (qHo ep bd hd nm))) (congrArg Value.bool (qOY (by omega))))) O<|J.b O<|J.c j2 ?_
    exact J.A<|J.E hw0 O () O trivial [0] O (by decide)
  refine J.q 24 O<|J.g ((by first|exact(qCg O O O).as (v':= .bool (decide (qHo ep bd hd nm))) (congrArg Value.bool (decide_eq_decide.2 (iff_of_eq (qOX (by assumption) (by assumption) (by assumption) (by assumption) (by assumption)))))|exact(qCQ O O O).as (v':= .bool (decide (qHo ep bd hd nm))) (congrArg Value.bool (qOY (by omega))))) O<|J.b O<|J.c j2 ?_
  exact J.A<|J.E hw0 O () O trivial [0] O (by decide)
theorem qR3(F:Hp)(ep bd nm:Nat)(hd:List UInt8)(i:Int)(A1 A2:Option Addr)(n1 c1 n2 c2:Nat)(h1:ep≤4294967295)(h2:bd<16)(h3:nm<64)(h4:hd.length=16):
    Cz prog 84 [.agg #[N64 ep,I (bd:Nat),Str hd,I (nm:Nat),I i,.slice A1 n1 c1,.slice A2 n2 c2]] F (Str (plB ep bd nm)):=by
  refine Ct.walk func84 rfl ntmps84 rfl (λw0 hw0=>?_)
  refine J.f λ_ j1=>J.p (qAd O O O) O λg1 _=>J.b O<|J.c j1 ?_
  refine J.f λ_ j2=>J.p (qAL O qKb O) O λg3 _=>J.c j2 ?_
  refine J.k λ_ j3=>J.b0 [blk g1 [N64 ep,I (bd:Nat),Str hd,I (nm:Nat),I i,.slice A1 n1 c1,.slice A2 n2 c2] 70] [] (.y 0 (.y 1 (.y 3 (.y 4 (.y 5 (.y 7 (.y 8 (.y 9 (.e 2 (.e 6 (.e 10 (.e 11 (.y 12 (.y 13 (.y 14 (.y 15 (.y 16 .nil))))))))))))))))) Tryz.wide (by decide+kernel) (by simp) ?_
  refine J.j O (qAA O O qFi O qD9 O) O O<|J.j O (qAE 0 O O O qEz O) O O<|J.j O (qAA O O qFi O z3_ O) O O<|J.j O (qAE 0 O O O b3_ O) O O<|J.j O (qAw O O u3_ qEU (by omega)) O O<|J.j O (qAA O O qFi O z3_ O) O O<|J.j O (qAE 0 O O O b3_ O) O O<|J.j O (qAw O O u3_ qEU (by omega)) O O<|J.Z O (qAB O O ent67 (Ct.use1 2 O (λF' _=>qLi F' (blk g3 [.pointer none,.slice none 0 0,I 0] 158) g3 [] 0 (qF5 g3) (by decide) ep (by omega) 4 (by omega) (by omega)))) O (by simp) ?_
  rintro m9 hw9
  rw [(qHH (size:=4) (by omega) (by omega)),qB2,qCX (qHH (size:=4) (by omega) (by omega)),jq] at hw9
  refine J.Z O (qAB O O ent67 (Ct.use1 2 O (λF' _=>qDg F' m9 g3 (Sha.numB (UInt64.ofNat ep) 4) 0 hw9 (by rw [Sha.numB_length];omega) (UInt64.ofNat bd) 1 (by omega) (by omega)))) rfl (by simp) ?_
  rintro m13 hw13
  rw [(qHH (size:=1) (by omega) (by omega)),qB2,qCX (qHH (size:=1) (by omega) (by omega))] at hw13
  refine J.Z O (qAB O O ent67 (Ct.use1 2 O (λF' _=>qDg F' m13 g3 ((Sha.numB (UInt64.ofNat ep) 4)++Sha.numB (UInt64.ofNat bd) 1) 0 hw13 (by rw [jA,Sha.numB_length,Sha.numB_length];omega) (UInt64.ofNat nm) 2 (by omega) (by omega)))) rfl (by simp) ?_
  rintro m17 hw17
  rw [(qHH (size:=2) (by omega) (by omega)),qB2,qCX (qHH (size:=2) (by omega) (by omega))] at hw17
  refine J.Z O (qAB O O ent68 (Ct.use1 2 O (λF' _=>qDJ F' m17 g3 (plB ep bd nm) 0 hw17 (by rw [qQJ];omega)))) rfl (by simp) ?_
  rintro m18 _
  refine J.L ?_
  refine J.c3 (Str (plB ep bd nm)) ?_
  refine J.c3 (I 0) ?_
  refine J.b6 ?_
  refine J.b6 ?_
  refine J.a8<|J.u (J.D j3 ?_)
  refine J.f λ_ j4=>J.q 2 O<|J.c j4 ?_
  exact J.A<|J.E hw0 O () O trivial [0] O (by decide)
theorem qG5(F:Hp)(hK:KF F)(ep bd nm:Nat)(hd:List UInt8)(i:Int)(A1 A2:Option Addr)(n1 c1 n2 c2:Nat)(h1:ep≤4294967295)(h2:bd<16)(h3:nm<64)(h4:hd.length=16):
    Cz prog 35 [.agg #[N64 ep,I (bd:Nat),Str hd,I (nm:Nat),I i,.slice A1 n1 c1,.slice A2 n2 c2]] F (Str (atM ep bd nm hd)):=by
  refine Ct.walk func35 rfl ntmps35 rfl (λw0 hw0=>?_)
  refine J.f λ_ j1=>J.p (qAd O O O) O λg1 _=>J.b O<|J.c j1 ?_
  refine J.k λ_ j2=>J.f λ_ j3=>J.b7 1 isAgg70 qHN O O O O O<|J.p (qAB O O ent83 (Ct.use0 (λF' hF=>qR4 F' ep bd hd nm i A1 A2 n1 c1 n2 c2))) O λg4 _=>J.g ((qAy O O).as (v':= .bool false) (by rw [decide_eq_true (show qHo ep bd hd nm from⟨h1,by omega,by omega,h4,by omega,by omega⟩)];rfl)) rfl<|J.c j3 ?_
  refine J.a1 ?_
  refine J.M j2 ?_
  refine J.k λ_ j4=>J.b0 [blk g1 [N64 ep,I (bd:Nat),Str hd,I (nm:Nat),I i,.slice A1 n1 c1,.slice A2 n2 c2] 70] [] (.y 0 (.y 2 (.y 3 (.e 1 (.e 4 (.e 5 (.y 6 .nil))))))) Tryz.wide (by decide+kernel) (by simp) ?_
  refine J.j O (qAY 0 O O O isAgg70 qHN O) O O<|J.j O (qAA O O qFi O z9_ O) O O<|J.j O (qAE 0 O O O b9_ O) O O<|J.Z O (qAB O O ent84 (Ct.use0 (λF' hF=>qR3 F' ep bd nm hd i A1 A2 n1 c1 n2 c2 h1 h2 h3 h4))) O (by simp) λg7 _=>J.Z rfl (qAG (l:= [.tmp 7,.tmp 9]) (xs:= [[Str (plB ep bd nm)],[Str (hd)]]) rfl rfl rfl rfl qAk el9 rfl (by decide) (by decide) (by simp)) rfl (by simp) λg10 _=>J.Z rfl (qAB rfl rfl ent46 (Ct.use0 (λF' hF=>qA3 F' (hK.mono (Fa hF)) 18 (some ⟨g10,0,none⟩) 2 2 [plB ep bd nm,hd] ((slS [plB ep bd nm,hd] rfl).mono (hF (blk g10 (([plB ep bd nm,hd]:List (List UInt8)).map λs=>Str s) 9) (by simp))) (by simp only [ja,jx,jQ,jA,qQJ,h4];decide) (by decide)))) rfl (by simp) λg11 _=>J.b6 ?_
  refine J.a8<|J.u (J.D j4 ?_)
  exact J.A<|J.E hw0 O () O trivial [0] O (by decide)
theorem qOs(F:Hp)(hK:KF F)(ep bd nm:Nat)(hd:List UInt8)(h1:ep≤4294967295)(h2:bd<16)(h3:nm<64)(h4:hd.length=16)(o r:List UInt8)(i:Nat)(A1:Option Addr)(c1:Nat)(ch:List (List UInt8))(hch:Sl F 1 A1 35 c1 (qAI ch))(hc16: ∀s∈ch,s.length=16)(A2:Option Addr)(h c2:Nat)(pt:List (List UInt8))(hpt:Sl F 1 A2 h c2 (qAI pt))(hp16: ∀s∈pt,s.length=16)(ho:o.length≤1048576)(h6:h≤6)(hi:i<2^h):
    Cz prog 144 [.agg #[N64 ep,I (bd:Nat),Str hd,I (nm:Nat),I (i:Nat),.slice A1 35 c1,.slice A2 h c2],.agg #[Str o,Str r,I h]] F (.bool (decide (Mk.climb (Wo.publicOf o i (Wo.ends o i (Wo.digs (Xm.digest o i (atM ep bd nm hd))) ch 35)) i pt=r))):=by
  refine Ct.walk func144 rfl ntmps144 rfl (λw0 hw0=>?_)
  refine J.f λ_ j1=>J.p (qAd O O O) O λg2 _=>J.p (qAd O O O) O λg3 _=>J.b O<|J.c j1 ?_
  refine J.k λ_ j2=>J.b0 [blk g2 [N64 ep,I (bd:Nat),Str hd,I (nm:Nat),I (i:Nat),.slice A1 35 c1,.slice A2 h c2] 70,blk g3 [Str o,Str r,I h] 59] [] (.y 0 (.e 1 (.y 2 (.y 3 (.y 4 (.y 6 (.y 7 (.e 5 (.e 8 (.y 9 (.y 10 .nil))))))))))) Tryz.wide (by decide+kernel) (by simp) ?_
  refine J.j O (qAY 0 O O O isAgg70 qHN O) O O<|J.Z O (qAB O O ent83 (Ct.use0 (λF' hF=>(qR4 F' ep bd hd nm (i:Nat) A1 A2 35 c1 h c2).mono (φ2:=λ_=>True) (val2:=λ_:Unit=> .bool true) id (λ_ _=>congrArg Value.bool (decide_eq_true (show qHo ep bd hd nm from⟨h1,by omega,by omega,h4,by omega,by omega⟩))) (λ_ _=>trivial) (λ_ _ _ _ h=>h)))) rfl (by simp) λg6 _=>J.L ?_
  refine J.b8 O (qAY 1 O O O qNh qET O) O O<|J.b8 O (qAY 0 O O O isAgg70 qHN O) O O<|J.b8 O (qAA O O qFi O qK2 O) O O<|J.b8 O (qEj 0 O O isAgg68 qK2 (vs:= [I (i:Nat),.slice A1 35 c1,.slice A2 h c2]) O (qAR.blk 4 (λj u hj=>by match j with|0=>exact hj|1=>exact hj|2=>exact hj)) rfl) rfl rfl<|J.e4 rfl (qAB rfl rfl ent35 (Ct.use0 (λF' hF=>qG5 F' (hK.mono (Fa hF)) ep bd nm hd (i:Nat) A1 A2 35 c1 h c2 h1 h2 h3 h4))) (Wan.is rfl rfl rfl rfl rfl) rfl rfl (by simp) ?_
  intro g10 _
  refine J.e4 O (qAB O O ent132 (Ct.use0 (λF' hF=>qHO F' (hK.mono (Fa hF)) o r h (atM ep bd nm hd) i A1 c1 ch (hch.mono (Fa hF)) hc16 A2 c2 pt (hpt.mono (Fa hF)) (qLr hp16) ho (by rw [qR2];decide) h6 hi))) (Wan.is rfl rfl rfl rfl rfl) rfl rfl (by simp) ?_
  intro g13 _
  refine J.d2 ?_
  refine J.b6 ?_
  refine J.a8<|J.u (J.D j2 ?_)
  exact J.A<|J.E hw0 O () O trivial [0] O (by decide)
theorem qGd{P:Program}{env:Env}{rs:List Hp}{o:Oper}{t t':TypeId}{x y:Operand}{a m:Nat}{yk:IntKind}(ho:o.op= .binOp .shr t x y t')(hx:ev env x=some (N64 a))(hy:ev env y=some (.int yk (m:Nat)))(hr:m≤64∧a<18446744073709551616):YOp P env rs o (N64 (a/2^m)):=by
 rw [N_W hr.2] at hx
 exact(qFm ho hx hy).as (by show Value.int .u64 _=Value.int .u64 _;rw [qBE hr.2,jn hr.1,qBE (zQ (zo _ _) hr.2)])
theorem qWj{P:Program}{env:Env}{rs:List Hp}{o:Oper}{t u v x y z k a b c}(ho:o.op= .call {callee:= .builtin .min,args:= #[x,y,z],argTypes:= #[t,u,v]})(hx:ev env x=some (.int k a))(hy:ev env y=some (.int k b))(hz:ev env z=some (.int k c)):YOp P env rs o (.int k (min (min a b) c)):=λn ac w hk _=>by
 by_cases h:b<a<;>by_cases h2:c<(if b<a then b else a)<;>simp [execOp,ho,hk.ev hx,hk.ev hy,hk.ev hz,resolve,invoke,builtin,Builtin.min_,Builtin.min2,h] at h2⊢
 all_goals first|rw [if_pos (by omega)]|rw [if_neg (by omega)]
 all_goals omega
theorem and32{n:Nat}(h:n<4294967296):n&&&4294967295=n:=by
 have:=Nat.and_two_pow_sub_one_eq_mod n 32
 rw [show(2^32-1:Nat)=4294967295 from rfl] at this
 rw [this];exact jd h
theorem qTk(F:Hp)(n:Nat)(hn:n<4294967296):
    Cz prog 165 [N64 1,N64 n] F (.tuple #[N64 0,N64 n]):=by
  refine Ct.walk func165 rfl ntmps165 rfl (λw0 hw0=>?_)
  exact J.f λ_ j1=>J.q 2 O<|J.c j1<|J.f λ_ j2=>J.b O<|J.g ((qLd (a:=1) (b:=4294967295) O O O (by omega)).as (v':=N64 1) O) O<|J.b O<|J.c j2<|J.f λ_ j3=>J.b O<|J.g ((qGd (a:=1) (m:=32) O O O (by omega)).as (v':=N64 0) O) O<|J.b O<|J.c j3<|J.f λ_ j4=>J.b O<|J.g ((qLd O O O (by omega)).as (v':=N64 n) (congrArg N64 (and32 hn))) O<|J.b O<|J.c j4<|J.f λ_ j5=>J.b O<|J.g ((qGd (a:=n) (m:=32) O O O (by omega)).as (v':=N64 0) (congrArg N64 (zL (by omega)))) O<|J.b O<|J.c j5<|J.f λ_ j6=>J.q 2 O<|J.g ((qGf O O O (by omega)).as (v':=N64 n) (congrArg N64 (Nat.one_mul n))) O<|J.b O<|J.c j6<|J.f λ_ j7=>J.q 2 O<|J.g ((qGf O O O (by omega)).as (v':=N64 0) (congrArg N64 (yG n))) O<|J.b O<|J.g ((qGd (a:=n) (m:=32) O O O (by omega)).as (v':=N64 0) (congrArg N64 (zL (by omega)))) O<|J.g ((qGg O O O (by omega)).as (v':=N64 0) O) O<|J.b O<|J.c j7<|J.f λ_ j8=>J.b O<|J.g ((qLd (a:=0) (b:=4294967295) O O O (by omega)).as (v':=N64 0) O) O<|J.b O<|J.c j8<|J.f λ_ j9=>J.b O<|J.g ((qGd (a:=0) (m:=32) O O O (by omega)).as (v':=N64 0) O) O<|J.b O<|J.c j9<|J.f λ_ j10=>J.q 3 O<|J.g ((qGf O O O (by omega)).as (v':=N64 0) O) O<|J.g ((qGg O O O (by omega)).as (v':=N64 0) O) O<|J.b O<|J.c j10<|J.f λ_ j11=>J.q 2 O<|J.g ((qGf O O O (by omega)).as (v':=N64 0) O) O<|J.b O<|J.g ((qGg O O O (by omega)).as (v':=N64 0) O) O<|J.b O<|J.g ((qGd (a:=0) (m:=32) O O O (by omega)).as (v':=N64 0) O) O<|J.g ((qGg O O O (by omega)).as (v':=N64 0) O) O<|J.b O<|J.c j11<|J.f λ_ j12=>J.q 2 O<|J.g ((qGf O O O (by omega)).as (v':=N64 n) (congrArg N64 (Nat.one_mul n))) O<|J.b O<|J.c j12<|J.A<|J.a9 hw0 (λ_ _ h=>h) (qCG O O O) (qAq () O trivial [0] O (by decide))
theorem qXg(F:Hp)(n:Nat)(hn:n<4294967296):
    Cz prog 109 [N64 1,N64 n] F (.tuple #[N64 0,N64 n]):=by
  refine Ct.walk func109 rfl ntmps109 rfl (λw0 hw0=>?_)
  refine J.f λ_ j1=>J.q 2 O<|J.c j1<|J.k λ_ j2=>J.a1 ?_
  exact J.M j2<|J.f λ_ j3=>J.q 2 O<|J.p (qAB O O ent165 (Ct.use0 (λF' hF=>qTk F' n hn))) O λg25 _=>J.q 5 O<|J.c j3<|J.f λ_ j4=>J.q 4 O<|J.c j4<|J.A<|J.a9 hw0 (λ_ _ h=>h) (qCG O O O) (qAq () O trivial [0] O (by decide))
theorem qME(F mr:Hp)(g:Nat)(l:List Value)(bs:List UInt8)(A:Option Addr)(c:Nat)(p:Option Addr)(hb:Bld g 0 l mr bs A c p):
    Ct prog 113 [Ptr g] [blk g l 156,F] (λ_:Unit=>I bs.length) (λ_=>True) (λ_=> [blk g l 156,F]):=by
  refine Ct.walk func113 rfl ntmps113 rfl (λw0 hw0=>?_)
  exact J.f λ_ j1=>J.b O<|J.c j1<|J.f λ_ j2=>J.b O<|J.g (qAC O O) O<|J.T 1 qDQ qJM O O O O O<|J.g (qAE 0 O O O qO0 hb.a1) O<|J.g (qAU qBl O O) O<|J.b O<|J.c j2<|J.A<|J.E hw0 O () O trivial [0,1] O (by decide)
theorem qGR(F:Hp)(n:Nat)(h2:2≤n)(h3:n≤8192):
    Cz prog 50 [Str [0],I n] F (Str (List.replicate n 0)):=by
  refine Ct.walk func50 rfl ntmps50 rfl (λw0 hw0=>?_)
  refine J.f λ_ j1=>J.b O<|J.c j1<|J.k λ_ j2=>J.f λ_ j3=>J.b O<|J.c j3<|J.O<|J.f λ_ j4=>J.g ((qAg O O O).no (by omega)) O<|J.b O<|J.c j4<|J.a1 ?_
  refine J.f λ_ j5=>J.g ((qAg O O O).no (by omega)) O<|J.b O<|J.c j5<|J.a1 ?_
  refine J.b5<|J.a2<|J.u (J.D j2 ?_)
  refine J.k λ_ j6=>J.f λ_ j7=>J.b O<|J.g ((qAT O O O).no (by omega)) O<|J.c j7<|J.a1 ?_
  refine J.M j6<|J.f λ_ j8=>J.b O<|J.g (qAt u9_ O O) O<|J.g ((qAw O O u3_ qIH (by omega)).as (v':=N64 1) (N_W (by omega)).symm) O<|J.b O<|J.g ((qAw O O u3_ qIH (by omega)).as (v':=N64 n) (N_W (by omega)).symm) O<|J.p (qAB O O ent109 (Ct.use0 (λF' hF=>qXg F' n (by omega)))) O λg26 _=>J.q 5 O<|J.c j8<|J.k λ_ j9=>J.f λ_ j10=>J.b O<|J.g ((qA5 O O O).no (by decide)) O<|J.q 2 O<|J.G ((qA5 O O O).no (by omega)) O<|J.b O<|J.c j10<|J.a1 ?_
  refine J.M j9<|J.f λ_ j11=>J.b O<|J.g (qD1 O O qIH u3_ (by omega)) O<|J.b O<|J.c j11<|J.k λ_ j12=>J.f λ_ j13=>J.b O<|J.g (qAt u9_ O O) O<|J.g ((qAg O O O).no (by decide)) O<|J.c j13<|J.a1 ?_
  refine J.M j12<|J.k λ_ j14=>J.f λ_ j15=>J.b O<|J.g (qBf u9_ O O O O) O<|J.c j15<|J.O<|J.k λ_ j16=>J.f λ_ j17=>J.g ((qAg O O O).no (by decide)) O<|J.b O<|J.c j17<|J.a1 ?_
  refine J.f λ_ j18=>J.g ((qAg O O O).no (by decide)) O<|J.b O<|J.c j18<|J.a1 ?_
  refine J.f λ_ j19=>J.g ((qAg O O O).no (by decide)) O<|J.b O<|J.c j19<|J.a1 ?_
  refine J.f λ_ j20=>J.g ((qAg O O O).no (by decide)) O<|J.b O<|J.c j20<|J.a1 ?_
  refine J.H<|J.g ((qAg O O O).no (by decide)) O<|J.b O<|J.c j16<|J.a1 ?_
  refine J.b5<|J.a2<|J.u (J.D j14 ?_)
  refine J.f λ_ j21=>J.q 2 O<|J.c j21<|J.k λ_ j22=>J.f λ_ j23=>J.b O<|J.g ((qA5 O O O).no (by omega)) O<|J.c j23<|J.a1 ?_
  refine J.M j22<|J.f λ_ j24=>J.p (qAL O zeroValue156 O) O λg9 _=>J.c7 [1,2,0] [blk g9 [.pointer none,.slice none 0 0] 156,λ_=>none,F] O (by decide)<|J.c j24<|J.f λ_ j25=>J.b O<|J.p (qAB O O ent111 (qNg F g9 156 0 [.pointer none,.slice none 0 0] none ⟨O,.inl O,O,qBb.nil,.inl O⟩ qLp n (by omega))) O ?_
  rintro⟨l57,m57⟩ ⟨A57,c57,hb57,hu57⟩
  dsimp only at hb57 hu57
  refine J.c j25<|J.f λ_ j26=>J.b O<|J.p (qAB O O ent112 (qBO F m57 g9 156 0 l57 [] A57 c57 _ hb57 (by rw [hu57.1];exact qLp) [0] (by decide))) rfl ?_
  rintro⟨l61,m61⟩ ⟨A61,c61,hb61,hu61⟩
  dsimp only at hb61 hu61
  refine J.c j26<|J.k λ_ j27=>J.O<|J.b4 (X:=Nat×List Value×Hp×Option Addr×Nat) (λx=> [(7,I n),(8,I n),(9,Ptr g9)]) (λx=> [blk g9 x.2.1 156,x.2.2.1,F]) (λx=>1≤x.1∧x.1≤n∧x.2.1.length=2∧Bld g9 0 x.2.1 x.2.2.1 (List.replicate x.1 (0:UInt8)) x.2.2.2.1 x.2.2.2.2 (some ⟨g9,0,none⟩)) (λx=>n-x.1) (1,l61,m61,A61,c61) (⟨by omega,by omega,by rw [hu61.1,hu57.1];rfl,hb61⟩) ⟨rfl,rfl,rfl,trivial⟩ (λ_ h=>h) ?_
  rintro⟨k,l,m,A1,c1⟩ ⟨hk1,hkn,hll,hb⟩ I3 hI3
  dsimp only at hk1 hkn hll hb⊢
  refine J.k λ_ j28=>J.f λ_ j29=>J.p (qAB O O ent113 (Ct.use1 0 O (λF' _=>qME F' m g9 l (List.replicate k (0:UInt8)) A1 c1 _ hb))) O λg111 _=>J.b O<|J.g ((qAT O O O).as (v':= .bool (decide (k<n))) (congrArg Value.bool (decide_eq_decide.2 (by rw [jJ];omega)))) rfl<|J.c j29<|J.W rfl (λh113=>?_) (λh113=>?_)
  ·
    refine J.M j28<|J.O<|J.f λ_ j30=>J.b O<|J.p (qAB O O ent113 (Ct.use1 0 O (λF' _=>qME F' m g9 l (List.replicate k (0:UInt8)) A1 c1 _ hb))) O λg115 _=>J.g ((qA4 O O O (by rw [jJ];omega)).as (v':=I (n-k:Nat)) (congrArg I (by rw [jJ];omega))) rfl<|J.p (qAB rfl rfl ent113 (Ct.use1 0 rfl (λF' _=>qME F' m g9 l (List.replicate k (0:UInt8)) A1 c1 _ hb))) rfl λg117 _=>J.b rfl<|J.g ((qWj rfl rfl rfl rfl).as (v':=I (min (n-k) k:Nat)) (congrArg I (by rw [jJ];omega))) rfl<|J.b rfl<|J.c j30<|J.H<|J.p (qAB rfl rfl ent114 (qD6 F m g9 156 0 l (List.replicate k (0:UInt8)) A1 c1 _ hb (by rw [jJ];omega))) rfl ?_
    rintro m20 hb20
    refine J.b O<|J.g ((qA9 u9_ O O O O ⟨by omega,by rw [jJ];omega⟩).as (v':=Str (List.replicate (min (n-k) k) (0:UInt8))) (by rw [zm,List.take_replicate];congr 2;omega)) rfl<|J.p (qAB rfl rfl ent112 (qBO F m20 g9 156 0 l (List.replicate k (0:UInt8)) A1 c1 _ hb20 (by rw [hll];exact qLp) (List.replicate (min (n-k) k) (0:UInt8)) (by simp only [jJ];omega))) rfl ?_
    rintro⟨l23,m23⟩ ⟨A23,c23,hb23,hu23⟩
    dsimp only at hb23 hu23
    rw [List.replicate_append_replicate] at hb23
    exact J.a3<|J.a2<|J.u<|J.a4 (k+min (n-k) k,l23,m23,A23,c23) (λx (hx:_∧n-x.1<n-k)=>hI3 x hx.1 hx.2) ⟨⟨by dsimp only;omega,by dsimp only;omega,by rw [hu23.1];exact hll,hb23⟩,by dsimp only;omega⟩ ⟨rfl,rfl,rfl,trivial⟩ (λ_ h=>h)
  refine J.b2<|J.a0<|J.a0<|J.b3 ?_
  refine J.u (J.D j27 ?_)
  refine J.k λ_ j31=>?_
  have hkn2:k=n:=by omega
  subst hkn2
  refine J.H<|J.p (qAB O O ent114 (qD6 F m g9 156 0 l (List.replicate k (0:UInt8)) A1 c1 _ hb (by rw [jJ];omega))) rfl ?_
  rintro m24 _
  exact J.b O<|J.c j31<|J.A<|J.E hw0 O () O trivial [2] O (by decide)
theorem qTH(F:Hp):Cz prog 50 [Str [0],I 0] F (Str []):=by
 refine Ct.walk func50 rfl ntmps50 rfl (λw0 hw0=>?_)
 refine J.f λ_ j1=>J.b O<|J.c j1<|J.k λ_ j2=>J.f λ_ j3=>J.b O<|J.c j3<|J.O<|J.f λ_ j4=>J.g ((qAg O O O).yes (by omega)) O<|J.b O<|J.c j4<|J.c4 ?_
 exact J.f λ_ j5=>J.b O<|J.c j5<|J.A<|J.a7<|J.V<|J.E hw0 O () O trivial [0] O (by decide)
theorem qTG(F:Hp):Cz prog 50 [Str [0],I 1] F (Str [0]):=by
 refine Ct.walk func50 rfl ntmps50 rfl (λw0 hw0=>?_)
 refine J.f λ_ j1=>J.b O<|J.c j1<|J.k λ_ j2=>J.f λ_ j3=>J.b O<|J.c j3<|J.O<|J.f λ_ j4=>J.g ((qAg O O O).no (by omega)) O<|J.b O<|J.c j4<|J.a1 ?_
 refine J.f λ_ j5=>J.g ((qAg O O O).yes (by omega)) O<|J.b O<|J.c j5<|J.c4 ?_
 exact J.f λ_ j6=>J.q 2 O<|J.c j6<|J.A<|J.a7<|J.V<|J.E hw0 O () O trivial [0] O (by decide)
theorem qE5(F:Hp)(n:Nat)(h3:n≤8192):
    Cz prog 50 [Str [0],I n] F (Str (List.replicate n 0)):=by
  match n,h3 with
  |0,_=>exact qTH F
  |1,_=>exact qTG F
  |n+2,h3=>exact qGR F (n+2) (by omega) h3
attribute [local irreducible] SN.tagN Sha.tagged SN.sumN
namespace Wn
open Sha Wd
def qUw:List Nat→Nat→Nat
 |_,0=>0
 |l,k+1=>qUw l k*256+l.getD k 0
theorem qPN(l:List UInt8): ∀k,qUw (l.map UInt8.toNat) k<256^k
 |0=>Nat.one_pos
 |k+1=>by
  have h1:=qPN l k
  have h2:=(l.getD k 0).toNat_lt
  rw [qUw,SN.getD_map,jr];omega
theorem qUv(l:List UInt8): ∀k,k≤8→(val l k).toNat=qUw (l.map UInt8.toNat) k
 |0,_=>rfl
 |k+1,h=>by
  have ih:=qUv l k (by omega)
  have h1:=qPN l k
  have h2:=(l.getD k 0).toNat_lt
  have hp:256^k≤256^7:=jf (by decide) (by omega)
  have hm:qUw (l.map UInt8.toNat) k*2^8<2^64:=by
   have:(256:Nat)^7*2^8=2^64:=by decide
   omega
  rw [val,UInt64.toNat_or,zB,ih,qUw,SN.getD_map]
  show qUw (l.map UInt8.toNat) k*2^8%2^64|||(l.getD k 0).toUInt64.toNat=_
  rw [jd hm,UInt8.toNat_toUInt64,zp,←Nat.two_pow_add_eq_or_of_lt (show(l.getD k 0).toNat<2^8 from h2)]
def nxt(s:Strm):Nat→Strm
 |0=>s
 |k+1=>(nxt s k).next
noncomputable def wordN(seed:List Nat)(k:Nat):Nat:=qUw ((SN.sumN (seed++SN.bytes4 (k/4))).drop (8*(k%4))) 8
theorem qM8(seed:List UInt8): ∀k,k<1000000→(nxt (Strm.new seed) k).seed=seed∧((nxt (Strm.new seed) k).fill.left=(sum (seed++numB (UInt64.ofNat (k/4)) 4)).drop (8*(k%4))∧(nxt (Strm.new seed) k).fill.count=UInt64.ofNat (k/4+1))
  |0,_=>by
    refine⟨rfl,?_⟩
    show(Strm.new seed).fill.left=_∧(Strm.new seed).fill.count=_
    unfold Strm.fill Strm.new
    rw [if_pos rfl]
    exact⟨rfl,rfl⟩
  |k+1,hk=>by
    obtain ⟨h1,h2,h3⟩:=qM8 seed k (by omega)
    have hs:(nxt (Strm.new seed) (k+1)).seed=seed:=by
      show(nxt (Strm.new seed) k).fill.seed=seed
      rw [Strm.fill_seed];exact h1
    have hl:(nxt (Strm.new seed) (k+1)).left=(sum (seed++numB (UInt64.ofNat (k/4)) 4)).drop (8*(k%4)+8):=by
      show(nxt (Strm.new seed) k).fill.left.drop 8=_
      rw [h2,zt]
    have hc:(nxt (Strm.new seed) (k+1)).count=UInt64.ofNat (k/4+1):=h3
    refine⟨hs,?_⟩
    unfold Strm.fill
    by_cases h4:k%4=3
    · have e0:(nxt (Strm.new seed) (k+1)).left= []:=by rw [hl,jp (by rw [sum_length];omega)]
      rw [if_pos e0,hs,hc,show(k+1)/4=k/4+1 by omega,show(k+1)%4=0 by omega]
      refine⟨rfl,?_⟩
      dsimp only
      apply UInt64.toNat_inj.1
      rw [UInt64.toNat_add,zB,zB]
      show((k/4+1)%2^64+1)%2^64=(k/4+1+1)%2^64
      omega
    · have e0: ¬(nxt (Strm.new seed) (k+1)).left= []:=λe=>by
        have:=congrArg List.length e
        rw [hl,jI,sum_length,jE] at this
        omega
      rw [if_neg e0,hl,hc,show(k+1)/4=k/4 by omega,show 8*((k+1)%4)=8*(k%4)+8 by omega]
      exact⟨rfl,rfl⟩
theorem qTd(seed:List UInt8)(hs:seed.length≤1000000){k:Nat}(hk:k<1000000):(nxt (Strm.new seed) k).num.toNat=wordN (seed.map UInt8.toNat) k:=by
 obtain ⟨_,h2,_⟩:=qM8 seed k hk
 unfold Strm.num wordN
 rw [qUv _ 8 (jK 8),h2,List.map_drop]
 have:=SN.sumN_eq (seed++numB (UInt64.ofNat (k/4)) 4) (by rw [jA,numB_length];omega)
 rw [jM,←SN.bytes4_eq _ (by omega)] at this
 rw [this]
end Wn
end Go.Proofs.YtcgcjaflllmlpaaGreatDoor
