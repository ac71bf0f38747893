/- A part of the proof. -/
import Derived.Test.YtmemgokiolfdoaaGreatDoorTopMsG28
set_option maxRecDepth 100000
set_option maxHeartbeats 1000000
set_option linter.unusedSimpArgs false
set_option linter.unusedVariables false
namespace Go.Proofs.YtmemgokiolfdoaaGreatDoor
open Go Go.Fw Go.Proofs.Tryz
attribute [local irreducible] Sha.tagged Wo.pub Wo.publicOf Wo.signs Wo.ends Wo.digs Wo.walk Wo.opn Mk.root Mk.path Mk.climb Xm.root sgC sgP qBH qBX sgB
theorem qTj(F:Hp)(i:Nat)(A1:Option Addr)(n1 c1:Nat)(ch:List xA)(hch:Sl F 1 A1 n1 c1 (qAH ch))(A2:Option Addr)(n2 c2:Nat)(pt:List xA)(hpt:Sl F 1 A2 n2 c2 (qAH pt))(hi:i≤63)(h35:ch.length=35)(hn6:pt.length≤6)(hc16: ∀s∈ch,s.length=16)(hp16: ∀s∈pt,s.length=16):Cz prog 186 [.agg #[I (i:Nat),.slice A1 n1 c1,.slice A2 n2 c2]] F (.tuple #[Str (sgB i ch pt),I (0:Nat)]):=by
 have e1:ch.length=n1:=by have:=hch.1;simpa [qAH] using this
 have e2:pt.length=n2:=by have:=hpt.1;simpa [qAH] using this
 rw [h35] at e1
 subst e1
 exact qOb F i A1 c1 ch hch A2 n2 c2 pt hpt hi xB hc16 hp16
def u1(s:xA):RS:=(⟨s,0⟩:RS).textR
def u2(s:xA):RS:=(u1 s).textR
def u3(s:xA):RS:=(u2 s).textR
def upB(a b c:xA):xA:=tb a++tb b++tb c
theorem qIs(a b c:xA):(upB a b c).length=6+a.length+b.length+c.length:=by unfold upB;simp only [jA,qF1];omega
theorem qKg(F:Hp)(s:xA)(hs4:s.length≤4096)(v:Nat)(o r:xA)(h:Int)(p:xA)(hE:qBX v o r h p=0)(i:Nat)(A1:Option Addr)(n1 c1:Nat)(ch:List xA)(hch:Sl F 1 A1 n1 c1 (qAH ch))(A2:Option Addr)(n2 c2:Nat)(pt:List xA)(hpt:Sl F 1 A2 n2 c2 (qAH pt))(hi:i≤63)(h35:ch.length=35)(hn6:pt.length≤6)(hc16: ∀s∈ch,s.length=16)(hp16: ∀s∈pt,s.length=16):Cz prog 104 [.agg #[Str (s),N64 (v),Str (o),Str (r),I (h),Str (p),I (i:Nat),.slice A1 n1 c1,.slice A2 n2 c2]] F (.tuple #[Str (upB (s) (qBH (v) (o) (r) (h) (p)) (sgB (i) (ch) (pt))),I (0:Nat)]):=by
 obtain ⟨e1,e2,⟨e3,e4⟩,e5,e6,e7⟩:=qHX hE
 have el:=qB8 hE
 have hsg:=qI4 (i:=i) hc16 hp16 h35
 have hul:=qIs s (qBH v o r h p) (sgB i ch pt)
 refine Ct.walk func104 O ntmps104 O (λw0 hw0=>?_)
 refine J.f λ_ j1=>J.q (qAb O O O) O λg1 _=>J.p 2 O<|J.c j1 ?_
 refine J.f λ_ j2=>J.W 1 qBP qAj O O O O O<|J.g (qAP O O qBB qAj (m:=blk g1 [Str (s),N64 (v),Str (o),Str (r),I (h),Str (p),I (i:Nat),.slice A1 n1 c1,.slice A2 n2 c2] 108) xD (qAG.blk0.sub 1 5) O) O<|J.q (qAZ O O (λF' hF=>qFO F' v o r h p xH xH xH xH)) O λg11 _=>J.p 5 O<|J.c j2 ?_
 refine J.k λ_ j3=>J.f λ_ j4=>J.b O<|J.g ((qAV O O O).no xB) O<|J.c j4 ?_
 refine J.a3 ?_
 refine J.M j3 ?_
 refine J.f λ_ j5=>J.W 6 qBP qCy O O O O O<|J.g (qAP O O isAgg106 qCy (m:=blk g1 [Str (s),N64 (v),Str (o),Str (r),I (h),Str (p),I (i:Nat),.slice A1 n1 c1,.slice A2 n2 c2] 108) xD (qAG.blk0.sub 6 3) O) O<|J.q (qAZ O O (λF' hF=>qTj F' i A1 n1 c1 ch (hch.mono (Fa hF)) A2 n2 c2 pt (hpt.mono (Fa hF)) xH xH xH xH xH)) O λg20 _=>J.p 5 O<|J.c j5 ?_
 refine J.k λ_ j6=>J.f λ_ j7=>J.b O<|J.g ((qAV O O O).no xC) O<|J.c j7 ?_
 refine J.a3 ?_
 refine J.M j6 ?_
 refine J.f λ_ j8=>J.q (qAJ O qLI O) O λg7 _=>J.c j8 ?_
 refine J.f λ_ j9=>J.W 0 qBP z9_ O O O O O<|J.a6 1 b9_ O O O O O<|J.q (qAK O O ent (Ct.use1 2 O (λF' hF=>qIw F' (blk g7 [.pointer none,.slice none 0 0,I 0] 148) g7 ([]) (wtrN g7) (by first|decide|omega|(simp only [jA,jD,jG,jH,Sha.numB_length,qF1]<;>omega)) s xM))) O ?_
 rintro m28 hw28
 rw [jr] at hw28
 refine J.b O<|J.q (qAK O O ent (Ct.use1 2 O (λF' hF=>qIw F' m28 g7 (tb (s)) hw28 (by first|decide|omega|(simp only [jA,jD,jG,jH,Sha.numB_length,qF1]<;>omega)) (qBH (v) (o) (r) (h) (p)) xM))) O ?_
 rintro m30 hw30
 refine J.b O<|J.q (qAK O O ent (Ct.use1 2 O (λF' hF=>qIw F' m30 g7 (tb (s)++tb (qBH (v) (o) (r) (h) (p))) hw30 (by first|decide|omega|(simp only [jA,jD,jG,jH,Sha.numB_length,qF1]<;>omega)) (sgB (i) (ch) (pt)) xM))) O ?_
 rintro m32 hw32
 refine J.q (qAK O O ent (Ct.use1 2 O (λF' hF=>qLT F' m32 g7 (upB (s) (qBH (v) (o) (r) (h) (p)) (sgB (i) (ch) (pt))) hw32 (by first|decide|omega|(simp only [jA,jD,jG,jH,Sha.numB_length,qF1]<;>omega))))) O ?_
 rintro m33 hw33
 refine J.p 4 O<|J.c j9 ?_
 exact J.A<|J.a9 hw0 (λ_ _ h=>h) (qBw O O O) (qAg () O trivial [0] O xC)
end Go.Proofs.YtmemgokiolfdoaaGreatDoor
namespace Go.Proofs.YtmemgokiolfdoaaGreatDoor
open Go Go.Fw Go.Proofs.Tryz
theorem qQ3{P:Program}{env:Env}{rs:List Hp}{o:Oper}{t e x q r sz A n' c h m}(ho:o.op= .slice t x none (some q) (some r))(hx:ev env x=some (.slice A n' c))(hu:P.underlying t=some (.slice e))(hz: ∀w,(sizeOf e).run P w= .ok sz w)
    (hhi:ev env q=some (I (h:Nat))) (hmx:ev env r=some (I (m:Nat))) (hr:h≤m∧m≤c):YOp P env rs o (.slice A h m):=λn a w hk _=>by
  simp [execOp,ho,hk.ev hx,hk.ev hhi,hk.ev hmx,Instr.sliceAt,Instr.slice,run_underlying hu,Instr.sliceBounds,Instr.sliceBound,asIntOf,hr.1,hr.2,hz]
  intro _
  cases A<;>simp [Addr.add]
namespace Wd
open Sha
def drawN(fuel:Nat)(n:UInt64)(s:Strm):Option (UInt64×Strm):=if n.toNat<2 then some (0,s) else(draw (stop n) fuel s).map λx=>(x.1%n,x.2)
def start(a:Nat):List Int:=(List.range a).map λi:Nat=>(i:Int)
def wins(fuel a:Nat)(s0:Strm):Nat→Option (List Int×Strm)
  |0=>some (start a,s0)
  |k+1=>(wins fuel a s0 k).bind λx=>(drawN fuel (UInt64.ofNat (a-k)) x.2).map λy=>
      ((x.1.set k (x.1.getD (k+y.1.toNat) 0)).set (k+y.1.toNat) (x.1.getD k 0),y.2)
def seedOf(seed:xA)(band:Nat):xA:=Sha.tagged 17 [seed,[UInt8.ofNat band]]
theorem drawN_lt{fuel:Nat}{n:UInt64}{s:Strm}{v:UInt64}{s':Strm}(h:drawN fuel n s=some (v,s'))(hn:1≤n.toNat):v.toNat<n.toNat:=by
  unfold drawN at h
  split at h
  · simp only [zG,zd] at h
    rw [←h.1];exact hn
  · obtain ⟨x,_,h2⟩:=Option.map_eq_some_iff.1 h
    simp only [zd] at h2
    rw [←h2.1,UInt64.toNat_mod]
    exact Nat.mod_lt _ hn
theorem drawN_ok{fuel:Nat}{n:UInt64}{s:Strm}{v:UInt64}{s':Strm}(h:drawN fuel n s=some (v,s'))(ho:s.Ok8):s'.Ok8∧s'.seed=s.seed:=by
  unfold drawN at h
  split at h
  · simp only [zG,zd] at h
    rw [←h.2];exact⟨ho,O⟩
  · obtain ⟨x,h1,h2⟩:=Option.map_eq_some_iff.1 h
    obtain ⟨k,s1⟩:=x
    simp only [zd] at h2
    rw [←h2.2];exact qSE h1 ho
theorem wins_pre{fuel a:Nat}{s0:Strm}: ∀{k j:Nat} {x:List Int×Strm},wins fuel a s0 k=some x→j≤k→ ∃y,wins fuel a s0 j=some y
  |0,j,x,h,hj=>⟨x,by rw [show j=0 by omega];exact h⟩
  |k+1,j,x,h,hj=>by
    by_cases e:j=k+1
    · exact⟨x,by rw [e];exact h⟩
    · obtain ⟨z,hz,_⟩:=Option.bind_eq_some_iff.1 (show(wins fuel a s0 k).bind _=some x from h)
      exact wins_pre hz xB
def part(a k:Nat):List Value:=((List.range k).map λi=>I (i:Nat))++List.replicate (a-k) (I 0)
theorem part_zero(a:Nat):(List.replicate a [I 0]).flatten=part a 0:=by
 unfold part
 simp only [List.range_zero,zT,jr,zr]
 induction a with
 |zero=>rfl
 |succ a ih=>simp only [yI,ji,ih];rfl
theorem part_len(a k:Nat)(h:k≤a):(part a k).length=a:=by simp [part];omega
theorem part_succ(a k:Nat)(h:k<a):qBD (part a k) k [I k]=part a (k+1):=by
 have e:a-k=(a-(k+1))+1:=xB
 have h2:=qL7 ((List.range k).map λi=>I (i:Nat)) (I 0) (a-(k+1)) (I k)
 rw [jP,zg] at h2
 unfold qBD part
 rw [e,jH,h2,jx,jO]
 rfl
theorem part_full(a:Nat):part a a=(start a).map λx=>I x:=by simp [part,start]
theorem setAt_ints(l:List Int)(k:Nat)(x:Int)(h:k<l.length):qBD (l.map λx=>I x) k [I x]=(l.set k x).map λx=>I x:=by
 unfold qBD
 rw [jH,List.set_eq_take_append_cons_drop,if_pos h,jO,jb,List.map_take,List.map_drop]
 simp
theorem getI{l:List Int}{j:Nat}(h:j<l.length):(l.map λx=>I x)[j]?=some (I (l.getD j 0)):=by
 rw [jN,jC h,jB,jC h];rfl
def find:List Int→Int→Nat→Int
 | [],_,_=> -1
 |a::r,v,k=>if v=a then(k:Int) else find r v (k+1)
end Wd
theorem qSd(F:Hp)(hK:qAG F ⟨3,0,none⟩ (Sha.K.map W32))(g:Nat)(s:Sha.Strm)(ho:s.Ok8)(hs:s.seed.length≤1048576)(n:UInt64)(fuel:Nat)(k:UInt64)(s':Sha.Strm)(hd:Wd.drawN fuel n s=some (k,s')):
    Ct prog 296 [Ptr g,W64 n] [blk g s.cells 420,F] (λ_:Unit=>W64 k) (λ_=>True) (λ_=> [blk g s'.cells 420,F]):=by
  unfold Wd.drawN at hd
  split at hd
  · rename_i hn
    simp only [zG,zd] at hd
    obtain ⟨rfl,rfl⟩:=hd
    exact qMq F g s n hn
  · rename_i hn
    obtain ⟨x,h1,h2⟩:=Option.map_eq_some_iff.1 hd
    obtain ⟨y,s1⟩:=x
    simp only [zd] at h2
    obtain ⟨rfl,rfl⟩:=h2
    exact qOZ F hK g s ho hs n xB fuel y s1 h1
theorem of_ct(F:Hp)(hK:qAG F ⟨3,0,none⟩ (Sha.K.map W32))(seed:xA)(hseed:seed.length≤1048576)(b a sl:Nat)(hb:b<16)(ha:a≤64)(h1:1≤sl)(hsl:sl≤a)(fuel:Nat)(l:List Int)(st:Sha.Strm)(hw:Wd.wins fuel a (Sha.Strm.new (Wd.seedOf seed b)) sl=some (l,st)):
    Ct prog 276 [Str seed,I b,I a,I sl] [F] (λg:Nat=> .tuple #[.slice (some ⟨g,0,none⟩) sl sl,I 0]) (λ_=>True) (λg=> [F,blk g (l.map λx=>I x) 3]):=by
  have hsd:(Wd.seedOf seed b).length≤1048576:=by unfold Wd.seedOf;rw [Sha.tagged_length];decide
  refine Ct.walk func276 O ntmps276 O (λw0 hw0=>?_)
  refine J.f λ_ j1=>J.p 2 O<|J.c j1<|J.k λ_ j2=>J.T<|J.f λ_ j3=>J.b O<|J.g ((qAS O O O).no xB) O<|J.p 2 O<|J.G ((qBI O O O).no xB) O<|J.p 3 O<|J.G ((qAS O O O).no xB) O<|J.p 3 O<|J.G ((qA5 O O O).no xB) O<|J.p 3 O<|J.G ((qAS O O O).no xB) O<|J.p 2 O<|J.c j3<|J.a3 ?_
  refine J.f λ_ j4=>J.p 2 O<|J.g ((qA5 O O O).no xB) O<|J.b O<|J.c j4<|J.a3 ?_
  refine J.b2<|J.a2<|J.u (J.D j2 ?_)
  refine J.f λ_ j5=>J.p 2 O<|J.g (qAx O O u3_ u5_) O<|J.q (qAE (l:= [.tmp 40]) (xs:= [[B8 (UInt8.ofNat b)]]) O O O O qBu el5 O xC xC xD) O λg41 _=>J.g (qB3 (l:= [UInt8.ofNat b]) O O qBu u5_ u9_ (m:=blk g41 [B8 (UInt8.ofNat b)] 5) xD (qAm (q:=True) (xs:= [[B8 (UInt8.ofNat b)]]) O xD).sl) O<|J.q (qAE (l:= [.tmp 38,.tmp 42]) (xs:= [[Str seed],[Str [UInt8.ofNat b]]]) O O O O qAn el9 O xC xC xD) O λg43 _=>J.q (qAZ O O (λF' hF=>qA3 F' (hK.mono (Fa hF)) 17 (some ⟨g43,0,none⟩) 2 2 [seed,[UInt8.ofNat b]] (((qAm (q:=True) (xs:=qAH [seed,[UInt8.ofNat b]]) O (by simp [qAH])).sl (m:=blk g43 [Str seed,Str [UInt8.ofNat b]] 9)).mono (Fa hF)) xJ xC)) O λg44 _=>J.q (qBb O O (λF' _=>qKu F' (Wd.seedOf seed b))) O λg45 _=>J.b O<|J.c j5<|J.f λ_ j6=>J.b O<|J.q (qBx O O qEa el3 xB xB) O λg47 _=>J.c2 [0,3,4] [F,blk g45 (Sha.Strm.new (Wd.seedOf seed b)).cells 420,blk g47 (List.replicate a [I 0]).flatten 3] O xC<|J.b O<|J.c j6<|J.k λ_ j7=>J.f λ_ j8=>J.b O<|J.g (qAO qEa O O) O<|J.b O<|J.c j8<|J.T<|J.b5 (λk:Nat=> [(2,I a),(3,I sl),(10,Ptr g45),(11,.slice (some ⟨g47,0,none⟩) a a),(49,I a),(50,I k)]) (λk=> [F,blk g45 (Sha.Strm.new (Wd.seedOf seed b)).cells 420,blk g47 (Wd.part a k) 3]) (λk=>k≤a) (λk=>a-k) 0 (jE _) ⟨O,O,O,O,O,O,trivial⟩ (λ_ h=>by rw [←Wd.part_zero];exact h) ?_
  intro k hk I1 hI1
  refine J.f λ_ j9=>J.g (qAS O O O) O<|J.c j9<|J.k λ_ j10=>J.Z O (λh51=>?_) (λh51=>?_)
  ·
    refine J.M j10<|J.k λ_ j11=>J.T<|J.f λ_ j12=>J.p 2 O<|J.c j12<|J.H<|J.p 3 O<|J.g (qAh (i:=k) (j:=k) O O O qEa z3_ xB xB) O<|J.a7 (qAW (i:=2) O O O O O z3_ O (by rw [Wd.part_len a k xB];show k+1≤a;omega)) O O λ_ _=>J.a4<|J.a2<|J.u (J.D j11 ?_)
    exact J.H<|J.g (qAR O O O xB) O<|J.b O<|J.a4<|J.u<|J.a8 (k+1) (λx (hx:x≤a∧a-x<a-k)=>hI1 x hx.1 hx.2) ⟨xB,xB⟩ ⟨O,O,O,O,O,O,trivial⟩ (λ_ h=>by rw [←Wd.part_succ a k xB];exact h)
  refine J.b3<|J.a0<|J.a0<|J.b4 ?_
  refine J.u (J.D j7 ?_)
  refine J.k λ_ j13=>J.k λ_ j14=>?_
  have hka:a=k:=xB
  subst hka
  refine J.H<|J.p 2 O<|J.c j14<|J.T<|J.b5 (X:=Nat×List Int×Sha.Strm) (λx=> [(2,I a),(3,I sl),(10,Ptr g45),(11,.slice (some ⟨g47,0,none⟩) a a),(58,I sl),(59,I x.1)]) (λx=> [F,blk g45 x.2.2.cells 420,blk g47 (x.2.1.map λx=>I x) 3]) (λx=>x.1≤sl∧Wd.wins fuel a (Sha.Strm.new (Wd.seedOf seed b)) x.1=some (x.2.1,x.2.2)∧x.2.1.length=a∧x.2.2.Ok8∧x.2.2.seed=Wd.seedOf seed b) (λx=>sl-x.1) (0,Wd.start a,(Sha.Strm.new (Wd.seedOf seed b))) (⟨jE _,O,by simp [Wd.start],O,O⟩) ⟨O,O,O,O,O,O,trivial⟩ (λ_ h=>by rw [←Wd.part_full];exact h) ?_
  rintro⟨k,li,s1⟩ ⟨hk,hwk,hll,ho,hse⟩ I3 hI3
  dsimp only at hk hwk hll ho hse⊢
  refine J.f λ_ j15=>J.g (qAS O O O) O<|J.c j15<|J.k λ_ j16=>J.Z O (λh60=>?_) (λh60=>?_)
  ·
    refine J.M j16<|J.k λ_ j17=>J.T<|J.f λ_ j18=>J.p 2 O<|J.c j18<|J.k λ_ j19=>?_
    have hks:k<sl:=xB
    obtain ⟨y,hy⟩:=Wd.wins_pre hw (show k+1≤sl by omega)
    have hy2:=hy
    rw [Wd.wins,hwk] at hy2
    obtain ⟨⟨v,s2⟩,hdr,hy3⟩:=Option.map_eq_some_iff.1 (show(Wd.drawN fuel (UInt64.ofNat (a-k)) s1).map _=some y from hy2)
    have hak:(UInt64.ofNat (a-k)).toNat=a-k:=by rw [zh];exact je xB
    have hv:=Wd.drawN_lt hdr xB
    have hok2:=Wd.drawN_ok hdr ho
    rw [hak] at hv
    refine J.H<|J.p 4 O<|J.g ((qA4 O O O xB).nat (a-k) xB) O<|J.g (qAw O O u3_ qEV xB) O<|J.q (qAK O O ent (Ct.use1 1 O (λF' hF=>qSd F' (hK.mono (Fa hF)) g45 s1 ho (by rw [hse];exact hsd) (UInt64.ofNat (a-k)) fuel v s2 hdr))) O λg68 _=>J.g (qFF O O qEV u3_ xB) O<|J.g ((qAR O O O xB).nat (k+v.toNat) xB) O<|J.b O<|J.c j19<|J.b1 [blk g47 (li.map λx=>I x) 3] [13,14,15,100002,100003] (.y 0 (.y 1 (.y 2 (.y 3 (.y 4 (.y 5 (.y 6 (.y 7 (.y 8 (.y 9 (.y 10 (.y 11 (.y 12 (.e 13 (.e 14 (.e 15 .nil)))))))))))))))) Tryz.wide xF xD ?_
    refine J.L ?_
    refine J.L ?_
    refine J.d1 O (qA2 O O) O O O ?_
    refine J.d1 O (qA2 O O) O O O ?_
    refine J.L ?_
    refine J.L ?_
    refine J.j O (qAh (i:=k+v.toNat) (j:=k+v.toNat) O O O qEa z3_ xB xB) O O<|J.j O (qAD 0 O O O b3_ (Wd.getI (l:=li) (j:=k+v.toNat) xB)) O O<|J.L ?_
    refine J.L ?_
    refine J.j O (qAh (i:=k) (j:=k) O O O qEa z3_ xB xB) O O<|J.j O (qAD 0 O O O b3_ (Wd.getI (l:=li) (j:=k) xB)) O O<|J.j O (qAh (i:=k) (j:=k) O O O qEa z3_ xB xB) O O<|J.c1 O (qAW (i:=2) O O O O O z3_ O (by rw [jP];show k+1≤_;omega)) O O O λ_ _=>J.d4 O (YOp.eop (qAh (i:=k+v.toNat) (j:=k+v.toNat) O O O qEa z3_ xB xB)) O O O O ?_
    intro _ _
    refine J.c1 O (qAW (i:=2) O O O O O z3_ O (by rw [qDE (by rw [jP];omega),jP];show k+v.toNat+1≤_;omega)) O O O λ_ _=>J.b0<|J.a2<|J.u (J.D j17 ?_)
    refine J.H<|J.g (qAR O O O xB) O<|J.b O<|J.a4<|J.u ?_
    rw [Wd.setAt_ints _ _ _ xB,Wd.setAt_ints _ _ _ (by rw [jk];omega)]
    exact J.a8 (k+1,(li.set k (li.getD (k+v.toNat) 0)).set (k+v.toNat) (li.getD k 0),s2) (λx (hx:_∧sl-x.1<sl-k)=>hI3 x hx.1 hx.2) ⟨⟨by dsimp only;omega,by dsimp only;rw [hy];exact congrArg some hy3.symm,by dsimp only;rw [jk,jk];exact hll,hok2.1,hok2.2.trans hse⟩,by dsimp only;omega⟩ ⟨O,O,O,O,O,O,trivial⟩ (λ_ h=>h)
  refine J.b3<|J.a0<|J.a0<|J.b4 ?_
  refine J.u (J.D j13 ?_)
  refine J.k λ_ j20=>?_
  have hks:sl=k:=xB
  subst hks
  rw [hwk] at hw
  simp only [zG,zd] at hw
  exact J.H<|J.p 3 O<|J.g (qQ3 O O qEa z3_ O O xB) O<|J.p 2 O<|J.c j20<|J.A<|J.a9 hw0 (λ_ _ h=>h) (qBw O O O) (qAg g47 O trivial [0,2] (by rw [←hw.1];rfl) xC)
theorem qUx(F:Hp)(A:Option Addr)(n c:Nat)(l:List Int)(hl:Sl F 1 A n c (qB6 l))(v:Int)(hn:n<4611686018427387904):
    Cz prog 308 [.slice A n c,I v] F (I (Wd.find l v 0)):=by
  have hlen:l.length=n:=by have:=hl.1;simpa [qB6] using this
  refine Ct.walk func308 O ntmps308 O (λw0 hw0=>?_)
  refine J.f λ_ j1=>J.b O<|J.c j1<|J.k λ_ j2=>J.f λ_ j3=>J.b O<|J.g (qAO qEa O O) O<|J.b O<|J.c j3<|J.T<|J.b5 (λk:Nat=> [(0,.slice A n c),(1,I v),(7,I n),(8,I k)]) (λ_=> [F]) (λk=>k≤n∧Wd.find (l.drop k) v k=Wd.find l v 0) (λk=>n-k) 0 (⟨jE _,O⟩) ⟨O,O,O,O,trivial⟩ (λ_ h=>h) ?_
  rintro k ⟨hk,hc⟩ I0 hI0
  refine J.f λ_ j4=>J.g (qAS O O O) O<|J.c j4<|J.k λ_ j5=>J.Z O (λh9=>?_) (λh9=>?_)
  ·
    refine J.M j5<|J.k λ_ j6=>J.T<|J.f λ_ j7=>J.p 2 O<|J.c j7<|J.k λ_ j8=>?_
    have hkn:k<n:=xB
    obtain ⟨s,hs⟩: ∃s,l[k]?=some s:=⟨_,jC xB⟩
    have hdr:l.drop k=s::l.drop (k+1):=by
      obtain ⟨hk2,rfl⟩:=List.getElem?_eq_some_iff.1 hs
      exact zD hk2
    rw [hdr,Wd.find] at hc
    refine J.H<|J.p 3 O<|J.g (qAF O O O qEa z3_ hl xB) O<|J.g (qAI O O b3_ (m:=F) xD (hl.elem (qRt hs))) O<|J.g (qAe O O O) O<|J.c j8<|J.Z O (λh16=>?_) (λh16=>?_)
    ·
      refine J.f λ_ j9=>J.p 2 O<|J.c j9<|J.A<|J.a5<|J.V<|J.V<|J.a5<|J.V ?_
      rw [if_pos h16] at hc
      exact J.E hw0 O () (by rw [←hc]) trivial [0] O xC
    refine J.b2<|J.a2<|J.u (J.D j6 ?_)
    refine J.H<|J.g (qAR O O O xB) O<|J.b O<|J.a4<|J.u ?_
    rw [if_neg h16] at hc
    exact J.a8 (k+1) (λx (hx:_∧n-x<n-k)=>hI0 x hx.1 hx.2) ⟨⟨xB,hc⟩,xB⟩ ⟨O,O,O,O,trivial⟩ (λ_ h=>h)
  refine J.b3<|J.a0<|J.a0<|J.b4 ?_
  refine J.u (J.D j2 ?_)
  refine J.k λ_ j10=>?_
  rw [js xB] at hc
  exact J.H<|J.b O<|J.c j10<|J.A<|J.E hw0 O () (by rw [←hc];rfl) trivial [0] O xC
theorem qWg(F:Hp)(A:Option Addr)(n c:Nat)(l:List Int)(hl:Sl F 1 A n c (qB6 l))(v:Int)(hn:n<4611686018427387904):
    Cz prog 297 [.slice A n c,I v] F (.tuple #[I (max (Wd.find l v 0) 0),.bool (decide (0≤Wd.find l v 0))]):=by
  refine Ct.walk func297 O ntmps297 O (λw0 hw0=>?_)
  exact J.f λ_ j1=>J.p 2 O<|J.c j1<|J.f λ_ j2=>J.p 2 O<|J.q (qAK O O ent (qUx F A n c l hl v hn)) O λg9 _=>J.b O<|J.c j2<|J.f λ_ j3=>J.b O<|J.g (qIL O O O) O<|J.b O<|J.g (qBI O O O) O<|J.p 2 O<|J.c j3<|J.A<|J.a9 hw0 (λ_ _ h=>h) (qBw O O O) (qAg () O trivial [0] O xC)
end Go.Proofs.YtmemgokiolfdoaaGreatDoor
namespace Go.Proofs.YtmemgokiolfdoaaGreatDoor
open Go Go.Fw Go.Proofs.Tryz
theorem qMV{l:List xA}(h: ∀s∈l,s.length=16): ∀s∈l,s.length≤1048576:=λs hs=>by rw [h s hs];decide
def qIT(ep:Nat)(bd:Int)(hd:xA)(nm:Int):Prop:=ep≤4294967295∧0≤bd∧bd<16∧hd.length=16∧0≤nm∧nm<64
instance (ep:Nat) (bd:Int) (hd:xA) (nm:Int):Decidable (qIT ep bd hd nm):=by unfold qIT;infer_instance
def plB(ep bd nm:Nat):xA:=Sha.numB (UInt64.ofNat ep) 4++Sha.numB (UInt64.ofNat bd) 1++Sha.numB (UInt64.ofNat nm) 2
theorem qQv(ep bd nm:Nat):(plB ep bd nm).length=7:=by unfold plB;simp only [jA,Sha.numB_length]
def atM(ep bd nm:Nat)(hd:xA):xA:=Sha.tagged 18 [plB ep bd nm,hd]
theorem qSi(ep bd nm:Nat)(hd:xA):(atM ep bd nm hd).length=16:=Sha.tagged_length _ _
theorem qO2{ep:Nat}{bd:Int}{hd:xA}{nm:Int}(h1:(ep:Int)≤4294967295)(h2:0≤bd)(h3:bd<16)(h4:(hd.length:Int)=16)(h5:0≤nm):(nm<64)=qIT ep bd hd nm:=propext ⟨λh=>⟨xB,h2,h3,xB,h5,h⟩,λh=>h.2.2.2.2.2⟩
theorem qO3{ep:Nat}{bd:Int}{hd:xA}{nm:Int}(h: ¬(ep:Int)≤4294967295∨ ¬0≤bd∨ ¬bd<16∨ ¬(hd.length:Int)=16∨ ¬0≤nm):false=decide (qIT ep bd hd nm):=by
 symm
 apply decide_eq_false
 unfold qIT
 omega
theorem qSk(F:Hp)(ep:Nat)(bd:Int)(hd:xA)(nm:Int)(i:Int)(A1 A2:Option Addr)(n1 c1 n2 c2:Nat):
    Cz prog 168 [.agg #[N64 ep,I bd,Str hd,I nm,I i,.slice A1 n1 c1,.slice A2 n2 c2]] F (.bool (decide (qIT ep bd hd nm))):=by
  refine Ct.walk func168 O ntmps168 O (λw0 hw0=>?_)
  refine J.f λ_ j1=>J.q (qAb O O O) O λg1 _=>J.b O<|J.c j1 ?_
  refine J.f λ_ j2=>J.W 0 qCe qDs O O O O O<|J.a6 1 qEv O O O O O<|J.g (qCb O O O) O<|J.b O<|J.b9 (d:=6) O (λh6=>?_) (λh6=>?_)
  ·
    refine J.G (qAA O O qCe O z3_ O) O<|J.G (qAD 1 O O O b3_ O) O<|J.G (qBI O O O) O<|J.p 2 O<|J.b9 (d:=11) O (λh11=>?_) (λh11=>?_)
    ·
      refine J.G (qAA O O qCe O z3_ O) O<|J.G (qAD 1 O O O b3_ O) O<|J.G (qAS O O O) O<|J.p 2 O<|J.b9 (d:=16) O (λh16=>?_) (λh16=>?_)
      ·
        refine J.G (qAA O O qCe O z9_ O) O<|J.G (qAD 1 O O O b9_ O) O<|J.G (qAu u9_ O O) O<|J.G (qAe O O O) O<|J.p 2 O<|J.b9 (d:=22) O (λh22=>?_) (λh22=>?_)
        ·
          refine J.G (qAA O O qCe O z3_ O) O<|J.G (qAD 1 O O O b3_ O) O<|J.G (qBI O O O) O<|J.p 2 O<|J.b9 (d:=27) O (λh27=>?_) (λh27=>?_)
          ·
            refine J.G (qAA O O qCe O z3_ O) O<|J.G (qAD 1 O O O b3_ O) O<|J.G (qAS O O O) O<|J.g ((by first|exact(qC1 O O O).as (v':= .bool (decide (qIT ep bd hd nm))) (congrArg Value.bool (decide_eq_decide.2 (iff_of_eq (qO2 xG xG xG xG xG))))|exact(qCf O O O).as (v':= .bool (decide (qIT ep bd hd nm))) (congrArg Value.bool (qO3 xB)))) O<|J.b O<|J.c j2 ?_
            exact J.A<|J.E hw0 O () O trivial [0] O xC
          refine J.p 3 O<|J.g ((by first|exact(qC1 O O O).as (v':= .bool (decide (qIT ep bd hd nm))) (congrArg Value.bool (decide_eq_decide.2 (iff_of_eq (qO2 xG xG xG xG xG))))|exact(qCf O O O).as (v':= .bool (decide (qIT ep bd hd nm))) (congrArg Value.bool (qO3 xB)))) O<|J.b O<|J.c j2 ?_
          exact J.A<|J.E hw0 O () O trivial [0] O xC
        refine J.p 8 O<|J.g ((by first|exact(qC1 O O O).as (v':= .bool (decide (qIT ep bd hd nm))) (congrArg Value.bool (decide_eq_decide.2 (iff_of_eq (qO2 xG xG xG xG xG))))|exact(qCf O O O).as (v':= .bool (decide (qIT ep bd hd nm))) (congrArg Value.bool (qO3 xB)))) O<|J.b O<|J.c j2 ?_
        exact J.A<|J.E hw0 O () O trivial [0] O xC
      refine J.p 14 O<|J.g ((by first|exact(qC1 O O O).as (v':= .bool (decide (qIT ep bd hd nm))) (congrArg Value.bool (decide_eq_decide.2 (iff_of_eq (qO2 xG xG xG xG xG))))|exact(qCf O O O).as (v':= .bool (decide (qIT ep bd hd nm))) (congrArg Value.bool (qO3 xB)))) O<|J.b O<|J.c j2 ?_
      exact J.A<|J.E hw0 O () O trivial [0] O xC
    refine J.p 19 O<|J.g ((by first|exact(qC1 O O O).as (v':= .bool (decide (qIT ep bd hd nm))) (congrArg Value.bool (decide_eq_decide.2 (iff_of_eq (qO2 xG xG xG xG xG))))|exact(qCf O O O).as (v':= .bool (decide (qIT ep bd hd nm))) (congrArg Value.bool (qO3 xB)))) O<|J.b O<|J.c j2 ?_
    exact J.A<|J.E hw0 O () O trivial [0] O xC
  refine J.p 24 O<|J.g ((by first|exact(qC1 O O O).as (v':= .bool (decide (qIT ep bd hd nm))) (congrArg Value.bool (decide_eq_decide.2 (iff_of_eq (qO2 xG xG xG xG xG))))|exact(qCf O O O).as (v':= .bool (decide (qIT ep bd hd nm))) (congrArg Value.bool (qO3 xB)))) O<|J.b O<|J.c j2 ?_
  exact J.A<|J.E hw0 O () O trivial [0] O xC
theorem qSj(F:Hp)(ep bd nm:Nat)(hd:xA)(i:Int)(A1 A2:Option Addr)(n1 c1 n2 c2:Nat)(h1:ep≤4294967295)(h2:bd<16)(h3:nm<64)(h4:hd.length=16):
    Cz prog 169 [.agg #[N64 ep,I (bd:Nat),Str hd,I (nm:Nat),I i,.slice A1 n1 c1,.slice A2 n2 c2]] F (Str (plB ep bd nm)):=by
  refine Ct.walk func169 O ntmps169 O (λw0 hw0=>?_)
  refine J.f λ_ j1=>J.q (qAb O O O) O λg1 _=>J.b O<|J.c j1 ?_
  refine J.f λ_ j2=>J.q (qAJ O qLI O) O λg3 _=>J.c j2 ?_
  refine J.k λ_ j3=>J.b1 [blk g1 [N64 ep,I (bd:Nat),Str hd,I (nm:Nat),I i,.slice A1 n1 c1,.slice A2 n2 c2] 199] [] (.y 0 (.y 1 (.y 3 (.y 4 (.y 5 (.y 7 (.y 8 (.y 9 (.e 2 (.e 6 (.e 10 (.e 11 (.y 12 (.y 13 (.y 14 (.y 15 (.y 16 .nil))))))))))))))))) Tryz.wide xF xD ?_
  refine J.j O (qAA O O qCe O qDs O) O O<|J.j O (qAD 0 O O O qEv O) O O<|J.j O (qAA O O qCe O z3_ O) O O<|J.j O (qAD 0 O O O b3_ O) O O<|J.j O (qAw O O u3_ qEV xB) O O<|J.j O (qAA O O qCe O z3_ O) O O<|J.j O (qAD 0 O O O b3_ O) O O<|J.j O (qAw O O u3_ qEV xB) O O<|J.a1 O (qAK O O ent (Ct.use1 2 O (λF' _=>qMN F' (blk g3 [.pointer none,.slice none 0 0,I 0] 148) g3 [] 0 (qGe g3) xC ep xB 4 xB xB))) O xD ?_
  rintro m9 hw9
  rw [(qHv (size:=4) xB xB),qCB,qCq (qHv (size:=4) xB xB),jr] at hw9
  refine J.a1 O (qAK O O ent (Ct.use1 2 O (λF' _=>qD4 F' m9 g3 (Sha.numB (UInt64.ofNat ep) 4) 0 hw9 (by rw [Sha.numB_length];omega) (UInt64.ofNat bd) 1 xB xB))) O xD ?_
  rintro m13 hw13
  rw [(qHv (size:=1) xB xB),qCB,qCq (qHv (size:=1) xB xB)] at hw13
  refine J.a1 O (qAK O O ent (Ct.use1 2 O (λF' _=>qD4 F' m13 g3 ((Sha.numB (UInt64.ofNat ep) 4)++Sha.numB (UInt64.ofNat bd) 1) 0 hw13 (by rw [jA,Sha.numB_length,Sha.numB_length];omega) (UInt64.ofNat nm) 2 xB xB))) O xD ?_
  rintro m17 hw17
  rw [(qHv (size:=2) xB xB),qCB,qCq (qHv (size:=2) xB xB)] at hw17
  refine J.a1 O (qAK O O ent (Ct.use1 2 O (λF' _=>qDf F' m17 g3 (plB ep bd nm) 0 hw17 (by rw [qQv];omega)))) O xD ?_
  rintro m18 _
  refine J.L ?_
  refine J.c7 (Str (plB ep bd nm)) ?_
  refine J.c7 (I 0) ?_
  refine J.b7 ?_
  refine J.b7 ?_
  refine J.b0<|J.u (J.D j3 ?_)
  refine J.f λ_ j4=>J.p 2 O<|J.c j4 ?_
  exact J.A<|J.E hw0 O () O trivial [0] O xC
theorem qHg(F:Hp)(hK:qAG F ⟨3,0,none⟩ (Sha.K.map W32))(ep bd nm:Nat)(hd:xA)(i:Int)(A1 A2:Option Addr)(n1 c1 n2 c2:Nat)(h1:ep≤4294967295)(h2:bd<16)(h3:nm<64)(h4:hd.length=16):
    Cz prog 93 [.agg #[N64 ep,I (bd:Nat),Str hd,I (nm:Nat),I i,.slice A1 n1 c1,.slice A2 n2 c2]] F (Str (atM ep bd nm hd)):=by
  refine Ct.walk func93 O ntmps93 O (λw0 hw0=>?_)
  refine J.f λ_ j1=>J.q (qAb O O O) O λg1 _=>J.b O<|J.c j1 ?_
  refine J.k λ_ j2=>J.f λ_ j3=>J.c0 1 isAgg199 qDD O O O O O<|J.q (qAZ O O (λF' hF=>qSk F' ep bd hd nm i A1 A2 n1 c1 n2 c2)) O λg4 _=>J.g ((qAs O O).as (v':= .bool false) (by rw [decide_eq_true (show qIT ep bd hd nm from⟨h1,xB,xB,h4,xB,xB⟩)];rfl)) O<|J.c j3 ?_
  refine J.a3 ?_
  refine J.M j2 ?_
  refine J.k λ_ j4=>J.b1 [blk g1 [N64 ep,I (bd:Nat),Str hd,I (nm:Nat),I i,.slice A1 n1 c1,.slice A2 n2 c2] 199] [] (.y 0 (.y 2 (.y 3 (.e 1 (.e 4 (.e 5 (.y 6 .nil))))))) Tryz.wide xF xD ?_
  refine J.j O (qAU 0 O O O isAgg199 qDD O) O O<|J.j O (qAA O O qCe O z9_ O) O O<|J.j O (qAD 0 O O O b9_ O) O O<|J.a1 O (qAZ O O (λF' hF=>qSj F' ep bd nm hd i A1 A2 n1 c1 n2 c2 h1 h2 h3 h4)) O xD λg7 _=>J.a1 O (qAE (l:= [.tmp 7,.tmp 9]) (xs:= [[Str (plB ep bd nm)],[Str (hd)]]) O O O O qAn el9 O xC xC xD) O xD λg10 _=>J.a1 O (qAZ O O (λF' hF=>qA3 F' (hK.mono (Fa hF)) 18 (some ⟨g10,0,none⟩) 2 2 [plB ep bd nm,hd] ((slS [plB ep bd nm,hd] O).mono (hF (blk g10 (([plB ep bd nm,hd]:List xA).map λs=>Str s) 9) xD)) (by simp only [ji,zQ,jR,jA,qQv,h4];decide) xC)) O xD λg11 _=>J.b7 ?_
  refine J.b0<|J.u (J.D j4 ?_)
  exact J.A<|J.E hw0 O () O trivial [0] O xC
theorem qPN(F:Hp)(hK:qAG F ⟨3,0,none⟩ (Sha.K.map W32))(ep bd nm:Nat)(hd:xA)(h1:ep≤4294967295)(h2:bd<16)(h3:nm<64)(h4:hd.length=16)(o r:xA)(i:Nat)(A1:Option Addr)(c1:Nat)(ch:List xA)(hch:Sl F 1 A1 35 c1 (qAH ch))(hc16: ∀s∈ch,s.length=16)(A2:Option Addr)(h c2:Nat)(pt:List xA)(hpt:Sl F 1 A2 h c2 (qAH pt))(hp16: ∀s∈pt,s.length=16)(ho:o.length≤1048576)(h6:h≤6)(hi:i<2^h):
    Cz prog 278 [.agg #[N64 ep,I (bd:Nat),Str hd,I (nm:Nat),I (i:Nat),.slice A1 35 c1,.slice A2 h c2],.agg #[Str o,Str r,I h]] F (.bool (decide (Mk.climb (Wo.publicOf o i (Wo.ends o i (Wo.digs (Xm.digest o i (atM ep bd nm hd))) ch 35)) i pt=r))):=by
  refine Ct.walk func278 O ntmps278 O (λw0 hw0=>?_)
  refine J.f λ_ j1=>J.q (qAb O O O) O λg2 _=>J.q (qAb O O O) O λg3 _=>J.b O<|J.c j1 ?_
  refine J.k λ_ j2=>J.b1 [blk g2 [N64 ep,I (bd:Nat),Str hd,I (nm:Nat),I (i:Nat),.slice A1 35 c1,.slice A2 h c2] 199,blk g3 [Str o,Str r,I h] 32] [] (.y 0 (.e 1 (.y 2 (.y 3 (.y 4 (.y 6 (.y 7 (.e 5 (.e 8 (.y 9 (.y 10 .nil))))))))))) Tryz.wide xF xD ?_
  refine J.j O (qAU 0 O O O isAgg199 qDD O) O O<|J.a1 O (qAZ O O (λF' hF=>(qSk F' ep bd hd nm (i:Nat) A1 A2 35 c1 h c2).mono (φ2:=λ_=>True) (val2:=λ_:Unit=> .bool true) id (λ_ _=>congrArg Value.bool (decide_eq_true (show qIT ep bd hd nm from⟨h1,xB,xB,h4,xB,xB⟩))) (λ_ _=>trivial) (λ_ _ _ _ h=>h))) O xD λg6 _=>J.L ?_
  refine J.b8 O (qAU 1 O O O qGb qCT O) O O<|J.b8 O (qAU 0 O O O isAgg199 qDD O) O O<|J.b8 O (qAA O O qCe O qCy O) O O<|J.b8 O (qFC 0 O O isAgg106 qCy (vs:= [I (i:Nat),.slice A1 35 c1,.slice A2 h c2]) O (qAG.blk 4 (λj u hj=>by match j with|0=>exact hj|1=>exact hj|2=>exact hj)) O) O O<|J.e0 O (qAZ O O (λF' hF=>qHg F' (hK.mono (Fa hF)) ep bd nm hd (i:Nat) A1 A2 35 c1 h c2 h1 h2 h3 h4)) (Wan.is O O O O O) O O xD ?_
  intro g10 _
  refine J.e0 O (qAZ O O (λF' hF=>qH1 F' (hK.mono (Fa hF)) o r h (atM ep bd nm hd) i A1 c1 ch (hch.mono (Fa hF)) hc16 A2 c2 pt (hpt.mono (Fa hF)) (qMV hp16) ho (by rw [qSi];decide) h6 hi)) (Wan.is O O O O O) O O xD ?_
  intro g13 _
  refine J.d2 ?_
  refine J.b7 ?_
  refine J.b0<|J.u (J.D j2 ?_)
  exact J.A<|J.E hw0 O () O trivial [0] O xC
end Go.Proofs.YtmemgokiolfdoaaGreatDoor
namespace Go.Proofs.YtmemgokiolfdoaaGreatDoor
namespace SM
def qBK:Nat→(Nat→Nat)→Nat
 |0,_=>0
 |n+1,f=>f 0+18446744073709551616*qBK n (λi=>f (i+1))
theorem qA1: ∀{n:Nat} {f g:Nat→Nat},(∀i,f i=g i)→qBK n f=qBK n g
 |0,_,_,_=>rfl
 |n+1,f,g,h=>by rw [qBK,qBK,h 0,qA1 (λi=>h (i+1))]
theorem qA8: ∀(n:Nat) (f g:Nat→Nat),qBK n f+qBK n g=qBK n (λi=>f i+g i)
 |0,_,_=>rfl
 |n+1,f,g=>by
  have:=qA8 n (λi=>f (i+1)) (λi=>g (i+1))
  simp only [qBK]
  rw [←this];omega
theorem qD3: ∀(n:Nat) (f:Nat→Nat) (c:Nat),qBK n f*c=qBK n (λi=>f i*c)
 |0,_,c=>Nat.zero_mul c
 |n+1,f,c=>by
  have:=qD3 n (λi=>f (i+1)) c
  simp only [qBK]
  rw [←this,Nat.add_mul,Nat.mul_assoc]
theorem qQB{x y X Y:Nat}(hx:x<2^64)(hy:y<2^64):Nat.land (x+2^64*X) (y+2^64*Y)=Nat.land x y+2^64*Nat.land X Y:=by
 have hxy:Nat.land x y<2^64:=Nat.lt_of_le_of_lt Nat.and_le_left hx
 apply Nat.eq_of_testBit_eq
 intro i
 rw [Nat.add_comm x,Nat.add_comm y,Nat.add_comm (Nat.land x y)]
 show((2^64*X+x)&&&(2^64*Y+y)).testBit i=(2^64*Nat.land X Y+Nat.land x y).testBit i
 rw [Nat.testBit_and,Nat.testBit_two_pow_mul_add _ hx,Nat.testBit_two_pow_mul_add _ hy,Nat.testBit_two_pow_mul_add _ hxy]
 by_cases h:i<64
 · simp only [h,if_true];exact(Nat.testBit_and x y i).symm
 · simp only [h,if_false];exact(Nat.testBit_and X Y (i-64)).symm
theorem qP9{x y X Y:Nat}(hx:x<2^64)(hy:y<2^64):Nat.xor (x+2^64*X) (y+2^64*Y)=Nat.xor x y+2^64*Nat.xor X Y:=by
 have hxy:Nat.xor x y<2^64:=Nat.xor_lt_two_pow hx hy
 apply Nat.eq_of_testBit_eq
 intro i
 rw [Nat.add_comm x,Nat.add_comm y,Nat.add_comm (Nat.xor x y)]
 show((2^64*X+x)^^^(2^64*Y+y)).testBit i=(2^64*Nat.xor X Y+Nat.xor x y).testBit i
 rw [Nat.testBit_xor,Nat.testBit_two_pow_mul_add _ hx,Nat.testBit_two_pow_mul_add _ hy,Nat.testBit_two_pow_mul_add _ hxy]
 by_cases h:i<64
 · simp only [h,if_true];exact(Nat.testBit_xor x y i).symm
 · simp only [h,if_false];exact(Nat.testBit_xor X Y (i-64)).symm
theorem qQA{x m X M r:Nat}(hx:x<2^64)(hm:m<2^32)(hr:r≤32):Nat.land (Nat.shiftRight (x+2^64*X) r) (m+2^64*M)=Nat.land (Nat.shiftRight x r) m+2^64*Nat.land (Nat.shiftRight X r) M:=by
  have hm2:m<2^64:=Nat.lt_trans hm (by decide)
  have hxy:Nat.land (Nat.shiftRight x r) m<2^64:=Nat.lt_of_le_of_lt Nat.and_le_right hm2
  apply Nat.eq_of_testBit_eq
  intro i
  rw [Nat.add_comm x,Nat.add_comm m,Nat.add_comm (Nat.land _ _)]
  show(((2^64*X+x)>>>r)&&&(2^64*M+m)).testBit i=(2^64*Nat.land (Nat.shiftRight X r) M+Nat.land (Nat.shiftRight x r) m).testBit i
  rw [Nat.testBit_and,Nat.testBit_shiftRight,Nat.testBit_two_pow_mul_add _ hx,Nat.testBit_two_pow_mul_add _ hm2,Nat.testBit_two_pow_mul_add _ hxy]
  by_cases h:i<64
  · simp only [h,if_true]
    show _=((x>>>r)&&&m).testBit i
    rw [Nat.testBit_and,Nat.testBit_shiftRight]
    by_cases h2:r+i<64
    · simp only [h2,if_true]
    · have:m.testBit i=false:=Nat.testBit_lt_two_pow (Nat.lt_of_lt_of_le hm (Nat.pow_le_pow_right (by decide) (by omega)))
      rw [this,Bool.and_false,Bool.and_false]
  · have h2: ¬r+i<64:=by omega
    simp only [h,h2,if_false]
    show _=((X>>>r)&&&M).testBit (i-64)
    rw [Nat.testBit_and,Nat.testBit_shiftRight,show r+i-64=r+(i-64) by omega]
theorem qE8: ∀(n:Nat) {f g:Nat→Nat},(∀i,f i<2^64)→(∀i,g i<2^64)→Nat.land (qBK n f) (qBK n g)=qBK n (λi=>Nat.land (f i) (g i))
 |0,_,_,_,_=>Nat.and_zero _
 |n+1,f,g,hf,hg=>by
  have ih:=qE8 n (λi=>hf (i+1)) (λi=>hg (i+1))
  simp only [qBK]
  rw [←ih]
  exact qQB (hf 0) (hg 0)
theorem qKi: ∀(n:Nat) {f g:Nat→Nat},(∀i,f i<2^64)→(∀i,g i<2^64)→Nat.xor (qBK n f) (qBK n g)=qBK n (λi=>Nat.xor (f i) (g i))
 |0,_,_,_,_=>Nat.xor_zero _
 |n+1,f,g,hf,hg=>by
  have ih:=qKi n (λi=>hf (i+1)) (λi=>hg (i+1))
  simp only [qBK]
  rw [←ih]
  exact qP9 (hf 0) (hg 0)
theorem qG6: ∀(n:Nat) {f:Nat→Nat} {m r:Nat},(∀i,f i<2^64)→m<2^32→r≤32→Nat.land (Nat.shiftRight (qBK n f) r) (qBK n λ_=>m)=qBK n (λi=>Nat.land (Nat.shiftRight (f i) r) m)
 |0,_,_,_,_,_,_=>Nat.and_zero _
 |n+1,f,m,r,hf,hm,hr=>by
  have ih:=qG6 n (λi=>hf (i+1)) hm hr
  simp only [qBK]
  rw [←ih]
  exact qQA (hf 0) hm hr
theorem qQz: ∀(n:Nat) (f:Nat→Nat) (c:Nat),(∀i,f i≤c)→qBK n (λ_=>c)-qBK n f=qBK n (λi=>c-f i):=λn f c h=>by
 have h1:=qA8 n (λi=>c-f i) f
 have h2:qBK n (λi=>c-f i+f i)=qBK n (λ_=>c):=qA1 λi=>Nat.sub_add_cancel (h i)
 omega
def qBV(n:Nat):Nat:=qBK n λ_=>1
theorem qDT(n c:Nat):c*qBV n=qBK n λ_=>c:=by
 rw [Nat.mul_comm,qBV,qD3];exact qA1 λ_=>Nat.one_mul c
def pk(n:Nat)(a:Nat→UInt32):Nat:=qBK n λi=>(a i).toNat
def qEc(o x r:Nat):Nat:=Nat.land (Nat.shiftRight x r) ((2^(32-r)-1)*o)+Nat.land x ((2^r-1)*o)*2^(32-r)
def qJv(o x r:Nat):Nat:=Nat.land (Nat.shiftRight x r) ((2^(32-r)-1)*o)
def qDr(o x:Nat):Nat:=Nat.land x (4294967295*o)
theorem u32(a:UInt32):a.toNat<2^32:=a.toNat_lt
theorem u64(a:UInt32):a.toNat<2^64:=Nat.lt_trans a.toNat_lt (by decide)
theorem m32{r:Nat}(h1:1≤r):2^(32-r)-1<2^32:=by
 have:=Nat.pow_le_pow_right (n:=2) (by decide) (show 32-r≤32 by omega)
 omega
theorem qJX(x k:Nat):Nat.land x (2^k-1)=x%2^k:=Nat.and_two_pow_sub_one_eq_mod x k
theorem qM8(x:UInt32){r:Nat}(h2:r≤32):Nat.land (Nat.shiftRight x.toNat r) (2^(32-r)-1)=x.toNat/2^r:=by
 rw [qJX]
 show(x.toNat>>>r)%_=_
 rw [Nat.shiftRight_eq_div_pow]
 apply Nat.mod_eq_of_lt
 rw [Nat.div_lt_iff_lt_mul (Nat.pow_pos (by decide)),←Nat.pow_add,show 32-r+r=32 by omega]
 exact u32 x
theorem qI2(n:Nat)(a:Nat→UInt32){r:Nat}(h1:1≤r)(h2:r<32):qJv (qBV n) (pk n a) r=pk n λi=>Sha.shr (a i) r:=by
 unfold qJv pk
 rw [qDT,qG6 n (λi=>u64 (a i)) (m32 h1) (by omega)]
 refine qA1 λi=>?_
 rw [qM8 _ (by omega)]
 exact(R3.shr_nat (a i) r (by omega)).symm
theorem qC8(n:Nat)(a:Nat→UInt32){r:Nat}(h1:1≤r)(h2:r<32):qEc (qBV n) (pk n a) r=pk n λi=>Sha.rotr (a i) r:=by
 unfold qEc pk
 have hlow:2^r-1<2^64:=by
  have:=Nat.pow_le_pow_right (n:=2) (by decide) (show r≤64 by omega)
  have:=Nat.pow_pos (n:=r) (show 0<2 by decide)
  omega
 rw [qDT,qDT,qG6 n (λi=>u64 (a i)) (m32 h1) (by omega),qE8 n (λi=>u64 (a i)) (λ_=>hlow),qD3,qA8]
 refine qA1 λi=>?_
 rw [qM8 _ (by omega),qJX]
 have:=SN.rot_eq (a i) r h1 h2
 rw [←this]
 unfold SN.rot
 congr 2
 rw [show(4294967296:Nat)=2^r*2^(32-r) by rw [←Nat.pow_add,show r+(32-r)=32 by omega],Nat.mul_div_cancel_left _ (Nat.pow_pos (by decide))]
theorem qEp(n:Nat){f:Nat→Nat}(h: ∀i,f i<2^64):qDr (qBV n) (qBK n f)=qBK n λi=>f i%4294967296:=by
 unfold qDr
 rw [qDT,qE8 n h (λ_=>by decide)]
 exact qA1 λi=>qJX (f i) 32
theorem qD1(n:Nat)(a b:Nat→UInt32):Nat.xor (pk n a) (pk n b)=pk n λi=>a i^^^b i:=by
 unfold pk
 rw [qKi n (λi=>u64 (a i)) (λi=>u64 (b i))]
 exact qA1 λi=>SN.xor_eq (a i) (b i)
theorem qKe(n:Nat)(a b:Nat→UInt32):Nat.land (pk n a) (pk n b)=pk n λi=>a i&&&b i:=by
 unfold pk
 rw [qE8 n (λi=>u64 (a i)) (λi=>u64 (b i))]
 exact qA1 λi=>SN.and_eq (a i) (b i)
theorem qZC(n:Nat)(a:Nat→UInt32):4294967295*qBV n-pk n a=pk n λi=> ~~~ a i:=by
 unfold pk
 rw [qDT,qQz n _ _ (λi=>by have:=u32 (a i);omega)]
 exact qA1 λi=>SN.not_eq (a i)
theorem qBn(n:Nat)(k:UInt32):k.toNat*qBV n=pk n λ_=>k:=qDT n k.toNat
end SM
end Go.Proofs.YtmemgokiolfdoaaGreatDoor
namespace Go.Proofs.YtmemgokiolfdoaaGreatDoor
namespace SM
open SN (qAy qAq)
noncomputable def schP(u:Nat)(n:Nat):Nat→Nat→Nat→Nat→Nat→Nat→Nat→Nat→Nat→Nat→Nat→Nat→Nat→Nat→Nat→Nat→List Nat:=
 Nat.rec (λa b c d e f g h i j k l m n o p=> [a,b,c,d,e,f,g,h,i,j,k,l,m,n,o,p])
  (λ_ ih a b c d e f g h i j k l m n o p=>a::qAy (qDr u (a+Nat.xor (Nat.xor (qEc u b 7) (qEc u b 18)) (qJv u b 3)+j+Nat.xor (Nat.xor (qEc u o 17) (qEc u o 19)) (qJv u o 10))) λx=>ih b c d e f g h i j k l m n o p x) n
noncomputable def rdsP(u:Nat)(kw:List Nat):List Nat→Nat→Nat→Nat→Nat→Nat→Nat→Nat→Nat→List Nat:=
 List.rec (λ_ a b c d e f g h=> [a,b,c,d,e,f,g,h])
  (λk _ ih ws a b c d e f g h=>List.rec [] (λw ws _=>
   qAy (qDr u (h+Nat.xor (Nat.xor (qEc u e 6) (qEc u e 11)) (qEc u e 25)+Nat.xor (Nat.land e f) (Nat.land (4294967295*u-e) g)+k*u+w)) λt1=>
   qAy (qDr u (t1+(Nat.xor (Nat.xor (qEc u a 2) (qEc u a 13)) (qEc u a 22)+Nat.xor (Nat.xor (Nat.land a b) (Nat.land a c)) (Nat.land b c)))) λx=>
   qAy (qDr u (d+t1)) λy=>ih ws x a b c y e f g) ws) kw
theorem qQZ(u k w:Nat)(ks ws:List Nat)(a b c d e f g h:Nat):rdsP u (k::ks) (w::ws) a b c d e f g h=
      qAy (qDr u (h+Nat.xor (Nat.xor (qEc u e 6) (qEc u e 11)) (qEc u e 25)+Nat.xor (Nat.land e f) (Nat.land (4294967295*u-e) g)+k*u+w)) λt1=>
      qAy (qDr u (t1+(Nat.xor (Nat.xor (qEc u a 2) (qEc u a 13)) (qEc u a 22)+Nat.xor (Nat.xor (Nat.land a b) (Nat.land a c)) (Nat.land b c)))) λx=>
      qAy (qDr u (d+t1)) λy=>rdsP u ks ws x a b c y e f g:=rfl
theorem qQN(u n' a b c d e f g h i j k l m n o p:Nat):schP u (n'+1) a b c d e f g h i j k l m n o p=a::qAy (qDr u (a+Nat.xor (Nat.xor (qEc u b 7) (qEc u b 18)) (qJv u b 3)+j+Nat.xor (Nat.xor (qEc u o 17) (qEc u o 19)) (qJv u o 10))) λx=>schP u n' b c d e f g h i j k l m n o p x:=rfl
theorem qT4(u:Nat)(ws:List Nat)(a b c d e f g h:Nat):rdsP u [] ws a b c d e f g h= [a,b,c,d,e,f,g,h]:=rfl
theorem qQM(u a b c d e f g h i j k l m n o p:Nat):schP u 0 a b c d e f g h i j k l m n o p= [a,b,c,d,e,f,g,h,i,j,k,l,m,n,o,p]:=rfl
attribute [local irreducible] rdsP schP
def qYg:Nat→(Nat→UInt32)→(Nat→UInt32)→(Nat→UInt32)→(Nat→UInt32)→(Nat→UInt32)→(Nat→UInt32)→(Nat→UInt32)→(Nat→UInt32)→(Nat→UInt32)→(Nat→UInt32)→(Nat→UInt32)→(Nat→UInt32)→(Nat→UInt32)→(Nat→UInt32)→(Nat→UInt32)→(Nat→UInt32)→List (Nat→UInt32)
 |0,a,b,c,d,e,f,g,h,i,j,k,l,m,n,o,p=> [a,b,c,d,e,f,g,h,i,j,k,l,m,n,o,p]
 |n'+1,a,b,c,d,e,f,g,h,i,j,k,l,m,n,o,p=>a::qYg n' b c d e f g h i j k l m n o p (λz=>a z+Sha.sg0 (b z)+j z+Sha.sg1 (o z))
theorem qU4(z:Nat)(n':Nat): ∀(q:List UInt32) (a b c d e f g h i j k l m n o p:Nat→UInt32),Sha.exts n' (q++ [a z,b z,c z,d z,e z,f z,g z,h z,i z,j z,k z,l z,m z,n z,o z,p z])=q++(qYg n' a b c d e f g h i j k l m n o p).map (λw=>w z):=by
 induction n' with
 |zero=>intro q a b c d e f g h i j k l m n o p;rfl
 |succ n' ih=>
  intro q a b c d e f g h i j k l m n o p
  rw [SN.exts_succ',SN.ext_eq]
  have:=ih (q++ [a z]) b c d e f g h i j k l m n o p (λz=>a z+Sha.sg0 (b z)+j z+Sha.sg1 (o z))
  rw [this,qYg,List.map_cons,List.append_assoc];rfl
theorem lane4{x y z w:Nat}(h1:x<2^32)(h2:y<2^32)(h3:z<2^32)(h4:w<2^32):x+y+z+w<2^64:=by omega
theorem lane5{x y z w v:Nat}(h1:x<2^32)(h2:y<2^32)(h3:z<2^32)(h4:w<2^32)(h5:v<2^32):x+y+z+w+v<2^64:=by omega
theorem lane3{x y z:Nat}(h1:x<2^32)(h2:y<2^32)(h3:z<2^32):x+(y+z)<2^64:=by omega
theorem qZV{x y:Nat}(h1:x<2^32)(h2:y<2^32):x+y<2^64:=by omega
theorem sum5(a b c d e:UInt32):(a.toNat+b.toNat+c.toNat+d.toNat+e.toNat)%4294967296=(a+b+c+d+e).toNat:=by
 simp only [UInt32.toNat_add];omega
theorem sum3(a b c:UInt32):(a.toNat+(b.toNat+c.toNat))%4294967296=(a+(b+c)).toNat:=by
 simp only [UInt32.toNat_add];omega
theorem qWo(N:Nat)(n':Nat): ∀(a b c d e f g h i j k l m n o p:Nat→UInt32),schP (qBV N) n' (pk N a) (pk N b) (pk N c) (pk N d) (pk N e) (pk N f) (pk N g) (pk N h) (pk N i) (pk N j) (pk N k) (pk N l) (pk N m) (pk N n) (pk N o) (pk N p)=(qYg n' a b c d e f g h i j k l m n o p).map (pk N):=by
 induction n' with
 |zero=>intro a b c d e f g h i j k l m n o p;rw [qQM];rfl
 |succ n' ih=>
  intro a b c d e f g h i j k l m n o p
  have e1:Nat.xor (Nat.xor (qEc (qBV N) (pk N b) 7) (qEc (qBV N) (pk N b) 18)) (qJv (qBV N) (pk N b) 3)=pk N λz=>Sha.sg0 (b z):=by
   rw [qC8 N b (by decide) (by decide),qC8 N b (by decide) (by decide),qI2 N b (by decide) (by decide),qD1,qD1];rfl
  have e2:Nat.xor (Nat.xor (qEc (qBV N) (pk N o) 17) (qEc (qBV N) (pk N o) 19)) (qJv (qBV N) (pk N o) 10)=pk N λz=>Sha.sg1 (o z):=by
   rw [qC8 N o (by decide) (by decide),qC8 N o (by decide) (by decide),qI2 N o (by decide) (by decide),qD1,qD1];rfl
  have e3:qDr (qBV N) (pk N a+(pk N λz=>Sha.sg0 (b z))+pk N j+(pk N λz=>Sha.sg1 (o z)))=pk N λz=>a z+Sha.sg0 (b z)+j z+Sha.sg1 (o z):=by
   unfold pk
   rw [qA8,qA8,qA8,qEp N (λz=>lane4 (u32 _) (u32 _) (u32 _) (u32 _))]
   exact qA1 λz=>SN.sch_sum (a z) (b z) (j z) (o z)
  rw [qQN,qAq,e1,e2,e3,ih,qYg,List.map_cons]
def qFu(ks:List UInt32)(ws:List (Nat→UInt32))(s:Nat→Sha.St8)(z:Nat):Sha.St8:=SN.fold ks (ws.map λw=>w z) (s z)
theorem qW6(N:Nat)(ks:List UInt32): ∀(ws:List (Nat→UInt32)) (s:Nat→Sha.St8),ks.length=ws.length→
    rdsP (qBV N) (ks.map UInt32.toNat) (ws.map (pk N)) (pk N λz=>(s z).a) (pk N λz=>(s z).b) (pk N λz=>(s z).c) (pk N λz=>(s z).d) (pk N λz=>(s z).e) (pk N λz=>(s z).f) (pk N λz=>(s z).g) (pk N λz=>(s z).h)=
      [pk N λz=>(qFu ks ws s z).a,pk N λz=>(qFu ks ws s z).b,pk N λz=>(qFu ks ws s z).c,pk N λz=>(qFu ks ws s z).d,pk N λz=>(qFu ks ws s z).e,pk N λz=>(qFu ks ws s z).f,pk N λz=>(qFu ks ws s z).g,pk N λz=>(qFu ks ws s z).h]:=by
  induction ks with
  |nil=>
    intro ws s h
    cases ws with
    |nil=>rw [List.map_nil,qT4];rfl
    |cons _ _=>cases h
  |cons k ks ih=>
    intro ws s h
    cases ws with
    |nil=>cases h
    |cons w ws=>
      have e1:Nat.xor (Nat.xor (qEc (qBV N) (pk N λz=>(s z).e) 6) (qEc (qBV N) (pk N λz=>(s z).e) 11)) (qEc (qBV N) (pk N λz=>(s z).e) 25)=pk N λz=>Sha.rotr (s z).e 6^^^Sha.rotr (s z).e 11^^^Sha.rotr (s z).e 25:=by
        rw [qC8 N _ (by decide) (by decide),qC8 N _ (by decide) (by decide),qC8 N _ (by decide) (by decide),qD1,qD1]
      have e2:Nat.xor (Nat.land (pk N λz=>(s z).e) (pk N λz=>(s z).f)) (Nat.land (4294967295*qBV N-pk N λz=>(s z).e) (pk N λz=>(s z).g))=pk N λz=>(s z).e&&&(s z).f^^^ ~~~ (s z).e&&&(s z).g:=by
        rw [qZC,qKe,qKe,qD1]
      have e3:Nat.xor (Nat.xor (qEc (qBV N) (pk N λz=>(s z).a) 2) (qEc (qBV N) (pk N λz=>(s z).a) 13)) (qEc (qBV N) (pk N λz=>(s z).a) 22)=pk N λz=>Sha.rotr (s z).a 2^^^Sha.rotr (s z).a 13^^^Sha.rotr (s z).a 22:=by
        rw [qC8 N _ (by decide) (by decide),qC8 N _ (by decide) (by decide),qC8 N _ (by decide) (by decide),qD1,qD1]
      have e4:Nat.xor (Nat.xor (Nat.land (pk N λz=>(s z).a) (pk N λz=>(s z).b)) (Nat.land (pk N λz=>(s z).a) (pk N λz=>(s z).c))) (Nat.land (pk N λz=>(s z).b) (pk N λz=>(s z).c))=pk N λz=>(s z).a&&&(s z).b^^^(s z).a&&&(s z).c^^^(s z).b&&&(s z).c:=by
        rw [qKe,qKe,qKe,qD1,qD1]
      have t1:qDr (qBV N) ((pk N λz=>(s z).h)+(pk N λz=>Sha.rotr (s z).e 6^^^Sha.rotr (s z).e 11^^^Sha.rotr (s z).e 25)+(pk N λz=>(s z).e&&&(s z).f^^^ ~~~ (s z).e&&&(s z).g)+k.toNat*qBV N+pk N w)=pk N λz=>(s z).h+(Sha.rotr (s z).e 6^^^Sha.rotr (s z).e 11^^^Sha.rotr (s z).e 25)+((s z).e&&&(s z).f^^^ ~~~ (s z).e&&&(s z).g)+k+w z:=by
        rw [qBn]
        unfold pk
        rw [qA8,qA8,qA8,qA8,qEp N (λz=>lane5 (u32 _) (u32 _) (u32 _) (u32 _) (u32 _))]
        exact qA1 λz=>sum5 _ _ _ _ _
      have t2: ∀T:Nat→UInt32,qDr (qBV N) (pk N T+((pk N λz=>Sha.rotr (s z).a 2^^^Sha.rotr (s z).a 13^^^Sha.rotr (s z).a 22)+(pk N λz=>(s z).a&&&(s z).b^^^(s z).a&&&(s z).c^^^(s z).b&&&(s z).c)))=pk N λz=>T z+((Sha.rotr (s z).a 2^^^Sha.rotr (s z).a 13^^^Sha.rotr (s z).a 22)+((s z).a&&&(s z).b^^^(s z).a&&&(s z).c^^^(s z).b&&&(s z).c)):=λT=>by
        unfold pk
        rw [qA8,qA8,qEp N (λz=>lane3 (u32 _) (u32 _) (u32 _))]
        exact qA1 λz=>sum3 _ _ _
      have t3: ∀T:Nat→UInt32,qDr (qBV N) ((pk N λz=>(s z).d)+pk N T)=pk N λz=>(s z).d+T z:=λT=>by
        unfold pk
        rw [qA8,qEp N (λz=>qZV (u32 _) (u32 _))]
        exact qA1 λz=>by simp only [UInt32.toNat_add]
      rw [List.map_cons,List.map_cons,qQZ,qAq,e1,e2,t1,qAq,e3,e4,t2,qAq,t3]
      have hr:=ih ws (λz=>Sha.rnd (w z) k (s z)) (by simpa using h)
      have hf: ∀z,qFu (k::ks) (w::ws) s z=qFu ks ws (λz=>Sha.rnd (w z) k (s z)) z:=λz=>by
        unfold qFu
        rw [List.map_cons,SN.fold_cons]
      simp only [hf]
      exact hr
end SM
end Go.Proofs.YtmemgokiolfdoaaGreatDoor
namespace Go.Proofs.YtmemgokiolfdoaaGreatDoor
namespace SM
open SN (qAy qAq forceL qBG)
noncomputable def hd{α:Type}(l:List Nat)(g:Nat→List Nat→α):α:=List.rec (g 0 []) (λa r _=>g a r) l
noncomputable def w4s(n:Nat):List Nat→List Nat:=
 Nat.rec (λ_=> []) (λ_ ih l=>hd l λa r=>hd r λb r=>hd r λc r=>hd r λd r=>qAy (((a*256+b)*256+c)*256+d) λx=>x::ih r) n
theorem qTB(n a b c d:Nat)(r:List Nat):w4s (n+1) (a::b::c::d::r)=(((a*256+b)*256+c)*256+d)::w4s n r:=by
 show qAy (((a*256+b)*256+c)*256+d) (λx=>x::w4s n r)=_
 rw [qAq]
theorem qPg(l:List UInt8)(i:Nat):Sha.word (l.drop 4) i=Sha.word l (i+1):=by
 have e: ∀k,(l.drop 4).getD (4*i+k) 0=l.getD (4*(i+1)+k) 0:=λk=>by
  rw [List.getD_eq_getElem?_getD,List.getElem?_drop,←List.getD_eq_getElem?_getD,show 4+(4*i+k)=4*(i+1)+k by omega]
 unfold Sha.word
 exact congr (congr (congr (congrArg Sha.be32 (e 0)) (e 1)) (e 2)) (e 3)
theorem qEs(l:List UInt8)(n:Nat):Sha.firsts l (n+1)=Sha.word l 0::Sha.firsts (l.drop 4) n:=by
 unfold Sha.firsts
 rw [List.range_succ_eq_map,List.map_cons,List.map_map]
 exact congrArg (List.cons _) (List.map_congr_left λi _=>(qPg l i).symm)
theorem qVg: ∀(n:Nat) (l:List UInt8),4*n≤l.length→w4s n (l.map UInt8.toNat)=(Sha.firsts l n).map UInt32.toNat
 |0,_,_=>rfl
 |n+1,l,h=>by
  match l,h with
  |a::b::c::d::r,h=>
   have ih:=qVg n r (by simp only [List.length_cons] at h;omega)
   rw [qEs]
   show w4s (n+1) (a.toNat::b.toNat::c.toNat::d.toNat::r.map UInt8.toNat)=_
   rw [qTB,ih,List.map_cons]
   congr 1
   have:=SN.w4_eq (a::b::c::d::r) 0
   rw [Nat.mul_zero,List.drop_zero] at this
   exact this
  | [],h=>simp at h
  | [_],h=>simp only [List.length_cons,List.length_nil] at h;omega
  | [_,_],h=>simp only [List.length_cons,List.length_nil] at h;omega
  | [_,_,_],h=>simp only [List.length_cons,List.length_nil] at h;omega
noncomputable def cols{α:Type}(L:List (List Nat)):(List Nat→α)→α:=
 List.rec (λg=>g [0,0,0,0,0,0,0,0,0,0,0,0,0,0,0,0]) (λws _ ih g=>ih λacc=>forceL (List.zipWith (λw p=>w+18446744073709551616*p) ws acc) g) L
def qSI:List (List Nat)→List Nat
 | []=> [0,0,0,0,0,0,0,0,0,0,0,0,0,0,0,0]
 |ws::L=>List.zipWith (λw p=>w+18446744073709551616*p) ws (qSI L)
theorem qSG{α:Type}: ∀(L:List (List Nat)) (g:List Nat→α),cols L g=g (qSI L)
 | [],_=>rfl
 |ws::L,g=>by
  show cols L (λacc=>forceL (List.zipWith (λw p=>w+18446744073709551616*p) ws acc) g)=_
  rw [qSG L,qBG];rfl
def wd(M:List (List UInt8))(j z:Nat):UInt32:=Sha.word (M.getD z []) j
theorem qOq(n:Nat)(f:Nat→Nat):qBK (n+1) f=f 0+18446744073709551616*qBK n (λi=>f (i+1)):=rfl
attribute [local irreducible] qBK Sha.word
theorem qXH(b:List UInt8)(M:List (List UInt8))(j:Nat):pk (b::M).length (wd (b::M) j)=(Sha.word b j).toNat+18446744073709551616*pk M.length (wd M j):=by
 have h: ∀i,wd (b::M) j (i+1)=wd M j i:=λi=>by unfold wd;rw [List.getD_cons_succ]
 have h0:wd (b::M) j 0=Sha.word b j:=by unfold wd;rw [List.getD_cons_zero]
 unfold pk
 rw [List.length_cons,qOq,h0]
 simp only [h]
theorem qPa{f g:Nat→Nat}: ∀(l:List Nat),List.zipWith (λw p=>w+18446744073709551616*p) (l.map f) (l.map g)=l.map λj=>f j+18446744073709551616*g j
 | []=>List.zipWith_nil_left
 |a::l=>by rw [List.map_cons,List.map_cons,List.map_cons,List.zipWith_cons_cons,qPa l]
theorem qSH:qSI []=(List.range 16).map λj=>pk ([]:List (List UInt8)).length (wd [] j):=by
 have h: ∀j,pk ([]:List (List UInt8)).length (wd [] j)=0:=λj=>by
  unfold pk;rw [List.length_nil];unfold qBK;rfl
 simp only [h]
 decide
theorem qU9(M:List (List UInt8)):qSI (M.map λb=>(Sha.firsts b 16).map UInt32.toNat)=(List.range 16).map λj=>pk M.length (wd M j):=by
 induction M with
 |nil=>exact qSH
 |cons b M ih=>
  rw [List.map_cons,qSI,ih]
  unfold Sha.firsts
  rw [List.map_map,qPa]
  refine List.map_congr_left λj _=>?_
  rw [Function.comp_apply,qXH]
theorem K_len:Sha.K.length=64:=by decide
noncomputable def oneP{α:Type}(u:Nat)(ws:List Nat)(g:Nat→Nat→Nat→Nat→α):α:=
 forceL (rdsP u SN.KN (schP u 48 (ws.getD 0 0) (ws.getD 1 0) (ws.getD 2 0) (ws.getD 3 0) (ws.getD 4 0) (ws.getD 5 0) (ws.getD 6 0) (ws.getD 7 0) (ws.getD 8 0) (ws.getD 9 0) (ws.getD 10 0) (ws.getD 11 0) (ws.getD 12 0) (ws.getD 13 0) (ws.getD 14 0) (ws.getD 15 0)) (1779033703*u) (3144134277*u) (1013904242*u) (2773480762*u) (1359893119*u) (2600822924*u) (528734635*u) (1541459225*u)) λr=>
 qAy (qDr u (1779033703*u+r.getD 0 0)) λa=>qAy (qDr u (3144134277*u+r.getD 1 0)) λb=>qAy (qDr u (1013904242*u+r.getD 2 0)) λc=>qAy (qDr u (2773480762*u+r.getD 3 0)) λd=>g a b c d
attribute [local irreducible] rdsP schP SN.KN Sha.K
theorem qLa(N:Nat)(k:UInt32)(a:Nat→UInt32):qDr (qBV N) (k.toNat*qBV N+pk N a)=pk N λz=>k+a z:=by
 rw [qBn]
 unfold pk
 rw [qA8,qEp N (λz=>qZV (u32 _) (u32 _))]
 exact qA1 λz=>SN.add_eq k (a z)
theorem qUV(b:List UInt8):Sha.mix Sha.init b=Sha.init.add (SN.fold Sha.K (Sha.sched b) Sha.init):=by
 have:=SN.fold_rnds (Sha.sched b) Sha.init (Sha.sched_length b) 64 0 rfl
 rw [List.drop_zero,List.drop_zero] at this
 unfold Sha.mix
 rw [←this];rfl
theorem qRA{α:Type}(M:List (List UInt8))(g:Nat→Nat→Nat→Nat→α):oneP (qBV M.length) ((List.range 16).map λj=>pk M.length (wd M j)) g=
    g (pk M.length λz=>(Sha.mix Sha.init (M.getD z [])).a) (pk M.length λz=>(Sha.mix Sha.init (M.getD z [])).b) (pk M.length λz=>(Sha.mix Sha.init (M.getD z [])).c) (pk M.length λz=>(Sha.mix Sha.init (M.getD z [])).d):=by
  unfold oneP
  have hs:=qWo M.length 48 (wd M 0) (wd M 1) (wd M 2) (wd M 3) (wd M 4) (wd M 5) (wd M 6) (wd M 7) (wd M 8) (wd M 9) (wd M 10) (wd M 11) (wd M 12) (wd M 13) (wd M 14) (wd M 15)
  have hl:=λz=>qU4 z 48 [] (wd M 0) (wd M 1) (wd M 2) (wd M 3) (wd M 4) (wd M 5) (wd M 6) (wd M 7) (wd M 8) (wd M 9) (wd M 10) (wd M 11) (wd M 12) (wd M 13) (wd M 14) (wd M 15)
  obtain ⟨W,hW⟩: ∃W,W=qYg 48 (wd M 0) (wd M 1) (wd M 2) (wd M 3) (wd M 4) (wd M 5) (wd M 6) (wd M 7) (wd M 8) (wd M 9) (wd M 10) (wd M 11) (wd M 12) (wd M 13) (wd M 14) (wd M 15):=⟨_,rfl⟩
  rw [←hW] at hs
  simp only [←hW] at hl
  have hl2: ∀z,W.map (λw=>w z)=Sha.sched (M.getD z []):=λz=>by
    have:=hl z
    rw [List.nil_append,List.nil_append] at this
    rw [←this];rfl
  have hlen:Sha.K.length=W.length:=by
    have:=congrArg List.length (hl2 0)
    rw [List.length_map,Sha.sched_length] at this
    rw [this];exact K_len
  have hr:=qW6 M.length Sha.K W (λ_=>Sha.init) hlen
  have e: ∀k:UInt32,(pk M.length λ_=>k)=k.toNat*qBV M.length:=λk=>(qBn M.length k).symm
  have hf: ∀z,qFu Sha.K W (λ_=>Sha.init) z=SN.fold Sha.K (Sha.sched (M.getD z [])) Sha.init:=λz=>by
    unfold qFu;rw [hl2]
  simp only [hf,e] at hr
  rw [show(((List.range 16).map λj=>pk M.length (wd M j)).getD 0 0)=pk M.length (wd M 0) from rfl,show(((List.range 16).map λj=>pk M.length (wd M j)).getD 1 0)=pk M.length (wd M 1) from rfl,show(((List.range 16).map λj=>pk M.length (wd M j)).getD 2 0)=pk M.length (wd M 2) from rfl,show(((List.range 16).map λj=>pk M.length (wd M j)).getD 3 0)=pk M.length (wd M 3) from rfl,show(((List.range 16).map λj=>pk M.length (wd M j)).getD 4 0)=pk M.length (wd M 4) from rfl,show(((List.range 16).map λj=>pk M.length (wd M j)).getD 5 0)=pk M.length (wd M 5) from rfl,show(((List.range 16).map λj=>pk M.length (wd M j)).getD 6 0)=pk M.length (wd M 6) from rfl,show(((List.range 16).map λj=>pk M.length (wd M j)).getD 7 0)=pk M.length (wd M 7) from rfl,show(((List.range 16).map λj=>pk M.length (wd M j)).getD 8 0)=pk M.length (wd M 8) from rfl,show(((List.range 16).map λj=>pk M.length (wd M j)).getD 9 0)=pk M.length (wd M 9) from rfl,show(((List.range 16).map λj=>pk M.length (wd M j)).getD 10 0)=pk M.length (wd M 10) from rfl,show(((List.range 16).map λj=>pk M.length (wd M j)).getD 11 0)=pk M.length (wd M 11) from rfl,show(((List.range 16).map λj=>pk M.length (wd M j)).getD 12 0)=pk M.length (wd M 12) from rfl,show(((List.range 16).map λj=>pk M.length (wd M j)).getD 13 0)=pk M.length (wd M 13) from rfl,show(((List.range 16).map λj=>pk M.length (wd M j)).getD 14 0)=pk M.length (wd M 14) from rfl,show(((List.range 16).map λj=>pk M.length (wd M j)).getD 15 0)=pk M.length (wd M 15) from rfl,hs,SN.KN_eq]
  obtain ⟨S,hS⟩: ∃S:Nat→Sha.St8,S=λz=>SN.fold Sha.K (Sha.sched (M.getD z [])) Sha.init:=⟨_,rfl⟩
  have hSz: ∀z,SN.fold Sha.K (Sha.sched (M.getD z [])) Sha.init=S z:=λz=>by rw [hS]
  have hm: ∀z,Sha.mix Sha.init (M.getD z [])=Sha.init.add (S z):=λz=>by rw [qUV,hSz]
  simp only [hSz] at hr
  simp only [hm]
  rw [show rdsP (qBV M.length) (Sha.K.map UInt32.toNat) (W.map (pk M.length)) (1779033703*qBV M.length) (3144134277*qBV M.length) (1013904242*qBV M.length) (2773480762*qBV M.length) (1359893119*qBV M.length) (2600822924*qBV M.length) (528734635*qBV M.length) (1541459225*qBV M.length)=_ from hr]
  rw [qBG,qAq,qAq,qAq,qAq]
  have h0:qDr (qBV M.length) (1779033703*qBV M.length+pk M.length λz=>(S z).a)=pk M.length λz=>Sha.init.a+(S z).a:=qLa M.length Sha.init.a _
  have h1:qDr (qBV M.length) (3144134277*qBV M.length+pk M.length λz=>(S z).b)=pk M.length λz=>Sha.init.b+(S z).b:=qLa M.length Sha.init.b _
  have h2:qDr (qBV M.length) (1013904242*qBV M.length+pk M.length λz=>(S z).c)=pk M.length λz=>Sha.init.c+(S z).c:=qLa M.length Sha.init.c _
  have h3:qDr (qBV M.length) (2773480762*qBV M.length+pk M.length λz=>(S z).d)=pk M.length λz=>Sha.init.d+(S z).d:=qLa M.length Sha.init.d _
  exact congr (congr (congr (congrArg g h0) h1) h2) h3
end SM
end Go.Proofs.YtmemgokiolfdoaaGreatDoor
namespace Go.Proofs.YtmemgokiolfdoaaGreatDoor
namespace SM
open SN (qAy qAq forceL qBG)
noncomputable def outs(n:Nat):Nat→Nat→Nat→Nat→List (List Nat):=
 Nat.rec (λ_ _ _ _=> []) (λ_ ih A B C D=>(SN.bytes4 (A%18446744073709551616)++(SN.bytes4 (B%18446744073709551616)++(SN.bytes4 (C%18446744073709551616)++SN.bytes4 (D%18446744073709551616))))::
  qAy (A/18446744073709551616) λA=>qAy (B/18446744073709551616) λB=>qAy (C/18446744073709551616) λC=>qAy (D/18446744073709551616) λD=>ih A B C D) n
theorem qG8(n A B C D:Nat):outs (n+1) A B C D=(SN.bytes4 (A%18446744073709551616)++(SN.bytes4 (B%18446744073709551616)++(SN.bytes4 (C%18446744073709551616)++SN.bytes4 (D%18446744073709551616))))::
    qAy (A/18446744073709551616) λA=>qAy (B/18446744073709551616) λB=>qAy (C/18446744073709551616) λC=>qAy (D/18446744073709551616) λD=>outs n A B C D:=rfl
theorem qG5(n:Nat)(f:Nat→Nat):qBK (n+1) f=f 0+18446744073709551616*qBK n (λi=>f (i+1)):=rfl
attribute [local irreducible] qBK outs
theorem qNQ(n:Nat)(a:Nat→UInt32):pk (n+1) a%18446744073709551616=(a 0).toNat:=by
 unfold pk
 rw [qG5,Nat.add_mul_mod_self_left]
 exact Nat.mod_eq_of_lt (u64 (a 0))
theorem qNR(n:Nat)(a:Nat→UInt32):pk (n+1) a/18446744073709551616=pk n (λi=>a (i+1)):=by
 unfold pk
 rw [qG5,Nat.add_mul_div_left _ _ (by decide),Nat.div_eq_of_lt (u64 (a 0)),Nat.zero_add]
def byt(a b c d:UInt32):List Nat:=SN.bytes4 a.toNat++(SN.bytes4 b.toNat++(SN.bytes4 c.toNat++SN.bytes4 d.toNat))
theorem qXL: ∀(n:Nat) (a b c d:Nat→UInt32),outs n (pk n a) (pk n b) (pk n c) (pk n d)=(List.range n).map λz=>byt (a z) (b z) (c z) (d z):=by
 intro n
 induction n with
 |zero=>intro a b c d;unfold outs;rfl
 |succ n ih=>
  intro a b c d
  rw [qG8,qNQ,qNQ,qNQ,qNQ,qNR,qNR,qNR,qNR,qAq,qAq,qAq,qAq,ih,List.range_succ_eq_map,List.map_cons,List.map_map]
  rfl
theorem b4(x:UInt32):SN.bytes4 x.toNat=(Sha.numB x.toUInt64 4).map UInt8.toNat:=by
 rw [SN.bytes4_eq _ (by have:=x.toNat_lt;omega)]
 congr 2
 rw [show x.toUInt64=UInt64.ofNat x.toNat from by apply UInt64.toNat_inj.1;simp]
noncomputable def tagL(tag:Nat)(ls:List (List Nat)):List Nat:=tag::ls.flatMap λs=>SN.bytes4 s.length++s
theorem qWU(tag:UInt8)(ls:List (List UInt8))(h:(Sha.tagB tag ls).length≤55):tagL tag.toNat (ls.map (List.map UInt8.toNat))=(Sha.tagB tag ls).map UInt8.toNat:=by
 unfold tagL Sha.tagB
 simp only [List.map_append,List.map_cons,List.map_nil,List.cons_append,List.nil_append]
 congr 1
 rw [Sha.tagB_length] at h
 have h2:ls.flatten.length≤55:=by omega
 clear h
 induction ls with
 |nil=>rfl
 |cons a l ih=>
  simp only [List.flatten_cons,List.length_append] at h2
  rw [List.map_cons,List.flatMap_cons,List.flatMap_cons,List.map_append,List.map_append,List.length_map,ih (by omega),SN.bytes4_eq _ (by omega)]
end SM
end Go.Proofs.YtmemgokiolfdoaaGreatDoor
namespace Go.Proofs.YtmemgokiolfdoaaGreatDoor
namespace SM
open SN (qAy qAq forceL qBG)
def x16(a b c d:UInt32):List UInt8:=Sha.numB a.toUInt64 4++(Sha.numB b.toUInt64 4++(Sha.numB c.toUInt64 4++Sha.numB d.toUInt64 4))
theorem qZF(s:Sha.St8):(Sha.out s).take 16=x16 s.a s.b s.c s.d:=by
 have e:Sha.out s=x16 s.a s.b s.c s.d++(Sha.numB s.e.toUInt64 4++(Sha.numB s.f.toUInt64 4++(Sha.numB s.g.toUInt64 4++Sha.numB s.h.toUInt64 4))):=by
  unfold Sha.out Sha.St8.list x16
  simp only [List.flatMap_cons,List.flatMap_nil,List.append_nil,List.append_assoc]
 rw [e,List.take_left' (by unfold x16;simp only [List.length_append,Sha.numB_length])]
theorem num4(x:UInt32):Sha.numB x.toUInt64 4= [UInt8.ofNat (x.toNat/2^24),UInt8.ofNat (x.toNat/2^16),UInt8.ofNat (x.toNat/2^8),UInt8.ofNat x.toNat]:=by
 rw [show x.toUInt64=UInt64.ofNat x.toNat from by apply UInt64.toNat_inj.1;simp]
 exact R3.four_nat x.toNat (by have:=x.toNat_lt;omega)
theorem qZz(x:UInt32):Sha.be32 0 0 16 (UInt8.ofNat (x.toNat/2^24))=4096+Sha.shr x 24:=by
 apply UInt32.toNat_inj.1
 have hx:=x.toNat_lt
 rw [R3.be32_nat,UInt32.toNat_add,R3.shr_nat x 24 (by decide),UInt8.toNat_ofNat']
 show 256*(256*(256*0+0)+16)+x.toNat/2^24%256=(4096+x.toNat/2^24)%4294967296
 omega
theorem qSe(x y:UInt32):Sha.be32 (UInt8.ofNat (x.toNat/2^16)) (UInt8.ofNat (x.toNat/2^8)) (UInt8.ofNat x.toNat) (UInt8.ofNat (y.toNat/2^24))=x*256+Sha.shr y 24:=by
 apply UInt32.toNat_inj.1
 have hx:=x.toNat_lt
 have hy:=y.toNat_lt
 rw [R3.be32_nat,UInt32.toNat_add,UInt32.toNat_mul,R3.shr_nat y 24 (by decide),UInt8.toNat_ofNat',UInt8.toNat_ofNat',UInt8.toNat_ofNat',UInt8.toNat_ofNat']
 show 256*(256*(256*(x.toNat/2^16%256)+x.toNat/2^8%256)+x.toNat%256)+y.toNat/2^24%256=(x.toNat*256%4294967296+y.toNat/2^24)%4294967296
 omega
theorem qZ0(x:UInt32):Sha.be32 (UInt8.ofNat (x.toNat/2^16)) (UInt8.ofNat (x.toNat/2^8)) (UInt8.ofNat x.toNat) 128=x*256+128:=by
 apply UInt32.toNat_inj.1
 have hx:=x.toNat_lt
 rw [R3.be32_nat,UInt32.toNat_add,UInt32.toNat_mul,UInt8.toNat_ofNat',UInt8.toNat_ofNat',UInt8.toNat_ofNat']
 show 256*(256*(256*(x.toNat/2^16%256)+x.toNat/2^8%256)+x.toNat%256)+128=(x.toNat*256%4294967296+128)%4294967296
 omega
def plc(leaf chain k:Nat):List UInt8:= [0,0,0,UInt8.ofNat leaf,UInt8.ofNat chain,UInt8.ofNat k]
def qYh(o:List UInt8)(j:Nat):UInt32:=Sha.be32 (o.getD (4*j+3) 0) (o.getD (4*j+4) 0) (o.getD (4*j+5) 0) (o.getD (4*j+6) 0)
def qWa(o:List UInt8)(p:UInt32)(a b c d:UInt32):List UInt32:=
 [33554432,Sha.be32 16 (o.getD 0 0) (o.getD 1 0) (o.getD 2 0),qYh o 0,qYh o 1,qYh o 2,Sha.be32 (o.getD 15 0) 0 0 0,100663296,p,4096+Sha.shr a 24,a*256+Sha.shr b 24,b*256+Sha.shr c 24,c*256+Sha.shr d 24,d*256+128,0,0,408]
theorem n16:Sha.numB (UInt64.ofNat 16) 4= [0,0,0,16]:=by decide+kernel
theorem n6:Sha.numB (UInt64.ofNat 6) 4= [0,0,0,6]:=by decide+kernel
theorem n408:Sha.numB (8*UInt64.ofNat 51) 8= [0,0,0,0,0,0,1,152]:=by decide+kernel
theorem qTR(o0 o1 o2 o3 o4 o5 o6 o7 o8 o9 o10 o11 o12 o13 o14 o15 x0 x1 x2 x3 x4 x5 x6 x7 x8 x9 x10 x11 x12 x13 x14 x15:UInt8)(leaf chain k:Nat):Sha.tagB 2 [[o0,o1,o2,o3,o4,o5,o6,o7,o8,o9,o10,o11,o12,o13,o14,o15],plc leaf chain k,[x0,x1,x2,x3,x4,x5,x6,x7,x8,x9,x10,x11,x12,x13,x14,x15]]= [2,0,0,0,16,o0,o1,o2,o3,o4,o5,o6,o7,o8,o9,o10,o11,o12,o13,o14,o15,0,0,0,6,0,0,0,UInt8.ofNat leaf,UInt8.ofNat chain,UInt8.ofNat k,0,0,0,16,x0,x1,x2,x3,x4,x5,x6,x7,x8,x9,x10,x11,x12,x13,x14,x15]:=by
 show [2]++(Sha.numB (UInt64.ofNat 16) 4++ [o0,o1,o2,o3,o4,o5,o6,o7,o8,o9,o10,o11,o12,o13,o14,o15]++(Sha.numB (UInt64.ofNat 6) 4++plc leaf chain k++(Sha.numB (UInt64.ofNat 16) 4++ [x0,x1,x2,x3,x4,x5,x6,x7,x8,x9,x10,x11,x12,x13,x14,x15]++ [])))=_
 rw [n16,n6];rfl
theorem pad51(l:List UInt8)(h:l.length=51):Sha.pad l=l++ [128,0,0,0,0,0,0,0,0,0,0,1,152]:=by
 unfold Sha.pad
 rw [h,n408,List.append_assoc,List.append_assoc];rfl
theorem be_2:Sha.be32 2 0 0 0=33554432:=by decide+kernel
theorem be_6:Sha.be32 6 0 0 0=100663296:=by decide+kernel
theorem be_0:Sha.be32 0 0 0 0=0:=by decide+kernel
theorem qZ1:Sha.be32 0 0 1 152=408:=by decide+kernel
theorem qP7(o0 o1 o2 o3 o4 o5 o6 o7 o8 o9 o10 o11 o12 o13 o14 o15 x0 x1 x2 x3 x4 x5 x6 x7 x8 x9 x10 x11 x12 x13 x14 x15:UInt8)(leaf chain k:Nat):Sha.firsts (Sha.pad [2,0,0,0,16,o0,o1,o2,o3,o4,o5,o6,o7,o8,o9,o10,o11,o12,o13,o14,o15,0,0,0,6,0,0,0,UInt8.ofNat leaf,UInt8.ofNat chain,UInt8.ofNat k,0,0,0,16,x0,x1,x2,x3,x4,x5,x6,x7,x8,x9,x10,x11,x12,x13,x14,x15]) 16= [(Sha.be32 2 0 0 0),(Sha.be32 16 o0 o1 o2),(Sha.be32 o3 o4 o5 o6),(Sha.be32 o7 o8 o9 o10),(Sha.be32 o11 o12 o13 o14),(Sha.be32 o15 0 0 0),(Sha.be32 6 0 0 0),(Sha.be32 (UInt8.ofNat leaf) (UInt8.ofNat chain) (UInt8.ofNat k) 0),(Sha.be32 0 0 16 x0),(Sha.be32 x1 x2 x3 x4),(Sha.be32 x5 x6 x7 x8),(Sha.be32 x9 x10 x11 x12),(Sha.be32 x13 x14 x15 128),(Sha.be32 0 0 0 0),(Sha.be32 0 0 0 0),(Sha.be32 0 0 1 152)]:=by
 rw [pad51 _ rfl];rfl
theorem qOY(o:List UInt8)(ho:o.length=16)(leaf chain k:Nat)(a b c d:UInt32):Sha.firsts (Sha.pad (Sha.tagB 2 [o,plc leaf chain k,x16 a b c d])) 16=qWa o (Sha.be32 (UInt8.ofNat leaf) (UInt8.ofNat chain) (UInt8.ofNat k) 0) a b c d:=by
 unfold qWa
 rw [←qZz a,←qSe a b,←qSe b c,←qSe c d,←qZ0 d]
 unfold x16
 rw [num4,num4,num4,num4]
 match o,ho with
 | [o0,o1,o2,o3,o4,o5,o6,o7,o8,o9,o10,o11,o12,o13,o14,o15],_=>
  show Sha.firsts (Sha.pad (Sha.tagB 2 [[o0,o1,o2,o3,o4,o5,o6,o7,o8,o9,o10,o11,o12,o13,o14,o15],plc leaf chain k,[UInt8.ofNat (a.toNat/2^24),UInt8.ofNat (a.toNat/2^16),UInt8.ofNat (a.toNat/2^8),UInt8.ofNat a.toNat,UInt8.ofNat (b.toNat/2^24),UInt8.ofNat (b.toNat/2^16),UInt8.ofNat (b.toNat/2^8),UInt8.ofNat b.toNat,UInt8.ofNat (c.toNat/2^24),UInt8.ofNat (c.toNat/2^16),UInt8.ofNat (c.toNat/2^8),UInt8.ofNat c.toNat,UInt8.ofNat (d.toNat/2^24),UInt8.ofNat (d.toNat/2^16),UInt8.ofNat (d.toNat/2^8),UInt8.ofNat d.toNat]])) 16=_
  rw [qTR,qP7,be_2,be_6,be_0,qZ1]
  rfl
end SM
end Go.Proofs.YtmemgokiolfdoaaGreatDoor
namespace Go.Proofs.YtmemgokiolfdoaaGreatDoor
namespace SM
open SN (qAy qAq forceL qBG)
theorem qJD: ∀{n:Nat} {f g:Nat→Nat},(∀i,i<n→f i=g i)→qBK n f=qBK n g
 |0,_,_,_=>rfl
 |n+1,f,g,h=>by rw [qBK,qBK,h 0 (by omega),qJD (λi hi=>h (i+1) (by omega))]
theorem pk_lt{n:Nat}{a b:Nat→UInt32}(h: ∀i,i<n→a i=b i):pk n a=pk n b:=qJD λi hi=>congrArg UInt32.toNat (h i hi)
attribute [local irreducible] qBK Sha.word Sha.be32 Sha.shr
theorem qRT(N:Nat)(a b:Nat→UInt32):qDr (qBV N) (pk N a*256+qJv (qBV N) (pk N b) 24)=pk N λz=>a z*256+Sha.shr (b z) 24:=by
 rw [qI2 N b (by decide) (by decide)]
 unfold pk
 rw [qD3,qA8,qEp N (λz=>by
  have h1:=u32 (a z)
  have h2:=u32 (Sha.shr (b z) 24)
  show(a z).toNat*256+(Sha.shr (b z) 24).toNat<2^64
  omega)]
 refine qA1 λz=>?_
 show((a z).toNat*256+(Sha.shr (b z) 24).toNat)%4294967296=(a z*256+Sha.shr (b z) 24).toNat
 rw [UInt32.toNat_add,UInt32.toNat_mul]
 show _=((a z).toNat*256%4294967296+_)%4294967296
 omega
theorem qZo(N:Nat)(a:Nat→UInt32):qDr (qBV N) (pk N a*256+128*qBV N)=pk N λz=>a z*256+128:=by
 rw [show 128*qBV N=pk N λ_=>128 from qBn N 128]
 unfold pk
 rw [qD3,qA8,qEp N (λz=>by
  have h1:=u32 (a z)
  show(a z).toNat*256+128<2^64
  omega)]
 refine qA1 λz=>?_
 show((a z).toNat*256+128)%4294967296=(a z*256+128).toNat
 rw [UInt32.toNat_add,UInt32.toNat_mul]
 show _=((a z).toNat*256%4294967296+128)%4294967296
 omega
theorem qYw(N:Nat)(a:Nat→UInt32):qDr (qBV N) (4096*qBV N+qJv (qBV N) (pk N a) 24)=pk N λz=>4096+Sha.shr (a z) 24:=by
 rw [qI2 N a (by decide) (by decide)]
 exact qLa N 4096 _
noncomputable def stepP{α:Type}(u o0 o1 o2 o3 o4 w A B C D:Nat)(g:Nat→Nat→Nat→Nat→α):α:=
 forceL [33554432*u,o0*u,o1*u,o2*u,o3*u,o4*u,100663296*u,w,qDr u (4096*u+qJv u A 24),qDr u (A*256+qJv u B 24),qDr u (B*256+qJv u C 24),qDr u (C*256+qJv u D 24),qDr u (D*256+128*u),0*u,0*u,408*u] λws=>oneP u ws g
def oW(o:List UInt8):Nat→UInt32
 |0=>Sha.be32 16 (o.getD 0 0) (o.getD 1 0) (o.getD 2 0)
 |1=>qYh o 0
 |2=>qYh o 1
 |3=>qYh o 2
 |_=>Sha.be32 (o.getD 15 0) 0 0 0
theorem qTW{α:Type}(N:Nat)(o:List UInt8)(ho:o.length=16)(lf ch:Nat→Nat)(k:Nat)(a b c d:Nat→UInt32)(w:Nat)(hw:w=pk N λz=>Sha.be32 (UInt8.ofNat (lf z)) (UInt8.ofNat (ch z)) (UInt8.ofNat k) 0)(g:Nat→Nat→Nat→Nat→α):
    ∃a' b' c' d':Nat→UInt32,stepP (qBV N) (oW o 0).toNat (oW o 1).toNat (oW o 2).toNat (oW o 3).toNat (oW o 4).toNat w (pk N a) (pk N b) (pk N c) (pk N d) g=g (pk N a') (pk N b') (pk N c') (pk N d')∧
      ∀z,z<N→x16 (a' z) (b' z) (c' z) (d' z)=Sha.tagged 2 [o,plc (lf z) (ch z) k,x16 (a z) (b z) (c z) (d z)]:=by
  obtain ⟨M,hM⟩: ∃M,M=(List.range N).map λz=>Sha.pad (Sha.tagB 2 [o,plc (lf z) (ch z) k,x16 (a z) (b z) (c z) (d z)]):=⟨_,rfl⟩
  have hlen:M.length=N:=by rw [hM,List.length_map,List.length_range]
  have hz: ∀z,z<N→M.getD z []=Sha.pad (Sha.tagB 2 [o,plc (lf z) (ch z) k,x16 (a z) (b z) (c z) (d z)]):=λz h=>by
    rw [hM,List.getD_eq_getElem?_getD,List.getElem?_map,List.getElem?_range h];rfl
  have hwd: ∀j,j<16→pk N (wd M j)=pk N λz=>(qWa o (Sha.be32 (UInt8.ofNat (lf z)) (UInt8.ofNat (ch z)) (UInt8.ofNat k) 0) (a z) (b z) (c z) (d z)).getD j 0:=λj hj=>pk_lt λz h=>by
    have:=qOY o ho (lf z) (ch z) k (a z) (b z) (c z) (d z)
    rw [←hz z h] at this
    rw [←this]
    unfold Sha.firsts wd
    generalize M.getD z []=q
    rw [List.getD_eq_getElem?_getD,List.getElem?_map,List.getElem?_range hj];rfl
  have hl: [33554432*qBV N,(oW o 0).toNat*qBV N,(oW o 1).toNat*qBV N,(oW o 2).toNat*qBV N,(oW o 3).toNat*qBV N,(oW o 4).toNat*qBV N,100663296*qBV N,w,qDr (qBV N) (4096*qBV N+qJv (qBV N) (pk N a) 24),qDr (qBV N) (pk N a*256+qJv (qBV N) (pk N b) 24),qDr (qBV N) (pk N b*256+qJv (qBV N) (pk N c) 24),qDr (qBV N) (pk N c*256+qJv (qBV N) (pk N d) 24),qDr (qBV N) (pk N d*256+128*qBV N),0*qBV N,0*qBV N,408*qBV N]=(List.range 16).map λj=>pk M.length (wd M j):=by
    rw [hlen,qYw,qRT,qRT,qRT,qZo,qBn,qBn,qBn,qBn,qBn,hw]
    rw [show 33554432*qBV N=pk N λ_=>33554432 from qBn N 33554432,show 100663296*qBV N=pk N λ_=>100663296 from qBn N 100663296,show 0*qBV N=pk N λ_=>0 from qBn N 0,show 408*qBV N=pk N λ_=>408 from qBn N 408]
    show _= [pk N (wd M 0),pk N (wd M 1),pk N (wd M 2),pk N (wd M 3),pk N (wd M 4),pk N (wd M 5),pk N (wd M 6),pk N (wd M 7),pk N (wd M 8),pk N (wd M 9),pk N (wd M 10),pk N (wd M 11),pk N (wd M 12),pk N (wd M 13),pk N (wd M 14),pk N (wd M 15)]
    rw [hwd 0 (by decide),hwd 1 (by decide),hwd 2 (by decide),hwd 3 (by decide),hwd 4 (by decide),hwd 5 (by decide),hwd 6 (by decide),hwd 7 (by decide),hwd 8 (by decide),hwd 9 (by decide),hwd 10 (by decide),hwd 11 (by decide),hwd 12 (by decide),hwd 13 (by decide),hwd 14 (by decide),hwd 15 (by decide)]
    rfl
  refine⟨λz=>(Sha.mix Sha.init (M.getD z [])).a,λz=>(Sha.mix Sha.init (M.getD z [])).b,λz=>(Sha.mix Sha.init (M.getD z [])).c,λz=>(Sha.mix Sha.init (M.getD z [])).d,?_,λz h=>?_⟩
  · unfold stepP
    rw [qBG,hl]
    have:=qRA M g
    rw [hlen] at this
    rw [hlen]
    exact this
  · rw [←qZF,hz z h]
    unfold Sha.tagged Sha.sum
    have h51:(Sha.tagB 2 [o,plc (lf z) (ch z) k,x16 (a z) (b z) (c z) (d z)]).length=51:=by
      rw [Sha.tagB_length]
      simp only [List.flatten_cons,List.flatten_nil,List.length_append,List.length_cons,List.length_nil,ho]
      unfold x16 plc
      simp only [List.length_append,Sha.numB_length,List.length_cons,List.length_nil]
    rw [show(Sha.pad (Sha.tagB 2 [o,plc (lf z) (ch z) k,x16 (a z) (b z) (c z) (d z)])).length/64=1 by rw [Sha.pad_length,h51],Sha.mixes,Sha.mixes,Nat.mul_zero,List.drop_zero]
end SM
end Go.Proofs.YtmemgokiolfdoaaGreatDoor
namespace Go.Proofs.YtmemgokiolfdoaaGreatDoor
attribute [local irreducible] SN.tagN Sha.tagged
namespace SM
open SN (qAy qAq forceL qBG)
noncomputable def runP{α:Type}(u o0 o1 o2 o3 o4 LC:Nat)(n:Nat):Nat→Nat→Nat→Nat→Nat→(Nat→Nat→Nat→Nat→α)→α:=
 Nat.rec (λ_ A B C D g=>g A B C D) (λ_ ih k A B C D g=>stepP u o0 o1 o2 o3 o4 (LC+k*256*u) A B C D λA B C D=>ih (k+1) A B C D g) n
theorem qQQ{α:Type}(u o0 o1 o2 o3 o4 LC n k A B C D:Nat)(g:Nat→Nat→Nat→Nat→α):runP u o0 o1 o2 o3 o4 LC (n+1) k A B C D g=stepP u o0 o1 o2 o3 o4 (LC+k*256*u) A B C D λA B C D=>runP u o0 o1 o2 o3 o4 LC n (k+1) A B C D g:=rfl
attribute [local irreducible] qBK Sha.word Sha.shr stepP runP outs
noncomputable def lcN(N:Nat):Nat:=qBK N λz=>z/35*16777216+z%35*65536
theorem qG1{leaf:Nat}(h:leaf<256)(chain k:Nat):Wo.place leaf chain k=plc leaf chain k:=by
 unfold Wo.place plc
 rw [show leaf/2^24=0 by omega,show leaf/2^16=0 by omega,show leaf/2^8=0 by omega];rfl
theorem lc_eq{N:Nat}(hN:N≤8960){k:Nat}(hk:k<256):lcN N+k*256*qBV N=pk N λz=>Sha.be32 (UInt8.ofNat (z/35)) (UInt8.ofNat (z%35)) (UInt8.ofNat k) 0:=by
 unfold lcN pk
 rw [qDT,qA8]
 refine qJD λz hz=>?_
 rw [R3.be32_nat,UInt8.toNat_ofNat',UInt8.toNat_ofNat',UInt8.toNat_ofNat']
 have h1:z/35<256:=by omega
 have h2:z%35<35:=Nat.mod_lt _ (by decide)
 show z/35*16777216+z%35*65536+k*256=256*(256*(256*(z/35%2^8)+z%35%2^8)+k%2^8)+0
 rw [Nat.mod_eq_of_lt (show z/35<2^8 by omega),Nat.mod_eq_of_lt (show z%35<2^8 by omega),Nat.mod_eq_of_lt (show k<2^8 by omega)]
 generalize z/35=p
 generalize z%35=q
 omega
theorem qWq{α:Type}{N:Nat}(hN:N≤8960)(o:List UInt8)(ho:o.length=16)(n:Nat): ∀(k:Nat) (a b c d:Nat→UInt32) (g:Nat→Nat→Nat→Nat→α),k+n≤256→
    ∃a' b' c' d':Nat→UInt32,runP (qBV N) (oW o 0).toNat (oW o 1).toNat (oW o 2).toNat (oW o 3).toNat (oW o 4).toNat (lcN N) n k (pk N a) (pk N b) (pk N c) (pk N d) g=g (pk N a') (pk N b') (pk N c') (pk N d')∧
      ∀z,z<N→x16 (a' z) (b' z) (c' z) (d' z)=Wo.walk o (z/35) (z%35) k (x16 (a z) (b z) (c z) (d z)) n:=by
  induction n with
  |zero=>intro k a b c d g _;exact⟨a,b,c,d,by unfold runP;rfl,λz _=>rfl⟩
  |succ n ih=>
    intro k a b c d g hk
    rw [qQQ]
    obtain ⟨a1,b1,c1,d1,h1,h2⟩:=qTW N o ho (λz=>z/35) (λz=>z%35) k a b c d _ (lc_eq hN (by omega)) (λA B C D=>runP (qBV N) (oW o 0).toNat (oW o 1).toNat (oW o 2).toNat (oW o 3).toNat (oW o 4).toNat (lcN N) n (k+1) A B C D g)
    obtain ⟨a2,b2,c2,d2,h3,h4⟩:=ih (k+1) a1 b1 c1 d1 g (by omega)
    refine⟨a2,b2,c2,d2,h1.trans h3,λz hz=>?_⟩
    rw [h4 z hz,h2 z hz,←qG1 (by omega)]
    have:=Wo.walk_add o (z/35) (z%35) k (x16 (a z) (b z) (c z) (d z)) 1 n
    rw [Nat.add_comm 1 n] at this
    exact this
noncomputable def manyW{α:Type}(n:Nat)(ms:List (List Nat))(g:Nat→Nat→Nat→Nat→Nat→α):α:=qAy (qBV n) λu=>cols (ms.map λm=>w4s 16 (SN.padN m)) λws=>oneP u ws (g u)
theorem qUY{α:Type}(L:List (List UInt8))(h: ∀l∈L,l.length≤55)(g:Nat→Nat→Nat→Nat→Nat→α): ∃a b c d:Nat→UInt32,manyW L.length (L.map (List.map UInt8.toNat)) g=g (qBV L.length) (pk L.length a) (pk L.length b) (pk L.length c) (pk L.length d)∧
    ∀z (hz:z<L.length),x16 (a z) (b z) (c z) (d z)=(Sha.sum L[z]).take 16:=by
  obtain ⟨M,hM⟩: ∃M,M=L.map Sha.pad:=⟨_,rfl⟩
  have hlen:M.length=L.length:=by rw [hM,List.length_map]
  have e1:(L.map (List.map UInt8.toNat)).map (λm=>w4s 16 (SN.padN m))=M.map λb=>(Sha.firsts b 16).map UInt32.toNat:=by
    rw [hM,List.map_map,List.map_map]
    refine List.map_congr_left λl hl=>?_
    have h5:=h l hl
    show w4s 16 (SN.padN (l.map UInt8.toNat))=(Sha.firsts (Sha.pad l) 16).map UInt32.toNat
    rw [SN.padN_eq l (by omega),qVg 16 _ (by rw [Sha.pad_length];omega)]
  refine⟨λz=>(Sha.mix Sha.init (M.getD z [])).a,λz=>(Sha.mix Sha.init (M.getD z [])).b,λz=>(Sha.mix Sha.init (M.getD z [])).c,λz=>(Sha.mix Sha.init (M.getD z [])).d,?_,λz hz=>?_⟩
  · unfold manyW
    rw [qAq,e1,qSG,qU9,←hlen,qRA]
  · have e2:M.getD z []=Sha.pad L[z]:=by
      rw [hM,List.getD_eq_getElem?_getD,List.getElem?_map,List.getElem?_eq_getElem hz];rfl
    have h5:=h L[z] (List.getElem_mem hz)
    rw [←qZF,e2]
    unfold Sha.sum
    rw [show(Sha.pad L[z]).length/64=1 by rw [Sha.pad_length];omega,Sha.mixes,Sha.mixes,Nat.mul_zero,List.drop_zero]
theorem qYO(a b c d:UInt32):byt a b c d=(x16 a b c d).map UInt8.toNat:=by
 unfold byt x16
 rw [b4,b4,b4,b4]
 simp only [List.map_append]
attribute [local irreducible] manyW
noncomputable def topsN(L:Nat)(seed o:List Nat):List (List Nat):=
 manyW (35*L) ((List.range (35*L)).map λz=>tagL 1 [seed,[0,0,0,z/35,z%35,0]]) λu A B C D=>
  forceL [((16*256+o.getD 0 0)*256+o.getD 1 0)*256+o.getD 2 0,((o.getD 3 0*256+o.getD 4 0)*256+o.getD 5 0)*256+o.getD 6 0,((o.getD 7 0*256+o.getD 8 0)*256+o.getD 9 0)*256+o.getD 10 0,((o.getD 11 0*256+o.getD 12 0)*256+o.getD 13 0)*256+o.getD 14 0,((o.getD 15 0*256+0)*256+0)*256+0,lcN (35*L)] λq=>
  runP u (q.getD 0 0) (q.getD 1 0) (q.getD 2 0) (q.getD 3 0) (q.getD 4 0) (q.getD 5 0) 15 0 A B C D λA B C D=>outs (35*L) A B C D
theorem qTK{L:Nat}(hL:L≤255)(seed:List UInt8)(hs:seed.length≤40):topsN L (seed.map UInt8.toNat) ((Wo.opn seed).map UInt8.toNat)=(List.range (35*L)).map λz=>(Wo.walk (Wo.opn seed) (z/35) (z%35) 0 (Wo.secret seed (z/35) (z%35)) 15).map UInt8.toNat:=by
 obtain ⟨o,ho⟩: ∃o,o=Wo.opn seed:=⟨_,rfl⟩
 have h16:o.length=16:=by rw [ho];exact Wo.opn_length seed
 rw [←ho]
 obtain ⟨S,hS⟩: ∃S,S=(List.range (35*L)).map λz=>Sha.tagB 1 [seed,plc (z/35) (z%35) 0]:=⟨_,rfl⟩
 have hlen:S.length=35*L:=by rw [hS,List.length_map,List.length_range]
 have hb: ∀z,(Sha.tagB 1 [seed,plc (z/35) (z%35) 0]).length≤55:=λz=>by
  rw [Sha.tagB_length]
  simp only [List.flatten_cons,List.flatten_nil,List.length_append,List.length_cons,List.length_nil]
  unfold plc
  simp only [List.length_cons,List.length_nil]
  omega
 have e1:(List.range (35*L)).map (λz=>tagL 1 [seed.map UInt8.toNat,[0,0,0,z/35,z%35,0]])=S.map (List.map UInt8.toNat):=by
  rw [hS,List.map_map]
  refine List.map_congr_left λz hz=>?_
  have hz2:=List.mem_range.1 hz
  have:=qWU 1 [seed,plc (z/35) (z%35) 0] (hb z)
  rw [Function.comp_apply,←this]
  have e2:(plc (z/35) (z%35) 0).map UInt8.toNat= [0,0,0,z/35,z%35,0]:=by
   unfold plc
   simp only [List.map_cons,List.map_nil]
   rw [UInt8.toNat_ofNat',UInt8.toNat_ofNat',Nat.mod_eq_of_lt (show z/35<2^8 by omega),Nat.mod_eq_of_lt (show z%35<2^8 by omega)];rfl
  rw [List.map_cons,List.map_cons,List.map_nil,e2];rfl
 have hw: ∀(p q r s:UInt8),((p.toNat*256+q.toNat)*256+r.toNat)*256+s.toNat=(Sha.be32 p q r s).toNat:=λp q r s=>by rw [R3.be32_nat];omega
 have hg: ∀i,(o.map UInt8.toNat).getD i 0=(o.getD i 0).toNat:=λi=>SN.getD_map o i
 unfold topsN
 rw [e1,←hlen]
 obtain ⟨a,b,c,d,h1,h2⟩:=qUY S (λl hl=>by
  rw [hS] at hl
  obtain ⟨z,_,rfl⟩:=List.mem_map.1 hl
  exact hb z) (λu A B C D=>
  forceL [((16*256+(o.map UInt8.toNat).getD 0 0)*256+(o.map UInt8.toNat).getD 1 0)*256+(o.map UInt8.toNat).getD 2 0,(((o.map UInt8.toNat).getD 3 0*256+(o.map UInt8.toNat).getD 4 0)*256+(o.map UInt8.toNat).getD 5 0)*256+(o.map UInt8.toNat).getD 6 0,(((o.map UInt8.toNat).getD 7 0*256+(o.map UInt8.toNat).getD 8 0)*256+(o.map UInt8.toNat).getD 9 0)*256+(o.map UInt8.toNat).getD 10 0,(((o.map UInt8.toNat).getD 11 0*256+(o.map UInt8.toNat).getD 12 0)*256+(o.map UInt8.toNat).getD 13 0)*256+(o.map UInt8.toNat).getD 14 0,(((o.map UInt8.toNat).getD 15 0*256+0)*256+0)*256+0,lcN S.length] λq=>
  runP u (q.getD 0 0) (q.getD 1 0) (q.getD 2 0) (q.getD 3 0) (q.getD 4 0) (q.getD 5 0) 15 0 A B C D λA B C D=>outs S.length A B C D)
 refine h1.trans ?_
 obtain ⟨a2,b2,c2,d2,h3,h4⟩:=qWq (N:=S.length) (by omega) o h16 15 0 a b c d (λA B C D=>outs S.length A B C D) (by decide)
 rw [qBG]
 have q0:((16*256+(o.map UInt8.toNat).getD 0 0)*256+(o.map UInt8.toNat).getD 1 0)*256+(o.map UInt8.toNat).getD 2 0=(oW o 0).toNat:=by rw [hg,hg,hg];have h:=hw 16 (o.getD 0 0) (o.getD 1 0) (o.getD 2 0);rw [show(16:UInt8).toNat=16 from rfl] at h;exact h
 have q1:(((o.map UInt8.toNat).getD 3 0*256+(o.map UInt8.toNat).getD 4 0)*256+(o.map UInt8.toNat).getD 5 0)*256+(o.map UInt8.toNat).getD 6 0=(oW o 1).toNat:=by rw [hg,hg,hg,hg];exact hw _ _ _ _
 have q2:(((o.map UInt8.toNat).getD 7 0*256+(o.map UInt8.toNat).getD 8 0)*256+(o.map UInt8.toNat).getD 9 0)*256+(o.map UInt8.toNat).getD 10 0=(oW o 2).toNat:=by rw [hg,hg,hg,hg];exact hw _ _ _ _
 have q3:(((o.map UInt8.toNat).getD 11 0*256+(o.map UInt8.toNat).getD 12 0)*256+(o.map UInt8.toNat).getD 13 0)*256+(o.map UInt8.toNat).getD 14 0=(oW o 3).toNat:=by rw [hg,hg,hg,hg];exact hw _ _ _ _
 have q4:(((o.map UInt8.toNat).getD 15 0*256+0)*256+0)*256+0=(oW o 4).toNat:=by rw [hg];have h:=hw (o.getD 15 0) 0 0 0;rw [show(0:UInt8).toNat=0 from rfl] at h;exact h
 rw [q0,q1,q2,q3,q4]
 simp only [List.getD_cons_zero,List.getD_cons_succ]
 rw [h3]
 rw [qXL]
 refine List.map_congr_left λz hz=>?_
 have hz2:=List.mem_range.1 hz
 rw [qYO,h4 z hz2,h2 z hz2]
 have e3:(Sha.sum S[z]).take 16=Wo.secret seed (z/35) (z%35):=by
  unfold Wo.secret Sha.tagged
  rw [qG1 (by omega)]
  congr 2
  simp only [hS,List.getElem_map,List.getElem_range]
 rw [e3]
end SM
end Go.Proofs.YtmemgokiolfdoaaGreatDoor
namespace Go.Proofs.YtmemgokiolfdoaaGreatDoor
attribute [local irreducible] SN.tagN Sha.tagged SM.topsN
namespace SM
open SN (qAy qAq forceL qBG)
noncomputable def forceLL{α:Type}(l:List (List Nat)):(List (List Nat)→α)→α:=List.rec (λg=>g []) (λa _ ih g=>forceL a λx=>ih λr=>g (x::r)) l
theorem qIe{α:Type}: ∀(l:List (List Nat)) (g:List (List Nat)→α),forceLL l g=g l
 | [],_=>rfl
 |a::l,g=>by
  show forceL a (λx=>forceLL l λr=>g (x::r))=g (a::l)
  rw [qBG,qIe l]
noncomputable def aboveN(l:List (List Nat)):List (List Nat):=(List.range (l.length/2)).map λk=>SN.tagN 5 [l.getD (2*k) [],l.getD (2*k+1) []]
noncomputable def lvlN(l:List (List Nat)):Nat→List (List Nat)
 |0=>l
 |j+1=>aboveN (lvlN l j)
def natL(l:List (List UInt8)):List (List Nat):=l.map (List.map UInt8.toNat)
theorem qJS(l:List (List UInt8))(i:Nat):(natL l).getD i []=(l.getD i []).map UInt8.toNat:=by
 unfold natL
 rw [List.getD_eq_getElem?_getD,List.getD_eq_getElem?_getD,List.getElem?_map]
 cases l[i]?<;>rfl
theorem qK7{l:List (List UInt8)}(h: ∀x∈l,x.length=16)(i:Nat):(l.getD i []).length≤16:=by
 rw [List.getD_eq_getElem?_getD]
 by_cases hi:i<l.length
 · rw [List.getElem?_eq_getElem hi];exact Nat.le_of_eq (h _ (List.getElem_mem hi))
 · rw [List.getElem?_eq_none (by omega)];exact Nat.zero_le _
theorem qSr(l:List (List UInt8))(h: ∀x∈l,x.length=16):aboveN (natL l)=natL (Mk.above l):=by
 unfold aboveN Mk.above
 rw [show(natL l).length=l.length from List.length_map _]
 show _=List.map _ (List.map _ _)
 rw [List.map_map]
 refine List.map_congr_left λk _=>?_
 rw [qJS,qJS]
 have h1:=qK7 h (2*k)
 have h2:=qK7 h (2*k+1)
 exact SN.tagN_eq 5 [l.getD (2*k) [],l.getD (2*k+1) []] (by simp only [List.flatten_cons,List.flatten_nil,List.append_nil,List.length_append,List.length_cons,List.length_nil];omega)
theorem qVZ(l:List (List UInt8)): ∀x∈Mk.above l,x.length=16:=λx hx=>by
 obtain ⟨k,_,rfl⟩:=List.mem_map.1 hx
 exact Sha.tagged_length _ _
theorem qRV(l:List (List UInt8))(h: ∀x∈l,x.length=16): ∀j,lvlN (natL l) j=natL (Mk.lvl l j)∧ ∀x∈Mk.lvl l j,x.length=16
 |0=>⟨rfl,h⟩
 |j+1=>by
  obtain ⟨h1,h2⟩:=qRV l h j
  exact⟨by rw [lvlN,h1,qSr _ h2,Mk.lvl],qVZ _⟩
noncomputable def leavesN(L:Nat)(seed:List Nat):List (List Nat):=forceL (SN.tagN 3 [seed]) λo=>forceLL (topsN L seed o) λtops=>
 (List.range L).map λleaf=>SN.tagN 4 (o:: [0,0,0,leaf,0,0]::(tops.drop (35*leaf)).take 35)
noncomputable def rootN(h:Nat)(seed:List Nat):List Nat:=(lvlN (leavesN (2^h) seed) h).getD 0 []
theorem qQb{β:Type}(f:Nat→β)(L leaf:Nat)(h:leaf<L):(((List.range (35*L)).map f).drop (35*leaf)).take 35=(List.range 35).map λi=>f (35*leaf+i):=by
 apply List.ext_getElem?
 intro i
 rw [List.getElem?_take,List.getElem?_map]
 by_cases hi:i<35
 · rw [if_pos hi,List.getElem?_drop,List.getElem?_map,List.getElem?_range (by omega),List.getElem?_range hi];rfl
 · rw [if_neg hi,List.getElem?_eq_none (by rw [List.length_range];omega)];rfl
theorem leavesN_eq(L:Nat)(hp:L≤64)(seed:List UInt8)(hs:seed.length≤40):leavesN L (seed.map UInt8.toNat)=natL (Xm.leaves seed L):=by
 have ho:SN.tagN 3 [seed.map UInt8.toNat]=(Wo.opn seed).map UInt8.toNat:=SN.tagN_eq 3 [seed] (by simp only [List.flatten_cons,List.flatten_nil,List.append_nil,List.length_cons,List.length_nil];omega)
 unfold leavesN
 rw [qBG,qIe,ho,qTK (by omega) seed hs]
 have e:((List.range (L)).map λleaf=>SN.tagN 4 ((Wo.opn seed).map UInt8.toNat:: [0,0,0,leaf,0,0]::(((List.range (35*L)).map λz=>(Wo.walk (Wo.opn seed) (z/35) (z%35) 0 (Wo.secret seed (z/35) (z%35)) 15).map UInt8.toNat).drop (35*leaf)).take 35))=natL (Xm.leaves seed (L)):=by
  unfold natL Xm.leaves
  rw [List.map_map]
  refine List.map_congr_left λleaf hl=>?_
  have hl2:=List.mem_range.1 hl
  rw [qQb _ _ _ hl2]
  have e1:((List.range 35).map λi=>(Wo.walk (Wo.opn seed) ((35*leaf+i)/35) ((35*leaf+i)%35) 0 (Wo.secret seed ((35*leaf+i)/35) ((35*leaf+i)%35)) 15).map UInt8.toNat)=natL (Wo.tops seed leaf 35):=by
   unfold natL Wo.tops
   rw [List.map_map]
   refine List.map_congr_left λi hi=>?_
   have hi2:=List.mem_range.1 hi
   rw [show(35*leaf+i)/35=leaf by omega,show(35*leaf+i)%35=i by omega];rfl
  rw [e1]
  have e2:(Wo.place leaf 0 0).map UInt8.toNat= [0,0,0,leaf,0,0]:=by
   rw [qG1 (by omega)]
   unfold plc
   simp only [List.map_cons,List.map_nil]
   rw [UInt8.toNat_ofNat',Nat.mod_eq_of_lt (show leaf<2^8 by omega)];rfl
  have h16: ∀x∈Wo.tops seed leaf 35,x.length=16:=λx hx=>by
   obtain ⟨i,_,rfl⟩:=List.mem_map.1 hx
   exact Wo.walk_16 _ _ _ _ _ (Wo.secret_length _ _ _) 15
  have hfl:(Wo.tops seed leaf 35).flatten.length≤100000:=by
   have: ∀l:List (List UInt8),(∀x∈l,x.length=16)→l.flatten.length=16*l.length:=λl hl=>by
    induction l with
    |nil=>rfl
    |cons a l ih=>rw [List.flatten_cons,List.length_append,ih (λx hx=>hl x (.tail _ hx)),hl a (.head _),List.length_cons];omega
   rw [this _ h16]
   unfold Wo.tops
   rw [List.length_map,List.length_range];decide
  have ht:=SN.tagN_eq 4 ([Wo.opn seed,Wo.place leaf 0 0]++Wo.tops seed leaf 35) (by
   have h35:(Wo.tops seed leaf 35).length=35:=by unfold Wo.tops;rw [List.length_map,List.length_range]
   rw [List.flatten_append,List.length_append,List.length_append,h35]
   simp only [List.flatten_cons,List.flatten_nil,List.append_nil,List.length_append,List.length_cons,List.length_nil,Wo.opn_length]
   unfold Wo.place
   simp only [List.length_cons,List.length_nil]
   omega)
  rw [Function.comp_apply]
  show _=(Wo.pub seed leaf).map UInt8.toNat
  unfold Wo.pub Wo.publicOf
  rw [←ht,List.map_append,List.map_cons,List.map_cons,List.map_nil,e2]
  rfl
 exact e
theorem rootN_eq(h:Nat)(h6:h≤6)(seed:List UInt8)(hs:seed.length≤40):rootN h (seed.map UInt8.toNat)=(Xm.root seed h).map UInt8.toNat:=by
 unfold rootN
 rw [leavesN_eq (2^h) (Xm.pow_le h h6) seed hs,(qRV _ (λx hx=>by
  obtain ⟨k,_,rfl⟩:=List.mem_map.1 hx
  exact Sha.tagged_length _ _) h).1,qJS]
 rfl
end SM
end Go.Proofs.YtmemgokiolfdoaaGreatDoor