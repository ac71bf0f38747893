/- A part of the proof. -/
import Derived.Test.YtmemgokiolfdoaaGreatDoorTopMrG42
import Derived.Test.YtmemgokiolfdoaaGreatDoorTopMrG45
set_option maxRecDepth 100000
set_option maxHeartbeats 1000000
set_option linter.unusedSimpArgs false
set_option linter.unusedVariables false
namespace Go.Proofs.YtmemgokiolfdoaaGreatDoor
open Go Go.Fw Go.Proofs.Tryz
def nI(l:List Int):Nat→Int|0=>0|_+1=>l.getD 0 0
def itV(l:List Int)(i:Nat):List Value:=(l.take i).map λx=>iN x
theorem qS2{l:List Int}{i:Nat}(h:i<l.length):itV l i++ [iN (l.getD i 0)]=itV l (i+1):=by
 unfold itV
 rw [jI h,jO,jB,jC h];rfl
theorem qVy(l:List Int):itV l l.length=l.map λx=>iN x:=by unfold itV;rw [jn]
theorem qQM(l:List Int)(i:Nat): ∀v∈itV l i,isI v:=λv hv=>by
 unfold itV at hv
 obtain ⟨x,_,rfl⟩:=List.mem_map.1 hv
 trivial
structure RdX (m1 m2:Hp) (Q:UInt8) (s1:xA) (k1:Int) (l1:List Int) (vs:List Value) (q:Option (List Int)) (s:xA) (ta:Bool) (k:Int) (tb:Bool):Prop where
 ii: ∀v∈vs,isI v
 ln:vs.length≤10
 nv: ∀F:Hp,Le m1 F→Le m2 F→NV F (vs.getD 2 .nilIface) q
 sa:asV 9 (Str []) (vs.getD 0 .nilIface)=(Str s,ta)
 na:asV 2 (I 0) (vs.getD 1 .nilIface)=(I k,tb)
 ok:Q=0→vs.length=3∧ta=true∧tb=true∧q=some l1∧s=s1∧k=k1
 no:Q≠0→rdB vs.length ta tb q=false
theorem NV.ofInts{F:Hp}{A:Option Addr}{n c:Nat}{l:List Int}(hs:Sl F 1 A n c (qBT (itV l n)))(hl:l.length=n)(hn:n≤1000000):NV F (.iface 177 (.slice A n c)) (some l):=by
 subst hl
 have h:=NV.yes A l.length c (itV l l.length) hs (qQM _ _) hn l (jK _) (λi hi=>by
  rw [qVy,jB,jN,jC hi,jB,jC hi];rfl) (λh=>absurd h (Nat.lt_irrefl _))
 rw [if_pos rfl] at h
 exact h
theorem qW1{x:UInt8}(h1: ¬((x%6).toNat:Int)=1)(h2: ¬((x%6).toNat:Int)=2)(h3: ¬((x%6).toNat:Int)=3)(h4: ¬((x%6).toNat:Int)=4)(h5: ¬((x%6).toNat:Int)=5):x%6=0:=by
 have e:(x%6).toNat<6:=by rw [UInt8.toNat_mod];exact Nat.mod_lt _ xC
 refine UInt8.toNat_inj.1 (?_:(x%6).toNat=0)
 omega
theorem q_not{x:UInt8}(h:((x%6).toNat:Int)≠0):x%6≠0:=λe=>h (by rw [e];rfl)
theorem q_is{x:UInt8}(h: ¬((x%6).toNat:Int)≠0):x%6=0:=UInt8.toNat_inj.1 (show(x%6).toNat=0 by omega)
theorem rd_no{n:Nat}{ta tb:Bool}{q:Option (List Int)}{k:Int}(h:rdB n ta tb q=false):rdE n ta tb q k=6:=by unfold rdE;rw [h];rfl
theorem qW0{n:Nat}{ta tb:Bool}{q:Option (List Int)}{k:Int}{l:List Int}(h:n=3∧ta=true∧tb=true∧q=some l):rdE n ta tb q k=if k<0 then 10 else 0:=by
 obtain ⟨rfl,rfl,rfl,rfl⟩:=h
 rfl
theorem qNj(F:Hp)(hK:qAG F ⟨3,0,none⟩ (Sha.K.map W32))(hA:qAG F ⟨0,0,none⟩ qBW)(hT:qB0 F)(s:xA)(A0:Option Addr)(n0 c0:Nat)(l0:List Int)(sl0:Sl F 1 A0 n0 c0 (qBs l0))(hw:UInt8):Cz prog 4 [Str (s),.slice A0 n0 c0,B8 (hw)] F (.bool true):=by
 have hnc0:=sl0.2.1
 have hslt:Sl F 1 A0 (min n0 20) c0 (qBs (l0.take (min n0 20))):=by unfold qBs;rw [List.map_take];exact sl0.to (Nat.min_le_left _ _)
 refine Ct.walk func4 O ntmps4 O (λw0 hw0=>?_)
 refine J.f λ_ j1=>J.b O<|J.c j1<|J.p λ_ j2=>J.f λ_ j3=>J.q (qAa O O (λF' hF=>qK9 F' (hK.mo hF) (hA.mono (Fa hF)) (hT.mono (Fa hF)))) O λg19 _=>J.g ((qAu O O).as (v':= .bool false) O) O<|J.c j3<|J.a3 ?_
 refine J.M j2<|J.d6 (X:=xA×Nat×List Int) (λζ=> [(0,Str (ζ.1)),(1,.slice A0 ζ.2.1 c0),(2,B8 (hw))]) (λζ=> [F]) (λζ=>ζ.2.1≤20∧Sl F 1 A0 ζ.2.1 c0 (qBs ζ.2.2)) (λ_ j4=>?_) ?_
 ·
  refine J.b1 [F] [] (.y 0 (.y 1 (.y 2 (.y 3 (.y 4 (.y 5 (.y 6 (.y 7 (.y 8 (.y 9 (.y 10 (.y 11 .nil)))))))))))) Tryz.wide xF xD ?_
  refine J.L ?_
  refine J.L ?_
  refine J.k O (qAp u9_ O O) O O<|J.k O ((qEB O O O).nat (min s.length 50) xB) O O<|J.k O ((qA3 u9_ O O O O ⟨xB,xB⟩).as (congrArg Str (by rfl:_=(s.take (min s.length 50)).drop 0))) O O<|J.L ?_
  refine J.L ?_
  refine J.k O (qAP qK2 O O) O O<|J.k O ((qEB O O O).nat (min n0 20) xB) O O<|J.k O (qBy O O qK2 sizeOf2 O xB) O O<|J.b7 ?_
  refine J.b7 ?_
  exact J.b0<|J.u<|J.a7 ((s.take (min s.length 50)).drop 0,min n0 20,l0.take (min n0 20)) j4 (⟨by dsimp only;omega,hslt⟩) ⟨O,O,O,trivial⟩ (λ_ h=>h)
 rintro⟨s1,n1,l1⟩ ⟨hn1,hs1⟩
 dsimp only at hn1 hs1⊢
 have hln:l1.length=n1:=by have:=hs1.1;simpa [qBs] using this
 refine J.f λ_ j5=>J.b O<|J.c j5<|J.f λ_ j6=>J.b O<|J.c j6<|J.p λ_ j7=>J.f λ_ j8=>J.b O<|J.c j8<|J.T<|J.b6 (X:=Nat×Option Addr×Nat×Hp) (λζ=> [(0,Str (s1)),(1,.slice A0 n1 c0),(2,B8 (hw)),(7,I (nI l1 ζ.1)),(8,.slice ζ.2.1 ζ.1 ζ.2.2.1),(9,I (ζ.1:Nat))]) (λζ=> [F,ζ.2.2.2]) (λζ=>ζ.1≤n1∧Row ζ.2.2.2 66 1 ζ.2.1 ζ.1 ζ.2.2.1 (qBT (itV l1 ζ.1))) (λζ=>n1-ζ.1) (0,none,0,(λ_=>none)) (⟨jF _,qBS.nil⟩) ⟨O,O,O,O,O,O,trivial⟩ (λ_ h=>h.empty.pick [0,1] xC) ?_
 rintro⟨i,A8,c8,m8⟩ ⟨hi,h8⟩ I0 hI0
 dsimp only at hi h8⊢
 refine J.p λ_ j9=>J.f λ_ j10=>J.j 2 O<|J.g (qAP qK2 O O) O<|J.g (qAQ O O O) O<|J.c j10<|J.Z O (λh34=>?_) (λh34=>?_)
 ·
  refine J.M j9<|J.p λ_ j11=>J.T<|J.f λ_ j12=>J.j 3 O<|J.g (qAF (i:=i) O O O qK2 sizeOf2 hs1 xB) O<|J.g (qAI O O isAgg2 (m:=F) xD (hs1.elem (qD1 xB))) O<|J.q (qAa O O (λF' hF=>qQP F' (l1.getD i 0))) O λg42 _=>J.q (qAE (l:= [.tmp 42]) (xs:= [[iN (l1.getD i 0)]]) O O O O qOp el66 O xC xC xD) O λg43 _=>?_
  change J _ _ _ [F,m8,blk g43 [iN (l1.getD i 0)] 66] _
  refine J.q (qAW (i:=1) (xs:=qBT (itV l1 i)) (m2:=blk g43 [iN (l1.getD i 0)] 66) (ys:= [[iN (l1.getD i 0)]]) O O O qOp qOp el66 O h8 xD ((qA5 (q:=True) (qBT [iN (l1.getD i 0)]) O (by simp [qBT]) O).sl) O xB xB) O ?_
  rintro⟨A44,c44,m44⟩ h44
  try dsimp only at h44
  change J _ ((44,.slice A44 (i+1) c44)::_) _ [_,m44,_] _
  rw [←qNP] at h44
  refine J.b O<|J.c j12<|J.H<|J.b O<|J.g (qAF (i:=0) O O O qK2 sizeOf2 hs1 xB) O<|J.g (qAI O O isAgg2 (m:=F) xD (hs1.elem (qD1 xB))) O<|J.b O<|J.a4<|J.a1<|J.u (J.D j11 ?_)
  exact J.H<|J.b O<|J.g ((qAR O O O xB).nat (i+1) xB) O<|J.b O<|J.a4<|J.u<|J.a7 (i+1,A44,c44,m44) (λη (hη:_∧n1-η.1<n1-i)=>hI0 η hη.1 hη.2) ⟨⟨by dsimp only;omega,by dsimp only;rw [←qS2 xB];exact h44⟩,by first|omega|(dsimp only;omega)⟩ ⟨O,O,O,O,O,O,trivial⟩ (λ_ h=>h.pick [0,1] xC)
 refine J.b4<|J.a0<|J.a0<|J.b5 ?_
 refine J.u (J.D j7 ?_)
 refine J.p λ_ j13=>?_
 obtain rfl:n1=i:=by omega
 refine J.H<|J.b O<|J.q (qAa O O (λF' hF=>qS1 F' s1)) O λg49 _=>J.b O<|J.q (qAa O O (λF' hF=>qQP F' (nI l1 n1))) O λg51 _=>J.b O<|J.q (qBV O O (λF' hF=>qCj F' A8 n1 c8 (itV l1 n1) (h8.sl.mono (Fa hF)) (qQM _ _) xB)) O ?_
 rintro⟨A53,c53,m53⟩ h53
 try dsimp only at h53
 refine J.j 3 O<|J.c j13<|J.f λ_ j14=>J.j 3 O<|J.q (qAE (l:= [.tmp 54,.tmp 55,.tmp 56]) (xs:= [[iS (s1)],[iN (nI l1 n1)],[.iface 177 (.slice A53 n1 c53)]]) O O O O qOp el66 O xC xC xD) O λg57 _=>J.q (qBV O O (λF' hF=>qCj F' (some ⟨g57,0,none⟩) 3 3 [iS (s1),iN (nI l1 n1),.iface 177 (.slice A53 n1 c53)] ((qA5 (q:=True) (qBT [iS (s1),iN (nI l1 n1),.iface 177 (.slice A53 n1 c53)]) O (by simp [qBT]) O).sl.mono (hF (blk g57 [iS (s1),iN (nI l1 n1),.iface 177 (.slice A53 n1 c53)] 66) xD)) (by simp [isI]) xB)) O ?_
 rintro⟨A58,c58,m58⟩ h58
 try dsimp only at h58
 refine J.b O<|J.c j14<|J.d6 (X:=List Value×Option Addr×Nat×Hp×Hp×Option (List Int)×xA×Bool×Int×Bool) (λζ=> [(0,Str (s1)),(1,.slice A0 n1 c0),(2,B8 (hw)),(7,I (nI l1 n1)),(13,.iface 177 (.slice ζ.2.1 ζ.1.length ζ.2.2.1))]) (λζ=> [F,m53,ζ.2.2.2.1,ζ.2.2.2.2.1]) (λζ=>Row ζ.2.2.2.1 66 1 ζ.2.1 ζ.1.length ζ.2.2.1 (qBT ζ.1)∧RdX m53 ζ.2.2.2.2.1 (hw%6) s1 (nI l1 n1) l1 ζ.1 ζ.2.2.2.2.2.1 ζ.2.2.2.2.2.2.1 ζ.2.2.2.2.2.2.2.1 ζ.2.2.2.2.2.2.2.2.1 ζ.2.2.2.2.2.2.2.2.2) (λ_ j15=>?_) ?_
 ·
  refine J.f λ_ j16=>J.b O<|J.g (qPk (b:=6) O O O xC) O<|J.c j16<|J.T<|J.f λ_ j17=>J.g (qAZ O O O) O<|J.b O<|J.c j17<|J.Z O (λh61=>?_) (λh61=>?_)
  ·
   refine J.H<|J.j 2 O<|J.q (qAE (l:= [.tmp 63,.tmp 64]) (xs:= [[iS (s1)],[iN (nI l1 n1)]]) O O O O qOp el66 O xC xC xD) O λg65 _=>J.q (qBV O O (λF' hF=>qCj F' (some ⟨g65,0,none⟩) 2 2 [iS (s1),iN (nI l1 n1)] ((qA5 (q:=True) (qBT [iS (s1),iN (nI l1 n1)]) O (by simp [qBT]) O).sl.mono (hF (blk g65 [iS (s1),iN (nI l1 n1)] 66) xD)) (by simp [isI]) xB)) O ?_
   rintro⟨A66,c66,m66⟩ h66
   try dsimp only at h66
   exact J.b O<|J.a4<|J.a1<|J.u<|J.a7 ([iS (s1),iN (nI l1 n1)],A66,c66,m66,(blk g57 [iS (s1),iN (nI l1 n1),.iface 177 (.slice A53 n1 c53)] 66),none,s1,true,(nI l1 n1),true) j15 (⟨h66,⟨by simp [isI],jT O,(λ_ _ _=> .no _ trivial (λu e=>by cases e)),O,O,(λq=>by rw [q] at h61;exact absurd h61 xC),(λ_=>rfl)⟩⟩) ⟨O,O,O,O,O,trivial⟩ (λ_ h=>h.pick [0,2,6,3] xC)
  refine J.f λ_ j18=>J.g (qAZ O O O) O<|J.b O<|J.c j18<|J.Z O (λh67=>?_) (λh67=>?_)
  ·
   refine J.H<|J.j 3 O<|J.q (qAE (l:= [.tmp 69,.tmp 70,.tmp 71]) (xs:= [[iN (nI l1 n1)],[iN (nI l1 n1)],[.iface 177 (.slice A53 n1 c53)]]) O O O O qOp el66 O xC xC xD) O λg72 _=>J.q (qBV O O (λF' hF=>qCj F' (some ⟨g72,0,none⟩) 3 3 [iN (nI l1 n1),iN (nI l1 n1),.iface 177 (.slice A53 n1 c53)] ((qA5 (q:=True) (qBT [iN (nI l1 n1),iN (nI l1 n1),.iface 177 (.slice A53 n1 c53)]) O (by simp [qBT]) O).sl.mono (hF (blk g72 [iN (nI l1 n1),iN (nI l1 n1),.iface 177 (.slice A53 n1 c53)] 66) xD)) (by simp [isI]) xB)) O ?_
   rintro⟨A73,c73,m73⟩ h73
   try dsimp only at h73
   exact J.b O<|J.a4<|J.a1<|J.u<|J.a7 ([iN (nI l1 n1),iN (nI l1 n1),.iface 177 (.slice A53 n1 c53)],A73,c73,m73,(blk g57 [iS (s1),iN (nI l1 n1),.iface 177 (.slice A53 n1 c53)] 66),(some l1),[],false,(nI l1 n1),true) j15 (⟨h73,⟨by simp [isI],jT O,(λF1 h1 _=>NV.ofInts (h53.sl.mono h1) hln xB),O,O,(λq=>by rw [q] at h67;exact absurd h67 xC),(λ_=>rfl)⟩⟩) ⟨O,O,O,O,O,trivial⟩ (λ_ h=>h.pick [0,2,6,3] xC)
  refine J.f λ_ j19=>J.g (qAZ O O O) O<|J.b O<|J.c j19<|J.Z O (λh74=>?_) (λh74=>?_)
  ·
   refine J.H<|J.j 3 O<|J.q (qAE (l:= [.tmp 76,.tmp 77,.tmp 78]) (xs:= [[iS (s1)],[iS (s1)],[.iface 177 (.slice A53 n1 c53)]]) O O O O qOp el66 O xC xC xD) O λg79 _=>J.q (qBV O O (λF' hF=>qCj F' (some ⟨g79,0,none⟩) 3 3 [iS (s1),iS (s1),.iface 177 (.slice A53 n1 c53)] ((qA5 (q:=True) (qBT [iS (s1),iS (s1),.iface 177 (.slice A53 n1 c53)]) O (by simp [qBT]) O).sl.mono (hF (blk g79 [iS (s1),iS (s1),.iface 177 (.slice A53 n1 c53)] 66) xD)) (by simp [isI]) xB)) O ?_
   rintro⟨A80,c80,m80⟩ h80
   try dsimp only at h80
   exact J.b O<|J.a4<|J.a1<|J.u<|J.a7 ([iS (s1),iS (s1),.iface 177 (.slice A53 n1 c53)],A80,c80,m80,(blk g57 [iS (s1),iN (nI l1 n1),.iface 177 (.slice A53 n1 c53)] 66),(some l1),s1,true,0,false) j15 (⟨h80,⟨by simp [isI],jT O,(λF1 h1 _=>NV.ofInts (h53.sl.mono h1) hln xB),O,O,(λq=>by rw [q] at h74;exact absurd h74 xC),(λ_=>rfl)⟩⟩) ⟨O,O,O,O,O,trivial⟩ (λ_ h=>h.pick [0,2,6,3] xC)
  refine J.f λ_ j20=>J.g (qAZ O O O) O<|J.b O<|J.c j20<|J.Z O (λh81=>?_) (λh81=>?_)
  ·
   refine J.H<|J.j 3 O<|J.q (qAE (l:= [.tmp 85]) (xs:= [[iS (s1)]]) O O O O qOp el66 O xC xC xD) O λg86 _=>J.q (qBV O O (λF' hF=>qCj F' (some ⟨g86,0,none⟩) 1 1 [iS (s1)] ((qA5 (q:=True) (qBT [iS (s1)]) O (by simp [qBT]) O).sl.mono (hF (blk g86 [iS (s1)] 66) xD)) (by simp [isI]) xB)) O ?_
   rintro⟨A87,c87,m87⟩ h87
   try dsimp only at h87
   refine J.q (qAE (l:= [.tmp 83,.tmp 84,.tmp 87]) (xs:= [[iS (s1)],[iN (nI l1 n1)],[.iface 177 (.slice A87 1 c87)]]) O O O O qOp el66 O xC xC xD) O λg88 _=>J.q (qBV O O (λF' hF=>qCj F' (some ⟨g88,0,none⟩) 3 3 [iS (s1),iN (nI l1 n1),.iface 177 (.slice A87 1 c87)] ((qA5 (q:=True) (qBT [iS (s1),iN (nI l1 n1),.iface 177 (.slice A87 1 c87)]) O (by simp [qBT]) O).sl.mono (hF (blk g88 [iS (s1),iN (nI l1 n1),.iface 177 (.slice A87 1 c87)] 66) xD)) (by simp [isI]) xB)) O ?_
   rintro⟨A89,c89,m89⟩ h89
   try dsimp only at h89
   exact J.b O<|J.a4<|J.a1<|J.u<|J.a7 ([iS (s1),iN (nI l1 n1),.iface 177 (.slice A87 1 c87)],A89,c89,m89,m87,none,s1,true,(nI l1 n1),true) j15 (⟨h89,⟨by simp [isI],jT O,(λF1 _ h2=>NV.yes A87 1 c87 [iS (s1)] (h87.sl.mono h2) (by simp [isI]) xC [] xC (λi hi=>absurd hi (jw _)) (λ_ u e=>by cases e)),O,O,(λq=>by rw [q] at h81;exact absurd h81 xC),(λ_=>rfl)⟩⟩) ⟨O,O,O,O,O,trivial⟩ (λ_ h=>h.pick [0,2,8,6] xC)
  refine J.f λ_ j21=>J.g (qAZ O O O) O<|J.b O<|J.c j21<|J.Z O (λh90=>?_) (λh90=>?_)
  ·
   refine J.H<|J.j 4 O<|J.q (qAE (l:= [.tmp 92,.tmp 93,.tmp 94,.tmp 95]) (xs:= [[iS (s1)],[iN (nI l1 n1)],[.iface 177 (.slice A53 n1 c53)],[.iface 177 (.slice A53 n1 c53)]]) O O O O qOp el66 O xC xC xD) O λg96 _=>J.q (qBV O O (λF' hF=>qCj F' (some ⟨g96,0,none⟩) 4 4 [iS (s1),iN (nI l1 n1),.iface 177 (.slice A53 n1 c53),.iface 177 (.slice A53 n1 c53)] ((qA5 (q:=True) (qBT [iS (s1),iN (nI l1 n1),.iface 177 (.slice A53 n1 c53),.iface 177 (.slice A53 n1 c53)]) O (by simp [qBT]) O).sl.mono (hF (blk g96 [iS (s1),iN (nI l1 n1),.iface 177 (.slice A53 n1 c53),.iface 177 (.slice A53 n1 c53)] 66) xD)) (by simp [isI]) xB)) O ?_
   rintro⟨A97,c97,m97⟩ h97
   try dsimp only at h97
   exact J.b O<|J.a4<|J.a1<|J.u<|J.a7 ([iS (s1),iN (nI l1 n1),.iface 177 (.slice A53 n1 c53),.iface 177 (.slice A53 n1 c53)],A97,c97,m97,(blk g57 [iS (s1),iN (nI l1 n1),.iface 177 (.slice A53 n1 c53)] 66),(some l1),s1,true,(nI l1 n1),true) j15 (⟨h97,⟨by simp [isI],jT O,(λF1 h1 _=>NV.ofInts (h53.sl.mono h1) hln xB),O,O,(λq=>by rw [q] at h90;exact absurd h90 xC),(λ_=>rfl)⟩⟩) ⟨O,O,O,O,O,trivial⟩ (λ_ h=>h.pick [0,2,6,3] xC)
  exact J.b2<|J.a1<|J.u<|J.a7 ([iS (s1),iN (nI l1 n1),.iface 177 (.slice A53 n1 c53)],A58,c58,m58,(blk g57 [iS (s1),iN (nI l1 n1),.iface 177 (.slice A53 n1 c53)] 66),(some l1),s1,true,(nI l1 n1),true) j15 (⟨h58,⟨by simp [isI],jT O,(λF1 h1 _=>NV.ofInts (h53.sl.mono h1) hln xB),O,O,(λ_=>⟨O,O,O,O,O,O⟩),(λh=>absurd (qW1 h61 h67 h74 h81 h90) h)⟩⟩) ⟨O,O,O,O,O,trivial⟩ (λ_ h=>h.pick [0,2,4,3] xC)
 rintro⟨vs,Ax,cx,mx,mz,q,s2,ta,k2,tb⟩ ⟨hrx,hrd⟩
 dsimp only at hrx hrd⊢
 have hlx:=hrd.ln
 refine J.p λ_ j22=>?_
 obtain ⟨E,hE⟩: ∃z,z=rdE vs.length ta tb q k2:=⟨_,rfl⟩
 obtain ⟨NN,hNN⟩: ∃z,z=rdN vs.length ta tb q k2:=⟨_,rfl⟩
 have hNE:NN=if E=0 then q.getD [] else []:=by rw [hNN,hE];rfl
 obtain ⟨SS,hSS⟩: ∃z,z=if E=0 then s2 else []:=⟨_,rfl⟩
 obtain ⟨KK,hKK⟩: ∃z:Int,z=if E=0 then k2 else 0:=⟨_,rfl⟩
 refine J.H<|J.b O<|J.q (qBV O O (λF' hF=>by have:=qSh F' Ax vs.length cx vs (hrx.sl.mono (Fa hF)) hrd.ii xB q (hrd.nv F' (Fa hF) (Fa hF)) s2 ta hrd.sa k2 tb hrd.na;rw [←hNN,←hE,←hSS,←hKK] at this;exact this)) O ?_
 rintro⟨A100,c100,m100⟩ h100
 try dsimp only at h100
 refine J.j 9 O<|J.c j22<|J.p λ_ j23=>J.f λ_ j24=>J.b O<|J.g (qPk (b:=6) O O O xC) O<|J.g (qAY O O O) O<|J.c j24<|J.Z O (λh107=>?_) (λh107=>?_)
 ·
  have hE1:E=6:=hE.trans (rd_no (hrd.no (q_not h107)))
  have hS1:SS= []:=by rw [hSS,hE1];rfl
  have j1:KK=0:=by rw [hKK,hE1];rfl
  have hN1:NN= []:=by rw [hNE,hE1];rfl
  exact J.f λ_ j25=>J.b O<|J.g ((qAZ O O O).yes (hE1)) O<|J.j 2 O<|J.G ((qBF O O O).yes (hS1)) O<|J.j 3 O<|J.G ((qAZ O O O).yes (j1)) O<|J.j 3 O<|J.G (qAP qK2 O O) O<|J.G ((qAZ O O O).yes (by rw [hN1];rfl)) O<|J.j 2 O<|J.c j25<|J.A<|J.V<|J.E hw0 O () O trivial [0] O xC
 have hq0:hw%6=0:=q_is h107
 obtain ⟨y1,y2,y3,y4,y5,y6⟩:=hrd.ok hq0
 have hEy:=hE.trans (qW0 (k:=k2) ⟨y1,y2,y3,y4⟩)
 rw [y6] at hEy
 refine J.M j23<|J.p λ_ j26=>J.f λ_ j27=>J.b O<|J.g (qAQ O O O) O<|J.c j27<|J.Z O (λh124=>?_) (λh124=>?_)
 ·
  have hE1:E=10:=hEy.trans (if_pos h124)
  have hS1:SS= []:=by rw [hSS,hE1];rfl
  have j1:KK=0:=by rw [hKK,hE1];rfl
  have hN1:NN= []:=by rw [hNE,hE1];rfl
  exact J.f λ_ j28=>J.b O<|J.g ((qAZ O O O).yes (hE1)) O<|J.j 2 O<|J.G ((qBF O O O).yes (hS1)) O<|J.j 3 O<|J.G ((qAZ O O O).yes (j1)) O<|J.j 3 O<|J.G (qAP qK2 O O) O<|J.G ((qAZ O O O).yes (by rw [hN1];rfl)) O<|J.j 2 O<|J.c j28<|J.A<|J.V<|J.E hw0 O () O trivial [0] O xC
 have hE1:E=0:=hEy.trans (if_neg h124)
 have hS1:SS=s1:=by rw [hSS,if_pos hE1,y5]
 have j1:KK=(nI l1 n1):=by rw [hKK,if_pos hE1,y6]
 have hN1:NN=l1:=by rw [hNE,if_pos hE1,y4];rfl
 have hNl:NN.length=n1:=by rw [hN1,hln]
 refine J.M j26<|J.p λ_ j29=>J.f λ_ j30=>J.b O<|J.g ((qAY O O O).no (λh=>h hE1)) O<|J.j 3 O<|J.G ((qCy O O O).no (λh=>h hS1)) O<|J.j 4 O<|J.G ((qAY O O O).no (λh=>h j1)) O<|J.j 3 O<|J.G (qAP qK2 O O) O<|J.b O<|J.G (qAP qK2 O O) O<|J.G ((qAY O O O).no (by rw [hN1,hln];exact λh=>h O)) O<|J.b O<|J.c j30<|J.a3 ?_
 refine J.M j29<|J.p λ_ j31=>J.f λ_ j32=>J.b O<|J.c j32<|J.T<|J.b6 (X:=Nat) (λζ=> [(1,.slice A0 n1 c0),(16,.slice A100 NN.length c100),(18,I (ζ:Nat))]) (λζ=> [F,m53,mx,mz,m100]) (λζ=>ζ≤n1) (λζ=>n1-ζ) (0) (jF _) ⟨O,O,O,trivial⟩ (λ_ h=>h) ?_
 rintro j hj I3 hI3
 refine J.p λ_ j33=>J.f λ_ j34=>J.j 2 O<|J.g (qAP qK2 O O) O<|J.g (qAQ O O O) O<|J.c j34<|J.Z O (λh162=>?_) (λh162=>?_)
 ·
  refine J.M j33<|J.p λ_ j35=>J.T<|J.p λ_ j36=>J.b1 [F,m53,mx,mz,m100] [] (.y 0 (.y 1 (.y 2 (.y 3 (.y 4 (.y 5 (.y 6 (.y 7 (.y 8 .nil))))))))) Tryz.wide xF xD ?_
  refine J.L ?_
  refine J.L ?_
  refine J.k O (qAF O O O qK2 sizeOf2 h100.sl xB) O O<|J.k O (qAI O O isAgg2 (m:=m100) xD (h100.sl.elem (qD1 xB))) O O<|J.L ?_
  refine J.L ?_
  refine J.k O (qAF O O O qK2 sizeOf2 hs1 xB) O O<|J.k O (qAI O O isAgg2 (m:=F) xD (hs1.elem (qD1 xB))) O O<|J.k O ((qAY O O O).no (by rw [hN1];exact λh=>h O)) O O<|J.b0<|J.u (J.D j36 ?_)
  refine J.a3 ?_
  refine J.b2<|J.a1<|J.u (J.D j35 ?_)
  exact J.H<|J.b O<|J.g ((qAR O O O xB).nat (j+1) xB) O<|J.b O<|J.a4<|J.u<|J.a7 (j+1) (λη (hη:_∧n1-η<n1-j)=>hI3 η hη.1 hη.2) ⟨xB,by first|omega|(dsimp only;omega)⟩ ⟨O,O,O,trivial⟩ (λ_ h=>h)
 refine J.b4<|J.a0<|J.a0<|J.b5 ?_
 refine J.u (J.D j31 ?_)
 exact J.f λ_ j37=>J.b O<|J.c j37<|J.A<|J.E hw0 O () O trivial [0] O xC
theorem is_of{H:Type}{enc:TypeId×Value→H}{P:Program}{W:World}{e:TypeId}{xs:List (List Value)}(he:P.underlying e=some (.int .i64))(h: ∀x∈xs,x.length=1∧ ∃fuel y,DataW.trod enc P W 0 (λ_=>true) true fuel e x=some y): ∃l:List Int,xs=qBs l:=by
 obtain ⟨l,hl,_⟩:=qPE (f:=λb:Int=> [I b]) (Q:=λ_=>True) (xs:=xs) λx hx=>by
  obtain ⟨h1,fuel,y,hy⟩:=h x hx
  match x,h1,hy with
  | [v],_,hy=>
   obtain ⟨b,rfl,_⟩:=qXU he hy
   exact⟨b,O,trivial⟩
 exact⟨l,hl⟩
theorem qRz{m:Hp}{sz A n c xs}(h:Sl m sz A n c xs): ∀x∈xs,x.length=sz:=λx hx=>by
 obtain ⟨i,hi⟩:=List.mem_iff_getElem?.1 hx
 exact(h.2.2 i x hi).1
end Go.Proofs.YtmemgokiolfdoaaGreatDoor