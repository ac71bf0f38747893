/- A part of the proof. -/
import Derived.Test.YtcgcjaflllmlpaaGreatDoorTopCfG8
import Derived.Test.YtcgcjaflllmlpaaGreatDoorTopCfG23
import Derived.Test.YtcgcjaflllmlpaaGreatDoorTopCfG17
import Derived.Test.YtcgcjaflllmlpaaGreatDoorTopCfG24
import Derived.Test.YtcgcjaflllmlpaaGreatDoorTopCfG14
import Derived.Test.YtcgcjaflllmlpaaGreatDoorTopCfG18
set_option linter.unusedSimpArgs false
set_option linter.unusedVariables false
namespace Go.Proofs.YtcgcjaflllmlpaaGreatDoor
open Go Go.Fw Go.Proofs.Tryz
set_option maxRecDepth 100000
set_option maxHeartbeats 1000000
theorem ent86:qAD prog 86:=qAD.of func86 rfl (by kernel_rfl)
theorem ent119:qAD prog 119:=qAD.of func119 rfl (by kernel_rfl)
theorem ent171:qAD prog 171:=qAD.of func171 rfl (by kernel_rfl)
theorem qSP.see{m:Hp}{g:Nat}{l:List Aud}(h:qSP m g l): ∃A n c,qAR m ⟨g,0,none⟩ [.slice A n c]∧Sl m 4 A n c (qBX l)∧l.length=n:=by
 obtain ⟨A,n,c,mr,rfl,hd,hr⟩:=h
 have hdd:Djs [blk g [.slice A n c] 207,mr]:=qAZ.2 (by simpa using hd)
 refine⟨A,n,c,qAR.blk0.mono (qEy hdd (.head _)),hr.sl.mono (qEy hdd (.tail _ (.head _))),?_⟩
 have:=hr.len
 simpa [qBX] using this
theorem qDx(F:Hp)(hK:KF F)(n:Nat)(hn:n≤1000000):Cz prog 86 [I ((n:Nat):Int)] F (Str (qAM n)):=by
 refine Ct.walk func86 rfl ntmps86 rfl (λw0 hw0=>?_)
 refine J.f λ_ j1=>J.b O<|J.c j1 ?_
 refine J.f λ_ j2=>J.b O<|J.g (qQX (a:=n) (m:=8) O O O (by omega)) O<|J.g (qAv O O u3_ u5_) O<|J.b O<|J.g (qAv O O u3_ u5_) O<|J.p (qAG (l:= [.tmp 5,.tmp 7]) (xs:= [[B8 (UInt8.ofNat (n/2^8))],[B8 (UInt8.ofNat n)]]) O O O O qBl el5 O (by decide) (by decide) (by simp)) rfl λg8 _=>J.g (qBi rfl rfl qBl u5_ u9_ (m:=blk g8 [B8 (UInt8.ofNat (n/2^8)),B8 (UInt8.ofNat n)] 5) (by simp) ((qBD (q:=True) (qAf [UInt8.ofNat (n/2^8),UInt8.ofNat n]) rfl (by simp [qAf]) rfl).sl)) rfl<|J.p (qAG (l:= [.tmp 9]) (xs:= [[Str ([UInt8.ofNat (n/2^8),UInt8.ofNat n])]]) rfl rfl rfl rfl qAk el9 rfl (by decide) (by decide) (by simp)) rfl λg10 _=>J.p (qAB rfl rfl ent46 (Ct.use0 (λF' hF=>qA3 F' (hK.mo hF) 15 (some ⟨g10,0,none⟩) 1 1 ([[UInt8.ofNat (n/2^8),UInt8.ofNat n]]) (((qBD (q:=True) (qAI [[UInt8.ofNat (n/2^8),UInt8.ofNat n]]) rfl (by simp [qAI]) rfl).sl).mono (hF (blk g10 [Str ([UInt8.ofNat (n/2^8),UInt8.ofNat n])] 9) (by simp))) (by first|(simp;omega)|(simp;done)|decide) (by omega)))) rfl λg11 _=>J.b rfl<|J.c j2 ?_
 exact J.A<|J.E hw0 O () (O) trivial [0] O (by decide)
theorem qR1(F:Hp)(hK:KF F)(nm op rt:List UInt8)(ht:Int)(h1:nm.length≤1000000)(h2:op.length≤1048576)(h3:rt.length≤1048576)(hE:qBH op rt ht=0):Cz prog 119 [.agg #[Str (nm),Str (op),Str (rt),I (ht)]] F (Str (Sha.tagged 16 [nm,qBL op rt ht])):=by
 have hpl:=qE6 hE
 refine Ct.walk func119 rfl ntmps119 rfl (λw0 hw0=>?_)
 refine J.f λ_ j1=>J.p (qAd O O O) O λg1 _=>J.b O<|J.c j1 ?_
 refine J.f λ_ j2=>J.T 1 qNv qET O O O O O<|J.g (qAX O O qNh qET (m:=blk g1 [Str (nm),Str (op),Str (rt),I (ht)] 72) (by simp) (qAR.blk0.sub 1 3) rfl) rfl<|J.p (qAB rfl rfl ent100 (Ct.use0 (λF' hF=>qDy F' op rt ht (by omega) (by omega)))) rfl λg8 _=>J.q 5 rfl<|J.c j2 ?_
 refine J.k λ_ j3=>J.f λ_ j4=>J.b O<|J.g ((qAe O O O).no (by omega)) O<|J.c j4 ?_
 refine J.a1 ?_
 refine J.M j3 ?_
 refine J.f λ_ j5=>J.T 0 qNv z9_ O O O O O<|J.a5 1 b9_ O O O O O<|J.b O<|J.p (qAG (l:= [.tmp 14,.tmp 15]) (xs:= [[Str (nm)],[Str (qBL op rt ht)]]) O O O O qAk el9 O (by decide) (by decide) (by simp)) rfl λg16 _=>J.p (qAB rfl rfl ent46 (Ct.use0 (λF' hF=>qA3 F' (hK.mo hF) 16 (some ⟨g16,0,none⟩) 2 2 ([nm,qBL op rt ht]) (((qBD (q:=True) (qAI [nm,qBL op rt ht]) rfl (by simp [qAI]) rfl).sl).mono (hF (blk g16 [Str (nm),Str (qBL op rt ht)] 9) (by simp))) (by first|(simp;omega)|(simp;done)|decide) (by omega)))) rfl λg17 _=>J.b rfl<|J.c j5 ?_
 exact J.A<|J.E hw0 O () O trivial [0] O (by decide)
theorem qUb(F:Hp)(hK:KF F)(nm op rt:List UInt8)(ht:Int)(h2:op.length≤1048576)(h3:rt.length≤1048576)(hE:qBH op rt ht≠0):Cz prog 119 [.agg #[Str (nm),Str (op),Str (rt),I (ht)]] F (Str ([])):=by
 refine Ct.walk func119 rfl ntmps119 rfl (λw0 hw0=>?_)
 refine J.f λ_ j1=>J.p (qAd O O O) O λg1 _=>J.b O<|J.c j1 ?_
 refine J.f λ_ j2=>J.T 1 qNv qET O O O O O<|J.g (qAX O O qNh qET (m:=blk g1 [Str (nm),Str (op),Str (rt),I (ht)] 72) (by simp) (qAR.blk0.sub 1 3) rfl) rfl<|J.p (qAB rfl rfl ent100 (Ct.use0 (λF' hF=>qDy F' op rt ht (by omega) (by omega)))) rfl λg8 _=>J.q 5 rfl<|J.c j2 ?_
 refine J.k λ_ j3=>J.f λ_ j4=>J.b O<|J.g ((qAe O O O).yes (by omega)) O<|J.c j4 ?_
 refine J.c4 ?_
 refine J.f λ_ j5=>J.b O<|J.c j5 ?_
 exact J.A<|J.V<|J.E hw0 O () O trivial [0] O (by decide)
theorem qUc(F:Hp)(hK:KF F)(x:Aud)(h1:x.nm.length≤1000000)(h2:x.op.length≤1048576)(h3:x.rt.length≤1048576):Cz prog 119 [.agg #[Str x.nm,Str x.op,Str x.rt,I x.ht]] F (Str (qUd x)):=by
 unfold qUd
 by_cases hE:qBH x.op x.rt x.ht=0
 · rw [if_pos hE];exact qR1 F hK x.nm x.op x.rt x.ht h1 h2 h3 hE
 · rw [if_neg hE];exact qUb F hK x.nm x.op x.rt x.ht h2 h3 hE
theorem qRf(F:Hp)(A:Option Addr)(n c:Nat)(l:List Aud)(hs:Sl F 4 A n c (qBX l))(hnb:n≤1073741824):Ct prog 171 [.slice A n c] [F] (λx:Option Addr×Nat×Hp=> .slice x.1 (l).length x.2.1) (λx=>Row x.2.2 72 4 x.1 (l).length x.2.1 (qBX l)) (λx=> [F,x.2.2]):=by
 have hkn:l.length=n:=by have:=hs.1;simpa [qBX] using this
 refine Ct.walk func171 rfl ntmps171 rfl (λw0 hw0=>?_)
 refine J.f λ_ j1=>J.b O<|J.c j1 ?_
 refine J.k λ_ j2=>J.f λ_ j3=>J.b O<|J.g ((qEh qGF O O O).as (v':= .bool (decide (A.isNone=true))) (congrArg Value.bool (by cases A<;>rfl))) rfl<|J.c j3 ?_
 refine J.W O (λh4=>?_) (λh4=>?_)
 ·
  refine J.f λ_ j4=>J.b O<|J.c j4 ?_
  refine J.A<|J.V ?_
  have hk0:l= []:=by
   refine jU ?_
   rcases yO n with h|h
   · omega
   · obtain ⟨g,o,rfl⟩:=hs.at h;cases h4
  exact J.c7 [0,1] [F,(λ_=>none)] O (by decide)<|J.E hw0 O (none,0,(λ_=>none)) (by rw [hk0];rfl) (by rw [hk0];exact qBb.nil) [0,1] rfl (by decide)
 refine J.M j2 ?_
 refine J.f λ_ j5=>J.p (qBZ O qGF el72) O λg5 _=>J.b O<|J.p (qAV (i:=1) (m2:=F) O O O qGF qGF el72 O (qAl (q:=True) (xs:=qBX ([])) O (by intro x hx;first|exact absurd hx (zC)|(rw [List.mem_singleton.1 hx];rfl))) (by simp) (hs) (qTZ _) (by omega) (by omega)) rfl ?_
 rintro⟨A7,c7,m7⟩ h7
 try dsimp only at h7
 replace h7:Row m7 72 4 A7 (0+n) c7 (qBX (l)):=h7
 refine J.b O<|J.c j5 ?_
 refine J.A ?_
 rw [show 0+n=l.length by omega] at h7
 exact J.E hw0 O (A7,c7,m7) (by rw [←hkn,jj]) h7 [0,1] rfl (by decide)
theorem qTM(F:Hp)(g:Nat)(A:Option Addr)(n c:Nat)(l:List Aud)(hs:Sl F 4 A n c (qBX l))(hnb:n≤1073741824)(hp:qAR F ⟨g,0,none⟩ [.slice A n c]):Ct prog 120 [Ptr g] [F] (λx:Nat×Hp=>Ptr x.1) (λx=>qSP x.2 x.1 l) (λx=> [x.2,F]):=by
 refine Ct.walk func120 rfl ntmps120 rfl (λw0 hw0=>?_)
 refine J.f λ_ j1=>J.b O<|J.c j1 ?_
 refine J.k λ_ j2=>J.f λ_ j3=>J.b O<|J.g ((qA6 underlying93 O O O).as (v':= .bool false) O) O<|J.c j3 ?_
 refine J.a1 ?_
 refine J.M j2 ?_
 refine J.f λ_ j4=>J.b O<|J.g (qAC O O) O<|J.T 0 qGG qSH O O O O O<|J.g (qAJ O O isAgg76 (m:=F) (by simp) (hp)) rfl<|J.p (qAB rfl rfl ent171 (Ct.use (λF' hF=>qRf F' A n c l (hs.mono (Fa hF)) (by omega)))) rfl ?_
 rintro⟨A9,c9,m9⟩ h9
 try dsimp only at h9
 refine J.g (qAK (places:= [(0,1)]) (r:= [.slice A9 ((l).length) c9]) O O O qGG zeroValue207 (λ_=>by kernel_rfl) O) O<|J.p (qAd O O O) O λg11 _=>J.b O<|J.c j4 ?_
 exact J.A<|J.a9 hw0 (λ_ _ h=>h) (qJv O O) (qCL (g11,U [blk g11 [.slice A9 ((l).length) c9] 207,m9]) (O) (λhd=>⟨A9,(l).length,c9,m9,O,hd,h9⟩) [2,1,0] O O (by decide))
theorem qWE(F m:Hp)(hK:KF F)(g:Nat)(A:Option Addr)(n c:Nat)(l:List Aud)(hs:Sl F 4 A n c (qBX l))(hnb:n≤1073741824)(hp:qAR F ⟨g,0,none⟩ [.slice A n c])(gt:Nat)(kv:List Sm.PR)(ht:qFg m gt kv)(hsm: ∀x∈l,x.nm.length≤1000000∧x.op.length≤1048576∧x.rt.length≤1048576)(hn6:n≤1000000):Ct prog 55 [Ptr g,Ptr gt] [m,F] (λ_:Hp=>I ((0:Nat):Int)) (λm'=>qFg m' gt (qFp kv l n)) (λm'=> [m',F]):=by
 have hkn:l.length=n:=by have:=hs.1;simpa [qBX] using this
 refine Ct.walk func55 rfl ntmps55 rfl (λw0 hw0=>?_)
 refine J.f λ_ j1=>J.b O<|J.c j1 ?_
 refine J.k λ_ j2=>J.f λ_ j3=>J.b O<|J.g ((qA6 underlying93 O O O).as (v':= .bool false) O) O<|J.q 2 O<|J.G ((qA6 qLK O O O).as (v':= .bool false) O) O<|J.b O<|J.c j3 ?_
 refine J.a1 ?_
 refine J.M j2 ?_
 refine J.k λ_ j4=>J.f λ_ j5=>J.b O<|J.g (qAC O O) O<|J.T 0 qGG qSH O O O O O<|J.g (qAJ O O isAgg76 (m:=F) (by simp) (hp)) rfl<|J.g (qAU qGF rfl rfl) rfl<|J.b rfl<|J.c j5 ?_
 refine J.O<|J.b4 (X:=Nat×Hp) (λζ=> [(1,Ptr gt),(16,.slice A n c),(17,I ((n:Nat):Int)),(18,I ((ζ.1:Nat):Int))]) (λζ=> [ζ.2,F]) (λζ=>ζ.1≤n∧qFg ζ.2 gt (qFp kv l ζ.1)) (λζ=>n-ζ.1) (0,m) (⟨jG _,ht⟩) ⟨O,O,O,O,trivial⟩ (λ_ h=>h) ?_
 rintro⟨i,mo⟩ ⟨hi,hto⟩ I0 hI0
 dsimp only at hi hto⊢
 refine J.f λ_ j6=>J.g (qAT O O O) O<|J.c j6 ?_
 refine J.k λ_ j7=>J.W O (λh19=>?_) (λh19=>?_)
 ·
  refine J.M j7 ?_
  refine J.k λ_ j8=>J.O<|J.k λ_ j9=>?_
  obtain ⟨hx1,hx2,hx3⟩:(l.getD i qAs).nm.length≤1000000∧(l.getD i qAs).op.length≤1048576∧(l.getD i qAs).rt.length≤1048576:=by
   rw [jB,jC (show i<l.length by omega)];exact hsm _ (jX _)
  have hpk:=qBq i
  refine J.H<|J.b O<|J.g (qAH O O O qGF qDV hs (by omega)) O<|J.g (qAX O O qKq qDV (m:=F) (by simp) (hs.elem (qEx (by omega))) rfl) rfl<|J.p (qAL rfl qOy rfl) rfl λg6 _=>J.b rfl<|J.a6 (qAF (i:=2) (l:= [Str [],Str [],Str [],I 0]) (vs:= [Str ((l.getD i qAs).nm),Str ((l.getD i qAs).op),Str ((l.getD i qAs).rt),I ((l.getD i qAs).ht)]) rfl rfl rfl rfl rfl qDV rfl rfl) rfl rfl λ_ _=>J.c j9 ?_
  refine J.b0 [blk g6 [Str ((l.getD i qAs).nm),Str ((l.getD i qAs).op),Str ((l.getD i qAs).rt),I ((l.getD i qAs).ht)] 72] [] (.y 0 (.y 1 (.y 3 (.e 2 (.e 4 (.e 5 .nil)))))) Tryz.wide (by decide+kernel) (by simp) ?_
  refine J.L ?_
  refine J.L ?_
  refine J.j O (qAY 0 O O O qKq qDV O) O O<|J.Z O (qAB O O ent86 (Ct.use0 (λF' hF=>qDx F' (hK.mo hF) i (by omega)))) O (by simp) λg25 _=>J.Z rfl (qAB rfl rfl ent119 (Ct.use0 (λF' hF=>qUc F' (hK.mo hF) (l.getD i qAs) hx1 hx2 hx3))) rfl (by simp) λg27 _=>J.Z rfl (qAB rfl rfl ent118 (Ct.use1 0 rfl (λF' hF=>qPV F' mo gt (qFp kv l i) hto (qAM i) (qUd (l.getD i qAs)) (by first|omega|rfl|assumption)))) rfl (by simp) ?_
  rintro m28 h28
  refine J.a8<|J.a2<|J.u (J.D j8 ?_)
  exact J.H<|J.g ((qAS O O O (by omega)).nat (i+1) (by omega)) O<|J.b O<|J.a3<|J.u<|J.a4 (i+1,m28) (λη (hη:_∧n-η.1<n-i)=>hI0 η hη.1 hη.2) ⟨⟨by dsimp only;omega,h28⟩,by dsimp only;omega⟩ ⟨O,O,O,O,trivial⟩ (λ_ h=>h.pick [0,1] (by decide))
 refine J.b2<|J.a0<|J.a0<|J.b3 ?_
 refine J.u (J.D j4 ?_)
 refine J.f λ_ j10=>J.b O<|J.c j10 ?_
 exact J.A<|J.E hw0 O mo O (by rw [show n=i by omega];exact hto) [0,1] rfl (by decide)
attribute [local irreducible] Xm.root Wo.opn Sha.tagged Sm.nd SN.tagN
theorem qXW:qFd [120,97]=0:=by
 unfold qFd
 rw [show normal [120,97]=([120,97],0) from qD3 (l:= [120,97]) (by decide) (by decide) (by decide)];rfl
theorem qXV:qFd [120,98]=0:=by
 unfold qFd
 rw [show normal [120,98]=([120,98],0) from qD3 (l:= [120,98]) (by decide) (by decide) (by decide)];rfl
theorem qXU:qFd [120,99]=0:=by
 unfold qFd
 rw [show normal [120,99]=([120,99],0) from qD3 (l:= [120,99]) (by decide) (by decide) (by decide)];rfl
def wN(j:Nat):List UInt8:= [120]++ [UInt8.ofNat (97+j)]
theorem codeX{i:Nat}(hi:i<3):qFd (wN i)=0:=by
 match i,hi with
 |0,_=>exact qXW
 |1,_=>exact qXV
 |2,_=>exact qXU
def wA(j:Nat):Aud:=⟨wN j,Wo.opn (qAQ j),Xm.root (qAQ j) 2,2⟩
def wL(i:Nat):List Aud:=(List.range i).map wA
theorem qPE(i:Nat):wL (i+1)=wL i++ [wA i]:=by unfold wL;rw [jw,jM];rfl
theorem qB1(i:Nat):(wL i).length=i:=by unfold wL;rw [jN,zV]
theorem qGC{i j:Nat}(h:j<i):(wL i).getD j qAs=wA j:=by
 unfold wL
 rw [jB,jO,jv h];rfl
def qMg:List (List Nat):= [[22,164,247,0,48,253,180,71,220,85,164,252,188,160,204,90],[101,12,161,181,223,198,74,60,112,220,105,68,168,64,74,68],[146,83,211,224,30,128,154,79,165,236,208,225,73,13,246,50]]
theorem qWB{i:Nat}(hi:i<3):(Xm.root (qAQ i) 2).map UInt8.toNat=qMg.getD i []:=by
 match i,hi with
 |0,_=>exact qIW
 |1,_=>exact qIV
 |2,_=>exact qIU
theorem qPu: ∀i j:Fin 3,i≠j→qMg.getD i.val []≠qMg.getD j.val []:=by decide+kernel
theorem qTB{i j:Nat}(hi:i<3)(hj:j<3)(h:i≠j):Xm.root (qAQ i) 2≠Xm.root (qAQ j) 2:=λe=>
 qPu ⟨i,hi⟩ ⟨j,hj⟩ (λq=>h (congrArg Fin.val q)) (by rw [←qWB hi,←qWB hj,e])
theorem qOC: ∀i:Fin 3,(qMg.getD i.val []).length=16:=by decide
theorem qDd{i:Nat}(hi:i<3):(Xm.root (qAQ i) 2).length=16:=by
 have h:=congrArg List.length (qWB hi)
 rw [jN] at h
 rw [h]
 exact qOC ⟨i,hi⟩
theorem qPD{i:Nat}(hi:i<3):qBH (Wo.opn (qAQ i)) (Xm.root (qAQ i) 2) 2=0:=if_pos ⟨by decide,by decide,Wo.opn_length _,qDd hi⟩
theorem add_w{i:Nat}(hi:i<3):qNj (wL i) (wN i) (Wo.opn (qAQ i)) (Xm.root (qAQ i) 2) 2=0:=by
  have hm:qTn (wN i) (Wo.opn (qAQ i)) (Xm.root (qAQ i) 2) 2=0:=by
    unfold qTn
    rw [codeX hi,if_neg (by decide),qPD hi]
  unfold qNj
  rw [hm,if_neg (by decide),if_neg,if_neg (by rw [qB1];omega)]
  intro h
  obtain ⟨x,hx,hs⟩:=List.any_eq_true.1 h
  obtain ⟨j,hj,rfl⟩:=List.mem_map.1 hx
  have hji:=List.mem_range.1 hj
  unfold same wA wN at hs
  dsimp only at hs
  rw [yL,decide_eq_true_eq,decide_eq_true_eq] at hs
  rcases hs with hs|⟨_,hs,_⟩
  · injection hs with _ hs
    injection hs with hs _
    have:=congrArg UInt8.toNat hs
    rw [zb,zb] at this
    omega
  · exact qTB (by omega) hi (by omega) hs
theorem qX1{i:Nat}(hi:i<3):qUd (wA i)=qCY i:=by
 have e:qUd (wA i)=if qBH (Wo.opn (qAQ i)) (Xm.root (qAQ i) 2) 2=0 then Sha.tagged 16 [wN i,qBL (Wo.opn (qAQ i)) (Xm.root (qAQ i) 2) 2] else []:=rfl
 rw [e,if_pos (qPD hi)]
 unfold qBL
 rw [if_pos ⟨by decide,by decide,Wo.opn_length _,qDd hi⟩];rfl
theorem qT0{i:Nat}(hi:i<3):qAM i=qCf i:=by
 unfold qAM qCf
 rw [show i/256=0 by omega];rfl
theorem qYa{a:Nat}(h:a≤3):qFp [] (wL a) a=qAO a:=by
 rw [qLs _ a (by omega)]
 unfold qAO
 refine yI λi hi=>?_
 have hia:=List.mem_range.1 hi
 rw [qGC hia,qX1 (by omega),qT0 (by omega)]
theorem qSX{a:Nat}(h:a≤3): ∀x∈wL a,x.nm.length≤1000000∧x.op.length≤1048576∧x.rt.length≤1048576:=λx hx=>by
 obtain ⟨j,hj,rfl⟩:=List.mem_map.1 hx
 have hja:=List.mem_range.1 hj
 refine⟨jk rfl,?_,?_⟩
 · show(Wo.opn (qAQ j)).length≤_;rw [Wo.opn_length];decide
 · show(Xm.root (qAQ j) 2).length≤_;rw [qDd (by omega)];decide
end Go.Proofs.YtcgcjaflllmlpaaGreatDoor
