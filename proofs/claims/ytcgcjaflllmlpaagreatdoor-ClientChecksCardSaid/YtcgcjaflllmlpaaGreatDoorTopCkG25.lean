/- A part of the proof. -/
import Derived.Test.YtcgcjaflllmlpaaGreatDoorTopCkG23
import Derived.Test.YtcgcjaflllmlpaaGreatDoorTopCkG24
import Derived.Test.YtcgcjaflllmlpaaGreatDoorTopCkG17
set_option maxRecDepth 100000
set_option maxHeartbeats 1000000
set_option linter.unusedSimpArgs false
set_option linter.unusedVariables false
namespace Go.Proofs.YtcgcjaflllmlpaaGreatDoor
open Go Go.Fw Go.Proofs.Tryz
theorem qS3.see{m:Hp}{g:Nat}{l:List Aud}(h:qS3 m g l): ∃A n c,qAM m ⟨g,0,none⟩ [.slice A n c]∧Sl m 4 A n c (qBc l)∧l.length=n:=by
 obtain ⟨A,n,c,mr,rfl,hd,hr⟩:=h
 have hdd:Djs [blk g [.slice A n c] 207,mr]:=qAd.2 (by simpa using hd)
 refine⟨A,n,c,qAM.blk0.mono (qFO hdd (.head _)),hr.sl.mono (qFO hdd (.tail _ (.head _))),?_⟩
 have:=hr.len
 simpa [qBc] using this
theorem qEH(F:Hp)(hK:KF F)(n:Nat)(hn:n≤1000000):Cz prog 86 [I (n:Nat)] F (Str (qAL n)):=by
 refine Ct.walk func86 O ntmps86 O (λw0 hw0=>?_)
 refine J.g λ_ j1=>J.b O<|J.c j1 ?_
 refine J.g λ_ j2=>J.b O<|J.f (qQ4 (a:=n) (m:=8) O O O xB) O<|J.f (qAw O O u3_ u5_) O<|J.b O<|J.f (qAw O O u3_ u5_) O<|J.p (qAE (l:= [.tmp 5,.tmp 7]) (xs:= [[B8 (UInt8.ofNat (n/2^8))],[B8 (UInt8.ofNat n)]]) O O O O qBt el5 O xC xC xD) O λg8 _=>J.f (qBn O O qBt u5_ u9_ (m:=blk g8 [B8 (UInt8.ofNat (n/2^8)),B8 (UInt8.ofNat n)] 5) xD ((qA7 (q:=True) (qAg [UInt8.ofNat (n/2^8),UInt8.ofNat n]) O (by simp [qAg]) O).sl)) O<|J.p (qAE (l:= [.tmp 9]) (xs:= [[Str ([UInt8.ofNat (n/2^8),UInt8.ofNat n])]]) O O O O qAk el9 O xC xC xD) O λg10 _=>J.p (qAa O O (λF' hF=>qA6 F' (hK.mo hF) 15 (some ⟨g10,0,none⟩) 1 1 ([[UInt8.ofNat (n/2^8),UInt8.ofNat n]]) (((qA7 (q:=True) (qAG [[UInt8.ofNat (n/2^8),UInt8.ofNat n]]) O (by simp [qAG]) O).sl).mono (hF (blk g10 [Str ([UInt8.ofNat (n/2^8),UInt8.ofNat n])] 9) xD)) (by first|(simp;omega)|(simp;done)|decide) xB)) O λg11 _=>J.b O<|J.c j2 ?_
 exact J.A<|J.E hw0 O () (O) trivial [0] O xC
theorem qSg(F:Hp)(hK:KF F)(nm op rt:xA)(ht:Int)(h1:nm.length≤1000000)(h2:op.length≤1048576)(h3:rt.length≤1048576)(hE:qBJ op rt ht=0):Cz prog 119 [.agg #[Str (nm),Str (op),Str (rt),I (ht)]] F (Str (Sha.tagged 16 [nm,qBM op rt ht])):=by
 have hpl:=qFW hE
 refine Ct.walk func119 O ntmps119 O (λw0 hw0=>?_)
 refine J.g λ_ j1=>J.p (qAZ O O O) O λg1 _=>J.b O<|J.c j1 ?_
 refine J.g λ_ j2=>J.M 1 qOW qEA O O O O O<|J.f (qAV O O qLS qEA (m:=blk g1 [Str (nm),Str (op),Str (rt),I (ht)] 72) xD (qAM.blk0.sub 1 3) O) O<|J.p (qAa O O (λF' hF=>qEI F' op rt ht xB xB)) O λg8 _=>J.k 5 O<|J.c j2 ?_
 refine J.q λ_ j3=>J.g λ_ j4=>J.b O<|J.f ((qAe O O O).no xB) O<|J.c j4 ?_
 refine J.a2 ?_
 refine J.T j3 ?_
 refine J.g λ_ j5=>J.M 0 qOW z9_ O O O O O<|J.a7 1 b9_ O O O O O<|J.b O<|J.p (qAE (l:= [.tmp 14,.tmp 15]) (xs:= [[Str (nm)],[Str (qBM op rt ht)]]) O O O O qAk el9 O xC xC xD) O λg16 _=>J.p (qAa O O (λF' hF=>qA6 F' (hK.mo hF) 16 (some ⟨g16,0,none⟩) 2 2 ([nm,qBM op rt ht]) (((qA7 (q:=True) (qAG [nm,qBM op rt ht]) O (by simp [qAG]) O).sl).mono (hF (blk g16 [Str (nm),Str (qBM op rt ht)] 9) xD)) (by first|(simp;omega)|(simp;done)|decide) xB)) O λg17 _=>J.b O<|J.c j5 ?_
 exact J.A<|J.E hw0 O () O trivial [0] O xC
theorem qVF(F:Hp)(hK:KF F)(nm op rt:xA)(ht:Int)(h2:op.length≤1048576)(h3:rt.length≤1048576)(hE:qBJ op rt ht≠0):Cz prog 119 [.agg #[Str (nm),Str (op),Str (rt),I (ht)]] F (Str ([])):=by
 refine Ct.walk func119 O ntmps119 O (λw0 hw0=>?_)
 refine J.g λ_ j1=>J.p (qAZ O O O) O λg1 _=>J.b O<|J.c j1 ?_
 refine J.g λ_ j2=>J.M 1 qOW qEA O O O O O<|J.f (qAV O O qLS qEA (m:=blk g1 [Str (nm),Str (op),Str (rt),I (ht)] 72) xD (qAM.blk0.sub 1 3) O) O<|J.p (qAa O O (λF' hF=>qEI F' op rt ht xB xB)) O λg8 _=>J.k 5 O<|J.c j2 ?_
 refine J.q λ_ j3=>J.g λ_ j4=>J.b O<|J.f ((qAe O O O).yes xB) O<|J.c j4 ?_
 refine J.c3 ?_
 refine J.g λ_ j5=>J.b O<|J.c j5 ?_
 exact J.A<|J.W<|J.E hw0 O () O trivial [0] O xC
theorem qVG(F:Hp)(hK:KF F)(x:Aud)(h1:x.nm.length≤1000000)(h2:x.op.length≤1048576)(h3:x.rt.length≤1048576):Cz prog 119 [.agg #[Str x.nm,Str x.op,Str x.rt,I x.ht]] F (Str (qVH x)):=by
 unfold qVH
 by_cases hE:qBJ x.op x.rt x.ht=0
 · rw [if_pos hE];exact qSg F hK x.nm x.op x.rt x.ht h1 h2 h3 hE
 · rw [if_neg hE];exact qVF F hK x.nm x.op x.rt x.ht h2 h3 hE
theorem qSJ(F:Hp)(A:Option Addr)(n c:Nat)(l:List Aud)(hs:Sl F 4 A n c (qBc l))(hnb:n≤1073741824):Ct prog 171 [.slice A n c] [F] (λx:Option Addr×Nat×Hp=> .slice x.1 (l).length x.2.1) (λx=>Row x.2.2 72 4 x.1 (l).length x.2.1 (qBc l)) (λx=> [F,x.2.2]):=by
 have hkn:l.length=n:=by have:=hs.1;simpa [qBc] using this
 refine Ct.walk func171 O ntmps171 O (λw0 hw0=>?_)
 refine J.g λ_ j1=>J.b O<|J.c j1 ?_
 refine J.q λ_ j2=>J.g λ_ j3=>J.b O<|J.f ((qE4 qGd O O O).as (v':= .bool (decide (A.isNone=true))) (congrArg Value.bool (by cases A<;>rfl))) O<|J.c j3 ?_
 refine J.a0 O (λh4=>?_) (λh4=>?_)
 ·
  refine J.g λ_ j4=>J.b O<|J.c j4 ?_
  refine J.A<|J.W ?_
  have hk0:l= []:=by
   refine jU ?_
   rcases yR n with h|h
   · omega
   · obtain ⟨g,o,rfl⟩:=hs.at h;cases h4
  exact J.d0 [0,1] [F,(λ_=>none)] O xC<|J.E hw0 O (none,0,(λ_=>none)) (by rw [hk0];rfl) (by rw [hk0];exact qBh.nil) [0,1] O xC
 refine J.T j2 ?_
 refine J.g λ_ j5=>J.p (qBV O qGd el72) O λg5 _=>J.b O<|J.p (qAU (i:=1) (m2:=F) O O O qGd qGd el72 O (qAl (q:=True) (xs:=qBc ([])) O (by intro x hx;first|exact absurd hx (jz)|(rw [List.mem_singleton.1 hx];rfl))) xD (hs) (qUC _) xB xB) O ?_
 rintro⟨A7,c7,m7⟩ h7
 try dsimp only at h7
 replace h7:Row m7 72 4 A7 (0+n) c7 (qBc (l)):=h7
 refine J.b O<|J.c j5 ?_
 refine J.A ?_
 rw [show 0+n=l.length by omega] at h7
 exact J.E hw0 O (A7,c7,m7) (by rw [←hkn,jX]) h7 [0,1] O xC
theorem qT0(F:Hp)(g:Nat)(A:Option Addr)(n c:Nat)(l:List Aud)(hs:Sl F 4 A n c (qBc l))(hnb:n≤1073741824)(hp:qAM F ⟨g,0,none⟩ [.slice A n c]):Ct prog 120 [Ptr g] [F] (λx:Nat×Hp=>Ptr x.1) (λx=>qS3 x.2 x.1 l) (λx=> [x.2,F]):=by
 refine Ct.walk func120 O ntmps120 O (λw0 hw0=>?_)
 refine J.g λ_ j1=>J.b O<|J.c j1 ?_
 refine J.q λ_ j2=>J.g λ_ j3=>J.b O<|J.f ((qA4 underlying93 O O O).as (v':= .bool false) O) O<|J.c j3 ?_
 refine J.a2 ?_
 refine J.T j2 ?_
 refine J.g λ_ j4=>J.b O<|J.f (qAB O O) O<|J.M 0 qGe qSv O O O O O<|J.f (qAI O O isAgg76 (m:=F) xD (hp)) O<|J.p (qBr O O (λF' hF=>qSJ F' A n c l (hs.mono (Fa hF)) xB)) O ?_
 rintro⟨A9,c9,m9⟩ h9
 try dsimp only at h9
 refine J.f (qAH (places:= [(0,1)]) (r:= [.slice A9 ((l).length) c9]) O O O qGe zeroValue207 (λ_=>xI) O) O<|J.p (qAZ O O O) O λg11 _=>J.b O<|J.c j4 ?_
 exact J.A<|J.b0 hw0 (λ_ _ h=>h) (qKI O O) (qCX (g11,U [blk g11 [.slice A9 ((l).length) c9] 207,m9]) (O) (λhd=>⟨A9,(l).length,c9,m9,O,hd,h9⟩) [2,1,0] O O xC)
theorem qW5(F m:Hp)(hK:KF F)(g:Nat)(A:Option Addr)(n c:Nat)(l:List Aud)(hs:Sl F 4 A n c (qBc l))(hnb:n≤1073741824)(hp:qAM F ⟨g,0,none⟩ [.slice A n c])(gt:Nat)(kv:List Sm.PR)(ht:qF3 m gt kv)(hsm: ∀x∈l,x.nm.length≤1000000∧x.op.length≤1048576∧x.rt.length≤1048576)(hn6:n≤1000000):Ct prog 55 [Ptr g,Ptr gt] [m,F] (λ_:Hp=>I (0:Nat)) (λm'=>qF3 m' gt (qGE kv l n)) (λm'=> [m',F]):=by
 have hkn:l.length=n:=by have:=hs.1;simpa [qBc] using this
 refine Ct.walk func55 O ntmps55 O (λw0 hw0=>?_)
 refine J.g λ_ j1=>J.b O<|J.c j1 ?_
 refine J.q λ_ j2=>J.g λ_ j3=>J.b O<|J.f ((qA4 underlying93 O O O).as (v':= .bool false) O) O<|J.k 2 O<|J.D ((qA4 qLi O O O).as (v':= .bool false) O) O<|J.b O<|J.c j3 ?_
 refine J.a2 ?_
 refine J.T j2 ?_
 refine J.q λ_ j4=>J.g λ_ j5=>J.b O<|J.f (qAB O O) O<|J.M 0 qGe qSv O O O O O<|J.f (qAI O O isAgg76 (m:=F) xD (hp)) O<|J.f (qAR qGd O O) O<|J.b O<|J.c j5 ?_
 refine J.V<|J.b6 (X:=Nat×Hp) (λζ=> [(1,Ptr gt),(16,.slice A n c),(17,I (n:Nat)),(18,I (ζ.1:Nat))]) (λζ=> [ζ.2,F]) (λζ=>ζ.1≤n∧qF3 ζ.2 gt (qGE kv l ζ.1)) (λζ=>n-ζ.1) (0,m) (⟨jG _,ht⟩) ⟨O,O,O,O,trivial⟩ (λ_ h=>h) ?_
 rintro⟨i,mo⟩ ⟨hi,hto⟩ I0 hI0
 dsimp only at hi hto⊢
 refine J.g λ_ j6=>J.f (qAS O O O) O<|J.c j6 ?_
 refine J.q λ_ j7=>J.a0 O (λh19=>?_) (λh19=>?_)
 ·
  refine J.T j7 ?_
  refine J.q λ_ j8=>J.V<|J.q λ_ j9=>?_
  obtain ⟨hx1,hx2,hx3⟩:(l.getD i qAu).nm.length≤1000000∧(l.getD i qAu).op.length≤1048576∧(l.getD i qAu).rt.length≤1048576:=by
   rw [jB,jC (show i<l.length by omega)];exact hsm _ (ja _)
  have hpk:=qBx i
  refine J.H<|J.b O<|J.f (qAF O O O qGd qDk hs xB) O<|J.f (qAV O O qLE qDk (m:=F) xD (hs.elem (qFN xB)) O) O<|J.p (qAJ O qPa O) O λg6 _=>J.b O<|J.a6 (qAD (i:=2) (l:= [Str [],Str [],Str [],I 0]) (vs:= [Str ((l.getD i qAu).nm),Str ((l.getD i qAu).op),Str ((l.getD i qAu).rt),I ((l.getD i qAu).ht)]) O O O O O qDk O O) O O λ_ _=>J.c j9 ?_
  refine J.b1 [blk g6 [Str ((l.getD i qAu).nm),Str ((l.getD i qAu).op),Str ((l.getD i qAu).rt),I ((l.getD i qAu).ht)] 72] [] (.y 0 (.y 1 (.y 3 (.e 2 (.e 4 (.e 5 .nil)))))) Tryz.wide xF xD ?_
  refine J.L ?_
  refine J.L ?_
  refine J.j O (qAW 0 O O O qLE qDk O) O O<|J.Z O (qAa O O (λF' hF=>qEH F' (hK.mo hF) i xB)) O xD λg25 _=>J.Z O (qAa O O (λF' hF=>qVG F' (hK.mo hF) (l.getD i qAu) hx1 hx2 hx3)) O xD λg27 _=>J.Z O (qAK O O ent (Ct.use1 0 O (λF' hF=>qP6 F' mo gt (qGE kv l i) hto (qAL i) (qVH (l.getD i qAu)) (by first|omega|rfl|assumption)))) O xD ?_
  rintro m28 h28
  refine J.a9<|J.a3<|J.u (J.G j8 ?_)
  exact J.H<|J.f ((qAQ O O O xB).nat (i+1) xB) O<|J.b O<|J.a4<|J.u<|J.a5 (i+1,m28) (λη (hη:_∧n-η.1<n-i)=>hI0 η hη.1 hη.2) ⟨⟨by dsimp only;omega,h28⟩,by dsimp only;omega⟩ ⟨O,O,O,O,trivial⟩ (λ_ h=>h.pick [0,1] xC)
 refine J.b3<|J.a1<|J.a1<|J.b4 ?_
 refine J.u (J.G j4 ?_)
 refine J.g λ_ j10=>J.b O<|J.c j10 ?_
 exact J.A<|J.E hw0 O mo O (by rw [show n=i by omega];exact hto) [0,1] O xC
attribute [local irreducible] Xm.root Wo.opn Sha.tagged Sm.nd SN.tagN
theorem qYN:qF1 [120,97]=0:=by
 unfold qF1
 rw [show normal [120,97]=([120,97],0) from qDA (l:= [120,97]) xC xC xC];rfl
theorem qYM:qF1 [120,98]=0:=by
 unfold qF1
 rw [show normal [120,98]=([120,98],0) from qDA (l:= [120,98]) xC xC xC];rfl
theorem qYL:qF1 [120,99]=0:=by
 unfold qF1
 rw [show normal [120,99]=([120,99],0) from qDA (l:= [120,99]) xC xC xC];rfl
def wN(j:Nat):xA:= [120]++ [UInt8.ofNat (97+j)]
theorem codeX{i:Nat}(hi:i<3):qF1 (wN i)=0:=by
 match i,hi with
 |0,_=>exact qYN
 |1,_=>exact qYM
 |2,_=>exact qYL
def wA(j:Nat):Aud:=⟨wN j,Wo.opn (qAP j),Xm.root (qAP j) 2,2⟩
def wL(i:Nat):List Aud:=(List.range i).map wA
theorem qPp(i:Nat):wL (i+1)=wL i++ [wA i]:=by unfold wL;rw [jx,jM];rfl
theorem qCA(i:Nat):(wL i).length=i:=by unfold wL;rw [jO,zX]
theorem qGc{i j:Nat}(h:j<i):(wL i).getD j qAu=wA j:=by
 unfold wL
 rw [jB,jN,zC h];rfl
def qM6:List (List Nat):= [[22,164,247,0,48,253,180,71,220,85,164,252,188,160,204,90],[101,12,161,181,223,198,74,60,112,220,105,68,168,64,74,68],[146,83,211,224,30,128,154,79,165,236,208,225,73,13,246,50]]
theorem qW2{i:Nat}(hi:i<3):(Xm.root (qAP i) 2).map UInt8.toNat=qM6.getD i []:=by
 match i,hi with
 |0,_=>exact qIy
 |1,_=>exact qIx
 |2,_=>exact qIw
theorem qQU: ∀i j:Fin 3,i≠j→qM6.getD i.val []≠qM6.getD j.val []:=by decide+kernel
theorem qTp{i j:Nat}(hi:i<3)(hj:j<3)(h:i≠j):Xm.root (qAP i) 2≠Xm.root (qAP j) 2:=λe=>
 qQU ⟨i,hi⟩ ⟨j,hj⟩ (λq=>h (congrArg Fin.val q)) (by rw [←qW2 hi,←qW2 hj,e])
theorem qOm: ∀i:Fin 3,(qM6.getD i.val []).length=16:=by decide
theorem qDs{i:Nat}(hi:i<3):(Xm.root (qAP i) 2).length=16:=by
 have h:=congrArg List.length (qW2 hi)
 rw [jO] at h
 rw [h]
 exact qOm ⟨i,hi⟩
theorem qPo{i:Nat}(hi:i<3):qBJ (Wo.opn (qAP i)) (Xm.root (qAP i) 2) 2=0:=if_pos ⟨xC,xC,Wo.opn_length _,qDs hi⟩
theorem add_w{i:Nat}(hi:i<3):qOJ (wL i) (wN i) (Wo.opn (qAP i)) (Xm.root (qAP i) 2) 2=0:=by
  have hm:qUQ (wN i) (Wo.opn (qAP i)) (Xm.root (qAP i) 2) 2=0:=by
    unfold qUQ
    rw [codeX hi,if_neg xC,qPo hi]
  unfold qOJ
  rw [hm,if_neg xC,if_neg,if_neg (by rw [qCA];omega)]
  intro h
  obtain ⟨x,hx,hs⟩:=List.any_eq_true.1 h
  obtain ⟨j,hj,rfl⟩:=List.mem_map.1 hx
  have hji:=List.mem_range.1 hj
  unfold same wA wN at hs
  dsimp only at hs
  rw [yO,decide_eq_true_eq,decide_eq_true_eq] at hs
  rcases hs with hs|⟨_,hs,_⟩
  · injection hs with _ hs
    injection hs with hs _
    have:=congrArg UInt8.toNat hs
    rw [zT,zT] at this
    omega
  · exact qTp xB hi xB hs
theorem qYr{i:Nat}(hi:i<3):qVH (wA i)=qCF i:=by
 have e:qVH (wA i)=if qBJ (Wo.opn (qAP i)) (Xm.root (qAP i) 2) 2=0 then Sha.tagged 16 [wN i,qBM (Wo.opn (qAP i)) (Xm.root (qAP i) 2) 2] else []:=rfl
 rw [e,if_pos (qPo hi)]
 unfold qBM
 rw [if_pos ⟨xC,xC,Wo.opn_length _,qDs hi⟩];rfl
theorem qUe{i:Nat}(hi:i<3):qAL i=qBq i:=by
 unfold qAL qBq
 rw [show i/256=0 by omega];rfl
theorem qZU{a:Nat}(h:a≤3):qGE [] (wL a) a=qAN a:=by
 rw [qMH _ a xB]
 unfold qAN
 refine yL λi hi=>?_
 have hia:=List.mem_range.1 hi
 rw [qGc hia,qYr xB,qUe xB]
theorem qTA{a:Nat}(h:a≤3): ∀x∈wL a,x.nm.length≤1000000∧x.op.length≤1048576∧x.rt.length≤1048576:=λx hx=>by
 obtain ⟨j,hj,rfl⟩:=List.mem_map.1 hx
 have hja:=List.mem_range.1 hj
 refine⟨jm O,?_,?_⟩
 · show(Wo.opn (qAP j)).length≤_;rw [Wo.opn_length];decide
 · show(Xm.root (qAP j) 2).length≤_;rw [qDs xB];decide
end Go.Proofs.YtcgcjaflllmlpaaGreatDoor