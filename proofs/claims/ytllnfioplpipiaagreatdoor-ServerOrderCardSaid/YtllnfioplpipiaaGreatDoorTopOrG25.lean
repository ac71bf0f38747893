/- A part of the proof. -/
import Derived.Test.YtllnfioplpipiaaGreatDoorTopOrG8
import Derived.Test.YtllnfioplpipiaaGreatDoorTopOrG24
import Derived.Test.YtllnfioplpipiaaGreatDoorTopOrG11
import Derived.Test.YtllnfioplpipiaaGreatDoorTopOrG10
set_option linter.unusedSimpArgs false
set_option linter.unusedVariables false
namespace Go.Proofs.YtllnfioplpipiaaGreatDoor
open Go Go.Fw Go.Proofs.Tryz
set_option maxRecDepth 100000
set_option maxHeartbeats 1000000
theorem ent110:qAD prog 110:=qAD.of func110 rfl (by kernel_rfl)
theorem ent169:qAD prog 169:=qAD.of func169 rfl (by kernel_rfl)
theorem ent205:qAD prog 205:=qAD.of func205 rfl (by kernel_rfl)
theorem ent206:qAD prog 206:=qAD.of func206 rfl (by kernel_rfl)
theorem ent208:qAD prog 208:=qAD.of func208 rfl (by kernel_rfl)
def qBq(d:Dk)(p:Nat)(t:Nat→List UInt8):Nat→Dk×Int
 |0=>(d,0)
 |k+1=>if(qBq d p t k).2=0 then((qBq d p t k).1.write ((p+k:Nat):Int) (t k),(qBq d p t k).1.wErr ((p+k:Nat):Int) (t k)) else qBq d p t k
theorem qE5{d:Dk}{p:Nat}{t:Nat→List UInt8}{k:Nat}(h:(qBq d p t k).2=0):qBq d p t (k+1)=((qBq d p t k).1.write ((p+k:Nat):Int) (t k),(qBq d p t k).1.wErr ((p+k:Nat):Int) (t k)):=if_pos h
theorem qE6{d:Dk}{p:Nat}{t:Nat→List UInt8}{k:Nat}(h: ¬(qBq d p t k).2=0): ∀n,qBq d p t (k+n)=qBq d p t k
 |0=>rfl
 |n+1=>by
  have e:=qE6 h n
  show(if(qBq d p t (k+n)).2=0 then _ else qBq d p t (k+n))=_
  rw [e,if_neg h]
def qJK(d:Dk)(p:Nat)(t:Nat→List UInt8)(n:Nat):Dk×Int:=if(qBq d p t n).2=0 then((qBq d p t n).1.sync,(qBq d p t n).1.sErr) else qBq d p t n
theorem qOd(d:Dk):d.burn.keep=d.keep∧d.burn.wait.length≤d.wait.length:=by
  unfold Dk.burn Dk.cut
  split
  · split
    · exact⟨rfl,Nat.zero_le _⟩
    · exact⟨rfl,Nat.le_refl _⟩
  · exact⟨rfl,Nat.le_refl _⟩
theorem qLX(d:Dk)(i:Int)(s:List UInt8):(d.write i s).keep=d.keep∧(d.write i s).wait.length≤d.wait.length+1:=by
  have hb:=qOd d
  unfold Dk.write
  split
  · exact⟨rfl,Nat.le_succ _⟩
  · split
    · exact⟨rfl,Nat.le_succ _⟩
    · split
      · exact⟨hb.1,Nat.le_succ_of_le hb.2⟩
      · refine⟨hb.1,?_⟩
        show(d.burn.wait++ [_]).length≤_
        rw [List.length_append];exact Nat.succ_le_succ hb.2
theorem qGr{d:Dk}(h:d.ok)(p:Nat)(t:Nat→List UInt8): ∀k,(qBq d p t k).1.ok∧(qBq d p t k).1.wait.length≤d.wait.length+k∧(qBq d p t k).1.keep=d.keep
  |0=>⟨h,Nat.le_refl _,rfl⟩
  |k+1=>by
    obtain ⟨h1,h2,h3⟩:=qGr h p t k
    by_cases he:(qBq d p t k).2=0
    · rw [qE5 he]
      have hw:=qLX (qBq d p t k).1 ((p+k:Nat):Int) (t k)
      exact⟨h1.write _ _,Nat.le_trans hw.2 (by omega),hw.1.trans h3⟩
    · rw [show k+1=k+1 from rfl,qE6 he 1]
      exact⟨h1,by omega,h3⟩
theorem qNI{turn num:UInt64}{s:List UInt8}{n i:Nat}(ht:turn.toNat<2^(8*4))(hn:num.toNat<2^(8*2))(h:n≤24)(hi:i<n):(prt turn num s n i).ok:=
 ⟨ht,hn,by show i<256;omega,by show n<256;omega,by show(qHl _ _ _).length≤8;rw [qOj];exact Nat.le_refl _,by show((s.drop _).take 39).length≤39;rw [List.length_take];exact Nat.min_le_left _ _⟩
theorem qF7(F mm:Hp)(hK:KF F)(gb gd:Nat)(first size hat0:Int)(ht0:UInt64)(he0:Int)(Ar0:Option Addr)(nr0 cr0:Nat)(bad:Bool)(d:Dk)(C:Option Addr)(f:Nat)(hb:Dsk mm gd d C f)(hok:d.ok)(hn2:d.wait.length≤1048576)(hKp:Sl F 1 C d.keep.length f (qAR d.keep))(hn3:d.keep.length≤9223372036854775807)(hat:Nat)(hturn:UInt64)(hend:Nat)(Ar:Option Addr)(nr cr:Nat)(R:List (List UInt8))(hR:R.length=nr)(hRs:Sl F 1 Ar nr cr (qAG R))(s:List UInt8)(hs:s.length≤900)(n:Nat)(hn:n=qBM s.length)(ht:hturn.toNat<2^(8*4))(hnr:nr<65536)(hp:hat+hend≤1048576)(he:(qJK d (hat+hend) (λi=>(prt hturn (UInt64.ofNat nr) s n i).text) n).2=0):
    Ct prog 169 [Ptr gb,.agg #[I hat,W64 hturn,I hend,.slice Ar nr cr],Str s] [blk gb [Ptr gd,I first,I size,I hat0,W64 ht0,I he0,.slice Ar0 nr0 cr0,.bool bad] 183,mm,F] (λ_:Hp×Option Addr×Nat×Hp=>I 0) (λx=>Dsk x.1 gd (qJK d (hat+hend) (λi=>(prt hturn (UInt64.ofNat nr) s n i).text) n).1 C f∧Row x.2.2.2 9 1 x.2.1 (nr+1) x.2.2.1 (qAG (R++ [s]))) (λx=> [blk gb [Ptr gd,I first,I size,I hat,W64 hturn,I ((hend+n:Nat):Int),.slice x.2.1 (nr+1) x.2.2.1,.bool bad] 183,x.1,F,x.2.2.2]):=by
  have hn24:n≤24:=hn▸qDo hs
  have hnum:(UInt64.ofNat nr).toNat<2^(8*2):=by rw [qBD (by omega)];exact hnr
  refine Ct.walk func169 rfl ntmps169 rfl (λw0 hw0=>?_)
  change J _ [(0,_),(1,_),(2,_)] _ _ _
  refine J.g λK1 hK1=>J.k (qAi (l:= [I hat,W64 hturn,I hend,.slice Ar nr cr]) O O O) O ?_
  rintro g4 _
  change J _ _ _ [blk gb [Ptr gd,I first,I size,I hat0,W64 ht0,I he0,.slice Ar0 nr0 cr0,.bool bad] 183,mm,F,blk g4 [I hat,W64 hturn,I hend,.slice Ar nr cr] 181] _
  refine J.b O<|J.c hK1<|J.G 0 2 4 ?_
  refine J.g λK2 hK2=>J.a3 1 qDU qF9 O O O O O<|J.c7 3 qHt O O O O O<|J.a3 3 qDU qBf O O O O O<|J.c7 3 qBo O O O O O<|J.f (qAP qAe O O) O<|J.f (qAs O O u3_ qEi (m:=nr) (by omega)) O<|J.b O<|J.k (qAA O O ent205 (Ct.use (new:=λx:Option Addr×Nat×Hp=> [x.2.2]) (λF' hF=>qPy F' (hK.mo hF) hturn (UInt64.ofNat nr) s ht hnum hs n hn))) O ?_
  rintro⟨Ap,cp,mp⟩ hr
  try dsimp only at hr
  change J _ _ _ [_,_,_,_,mp] _
  refine J.b O<|J.c hK2<|J.O 0 2 4 7 ?_
  refine J.g λK3 hK3=>J.b O<|J.c hK3<|J.a0 0 2 4 7 8 ?_
  refine J.e8 (λx:Hp=> [(0,Ptr gb),(2,Str s),(4,Ptr g4),(7,.slice Ap n cp),(8,I (qBq d (hat+hend) (λi=>(prt hturn (UInt64.ofNat nr) s n i).text) n).2)]) (λx=> [blk gb [Ptr gd,I first,I size,I hat0,W64 ht0,I he0,.slice Ar0 nr0 cr0,.bool bad] 183,x,F,blk g4 [I hat,W64 hturn,I hend,.slice Ar nr cr] 181,mp]) (λx=>Dsk x gd (qBq d (hat+hend) (λi=>(prt hturn (UInt64.ofNat nr) s n i).text) n).1 C f) (λK4 hK4=>?_) ?_
  ·
    refine J.g λK5 hK5=>J.b O<|J.c hK5<|J.b8 0 2 4 7 8 9 ?_
    refine J.V<|J.b6 (X:=Nat×Hp) (λx=> [(0,Ptr gb),(2,Str s),(4,Ptr g4),(7,.slice Ap n cp),(8,I (qBq d (hat+hend) (λi=>(prt hturn (UInt64.ofNat nr) s n i).text) x.1).2),(9,I x.1)]) (λx=> [blk gb [Ptr gd,I first,I size,I hat0,W64 ht0,I he0,.slice Ar0 nr0 cr0,.bool bad] 183,x.2,F,blk g4 [I hat,W64 hturn,I hend,.slice Ar nr cr] 181,mp]) (λx=>x.1≤n∧Dsk x.2 gd (qBq d (hat+hend) (λi=>(prt hturn (UInt64.ofNat nr) s n i).text) x.1).1 C f) (λx=>n-x.1) (0,mm) (⟨Nat.zero_le _,hb⟩) ⟨O,O,O,O,O,O,trivial⟩ (λ_ h=>h) ?_
    rintro⟨k,m⟩ ⟨hk,hd⟩ I0 hI0
    dsimp only at hk hd⊢
    refine J.j λK6 hK6=>J.g λK7 hK7=>J.p 2 O<|J.f (qAP qLZ O O) O<|J.f (qAT O O O) O<|J.b O<|J.c4 (d:=22) O (λh22=>?_) (λh22=>?_)
    ·
      refine J.b O<|J.Z (qAY O O O) O<|J.b O<|J.c hK7<|J.c2 0 2 4 7 8 9 25 ?_
      refine J.a2 O (λh25=>?_) (λh25=>?_)
      ·
        refine J.W hK6<|J.a0 0 2 4 7 9 ?_
        refine J.j λK8 hK8=>J.V ?_
        have hkn:k<n:=by omega
        have hw:=qGr hok (hat+hend) (λi=>(prt hturn (UInt64.ofNat nr) s n i).text) k
        refine J.c1 [blk gb [Ptr gd,I first,I size,I hat0,W64 ht0,I he0,.slice Ar0 nr0 cr0,.bool bad] 183,blk g4 [I hat,W64 hturn,I hend,.slice Ar nr cr] 181,F,mp] [] (.y 0 (.y 1 (.y 2 (.y 3 (.y 4 (.y 5 (.y 6 (.y 7 (.y 8 (.y 9 (.y 10 (.y 11 (.y 12 (.y 13 (.y 14 (.e 15 (.e 16 (.y 17 .nil)))))))))))))))))) Tryz.wide (by decide+kernel) (by simp) ?_
        refine J.T ?_
        refine J.q O (qAC O O) O O<|J.q O (qAB (j:=0) O O qD5 O sizeOf24 O) O O<|J.q O (qAE 0 O O O isAgg24 O) O O<|J.q O (qAB (j:=0) O O qDU O z3_ O) O O<|J.q O (qAE 1 O O O b3_ O) O O<|J.q O (qAB (j:=2) O O qDU O z3_ O) O O<|J.q O (qAE 1 O O O b3_ O) O O<|J.q O ((qAO O O O (by omega)).nat (hat+hend) (by omega)) O O<|J.T ?_
        refine J.q O ((qAO O O O (by omega)).nat (hat+hend+k) (by omega)) O O<|J.T ?_
        refine J.T ?_
        refine J.q O (qAH (i:=k) O O O qLZ qE3 hr.sl (by omega)) O O<|J.q O (qAd O O isAgg289 qE3 (m:=mp) (by simp) (vs:=(prt hturn (UInt64.ofNat nr) s n k).cells) (hr.sl.elem (qNF hkn)) rfl) rfl rfl<|J.a9 rfl (qAA rfl rfl ent207 (Ct.use0 (λF' hF=>qKk F' (hK.mo hF) (prt hturn (UInt64.ofNat nr) s n k) (qNI ht hnum hn24 hkn)))) rfl (by simp) λg43 _=>J.a9 rfl (qAA rfl rfl ent206 (Ct.use1 1 (m':=λx:Hp=>x) (new:=λ_=> []) rfl (λF' hF=>qPA F' m gd (qBq d (hat+hend) (λi=>(prt hturn (UInt64.ofNat nr) s n i).text) k).1 C f hd hw.1 (by have:=hw.2.1;omega) (by rw [hw.2.2];exact hKp.mono (hF F (by simp))) (by rw [hw.2.2];exact hn3) ((hat+hend+k:Nat):Int) (prt hturn (UInt64.ofNat nr) s n k).text (by rw [Prt.text_len (qNI ht hnum hn24 hkn)];decide)))) rfl (by simp) ?_
        rintro m44 hd44
        change J _ _ _ [blk gb [Ptr gd,I first,I size,I hat0,W64 ht0,I he0,.slice Ar0 nr0 cr0,.bool bad] 183,m44,F,blk g4 [I hat,W64 hturn,I hend,.slice Ar nr cr] 181,mp] _
        refine J.c6 ?_
        refine J.b9<|J.a6<|J.A (J.H hK8 ?_)
        refine J.b8 0 2 4 7 8 9 ?_
        refine J.L<|J.b O<|J.f ((qAO O O O (by omega)).nat (k+1) (by omega)) O<|J.b O<|J.a7<|J.A ?_
        have hsu:=qE5 (show(qBq d (hat+hend) (λi=>(prt hturn (UInt64.ofNat nr) s n i).text) k).2=0 from by omega)
        exact J.a8 (k+1,m44) (λy (hy:_∧n-y.1<n-k)=>hI0 y hy.1 hy.2) ⟨⟨by dsimp only;omega,by dsimp only;rw [hsu];exact hd44⟩,by dsimp only;omega⟩ ⟨rfl,rfl,rfl,rfl,by dsimp only;rw [hsu];rfl,rfl,trivial⟩ (λ_ h=>h)
      refine J.b4<|J.a1<|J.a1<|J.b5 ?_
      refine J.A ?_
      have hst:=qE6 (d:=d) (p:=hat+hend) (t:=(λi=>(prt hturn (UInt64.ofNat nr) s n i).text)) (k:=k) (by omega) (n-k)
      rw [show k+(n-k)=n by omega] at hst
      exact J.a8 m hK4 (by rw [hst];exact hd) ⟨rfl,rfl,rfl,rfl,by rw [hst];rfl,trivial⟩ (λ_ h=>h)
    refine J.p 3 O<|J.c hK7<|J.c2 0 2 4 7 8 9 25 ?_
    refine J.a5 ?_
    refine J.b4<|J.a1<|J.a1<|J.b5 ?_
    refine J.A ?_
    have hkk:k=n:=by omega
    subst hkk
    exact J.a8 m hK4 hd ⟨O,O,O,O,O,trivial⟩ (λ_ h=>h)
  intro m hd
  refine J.e8 (λx:Hp=> [(0,Ptr gb),(2,Str s),(4,Ptr g4),(7,.slice Ap n cp),(8,I (qJK d (hat+hend) (λi=>(prt hturn (UInt64.ofNat nr) s n i).text) n).2)]) (λx=> [blk gb [Ptr gd,I first,I size,I hat0,W64 ht0,I he0,.slice Ar0 nr0 cr0,.bool bad] 183,x,F,blk g4 [I hat,W64 hturn,I hend,.slice Ar nr cr] 181,mp]) (λx=>Dsk x gd (qJK d (hat+hend) (λi=>(prt hturn (UInt64.ofNat nr) s n i).text) n).1 C f) (λK9 hK9=>?_) ?_
  ·
    refine J.j λK10 hK10=>?_
    have hw:=qGr hok (hat+hend) (λi=>(prt hturn (UInt64.ofNat nr) s n i).text) n
    refine J.L<|J.b O<|J.f (qAY O O O) O<|J.c hK10<|J.b8 0 2 4 7 8 46 ?_
    refine J.a2 O (λh46=>?_) (λh46=>?_)
    ·
      refine J.L<|J.b O<|J.f (qAC O O) O<|J.a3 0 qD5 sizeOf24 O O O O O<|J.c7 0 isAgg24 O O O O O<|J.k (qAA O O ent208 (Ct.use1 1 (m':=λx:Hp=>x) (new:=λ_=> []) O (λF' hF=>qR0 F' m gd (qBq d (hat+hend) (λi=>(prt hturn (UInt64.ofNat nr) s n i).text) n).1 C f hd hw.1 (by have:=hw.2.1;omega) (by rw [hw.2.2];exact hKp.mono (hF F (by simp))) (by rw [hw.2.2];exact hn3)))) rfl ?_
      rintro m51 hd51
      change J _ _ _ [blk gb [Ptr gd,I first,I size,I hat0,W64 ht0,I he0,.slice Ar0 nr0 cr0,.bool bad] 183,m51,F,blk g4 [I hat,W64 hturn,I hend,.slice Ar nr cr] 181,mp] _
      refine J.b O<|J.a7<|J.A ?_
      have hst:(qJK d (hat+hend) (λi=>(prt hturn (UInt64.ofNat nr) s n i).text) n)=((qBq d (hat+hend) (λi=>(prt hturn (UInt64.ofNat nr) s n i).text) n).1.sync,(qBq d (hat+hend) (λi=>(prt hturn (UInt64.ofNat nr) s n i).text) n).1.sErr):=if_pos (by omega)
      exact J.a8 m51 hK9 (by rw [hst];exact hd51) ⟨rfl,rfl,rfl,rfl,by rw [hst];rfl,trivial⟩ (λ_ h=>h)
    refine J.b7<|J.A ?_
    have hst:(qJK d (hat+hend) (λi=>(prt hturn (UInt64.ofNat nr) s n i).text) n)=(qBq d (hat+hend) (λi=>(prt hturn (UInt64.ofNat nr) s n i).text) n):=if_neg (by omega)
    exact J.a8 m hK9 (by rw [hst];exact hd) ⟨rfl,rfl,rfl,rfl,by rw [hst];rfl,trivial⟩ (λ_ h=>h)
  intro m hd
  refine J.j λK11 hK11=>J.g λK12 hK12=>J.b O<|J.f ((qAb O O O).no (by omega)) O<|J.c hK12<|J.b8 0 2 4 7 8 53 ?_
  refine J.a5 ?_
  refine J.W hK11<|J.O 0 2 4 7 ?_
  refine J.g λK13 hK13=>J.a3 2 qDU z3_ O O O O O<|J.c7 3 b3_ O O O O O<|J.b O<|J.f (qAP qLZ O O) O<|J.f ((qAO O O O (by omega)).nat (hend+n) (by omega)) O<|J.a3 2 qDU z3_ O O O O O<|J.b0 (qAZ (i:=3) (vs:= [I ((hend+n:Nat):Int)]) O O O O O z3_ O (by simp)) rfl rfl λ_ _=>?_
  change J _ _ _ [blk gb [Ptr gd,I first,I size,I hat0,W64 ht0,I he0,.slice Ar0 nr0 cr0,.bool bad] 183,m,F,blk g4 [I hat,W64 hturn,I ((hend+n:Nat):Int),.slice Ar nr cr] 181,mp] _
  refine J.c hK13<|J.G 0 2 4 ?_
  refine J.g λK14 hK14=>J.a3 3 qDU qBf O O O O O<|J.c7 3 qBo O O O O O<|J.k (qAA O O ent95 (Ct.use (new:=λx:Option Addr×Nat×Hp=> [x.2.2]) (λF' hF=>by have:=qI0 F' R Ar cr (by rw [hR];exact hRs.mono (hF F (by simp))) (by omega);rw [hR] at this;exact this))) rfl ?_
  rintro⟨A6,c6,m6⟩ h6
  try dsimp only at h6
  change J _ _ _ [_,_,_,_,_,m6] _
  refine J.b O<|J.k (qAF (l:= [.tmp 67]) (xs:= [[Str s]]) O O O O qAe el9 O (by decide) (by decide) (by simp)) rfl λg68 _=>?_
  change J _ _ _ [_,_,_,_,_,_,blk g68 [Str s] 9] _
  refine J.k (qAW (i:=5) (m2:=blk g68 [Str s] 9) (xs:=qAG R) (ys:=qAG [s]) O O O qAe qAe el9 O h6 (by simp) ((qAk (q:=True) (xs:=qAG [s]) rfl (by simp [qAG])).sl) (by simp [qAG,Value.oneCell']) (by omega) (by omega)) rfl ?_
  rintro⟨A8,c8,m8⟩ h8
  try dsimp only at h8
  change J _ ((69,.slice A8 (nr+1) c8)::_) _ [_,_,_,_,_,m8,_] _
  rw [←qGH] at h8
  refine J.a3 3 qDU qBf O O O O O<|J.b0 (qAZ (i:=3) (vs:= [.slice A8 (nr+1) c8]) O O O O O qBf O (by simp)) rfl rfl λ_ _=>?_
  change J _ _ _ [_,_,_,blk g4 [I hat,W64 hturn,I ((hend+n:Nat):Int),.slice A8 (nr+1) c8] 181,_,_,_] _
  refine J.c hK14<|J.E 0 4 ?_
  refine J.g λK15 hK15=>J.b O<|J.c9 3 isAgg181 qCw O O O O O<|J.f (qAC O O) O<|J.a3 3 qD5 qCw O O O O O<|J.b0 (qAZ (i:=0) (vs:= [I hat,W64 hturn,I ((hend+n:Nat):Int),.slice A8 (nr+1) c8]) O O O O O qCw O (by simp)) rfl rfl λ_ _=>?_
  change J _ _ _ [blk gb [Ptr gd,I first,I size,I hat,W64 hturn,I ((hend+n:Nat):Int),.slice A8 (nr+1) c8,.bool bad] 183,_,_,_,_,_,_] _
  refine J.c hK15<|J.c3 [] trivial<|J.g λK16 hK16=>J.b O<|J.c hK16<|J.u 6 ?_
  exact J.D<|J.M hw0 O (m,A8,c8,m8) O ⟨hd,h8⟩ [0,1,2,5] O (by decide)
theorem qOY{m:Hp}{g k:Nat}{l vs:List Value}(h:qAL m ⟨g,0,none⟩ l)(hs: ∀j u,vs[j]?=some u→l[k+j]?=some u):qAL m ⟨g,k,none⟩ vs:=by
 obtain ⟨h1,cs,e,fz,h2,h3⟩:=h
 refine⟨rfl,cs,e,fz,h2,λj u hj=>?_⟩
 have:=h3 _ _ (hs j u hj)
 rwa [Nat.zero_add] at this
theorem qI8(F mm:Hp)(hK:KF F)(gb gd:Nat)(first:Int)(size hat:Nat)(hturn:UInt64)(hend:Nat)(Ar:Option Addr)(nr cr:Nat)(d:Dk)(C:Option Addr)(f:Nat)(hb:Dsk mm gd d C f)(hok:d.ok)(hn2:d.wait.length≤1048576)(hKp:Sl F 1 C d.keep.length f (qAR d.keep))(hn3:d.keep.length≤9223372036854775807)(R:List (List UInt8))(hR:R.length=nr)(hRs:Sl F 1 Ar nr cr (qAG R))(s:List UInt8)(hs:s.length≤900)(n:Nat)(hn:n=qBM s.length)(t':UInt64)(ht':(t'.toNat:Int)=max (hturn.toNat:Int) 1)(ht:t'.toNat<2^(8*4))(hnr:nr<65536)(hp:hat+size≤1048576)(hfit:hend+n≤size)(he:(qJK d (hat+hend) (λi=>(prt t' (UInt64.ofNat nr) s n i).text) n).2=0):
    Ct prog 111 [Ptr gb,Str s] [blk gb [Ptr gd,I first,I (size:Nat),I (hat:Nat),W64 hturn,I (hend:Nat),.slice Ar nr cr,.bool false] 183,mm,F] (λ_:Hp×Option Addr×Nat×Hp=>I 0) (λx=>Dsk x.1 gd (qJK d (hat+hend) (λi=>(prt t' (UInt64.ofNat nr) s n i).text) n).1 C f∧Row x.2.2.2 9 1 x.2.1 (nr+1) x.2.2.1 (qAG (R++ [s]))) (λx=> [blk gb [Ptr gd,I first,I (size:Nat),I (hat:Nat),W64 t',I ((hend+n:Nat):Int),.slice x.2.1 (nr+1) x.2.2.1,.bool false] 183,x.1,F,x.2.2.2]):=by
  have hn1:=qEG s.length
  refine Ct.walk func111 rfl ntmps111 rfl (λw0 hw0=>?_)
  change J _ [(0,_),(1,_)] _ _ _
  refine J.g λK1 hK1=>J.b O<|J.c hK1<|J.E 0 1 ?_
  refine J.j λK2 hK2=>J.g λK3 hK3=>J.p 2 O<|J.k ((qAA O O ent168 (Ct.use0 (λF' hF=>qUM F' gb gd first size hat hturn hend Ar nr cr false (qAL.blk0.mono (hF (blk gb [Ptr gd,I first,I (size:Nat),I (hat:Nat),W64 hturn,I (hend:Nat),.slice Ar nr cr,.bool false] 183) (by simp))) s)))) rfl λg9 _=>J.b rfl<|J.c hK3<|J.G 0 1 5 ?_
  refine J.g λK4 hK4=>J.b O<|J.f ((qAb O O O).no (λh=>h (by rw [if_neg (by omega),if_neg (by decide)]))) rfl<|J.c hK4<|J.O 0 1 5 11 ?_
  refine J.a5 ?_
  refine J.W hK2<|J.E 0 1 ?_
  refine J.g λK5 hK5=>J.b O<|J.f (qAC O O) O<|J.a3 3 qD5 qCw O O O O O<|J.f (qAd O O isAgg181 qCw (m:=blk gb [Ptr gd,I first,I (size:Nat),I (hat:Nat),W64 hturn,I (hend:Nat),.slice Ar nr cr,.bool false] 183) (by simp) (vs:= [I (hat:Nat),W64 hturn,I (hend:Nat),.slice Ar nr cr]) (qOY qAL.blk0 (λj u hj=>by match j,hj with|0,hj=>exact hj|1,hj=>exact hj|2,hj=>exact hj|3,hj=>exact hj)) rfl) rfl<|J.k (qAN rfl zeroValue181 rfl) rfl λg6 _=>?_
  change J _ _ _ [blk gb [Ptr gd,I first,I (size:Nat),I (hat:Nat),W64 hturn,I (hend:Nat),.slice Ar nr cr,.bool false] 183,mm,F,blk g6 _ 181] _
  refine J.b0 (qAI (l:= [I 0,W64 0,I 0,.slice none 0 0]) (i:=3) (vs:= [I (hat:Nat),W64 hturn,I (hend:Nat),.slice Ar nr cr]) O O O O O qCw O O) O O λ_ _=>?_
  change J _ _ _ [_,_,_,blk g6 [I (hat:Nat),W64 hturn,I (hend:Nat),.slice Ar nr cr] 181] _
  refine J.c hK5<|J.G 0 1 6 ?_
  refine J.j λK6 hK6=>J.g λK7 hK7=>J.b O<|J.k (qAA O O ent110 (Ct.use0 (λF' hF=>qNu F' gb gd first size hat hturn hend Ar nr cr false (qAL.blk0.mono (hF (blk gb [Ptr gd,I first,I (size:Nat),I (hat:Nat),W64 hturn,I (hend:Nat),.slice Ar nr cr,.bool false] 183) (by simp))) (by omega) (by omega)))) rfl λg18 _=>J.b rfl<|J.f (qAl u9_ rfl rfl) rfl<|J.k (qAA rfl rfl ent109 (Ct.use0 (λF' hF=>by have:=qFM F' s.length (by omega);rw [←hn] at this;exact this))) rfl λg21 _=>J.f ((qAT rfl rfl rfl).no (by omega)) rfl<|J.b rfl<|J.Z (qAB (j:=3) rfl rfl qDU rfl qBf rfl) rfl<|J.Z (qAE 3 rfl rfl rfl qBo rfl) rfl<|J.Z (qAP qAe rfl rfl) rfl<|J.Z ((qBN rfl rfl rfl).no (by omega)) rfl<|J.b rfl<|J.c hK7<|J.O 0 1 6 28 ?_
  refine J.a5 ?_
  refine J.W hK6<|J.G 0 1 6 ?_
  refine J.g λK8 hK8=>J.a3 1 qDU qF9 O O O O O<|J.c7 3 qHt O O O O O<|J.f ((qKr O O O).as (v':=W64 t') (congrArg (Value.int .u64) ht'.symm)) O<|J.a3 1 qDU qF9 O O O O O<|J.b0 (qAZ (i:=3) (vs:= [W64 t']) O O O O O qF9 O (by simp)) rfl rfl λ_ _=>?_
  change J _ _ _ [_,_,_,blk g6 [I (hat:Nat),W64 t',I (hend:Nat),.slice Ar nr cr] 181] _
  refine J.c hK8<|J.G 0 1 6 ?_
  refine J.g λK9 hK9=>J.b O<|J.c9 3 isAgg181 qCw O O O O O<|J.b O<|J.k (qAA O O ent169 (Ct.useA [blk gb [Ptr gd,I first,I (size:Nat),I (hat:Nat),W64 hturn,I (hend:Nat),.slice Ar nr cr,.bool false] 183,mm] [F,blk g6 [I (hat:Nat),W64 t',I (hend:Nat),.slice Ar nr cr] 181] (A':=λx:Hp×Option Addr×Nat×Hp=> [blk gb [Ptr gd,I first,I (size:Nat),I (hat:Nat),W64 t',I ((hend+n:Nat):Int),.slice x.2.1 (nr+1) x.2.2.1,.bool false] 183,x.1]) (new:=λx=> [x.2.2.2]) (λF' hF=>qF7 F' mm (hK.mo hF) gb gd first size hat hturn hend Ar nr cr false d C f hb hok hn2 (hKp.mono (hF F (by simp))) hn3 hat t' hend Ar nr cr R hR (hRs.mono (hF F (by simp))) s hs n hn ht hnr (by omega) he))) rfl ?_
  rintro⟨m36,A36,c36,m37⟩ ⟨hd36,h36⟩
  change J _ _ _ [blk gb [Ptr gd,I first,I (size:Nat),I (hat:Nat),W64 t',I ((hend+n:Nat):Int),.slice A36 (nr+1) c36,.bool false] 183,m36,_,_,m37] _
  refine J.b O<|J.c hK9<|J.u 4 ?_
  exact J.D<|J.M hw0 O (m36,A36,c36,m37) O ⟨hd36,h36⟩ [0,1,2,4] O (by decide)
theorem qC8{d:Dk}(h:d.armed=false):d.burn=d∧ ¬d.burns:=⟨by unfold Dk.burn;rw [if_neg (by rw [h];decide)],λe=>by have:=e.1;rw [h] at this;exact absurd this (by decide)⟩
theorem qGj{d:Dk}(h:d.off=false){i:Nat}(hi:i<d.last.length):d.ready (i:Int)=0:=by unfold Dk.ready;rw [h,if_neg (by decide),if_neg (by omega)]
theorem qHx{d:Dk}(ho:d.off=false)(ha:d.armed=false){p n:Nat}(hp:p+n≤d.last.length){t:Nat→List UInt8}(ht: ∀i,i<n→(t i).length≤64): ∀k,k≤n→(qBq d p t k).2=0∧(qBq d p t k).1.off=false∧(qBq d p t k).1.armed=false∧(qBq d p t k).1.last=d.last
 |0,_=>⟨rfl,ho,ha,rfl⟩
 |k+1,hk=>by
  obtain ⟨h1,h2,h3,h4⟩:=qHx ho ha hp ht k (by omega)
  have hw:=qO9 (qGj h2 (i:=p+k) (by rw [h4];omega)) (ht k (by omega)) (qC8 h3).2
  rw [(qC8 h3).1] at hw
  rw [qE5 h1]
  dsimp only
  rw [hw.1]
  exact⟨hw.2,h2,h3,h4⟩
theorem qMW{d:Dk}(hok:d.ok)(ho:d.off=false)(ha:d.armed=false){p n:Nat}(hp:p+n≤d.last.length){t:Nat→List UInt8}(ht: ∀i,i<n→(t i).length≤64):
    (qJK d p t n).2=0∧(qJK d p t n).1.off=false∧(qJK d p t n).1.armed=false∧(qJK d p t n).1.last.length=d.last.length∧(qJK d p t n).1.wait= []∧(qJK d p t n).1.keep=d.keep∧(qJK d p t n).1.ok:=by
  obtain ⟨h1,h2,h3,h4⟩:=qHx ho ha hp ht n (Nat.le_refl _)
  have hw:=qGr hok p t n
  have hs:=hw.1.sync
  have h0:(qBq d p t n).1.ready 0=0:=qGj h2 (i:=0) (by rw [h4];exact hok.n0)
  have e:qJK d p t n=((qBq d p t n).1.sync,(qBq d p t n).1.sErr):=if_pos h1
  have e2:(qBq d p t n).1.sync={(qBq d p t n).1 with last:=qCe (qBq d p t n).1.last (qBq d p t n).1.wait (qBq d p t n).1.wait.length,wait:= []}:=by
    unfold Dk.sync
    rw [if_neg (by omega),if_neg (qC8 h3).2,(qC8 h3).1]
  have e3:(qBq d p t n).1.sErr=0:=by
    unfold Dk.sErr
    rw [if_neg (by omega),if_neg (qC8 h3).2]
  rw [e]
  refine⟨e3,?_,?_,?_,?_,?_,hs⟩
  · show(qBq d p t n).1.sync.off=_;rw [e2];exact h2
  · show(qBq d p t n).1.sync.armed=_;rw [e2];exact h3
  · show(qBq d p t n).1.sync.last.length=_;rw [e2];show(qCe _ _ _).length=_;rw [qA8,h4]
  · show(qBq d p t n).1.sync.wait=_;rw [e2]
  · show(qBq d p t n).1.sync.keep=_;rw [e2];exact hw.2.2
theorem qQG{n:Nat}(i:Nat)(h:i<(Dk.new n).last.length):(Dk.new n).ready (i:Int)=0∧(Dk.new n).read (i:Int)=zS:=by
 have hi:i<n:=by have:=h;unfold Dk.new at this;dsimp only at this;rwa [List.length_replicate] at this
 have h0:=qNl (n:=n) (i:=(i:Int)) (by omega) (by omega)
 exact⟨h0,by rw [qSQ h0];exact qSt hi⟩
theorem qNH{turn num:UInt64}{s:List UInt8}{n:Nat}(ht:turn.toNat<2^(8*4))(hn:num.toNat<2^(8*2))(h:n≤24): ∀i,i<n→((prt turn num s n i).text).length≤64:=λi hi=>by rw [Prt.text_len (qNI ht hn h hi)];exact Nat.le_refl _
end Go.Proofs.YtllnfioplpipiaaGreatDoor
namespace Go.Proofs.YtllnfioplpipiaaGreatDoor
set_option maxRecDepth 100000
set_option maxHeartbeats 1000000
namespace SN
def qBE{α:Type}(n:Nat)(g:Nat→α):α:=Nat.rec (g 0) (λm _=>g (Nat.succ m)) n
theorem qBO{α:Type}(n:Nat)(g:Nat→α):qBE n g=g n:=by cases n<;>rfl
noncomputable def forceL{α:Type}(l:List Nat):(List Nat→α)→α:=List.rec (λg=>g []) (λa _ ih g=>qBE a λx=>ih λr=>g (x::r)) l
theorem qFi{α:Type}: ∀(l:List Nat) (g:List Nat→α),forceL l g=g l
 | [],_=>rfl
 |a::l,g=>by
  show qBE a (λx=>forceL l λr=>g (x::r))=g (a::l)
  rw [qBO,qFi l]
def rot(x r q:Nat):Nat:=x/r+x%r*q
noncomputable def sch(n:Nat):Nat→Nat→Nat→Nat→Nat→Nat→Nat→Nat→Nat→Nat→Nat→Nat→Nat→Nat→Nat→Nat→List Nat:=
 Nat.rec (λa b c d e f g h i j k l m n o p=> [a,b,c,d,e,f,g,h,i,j,k,l,m,n,o,p])
  (λ_ ih a b c d e f g h i j k l m n o p=>a::qBE ((a+Nat.xor (Nat.xor (rot b 128 33554432) (rot b 262144 16384)) (b/8)+j+Nat.xor (Nat.xor (rot o 131072 32768) (rot o 524288 8192)) (o/1024))%4294967296) λx=>ih b c d e f g h i j k l m n o p x) n
noncomputable def rds(kw:List Nat):List Nat→Nat→Nat→Nat→Nat→Nat→Nat→Nat→Nat→List Nat:=
 List.rec (λ_ a b c d e f g h=> [a,b,c,d,e,f,g,h])
  (λk _ ih ws a b c d e f g h=>List.rec [] (λw ws _=>
   qBE ((h+Nat.xor (Nat.xor (rot e 64 67108864) (rot e 2048 2097152)) (rot e 33554432 128)+Nat.xor (Nat.land e f) (Nat.land (4294967295-e) g)+k+w)%4294967296) λt1=>
   qBE ((t1+(Nat.xor (Nat.xor (rot a 4 1073741824) (rot a 8192 524288)) (rot a 4194304 1024)+Nat.xor (Nat.xor (Nat.land a b) (Nat.land a c)) (Nat.land b c)))%4294967296) λx=>
   qBE ((d+t1)%4294967296) λy=>ih ws x a b c y e f g) ws) kw
theorem qPp(k w:Nat)(ks ws:List Nat)(a b c d e f g h:Nat):rds (k::ks) (w::ws) a b c d e f g h=
      qBE ((h+Nat.xor (Nat.xor (rot e 64 67108864) (rot e 2048 2097152)) (rot e 33554432 128)+Nat.xor (Nat.land e f) (Nat.land (4294967295-e) g)+k+w)%4294967296) λt1=>
      qBE ((t1+(Nat.xor (Nat.xor (rot a 4 1073741824) (rot a 8192 524288)) (rot a 4194304 1024)+Nat.xor (Nat.xor (Nat.land a b) (Nat.land a c)) (Nat.land b c)))%4294967296) λx=>
      qBE ((d+t1)%4294967296) λy=>rds ks ws x a b c y e f g:=rfl
theorem qPd(n' a b c d e f g h i j k l m n o p:Nat):sch (n'+1) a b c d e f g h i j k l m n o p=a::qBE ((a+Nat.xor (Nat.xor (rot b 128 33554432) (rot b 262144 16384)) (b/8)+j+Nat.xor (Nat.xor (rot o 131072 32768) (rot o 524288 8192)) (o/1024))%4294967296) λx=>sch n' b c d e f g h i j k l m n o p x:=rfl
theorem qSS(ws:List Nat)(a b c d e f g h:Nat):rds [] ws a b c d e f g h= [a,b,c,d,e,f,g,h]:=rfl
theorem qPc(a b c d e f g h i j k l m n o p:Nat):sch 0 a b c d e f g h i j k l m n o p= [a,b,c,d,e,f,g,h,i,j,k,l,m,n,o,p]:=rfl
attribute [local irreducible] rds sch
theorem qDQ(x:UInt32)(r:Nat)(h1:1≤r)(h2:r<32):rot x.toNat (2^r) (4294967296/2^r)=(Sha.rotr x r).toNat:=(R3.rotr_nat x r h1 h2).symm
theorem qCp(a b:UInt32):Nat.xor a.toNat b.toNat=(a^^^b).toNat:=(UInt32.toNat_xor a b).symm
theorem qJB(a b:UInt32):Nat.land a.toNat b.toNat=(a&&&b).toNat:=(UInt32.toNat_and a b).symm
theorem qUJ(a:UInt32):4294967295-a.toNat=(~~~ a).toNat:=by simp
theorem qPr(k w:UInt32)(ks ws:List Nat)(s:Sha.St8):rds (k.toNat::ks) (w.toNat::ws) s.a.toNat s.b.toNat s.c.toNat s.d.toNat s.e.toNat s.f.toNat s.g.toNat s.h.toNat=
    rds ks ws (Sha.rnd w k s).a.toNat (Sha.rnd w k s).b.toNat (Sha.rnd w k s).c.toNat (Sha.rnd w k s).d.toNat (Sha.rnd w k s).e.toNat (Sha.rnd w k s).f.toNat (Sha.rnd w k s).g.toNat (Sha.rnd w k s).h.toNat:=by
  obtain ⟨S1,hS1⟩: ∃x,x=Sha.rotr s.e 6^^^Sha.rotr s.e 11^^^Sha.rotr s.e 25:=⟨_,rfl⟩
  obtain ⟨CH,hCH⟩: ∃x,x=s.e&&&s.f^^^ ~~~ s.e&&&s.g:=⟨_,rfl⟩
  obtain ⟨T1,hT1⟩: ∃x,x=s.h+S1+CH+k+w:=⟨_,rfl⟩
  obtain ⟨S0,hS0⟩: ∃x,x=Sha.rotr s.a 2^^^Sha.rotr s.a 13^^^Sha.rotr s.a 22:=⟨_,rfl⟩
  obtain ⟨MJ,hMJ⟩: ∃x,x=s.a&&&s.b^^^s.a&&&s.c^^^s.b&&&s.c:=⟨_,rfl⟩
  have hrn:Sha.rnd w k s=⟨T1+(S0+MJ),s.a,s.b,s.c,s.d+T1,s.e,s.f,s.g⟩:=by rw [hT1,hS0,hMJ,hS1,hCH];rfl
  have e1:Nat.xor (Nat.xor (rot s.e.toNat 64 67108864) (rot s.e.toNat 2048 2097152)) (rot s.e.toNat 33554432 128)=S1.toNat:=by
    rw [show rot s.e.toNat 64 67108864=_ from qDQ s.e 6 (by decide) (by decide),show rot s.e.toNat 2048 2097152=_ from qDQ s.e 11 (by decide) (by decide),show rot s.e.toNat 33554432 128=_ from qDQ s.e 25 (by decide) (by decide),qCp,qCp,←hS1]
  have e2:Nat.xor (Nat.land s.e.toNat s.f.toNat) (Nat.land (4294967295-s.e.toNat) s.g.toNat)=CH.toNat:=by rw [qUJ,qJB,qJB,qCp,←hCH]
  have e3:Nat.xor (Nat.xor (rot s.a.toNat 4 1073741824) (rot s.a.toNat 8192 524288)) (rot s.a.toNat 4194304 1024)=S0.toNat:=by
    rw [show rot s.a.toNat 4 1073741824=_ from qDQ s.a 2 (by decide) (by decide),show rot s.a.toNat 8192 524288=_ from qDQ s.a 13 (by decide) (by decide),show rot s.a.toNat 4194304 1024=_ from qDQ s.a 22 (by decide) (by decide),qCp,qCp,←hS0]
  have e4:Nat.xor (Nat.xor (Nat.land s.a.toNat s.b.toNat) (Nat.land s.a.toNat s.c.toNat)) (Nat.land s.b.toNat s.c.toNat)=MJ.toNat:=by rw [qJB,qJB,qJB,qCp,qCp,←hMJ]
  have t1:(s.h.toNat+S1.toNat+CH.toNat+k.toNat+w.toNat)%4294967296=T1.toNat:=by rw [hT1];simp only [UInt32.toNat_add];omega
  have t2:(T1.toNat+(S0.toNat+MJ.toNat))%4294967296=(T1+(S0+MJ)).toNat:=by simp only [UInt32.toNat_add];omega
  have t3:(s.d.toNat+T1.toNat)%4294967296=(s.d+T1).toNat:=by simp only [UInt32.toNat_add]
  rw [hrn,qPp,qBO,e1,e2,t1,qBO,e3,e4,t2,qBO,t3]
def qTM(ks ws:List UInt32)(s:Sha.St8):Sha.St8:=(ks.zip ws).foldl (λs kw=>Sha.rnd kw.2 kw.1 s) s
theorem qIp(k w:UInt32)(ks ws:List UInt32)(s:Sha.St8):qTM (k::ks) (w::ws) s=qTM ks ws (Sha.rnd w k s):=by unfold qTM;rw [List.zip_cons_cons,List.foldl_cons]
theorem qLE(ws:List UInt32)(s:Sha.St8):qTM [] ws s=s:=by unfold qTM;rw [List.zip_nil_left,List.foldl_nil]
theorem qPq(ks:List UInt32): ∀(ws:List UInt32) (s:Sha.St8),ks.length=ws.length→rds (ks.map UInt32.toNat) (ws.map UInt32.toNat) s.a.toNat s.b.toNat s.c.toNat s.d.toNat s.e.toNat s.f.toNat s.g.toNat s.h.toNat=(qTM ks ws s).list.map UInt32.toNat:=by
 induction ks with
 |nil=>
  intro ws s h
  cases ws with
  |nil=>rw [List.map_nil,qSS,qLE,Sha.St8.list];rfl
  |cons _ _=>cases h
 |cons k ks ih=>
  intro ws s h
  cases ws with
  |nil=>cases h
  |cons w ws=>
   rw [List.map_cons,List.map_cons,qPr k w (ks.map UInt32.toNat) (ws.map UInt32.toNat) s,qIp,ih ws (Sha.rnd w k s) (by simpa using h)]
theorem qIo(ws:List UInt32)(s:Sha.St8)(hw:ws.length=64): ∀m i,i+m=64→qTM (Sha.K.drop i) (ws.drop i) (Sha.rnds ws s i)=Sha.rnds ws s 64
 |0,i,h=>by
  obtain rfl:i=64:=by omega
  rw [List.drop_of_length_le (l:=ws) (by omega),List.drop_of_length_le (l:=Sha.K) (Nat.le_refl 64),qLE]
 |m+1,i,h=>by
  have h1:i<Sha.K.length:=by show i<64;omega
  have h2:i<ws.length:=by omega
  rw [List.drop_eq_getElem_cons h1,List.drop_eq_getElem_cons h2,qIp]
  have e:Sha.rnd ws[i] Sha.K[i] (Sha.rnds ws s i)=Sha.rnds ws s (i+1):=by
   rw [Sha.rnds,List.getD_eq_getElem?_getD,List.getD_eq_getElem?_getD,List.getElem?_eq_getElem h1,List.getElem?_eq_getElem h2];rfl
  rw [e]
  exact qIo ws s hw m (i+1) (by omega)
theorem qGd(l:List UInt32): ∀n,Sha.exts (n+1) l=Sha.exts n (Sha.ext l)
 |0=>rfl
 |n+1=>by rw [Sha.exts,qGd l n];rfl
theorem qEt(p l:List UInt32)(k:Nat):(p++l).getD (p.length+k) 0=l.getD k 0:=by
 rw [List.getD_eq_getElem?_getD,List.getElem?_append_right (by omega),Nat.add_sub_cancel_left,←List.getD_eq_getElem?_getD]
theorem qT6(b:UInt32):Nat.xor (Nat.xor (rot b.toNat 128 33554432) (rot b.toNat 262144 16384)) (b.toNat/8)=(Sha.sg0 b).toNat:=by
 have h1:rot b.toNat 128 33554432=(Sha.rotr b 7).toNat:=qDQ b 7 (by decide) (by decide)
 have h2:rot b.toNat 262144 16384=(Sha.rotr b 18).toNat:=qDQ b 18 (by decide) (by decide)
 have h3:b.toNat/8=(Sha.shr b 3).toNat:=(R3.shr_nat b 3 (by decide)).symm
 rw [h1,h2,h3,qCp,qCp];unfold Sha.sg0;rfl
theorem qT5(b:UInt32):Nat.xor (Nat.xor (rot b.toNat 131072 32768) (rot b.toNat 524288 8192)) (b.toNat/1024)=(Sha.sg1 b).toNat:=by
 have h1:rot b.toNat 131072 32768=(Sha.rotr b 17).toNat:=qDQ b 17 (by decide) (by decide)
 have h2:rot b.toNat 524288 8192=(Sha.rotr b 19).toNat:=qDQ b 19 (by decide) (by decide)
 have h3:b.toNat/1024=(Sha.shr b 10).toNat:=(R3.shr_nat b 10 (by decide)).symm
 rw [h1,h2,h3,qCp,qCp];unfold Sha.sg1;rfl
theorem qUY(q:List UInt32)(a b c d e f g h i j k l m n' o p:UInt32):Sha.ext (q++ [a,b,c,d,e,f,g,h,i,j,k,l,m,n',o,p])=(q++ [a])++ [b,c,d,e,f,g,h,i,j,k,l,m,n',o,p,a+Sha.sg0 b+j+Sha.sg1 o]:=by
 have hlen:(q++ [a,b,c,d,e,f,g,h,i,j,k,l,m,n',o,p]).length=q.length+16:=by rw [List.length_append];rfl
 unfold Sha.ext
 have g0:(q++ [a,b,c,d,e,f,g,h,i,j,k,l,m,n',o,p]).getD (q.length+0) 0=a:=qEt q [a,b,c,d,e,f,g,h,i,j,k,l,m,n',o,p] 0
 have g1:(q++ [a,b,c,d,e,f,g,h,i,j,k,l,m,n',o,p]).getD (q.length+1) 0=b:=qEt q [a,b,c,d,e,f,g,h,i,j,k,l,m,n',o,p] 1
 have g9:(q++ [a,b,c,d,e,f,g,h,i,j,k,l,m,n',o,p]).getD (q.length+9) 0=j:=qEt q [a,b,c,d,e,f,g,h,i,j,k,l,m,n',o,p] 9
 have g14:(q++ [a,b,c,d,e,f,g,h,i,j,k,l,m,n',o,p]).getD (q.length+14) 0=o:=qEt q [a,b,c,d,e,f,g,h,i,j,k,l,m,n',o,p] 14
 rw [hlen,show q.length+16-16=q.length+0 by omega,show q.length+16-15=q.length+1 by omega,show q.length+16-7=q.length+9 by omega,show q.length+16-2=q.length+14 by omega,g0,g1,g9,g14]
 generalize a+Sha.sg0 b+j+Sha.sg1 o=x
 simp only [List.append_assoc,List.cons_append,List.nil_append]
theorem qSD(a b j o:UInt32):(a.toNat+(Sha.sg0 b).toNat+j.toNat+(Sha.sg1 o).toNat)%4294967296=(a+Sha.sg0 b+j+Sha.sg1 o).toNat:=by
 generalize Sha.sg0 b=x
 generalize Sha.sg1 o=y
 simp only [UInt32.toNat_add];omega
theorem qPe(n:Nat): ∀(q:List UInt32) (a b c d e f g h i j k l m n' o p:UInt32),(Sha.exts n (q++ [a,b,c,d,e,f,g,h,i,j,k,l,m,n',o,p])).map UInt32.toNat=q.map UInt32.toNat++sch n a.toNat b.toNat c.toNat d.toNat e.toNat f.toNat g.toNat h.toNat i.toNat j.toNat k.toNat l.toNat m.toNat n'.toNat o.toNat p.toNat:=by
 induction n with
 |zero=>intro q a b c d e f g h i j k l m n' o p;rw [Sha.exts,List.map_append,qPc];rfl
 |succ n ih=>
  intro q a b c d e f g h i j k l m n' o p
  rw [qGd,qUY,ih (q++ [a]),qPd,qBO,qT6,qT5,qSD]
  generalize sch n b.toNat c.toNat d.toNat e.toNat f.toNat g.toNat h.toNat i.toNat j.toNat k.toNat l.toNat m.toNat n'.toNat o.toNat p.toNat _=z
  simp only [List.map_append,List.append_assoc,List.map_cons,List.map_nil,List.cons_append,List.nil_append]
def w4(l:List Nat):Nat:=((l.getD 0 0*256+l.getD 1 0)*256+l.getD 2 0)*256+l.getD 3 0
theorem qQh(l:List UInt8)(i:Nat):(l.map UInt8.toNat).getD i 0=(l.getD i 0).toNat:=by
 rw [List.getD_eq_getElem?_getD,List.getD_eq_getElem?_getD,List.getElem?_map]
 cases l[i]?<;>rfl
theorem w4_eq(l:List UInt8)(i:Nat):w4 ((l.map UInt8.toNat).drop (4*i))=(Sha.word l i).toNat:=by
 have hg: ∀k,(((l.map UInt8.toNat).drop (4*i)).getD k 0)=(l.getD (4*i+k) 0).toNat:=λk=>by
  rw [List.getD_eq_getElem?_getD,List.getElem?_drop,←List.getD_eq_getElem?_getD,qQh]
 unfold w4 Sha.word
 rw [hg,hg,hg,hg,R3.be32_nat,Nat.add_zero]
 omega
noncomputable def mixN(ks:List Nat)(b:List Nat)(A B C D E F G H:Nat):List Nat:=
 qBE (w4 b) λa0=>qBE (w4 (b.drop 4)) λa1=>qBE (w4 (b.drop 8)) λa2=>qBE (w4 (b.drop 12)) λa3=>
 qBE (w4 (b.drop 16)) λa4=>qBE (w4 (b.drop 20)) λa5=>qBE (w4 (b.drop 24)) λa6=>qBE (w4 (b.drop 28)) λa7=>
 qBE (w4 (b.drop 32)) λa8=>qBE (w4 (b.drop 36)) λa9=>qBE (w4 (b.drop 40)) λa10=>qBE (w4 (b.drop 44)) λa11=>
 qBE (w4 (b.drop 48)) λa12=>qBE (w4 (b.drop 52)) λa13=>qBE (w4 (b.drop 56)) λa14=>qBE (w4 (b.drop 60)) λa15=>
 rds ks (sch 48 a0 a1 a2 a3 a4 a5 a6 a7 a8 a9 a10 a11 a12 a13 a14 a15) A B C D E F G H
def KN:List Nat:= [1116352408,1899447441,3049323471,3921009573,961987163,1508970993,2453635748,2870763221,3624381080,310598401,607225278,1426881987,1925078388,2162078206,2614888103,3248222580,3835390401,4022224774,264347078,604807628,770255983,1249150122,1555081692,1996064986,2554220882,2821834349,2952996808,3210313671,3336571891,3584528711,113926993,338241895,666307205,773529912,1294757372,1396182291,1695183700,1986661051,2177026350,2456956037,2730485921,2820302411,3259730800,3345764771,3516065817,3600352804,4094571909,275423344,430227734,506948616,659060556,883997877,958139571,1322822218,1537002063,1747873779,1955562222,2024104815,2227730452,2361852424,2428436474,2756734187,3204031479,3329325298]
theorem KN_eq:KN=Sha.K.map UInt32.toNat:=by decide+kernel
theorem qSz(b:List UInt8)(s:Sha.St8):mixN KN (b.map UInt8.toNat) s.a.toNat s.b.toNat s.c.toNat s.d.toNat s.e.toNat s.f.toNat s.g.toNat s.h.toNat=(Sha.rnds (Sha.sched b) s 64).list.map UInt32.toNat:=by
 have hw:=λi=>w4_eq b i
 have h0:=hw 0;have h1:=hw 1;have h2:=hw 2;have h3:=hw 3;have h4:=hw 4;have h5:=hw 5;have h6:=hw 6;have h7:=hw 7
 have h8:=hw 8;have h9:=hw 9;have h10:=hw 10;have h11:=hw 11;have h12:=hw 12;have h13:=hw 13;have h14:=hw 14;have h15:=hw 15
 simp only [Nat.reduceMul,Nat.mul_zero,List.drop_zero] at h0 h1 h2 h3 h4 h5 h6 h7 h8 h9 h10 h11 h12 h13 h14 h15
 unfold mixN
 simp only [qBO]
 rw [h0,h1,h2,h3,h4,h5,h6,h7,h8,h9,h10,h11,h12,h13,h14,h15]
 have hs:=qPe 48 [] (Sha.word b 0) (Sha.word b 1) (Sha.word b 2) (Sha.word b 3) (Sha.word b 4) (Sha.word b 5) (Sha.word b 6) (Sha.word b 7) (Sha.word b 8) (Sha.word b 9) (Sha.word b 10) (Sha.word b 11) (Sha.word b 12) (Sha.word b 13) (Sha.word b 14) (Sha.word b 15)
 have hf: []++ [Sha.word b 0,Sha.word b 1,Sha.word b 2,Sha.word b 3,Sha.word b 4,Sha.word b 5,Sha.word b 6,Sha.word b 7,Sha.word b 8,Sha.word b 9,Sha.word b 10,Sha.word b 11,Sha.word b 12,Sha.word b 13,Sha.word b 14,Sha.word b 15]=Sha.firsts b 16:=rfl
 rw [hf,List.map_nil,List.nil_append] at hs
 rw [←hs,show Sha.exts 48 (Sha.firsts b 16)=Sha.sched b from rfl,KN_eq,qPq _ _ _ (by rw [Sha.sched_length];rfl)]
 have:=qIo (Sha.sched b) s (Sha.sched_length b) 64 0 rfl
 rw [List.drop_zero,List.drop_zero] at this
 rw [show Sha.rnds (Sha.sched b) s 0=s from rfl] at this
 rw [this]
noncomputable def blocks(n:Nat):List Nat→Nat→Nat→Nat→Nat→Nat→Nat→Nat→Nat→List Nat:=
 Nat.rec (λ_ a b c d e f g h=> [a,b,c,d,e,f,g,h])
  (λ_ ih p a b c d e f g h=>forceL (mixN KN p a b c d e f g h) λr=>
   qBE ((a+r.getD 0 0)%4294967296) λa'=>qBE ((b+r.getD 1 0)%4294967296) λb'=>qBE ((c+r.getD 2 0)%4294967296) λc'=>qBE ((d+r.getD 3 0)%4294967296) λd'=>
   qBE ((e+r.getD 4 0)%4294967296) λe'=>qBE ((f+r.getD 5 0)%4294967296) λf'=>qBE ((g+r.getD 6 0)%4294967296) λg'=>qBE ((h+r.getD 7 0)%4294967296) λh'=>
   ih (p.drop 64) a' b' c' d' e' f' g' h') n
theorem qGW(s:Sha.St8)(p:List UInt8): ∀k,Sha.mixes s p (k+1)=Sha.mixes (Sha.mix s p) (p.drop 64) k
 |0=>by rw [Sha.mixes,Sha.mixes,Sha.mixes,Nat.mul_zero,List.drop_zero]
 |k+1=>by
  rw [Sha.mixes,qGW s p k,Sha.mixes,List.drop_drop]
  congr 2
  omega
theorem qKE(n:Nat)(p:List Nat)(a b c d e f g h:Nat):blocks (n+1) p a b c d e f g h=forceL (mixN KN p a b c d e f g h) λr=>qBE ((a+r.getD 0 0)%4294967296) λa'=>qBE ((b+r.getD 1 0)%4294967296) λb'=>qBE ((c+r.getD 2 0)%4294967296) λc'=>qBE ((d+r.getD 3 0)%4294967296) λd'=>qBE ((e+r.getD 4 0)%4294967296) λe'=>qBE ((f+r.getD 5 0)%4294967296) λf'=>qBE ((g+r.getD 6 0)%4294967296) λg'=>qBE ((h+r.getD 7 0)%4294967296) λh'=>blocks n (p.drop 64) a' b' c' d' e' f' g' h':=rfl
theorem qKD(p:List Nat)(a b c d e f g h:Nat):blocks 0 p a b c d e f g h= [a,b,c,d,e,f,g,h]:=rfl
attribute [local irreducible] blocks mixN KN
theorem qCY(x y:UInt32):(x.toNat+y.toNat)%4294967296=(x+y).toNat:=by simp only [UInt32.toNat_add]
theorem g0(r:Sha.St8):(r.list.map UInt32.toNat).getD 0 0=r.a.toNat:=rfl
theorem f0(s r:Sha.St8):(s.add r).a=s.a+r.a:=rfl
theorem g1(r:Sha.St8):(r.list.map UInt32.toNat).getD 1 0=r.b.toNat:=rfl
theorem f1(s r:Sha.St8):(s.add r).b=s.b+r.b:=rfl
theorem g2(r:Sha.St8):(r.list.map UInt32.toNat).getD 2 0=r.c.toNat:=rfl
theorem f2(s r:Sha.St8):(s.add r).c=s.c+r.c:=rfl
theorem g3(r:Sha.St8):(r.list.map UInt32.toNat).getD 3 0=r.d.toNat:=rfl
theorem f3(s r:Sha.St8):(s.add r).d=s.d+r.d:=rfl
theorem g4(r:Sha.St8):(r.list.map UInt32.toNat).getD 4 0=r.e.toNat:=rfl
theorem f4(s r:Sha.St8):(s.add r).e=s.e+r.e:=rfl
theorem g5(r:Sha.St8):(r.list.map UInt32.toNat).getD 5 0=r.f.toNat:=rfl
theorem f5(s r:Sha.St8):(s.add r).f=s.f+r.f:=rfl
theorem g6(r:Sha.St8):(r.list.map UInt32.toNat).getD 6 0=r.g.toNat:=rfl
theorem f6(s r:Sha.St8):(s.add r).g=s.g+r.g:=rfl
theorem g7(r:Sha.St8):(r.list.map UInt32.toNat).getD 7 0=r.h.toNat:=rfl
theorem f7(s r:Sha.St8):(s.add r).h=s.h+r.h:=rfl
theorem qOk(n:Nat): ∀(p:List UInt8) (s:Sha.St8),blocks n (p.map UInt8.toNat) s.a.toNat s.b.toNat s.c.toNat s.d.toNat s.e.toNat s.f.toNat s.g.toNat s.h.toNat=(Sha.mixes s p n).list.map UInt32.toNat:=by
 induction n with
 |zero=>intro p s;rw [qKD,Sha.mixes];rfl
 |succ n ih=>
  intro p s
  have hm:=qSz p s
  generalize hr:Sha.rnds (Sha.sched p) s 64=r at hm
  have hmx:Sha.mix s p=s.add r:=by unfold Sha.mix;rw [hr]
  have hi:=ih (p.drop 64) (s.add r)
  rw [qGW,hmx,←hi,qKE,qFi,hm,qBO,qBO,qBO,qBO,qBO,qBO,qBO,qBO]
  have h0:(s.a.toNat+(r.list.map UInt32.toNat).getD 0 0)%4294967296=(s.add r).a.toNat:=by rw [g0,f0,qCY]
  have h1:(s.b.toNat+(r.list.map UInt32.toNat).getD 1 0)%4294967296=(s.add r).b.toNat:=by rw [g1,f1,qCY]
  have h2:(s.c.toNat+(r.list.map UInt32.toNat).getD 2 0)%4294967296=(s.add r).c.toNat:=by rw [g2,f2,qCY]
  have h3:(s.d.toNat+(r.list.map UInt32.toNat).getD 3 0)%4294967296=(s.add r).d.toNat:=by rw [g3,f3,qCY]
  have h4:(s.e.toNat+(r.list.map UInt32.toNat).getD 4 0)%4294967296=(s.add r).e.toNat:=by rw [g4,f4,qCY]
  have h5:(s.f.toNat+(r.list.map UInt32.toNat).getD 5 0)%4294967296=(s.add r).f.toNat:=by rw [g5,f5,qCY]
  have h6:(s.g.toNat+(r.list.map UInt32.toNat).getD 6 0)%4294967296=(s.add r).g.toNat:=by rw [g6,f6,qCY]
  have h7:(s.h.toNat+(r.list.map UInt32.toNat).getD 7 0)%4294967296=(s.add r).h.toNat:=by rw [g7,f7,qCY]
  rw [List.map_drop,h0,h1,h2,h3,h4,h5,h6,h7]
def qDS(x:Nat):List Nat:= [x/16777216%256,x/65536%256,x/256%256,x%256]
theorem qI5(x:Nat)(h:x<18446744073709551616):qDS x=(Sha.numB (UInt64.ofNat x) 4).map UInt8.toNat:=by
 rw [R3.four_nat x h]
 simp [qDS,UInt8.toNat_ofNat']
noncomputable def padN(l:List Nat):List Nat:=l++128::List.replicate ((119-l.length%64)%64) 0++(qDS (8*l.length/4294967296)++qDS (8*l.length))
theorem qSa(l:List UInt8)(h:l.length<1152921504606846976):padN (l.map UInt8.toNat)=(Sha.pad l).map UInt8.toNat:=by
 unfold padN Sha.pad
 simp only [List.map_append,List.length_map,List.map_replicate,List.map_cons,List.map_nil,List.append_assoc,List.cons_append,List.nil_append]
 have e:(8*UInt64.ofNat l.length).toNat=8*l.length:=by
  rw [UInt64.toNat_mul,UInt64.toNat_ofNat',Nat.mod_eq_of_lt (show l.length<2^64 by omega)]
  exact Nat.mod_eq_of_lt (by show 8*l.length<18446744073709551616;omega)
 have h8:(Sha.numB (8*UInt64.ofNat l.length) 8).map UInt8.toNat=qDS (8*l.length/4294967296)++qDS (8*l.length):=by
  unfold Sha.numB
  rw [e]
  simp [List.range_succ,R3.u8_of64,qDS,UInt8.toNat_ofNat',Nat.div_div_eq_div_mul]
 rw [h8]
 rfl
noncomputable def sumN(l:List Nat):List Nat:=forceL (padN l) λp=>(blocks (p.length/64) p 1779033703 3144134277 1013904242 2773480762 1359893119 2600822924 528734635 1541459225).flatMap qDS
theorem qR1(l:List UInt8)(h:l.length<1152921504606846976):sumN (l.map UInt8.toNat)=(Sha.sum l).map UInt8.toNat:=by
 unfold sumN
 rw [qFi,qSa l h,List.length_map]
 have hb:=qOk ((Sha.pad l).length/64) (Sha.pad l) Sha.init
 rw [show blocks ((Sha.pad l).length/64) ((Sha.pad l).map UInt8.toNat) 1779033703 3144134277 1013904242 2773480762 1359893119 2600822924 528734635 1541459225=_ from hb]
 unfold Sha.sum Sha.out
 generalize (Sha.mixes Sha.init (Sha.pad l) ((Sha.pad l).length/64)).list=L
 induction L with
 |nil=>rfl
 |cons x L ih=>
  rw [List.map_cons,List.flatMap_cons,List.flatMap_cons,List.map_append,ih,qI5 _ (by have:=x.toNat_lt;omega)]
  congr 2
  rw [show x.toUInt64=UInt64.ofNat x.toNat from by apply UInt64.toNat_inj.1;simp]
noncomputable def tagN(tag:Nat)(ls:List (List Nat)):List Nat:=(sumN (tag::ls.flatMap λs=>qDS s.length++s)).take 16
theorem tagN_eq(tag:UInt8)(ls:List (List UInt8))(h:ls.flatten.length+4*ls.length<1152921504606846975):tagN tag.toNat (ls.map (List.map UInt8.toNat))=(Sha.tagged tag ls).map UInt8.toNat:=by
 unfold tagN Sha.tagged
 have e:tag.toNat::(ls.map (List.map UInt8.toNat)).flatMap (λs=>qDS s.length++s)=(Sha.tagB tag ls).map UInt8.toNat:=by
  unfold Sha.tagB
  simp only [List.map_append,List.map_cons,List.map_nil,List.cons_append,List.nil_append]
  congr 1
  induction ls with
  |nil=>rfl
  |cons a l ih=>
   simp only [List.flatten_cons,List.length_append,List.length_cons] at h
   rw [List.map_cons,List.flatMap_cons,List.flatMap_cons,List.map_append,List.map_append,List.length_map,ih (by omega),qI5 _ (by omega)]
 rw [e,qR1 _ (by rw [Sha.tagB_length];omega),List.map_take]
end SN
end Go.Proofs.YtllnfioplpipiaaGreatDoor
namespace Go.Proofs.YtllnfioplpipiaaGreatDoor
set_option maxRecDepth 100000
set_option maxHeartbeats 1000000
def qIO:List (List Nat):= [[105,72,128,237,61,5,50,182,223,75,24,94,147,245,19,39],
 [88,245,185,155,41,107,180,138,125,166,83,171,115,216,18,165],
 [93,80,203,230,14,126,127,19,21,244,174,144,89,226,94,228],
 [148,10,18,170,77,162,171,186,8,98,48,154,194,169,63,108],
 [236,85,91,97,199,175,137,90,50,65,185,193,130,224,18,81],
 [79,166,20,31,51,117,145,24,240,79,98,79,106,240,3,239],
 [238,121,90,181,53,208,204,57,93,94,55,236,103,150,52,189],
 [206,246,68,71,242,240,44,227,11,163,124,42,109,136,184,223],
 [102,153,141,118,18,20,90,81,197,162,183,200,132,241,168,231],
 [105,185,227,83,69,124,42,97,92,121,35,66,28,255,32,8],
 [63,79,253,228,120,212,65,1,74,138,77,92,45,83,29,6],
 [6,68,43,83,187,176,175,5,40,111,126,28,241,42,58,162],
 [84,209,206,161,181,40,188,84,7,18,199,241,13,30,46,161],
 [176,37,113,44,248,46,217,3,30,200,199,117,42,191,130,40],
 [31,198,219,239,77,143,38,133,43,141,86,40,35,16,12,192]]
attribute [local irreducible] SN.tagN Sha.tagged
theorem qNP:(List.range 15).map (λi=>SN.tagN 15 [[0,i]])=qIO:=by decide+kernel
def qB3(n:Nat):List UInt8:=Sha.tagged 15 [[UInt8.ofNat (n/256),UInt8.ofNat n]]
theorem qEF(n:Nat):(qB3 n).length=16:=Sha.tagged_length _ _
theorem qEE{i:Nat}(hi:i<15):(qB3 i).map UInt8.toNat=qIO.getD i []:=by
 have h:=SN.tagN_eq 15 [[UInt8.ofNat (i/256),UInt8.ofNat i]] (by simp)
 have h2:SN.tagN 15 [[0,i]]=(qB3 i).map UInt8.toNat:=by
  rw [←qB3] at h
  rw [←h]
  have e1:(UInt8.ofNat (i/256)).toNat=0:=by rw [show i/256=0 by omega];rfl
  have e2:(UInt8.ofNat i).toNat=i:=by rw [UInt8.toNat_ofNat'];omega
  show SN.tagN 15 [[0,i]]=SN.tagN 15 [[(UInt8.ofNat (i/256)).toNat,(UInt8.ofNat i).toNat]]
  rw [e1,e2]
 rw [←h2,←qNP,List.getD_eq_getElem?_getD,List.getElem?_map,List.getElem?_range hi];rfl
theorem qNO: ∀i j:Fin 15,i≠j→qIO.getD i.val []≠qIO.getD j.val []:=by decide+kernel
theorem qNQ{i j:Nat}(hi:i<15)(hj:j<15)(h:i≠j):qB3 i≠qB3 j:=λe=>
 qNO ⟨i,hi⟩ ⟨j,hj⟩ (λq=>h (congrArg Fin.val q)) (by rw [←qEE hi,←qEE hj,e])
end Go.Proofs.YtllnfioplpipiaaGreatDoor
