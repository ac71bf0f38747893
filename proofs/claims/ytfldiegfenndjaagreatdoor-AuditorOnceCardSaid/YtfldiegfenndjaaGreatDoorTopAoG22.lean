/- A part of the proof. -/
import Derived.Test.YtfldiegfenndjaaGreatDoorTopAoG21
import Derived.Test.YtfldiegfenndjaaGreatDoorTopAoG18
import Derived.Test.YtfldiegfenndjaaGreatDoorTopAoG8
set_option linter.unusedSimpArgs false
set_option linter.unusedVariables false
namespace Go.Proofs.YtfldiegfenndjaaGreatDoor
open Go Go.Fw Go.Proofs.Tryz
set_option maxRecDepth 100000
set_option maxHeartbeats 1000000
theorem qFs(a b:List UInt8){n:Nat}(h:a.length=n):(⟨a++b,0⟩:RS).out n=a∧(⟨a++b,0⟩:RS).take n=⟨b,0⟩:=by
 subst h
 exact⟨by rw [qIg (by rw [jA];omega),zj rfl],by rw [qFl (by rw [jA];omega),List.drop_left' rfl]⟩
theorem qQz(x:UInt64)(t:Nat)(ht:t≤8)(h:x.toNat<256^t):qBk (Sha.numB x t)=x.toNat:=by
 have:=qES x.toNat x.toNat_lt t ht
 rw [UInt64.ofNat_toNat,ja h] at this
 exact this
theorem qK0(x t:Nat)(ht:t≤8)(h:x<256^t):qBk (Sha.numB (UInt64.ofNat x) t)=x:=by
 have h2:x<18446744073709551616:=jx h (jd (jg (by decide) ht) (by decide))
 rw [qES x h2 t ht,ja h]
theorem Prt.pad_eq(p:Prt):p.pad=Sha.numB p.turn 4++(Sha.numB p.num 2++(Sha.numB (UInt64.ofNat p.at_) 1++(Sha.numB (UInt64.ofNat p.all) 1++(Sha.numB (UInt64.ofNat p.con.length) 1++(p.name++(p.con++List.replicate (56-p.body.length) 0)))))):=by
 have e:p.body=Sha.numB p.turn 4++(Sha.numB p.num 2++(Sha.numB (UInt64.ofNat p.at_) 1++(Sha.numB (UInt64.ofNat p.all) 1++(Sha.numB (UInt64.ofNat p.con.length) 1++(p.name++p.con))))):=by
  unfold Prt.body Prt.b5 Prt.b4 Prt.b3 Prt.b2 Prt.b1;simp only [jT]
 unfold Prt.pad
 generalize List.replicate (56-p.body.length) (0:UInt8)=Z
 rw [e]
 simp only [jT]
theorem qPS{p:Prt}(h:p.ok)(h8:p.name.length=8){s:List UInt8}(hs:s.take 56=p.pad):rdp s=p:=by
 have hN: ∀(x:UInt64) (n:Nat),(Sha.numB x n).length=n:=Sha.numB_length
 have t0:R0 s=⟨p.pad,0⟩:=by unfold R0;rw [hs]
 rw [p.pad_eq] at t0
 have a0:=qFs (Sha.numB p.turn 4) (Sha.numB p.num 2++(Sha.numB (UInt64.ofNat p.at_) 1++(Sha.numB (UInt64.ofNat p.all) 1++(Sha.numB (UInt64.ofNat p.con.length) 1++(p.name++(p.con++List.replicate (56-p.body.length) 0)))))) (hN _ 4)
 have t1:=a0.2
 rw [←t0] at t1
 change R1 s=_ at t1
 have a1:=qFs (Sha.numB p.num 2) (Sha.numB (UInt64.ofNat p.at_) 1++(Sha.numB (UInt64.ofNat p.all) 1++(Sha.numB (UInt64.ofNat p.con.length) 1++(p.name++(p.con++List.replicate (56-p.body.length) 0))))) (hN _ 2)
 have t2:=a1.2
 rw [←t1] at t2
 change R2 s=_ at t2
 have a2:=qFs (Sha.numB (UInt64.ofNat p.at_) 1) (Sha.numB (UInt64.ofNat p.all) 1++(Sha.numB (UInt64.ofNat p.con.length) 1++(p.name++(p.con++List.replicate (56-p.body.length) 0)))) (hN _ 1)
 have t3:=a2.2
 rw [←t2] at t3
 change R3 s=_ at t3
 have a3:=qFs (Sha.numB (UInt64.ofNat p.all) 1) (Sha.numB (UInt64.ofNat p.con.length) 1++(p.name++(p.con++List.replicate (56-p.body.length) 0))) (hN _ 1)
 have t4:=a3.2
 rw [←t3] at t4
 change R4 s=_ at t4
 have a4:=qFs (Sha.numB (UInt64.ofNat p.con.length) 1) (p.name++(p.con++List.replicate (56-p.body.length) 0)) (hN _ 1)
 have t5:=a4.2
 rw [←t4] at t5
 change R5 s=_ at t5
 have a5:=qFs p.name (p.con++List.replicate (56-p.body.length) 0) h8
 have t6:=a5.2
 rw [←t5] at t6
 change R6 s=_ at t6
 have hc:=h.c
 have hcn:qRC s=p.con.length:=by
  unfold qRC
  rw [t4,a4.1,qK0 _ 1 (by decide) (by omega)];omega
 unfold rdp
 rw [hcn,t0,t1,t2,t3,t5,t6,a0.1,a1.1,a2.1,a3.1,a5.1,(qFs p.con _ rfl).1,qQz _ 4 (by decide) h.t,qQz _ 2 (by decide) h.n,qK0 _ 1 (by decide) h.a,qK0 _ 1 (by decide) h.l,UInt64.ofNat_toNat,UInt64.ofNat_toNat]
theorem qL2{p:Prt}(h:p.ok)(h8:p.name.length=8):qA8 p.text=(p,true):=by
 have e1:p.text.take 56=p.pad:=by unfold Prt.text;rw [zj (Prt.pad_len h)]
 have e2:p.text.drop 56=qGU p.pad:=by unfold Prt.text;rw [List.drop_left' (Prt.pad_len h)]
 unfold qA8
 rw [e1,e2,if_pos rfl,qPS h h8 e1,decide_eq_true rfl]
theorem qEM(s:List UInt8):(qA8 s).1.ok:=by
 unfold qA8
 split
 · exact qQn s
 · exact⟨by decide,by decide,by decide,by decide,by decide,by decide⟩
def qQm(p:Prt)(i:Nat)(y:Prt×Bool):Prop:=y.2=true∧y.1.at_=i∧y.1.turn.toNat=p.turn.toNat∧y.1.num.toNat=p.num.toNat∧y.1.all=p.all∧y.1.name=p.name
instance (p:Prt) (i:Nat) (y:Prt×Bool):Decidable (qQm p i y):=by unfold qQm;infer_instance
def qR3(turn:UInt64)(nr n:Nat)(y:Prt×Bool):Prop:=y.2=true∧y.1.at_=0∧y.1.turn.toNat≠0∧y.1.num.toNat=nr∧y.1.all≤n∧(0<nr→y.1.turn.toNat=turn.toNat)
instance (turn:UInt64) (nr n:Nat) (y:Prt×Bool):Decidable (qR3 turn nr n y):=by unfold qR3;infer_instance
def qFb(l:List (List UInt8)):Nat→List UInt8
 |0=> []
 |k+1=>qFb l k++(qA8 (l.getD k [])).1.con
theorem qFa(l:List (List UInt8)): ∀k,(qFb l k).length≤39*k
 |0=>jJ _
 |k+1=>by
  have h1:=qFa l k
  have h2:=(qEM (l.getD k [])).c
  rw [qFb,jA];omega
structure RecR where
 turn:UInt64
 text:List UInt8
 n:Nat
 ok:Bool
def qMB:RecR:=⟨0,[],0,false⟩
def qBt(turn:UInt64)(nr:Nat)(l:List (List UInt8)):RecR:=
 if qR3 turn nr l.length (qA8 (l.getD 0 []))∧(∀i<(qA8 (l.getD 0 [])).1.all,qQm (qA8 (l.getD 0 [])).1 i (qA8 (l.getD i []))) then
  ⟨(qA8 (l.getD 0 [])).1.turn,qFb l (qA8 (l.getD 0 [])).1.all,(qA8 (l.getD 0 [])).1.all,decide ((qA8 (l.getD 0 [])).1.all=qAx (qFb l (qA8 (l.getD 0 [])).1.all).length∧(qA8 (l.getD 0 [])).1.name=qB7 (qA8 (l.getD 0 [])).1.turn (qA8 (l.getD 0 [])).1.num (qFb l (qA8 (l.getD 0 [])).1.all))⟩
 else qMB
theorem qGs{turn:UInt64}{nr:Nat}{l:List (List UInt8)}{p:Prt}{ok:Bool}(hp:qA8 (l.getD 0 [])=(p,ok))(h: ¬qR3 turn nr l.length (p,ok)):qBt turn nr l=qMB:=by
 unfold qBt
 rw [hp,if_neg (λe=>h e.1)]
theorem qGr{turn:UInt64}{nr:Nat}{l:List (List UInt8)}{p q:Prt}{ok ok2:Bool}(hp:qA8 (l.getD 0 [])=(p,ok)){i:Nat}(hi:i<p.all)(hq:qA8 (l.getD i [])=(q,ok2))(h: ¬qQm p i (q,ok2)):qBt turn nr l=qMB:=by
 unfold qBt
 rw [hp,if_neg (λe=>h (by have:=e.2 i hi;rwa [hq] at this))]
theorem qQl{turn:UInt64}{nr:Nat}{l:List (List UInt8)}{p:Prt}{ok:Bool}(hp:qA8 (l.getD 0 [])=(p,ok))(hf:qR3 turn nr l.length (p,ok))(hq: ∀i<p.all,qQm p i (qA8 (l.getD i []))):
    qBt turn nr l=⟨p.turn,qFb l p.all,p.all,decide (p.all=qAx (qFb l p.all).length∧p.name=qB7 p.turn p.num (qFb l p.all))⟩:=by
  unfold qBt
  rw [hp,if_pos ⟨hf,hq⟩]
def RecR.val(r:RecR):Value:= .tuple #[W64 r.turn,Str r.text,I ((r.n:Nat):Int),.bool r.ok]
theorem qNO{turn:UInt64}{nr:Nat}{l:List (List UInt8)}(h:(qBt turn nr l).ok=true):1≤(qBt turn nr l).n∧(qBt turn nr l).n≤l.length∧(qBt turn nr l).n≤255∧(qBt turn nr l).text.length≤9945:=by
  unfold qBt at h⊢
  split at h
  · rename_i hc
    rw [if_pos hc]
    dsimp only at h⊢
    have h1:=of_decide_eq_true h
    have h2:=qCm (qFb l (qA8 (l.getD 0 [])).1.all).length
    have h3:=hc.1.2.2.2.2.1
    have h4:=(qEM (l.getD 0 [])).l
    have h5:=qFa l (qA8 (l.getD 0 [])).1.all
    exact⟨by rw [h1.1];exact h2,h3,by omega,by omega⟩
  · cases h
theorem qNN(F:Hp)(hK:KF F)(gh hat:Nat)(hturn:UInt64)(hend:Nat)(Ar:Option Addr)(nr cr:Nat)(hH:qAP F ⟨gh,0,none⟩ [I ((hat:Nat):Int),W64 (hturn),I ((hend:Nat):Int),.slice Ar nr cr])(hnr:nr≤1048576)(A:Option Addr)(n c:Nat)(l:List (List UInt8))(hl:Sl F 1 A n c (qAH l))(hn:0<n)(h64: ∀s∈l,s.length=64):
    Ct prog 160 [Ptr gh,.slice A n c] [F] (λ_:Unit=>(qBt hturn nr l).val) (λ_=>True) (λ_=> [F]):=by
  have hln:l.length=n:=by have:=hl.1;simpa [qAH] using this
  obtain ⟨p,ok,hp⟩: ∃p ok,qA8 (l.getD 0 [])=(p,ok):=⟨_,_,rfl⟩
  obtain ⟨p1,p2,p3,p4,p5,p6⟩:p.ok:=by have:=qEM (l.getD 0 []);rwa [hp] at this
  refine Ct.walk func160 rfl ntmps160 rfl (λw0 hw0=>?_)
  change J _ [(0,_),(1,_)] _ _ _
  refine J.g λK1 hK1=>J.j 4 V<|J.c hK1<|J.E 0 1 ?_
  refine J.g λK2 hK2=>J.b V<|J.f (qAF (i:=0) V V V qAh z9_ hl (by omega)) V<|J.f (qAL V V b9_ (m:=F) (by simp) (hl.elem (qAZ (qAd [] (by omega))))) rfl<|J.q (qAB rfl rfl ent192 (Ct.use0 (λF' hF=>by have:=qKm F' (hK.mo hF) (l.getD 0 []) (qIy h64 (by omega));rw [hp] at this;exact this))) rfl λg18 _=>J.j 3 rfl<|J.q (qAO (l:= [.int .u64 0,.int .u64 0,I 0,I 0,Str [],Str []]) rfl qKA rfl) rfl λg8 _=>?_
  change J _ _ _ [F,blk g8 [.int .u64 0,.int .u64 0,I 0,I 0,Str [],Str []] 303] _
  refine J.b1 (qAG (i:=1) (l:= [.int .u64 0,.int .u64 0,I 0,I 0,Str [],Str []]) (vs:= [W64 (p.turn),W64 (p.num),I ((p.at_:Nat):Int),I ((p.all:Nat):Int),Str (p.name),Str (p.con)]) V V V V V qEg V V) V V λ_ _=>?_
  change J _ _ _ [_,blk g8 [W64 (p.turn),W64 (p.num),I ((p.at_:Nat):Int),I ((p.all:Nat):Int),Str (p.name),Str (p.con)] 303] _
  refine J.b V<|J.c hK2<|J.O 0 1 8 9 ?_
  refine J.d9 (X:=Unit) (λζ=> [(1,.slice A n c),(8,Ptr g8)]) (λζ=> [F,blk g8 [W64 (p.turn),W64 (p.num),I ((p.at_:Nat):Int),I ((p.all:Nat):Int),Str (p.name),Str (p.con)] 303]) (λζ=>qR3 hturn nr l.length (p,ok)) (λK3 hK3=>?_) ?_
  ·
    refine J.k λK4 hK4=>J.b7 [F,blk g8 [W64 (p.turn),W64 (p.num),I ((p.at_:Nat):Int),I ((p.all:Nat):Int),Str (p.name),Str (p.con)] 303] [] (.y 0 (.y 1 (.y 2 (.y 3 (.y 4 (.y 5 (.y 6 (.y 7 (.y 8 (.y 9 (.y 10 (.y 11 (.y 12 (.y 13 (.y 14 (.y 15 (.y 16 (.y 17 (.y 18 (.y 19 (.y 20 (.y 21 (.y 22 (.y 23 (.y 24 (.y 25 (.y 26 (.y 27 (.y 28 (.y 29 (.y 30 (.y 31 (.y 32 (.y 33 (.y 34 (.y 35 (.y 36 (.y 37 (.y 38 (.y 39 (.y 40 (.y 41 (.y 42 (.y 43 (.y 44 (.y 45 (.y 46 .nil))))))))))))))))))))))))))))))))))))))))))))))) Tryz.wide (by decide+kernel) (by simp) ?_
    refine J.L ?_
    refine J.p V (qAw V V) V V<|J.L ?_
    refine J.f6 (d:=23) V (λh23=>?_) (λh23=>?_)
    ·
      iterate 3 refine J.a3 ?_
      refine J.d1 ?_
      refine J.L ?_
      iterate 3 refine J.a3 ?_
      refine J.d1 ?_
      refine J.L ?_
      iterate 9 refine J.a3 ?_
      refine J.d1 ?_
      refine J.L ?_
      iterate 5 refine J.a3 ?_
      refine J.d1 ?_
      refine J.L ?_
      iterate 7 refine J.a3 ?_
      refine J.c4 V (Wan.un V V V V) V V ?_
      refine J.c4 V (Wan.un V V V V) V V ?_
      refine J.c4 V (Wan.un V V V V) V V ?_
      refine J.c4 V (Wan.un V V V V) V V ?_
      refine J.c4 V (Wan.un V V V V) V V ?_
      refine J.c4 V (Wan.un V V V V) V V ?_
      refine J.c4 V (Wan.un V V V V) V V ?_
      refine J.a3 ?_
      refine J.d1 ?_
      refine J.b3<|J.u (J.M hK4 ?_)
      refine J.G 1 8 67 ?_
      refine J.c7 ?_
      refine J.g λK5 hK5=>J.j 4 V<|J.c hK5<|J.O 4 5 6 7 ?_
      exact J.D<|J.a7<|J.b4 hw0 (λ_ _ h=>h) (qKf V V V V V) (qAj () (by rw [qGs hp (λ⟨a1,a2,a3,a4,a5,a6⟩=>by dsimp only at a1 a2 a3 a4 a5 a6;first|(simp [a1] at h23;done)|omega|(have:=a6 (by omega);omega))];rfl) trivial [0] rfl (by decide))
    refine J.V V (qAA (j:=2) V V qBW V z3_ V) V V<|J.V V (qAD 1 (v:=I ((p.at_:Nat):Int)) V V V b3_ V) V V<|J.V V (qAU V V V) V V<|J.d5 ?_
    refine J.L ?_
    refine J.c6 (d:=28) V (λh28=>?_) (λh28=>?_)
    ·
      iterate 3 refine J.a3 ?_
      refine J.d1 ?_
      refine J.L ?_
      iterate 9 refine J.a3 ?_
      refine J.d1 ?_
      refine J.L ?_
      iterate 5 refine J.a3 ?_
      refine J.d1 ?_
      refine J.L ?_
      iterate 7 refine J.a3 ?_
      refine J.c4 V (Wan.un V V V V) V V ?_
      refine J.c4 V (Wan.un V V V V) V V ?_
      refine J.c4 V (Wan.un V V V V) V V ?_
      refine J.c4 V (Wan.un V V V V) V V ?_
      refine J.c4 V (Wan.un V V V V) V V ?_
      refine J.c4 V (Wan.un V V V V) V V ?_
      refine J.c4 V (Wan.un V V V V) V V ?_
      refine J.a3 ?_
      refine J.d1 ?_
      refine J.b3<|J.u (J.M hK4 ?_)
      refine J.G 1 8 67 ?_
      refine J.c7 ?_
      refine J.g λK6 hK6=>J.j 4 V<|J.c hK6<|J.O 4 5 6 7 ?_
      exact J.D<|J.a7<|J.b4 hw0 (λ_ _ h=>h) (qKf V V V V V) (qAj () (by rw [qGs hp (λ⟨a1,a2,a3,a4,a5,a6⟩=>by dsimp only at a1 a2 a3 a4 a5 a6;first|(simp [a1] at h23;done)|omega|(have:=a6 (by omega);omega))];rfl) trivial [0] rfl (by decide))
    refine J.V V (qAA (j:=0) V V qBW V qCG V) V V<|J.V V (qAD 1 (v:=W64 (p.turn)) V V V qCZ V) V V<|J.V V (qAS V V V) V V<|J.d5 ?_
    refine J.L ?_
    refine J.c6 (d:=33) V (λh33=>?_) (λh33=>?_)
    ·
      iterate 9 refine J.a3 ?_
      refine J.d1 ?_
      refine J.L ?_
      iterate 5 refine J.a3 ?_
      refine J.d1 ?_
      refine J.L ?_
      iterate 7 refine J.a3 ?_
      refine J.c4 V (Wan.un V V V V) V V ?_
      refine J.c4 V (Wan.un V V V V) V V ?_
      refine J.c4 V (Wan.un V V V V) V V ?_
      refine J.c4 V (Wan.un V V V V) V V ?_
      refine J.c4 V (Wan.un V V V V) V V ?_
      refine J.c4 V (Wan.un V V V V) V V ?_
      refine J.c4 V (Wan.un V V V V) V V ?_
      refine J.a3 ?_
      refine J.d1 ?_
      refine J.b3<|J.u (J.M hK4 ?_)
      refine J.G 1 8 67 ?_
      refine J.c7 ?_
      refine J.g λK7 hK7=>J.j 4 V<|J.c hK7<|J.O 4 5 6 7 ?_
      exact J.D<|J.a7<|J.b4 hw0 (λ_ _ h=>h) (qKf V V V V V) (qAj () (by rw [qGs hp (λ⟨a1,a2,a3,a4,a5,a6⟩=>by dsimp only at a1 a2 a3 a4 a5 a6;first|(simp [a1] at h23;done)|omega|(have:=a6 (by omega);omega))];rfl) trivial [0] rfl (by decide))
    refine J.V V (qAA (j:=1) V V qBW V qCG V) V V<|J.V V (qAD 1 (v:=W64 (p.num)) V V V qCZ V) V V<|J.V V (qAb V V) V V<|J.V V (qAC V V) V V<|J.V V (qAA (j:=3) V V qBH V qCA V) V V<|J.V V (qAL (v:= .slice Ar nr cr) V V qCR (m:=F) (by simp) (hH.at (i:=3) rfl)) rfl rfl<|J.V rfl (qAY qAh rfl rfl) rfl rfl<|J.V rfl (qCn (m:=nr) rfl rfl u3_ qED (by omega)) rfl rfl<|J.V rfl (qAU rfl rfl rfl) rfl rfl<|J.d5 ?_
    refine J.L ?_
    refine J.c6 (d:=44) V (λh44=>?_) (λh44=>?_)
    ·
      iterate 5 refine J.a3 ?_
      refine J.d1 ?_
      refine J.L ?_
      iterate 7 refine J.a3 ?_
      refine J.c4 V (Wan.un V V V V) V V ?_
      refine J.c4 V (Wan.un V V V V) V V ?_
      refine J.c4 V (Wan.un V V V V) V V ?_
      refine J.c4 V (Wan.un V V V V) V V ?_
      refine J.c4 V (Wan.un V V V V) V V ?_
      refine J.c4 V (Wan.un V V V V) V V ?_
      refine J.c4 V (Wan.un V V V V) V V ?_
      refine J.a3 ?_
      refine J.d1 ?_
      refine J.b3<|J.u (J.M hK4 ?_)
      refine J.G 1 8 67 ?_
      refine J.c7 ?_
      refine J.g λK8 hK8=>J.j 4 V<|J.c hK8<|J.O 4 5 6 7 ?_
      exact J.D<|J.a7<|J.b4 hw0 (λ_ _ h=>h) (qKf V V V V V) (qAj () (by rw [qGs hp (λ⟨a1,a2,a3,a4,a5,a6⟩=>by dsimp only at a1 a2 a3 a4 a5 a6;first|(simp [a1] at h23;done)|omega|(have:=a6 (by omega);omega))];rfl) trivial [0] rfl (by decide))
    refine J.V V (qAA (j:=3) V V qBW V z3_ V) V V<|J.V V (qAD 1 (v:=I ((p.all:Nat):Int)) V V V b3_ V) V V<|J.V V (qAb V V) V V<|J.V V (qAY qAh V V) V V<|J.V V (qA5 V V V) V V<|J.d5 ?_
    refine J.L ?_
    refine J.c6 (d:=51) V (λh51=>?_) (λh51=>?_)
    ·
      iterate 7 refine J.a3 ?_
      refine J.c4 V (Wan.un V V V V) V V ?_
      refine J.c4 V (Wan.un V V V V) V V ?_
      refine J.c4 V (Wan.un V V V V) V V ?_
      refine J.c4 V (Wan.un V V V V) V V ?_
      refine J.c4 V (Wan.un V V V V) V V ?_
      refine J.c4 V (Wan.un V V V V) V V ?_
      refine J.c4 V (Wan.un V V V V) V V ?_
      refine J.a3 ?_
      refine J.d1 ?_
      refine J.b3<|J.u (J.M hK4 ?_)
      refine J.G 1 8 67 ?_
      refine J.c7 ?_
      refine J.g λK9 hK9=>J.j 4 V<|J.c hK9<|J.O 4 5 6 7 ?_
      exact J.D<|J.a7<|J.b4 hw0 (λ_ _ h=>h) (qKf V V V V V) (qAj () (by rw [qGs hp (λ⟨a1,a2,a3,a4,a5,a6⟩=>by dsimp only at a1 a2 a3 a4 a5 a6;first|(simp [a1] at h23;done)|omega|(have:=a6 (by omega);omega))];rfl) trivial [0] rfl (by decide))
    refine J.V V (qAb V V) V V<|J.V V (qAC V V) V V<|J.V V (qAA (j:=3) V V qBH V qCA V) V V<|J.V V (qAL (v:= .slice Ar nr cr) V V qCR (m:=F) (by simp) (hH.at (i:=3) rfl)) rfl rfl<|J.V rfl (qAY qAh rfl rfl) rfl rfl<|J.V rfl (qA5 rfl rfl rfl) rfl rfl<|J.V rfl (qAb rfl rfl) rfl rfl<|J.c6 (d:=58) rfl (λh58=>?_) (λh58=>?_)
    ·
      refine J.V V (qAA (j:=0) V V qBW V qCG V) V V<|J.V V (qAD 1 (v:=W64 (p.turn)) V V V qCZ V) V V<|J.V V (qAb V V) V V<|J.V V (qAC V V) V V<|J.V V (qAA (j:=1) V V qBH V qCG V) V V<|J.V V (qAL (v:=W64 (hturn)) V V qCZ (m:=F) (by simp) (hH.at (i:=1) rfl)) rfl rfl<|J.V rfl (qAU rfl rfl rfl) rfl rfl<|J.V rfl (qBh rfl rfl rfl) rfl rfl<|J.d5 ?_
      refine J.b3<|J.u (J.M hK4 ?_)
      refine J.G 1 8 67 ?_
      refine J.a4 V (λh67=>?_) (λh67=>?_)
      ·
        refine J.g λK10 hK10=>J.j 4 V<|J.c hK10<|J.O 4 5 6 7 ?_
        exact J.D<|J.a7<|J.b4 hw0 (λ_ _ h=>h) (qKf V V V V V) (qAj () (by rw [qGs hp (λ⟨a1,a2,a3,a4,a5,a6⟩=>by dsimp only at a1 a2 a3 a4 a5 a6;first|(simp [a1] at h23;done)|omega|(have:=a6 (by omega);omega))];rfl) trivial [0] rfl (by decide))
      exact J.c0<|J.u<|J.a9 () hK3 (⟨by simpa using h23,by show p.at_=0;omega,by show p.turn.toNat≠0;omega,by show p.num.toNat=nr;omega,by show p.all≤l.length;omega,λh0=>by show p.turn.toNat=hturn.toNat;omega⟩) ⟨V,V,trivial⟩ (λ_ h=>h)
    iterate 7 refine J.a3 ?_
    refine J.V V (qBp V V V) V V<|J.d5 ?_
    refine J.b3<|J.u (J.M hK4 ?_)
    refine J.G 1 8 67 ?_
    refine J.a5 ?_
    exact J.c0<|J.u<|J.a9 () hK3 (⟨by simpa using h23,by show p.at_=0;omega,by show p.turn.toNat≠0;omega,by show p.num.toNat=nr;omega,by show p.all≤l.length;omega,λh0=>by show p.turn.toNat=hturn.toNat;omega⟩) ⟨V,V,trivial⟩ (λ_ h=>h)
  rintro _ hf
  refine J.g λK11 hK11=>J.b V<|J.c hK11<|J.G 1 8 10 ?_
  refine J.k λK12 hK12=>J.k λK13 hK13=>?_
  have hf5:p.all≤l.length:=hf.2.2.2.2.1
  refine J.H<|J.a2 3 qBW z3_ V V V V V<|J.f (qAD 1 (v:=I ((p.all:Nat):Int)) V V V b3_ V) V<|J.b V<|J.c hK13<|J.a0 1 8 10 69 70 ?_
  refine J.a1<|J.c1 (X:=Nat) (λζ=> [(1,.slice A n c),(8,Ptr g8),(10,Str (qFb l ζ)),(69,I ((p.all:Nat):Int)),(70,I ((ζ:Nat):Int))]) (λζ=> [F,blk g8 [W64 (p.turn),W64 (p.num),I ((p.at_:Nat):Int),I ((p.all:Nat):Int),Str (p.name),Str (p.con)] 303]) (λζ=>ζ≤p.all∧ ∀j<ζ,qQm p j (qA8 (l.getD j []))) (λζ=>p.all-ζ) 0 (⟨jF _,λj h=>absurd h (jz j)⟩) ⟨V,V,V,V,V,trivial⟩ (λ_ h=>h) ?_
  rintro i ⟨hi,hqs⟩ I0 hI0
  refine J.g λK14 hK14=>J.f (qAT V V V) V<|J.c hK14<|J.b5 1 8 10 69 70 71 ?_
  refine J.k λK15 hK15=>J.a4 V (λh71=>?_) (λh71=>?_)
  ·
    refine J.W hK15<|J.a0 1 8 10 69 70 ?_
    refine J.k λK16 hK16=>J.a1<|J.g λK17 hK17=>J.j 2 V<|J.c hK17<|J.b5 1 8 10 11 69 70 ?_
    refine J.k λK18 hK18=>?_
    obtain ⟨q,ok2,hq⟩: ∃q ok2,qA8 (l.getD i [])=(q,ok2):=⟨_,_,rfl⟩
    obtain ⟨q1,q2,q3,q4,q5,q6⟩:q.ok:=by have:=qEM (l.getD i []);rwa [hq] at this
    have hcl:=qFa l i
    refine J.H<|J.j 2 V<|J.f (qAF (i:=i) V V V qAh z9_ hl (by omega)) V<|J.f (qAL V V b9_ (m:=F) (by simp) (hl.elem (qAZ (qAd [] (by omega))))) rfl<|J.q (qAB rfl rfl ent192 (Ct.use0 (λF' hF=>by have:=qKm F' (hK.mo hF) (l.getD i []) (qIy h64 (by omega));rw [hq] at this;exact this))) rfl λg78 _=>J.j 3 rfl<|J.q (qAO (l:= [.int .u64 0,.int .u64 0,I 0,I 0,Str [],Str []]) rfl qKA rfl) rfl λg12 _=>?_
    change J _ _ _ [F,blk g8 [W64 (p.turn),W64 (p.num),I ((p.at_:Nat):Int),I ((p.all:Nat):Int),Str (p.name),Str (p.con)] 303,blk g12 [.int .u64 0,.int .u64 0,I 0,I 0,Str [],Str []] 303] _
    refine J.b1 (qAG (i:=2) (l:= [.int .u64 0,.int .u64 0,I 0,I 0,Str [],Str []]) (vs:= [W64 (q.turn),W64 (q.num),I ((q.at_:Nat):Int),I ((q.all:Nat):Int),Str (q.name),Str (q.con)]) V V V V V qEg V V) V V λ_ _=>?_
    change J _ _ _ [_,_,blk g12 [W64 (q.turn),W64 (q.num),I ((q.at_:Nat):Int),I ((q.all:Nat):Int),Str (q.name),Str (q.con)] 303] _
    refine J.b V<|J.c hK18<|J.d6 1 8 10 11 12 13 69 70 ?_
    refine J.k λK19 hK19=>J.g λK20 hK20=>J.b V<|J.f (qAw V V) V<|J.b V<|J.f6 (d:=83) V (λh83=>?_) (λh83=>?_)
    ·
      refine J.j 33 V<|J.c hK20<|J.c5 1 8 10 12 69 70 116 ?_
      refine J.c7 ?_
      refine J.g λK21 hK21=>J.j 4 V<|J.c hK21<|J.O 4 5 6 7 ?_
      exact J.D<|J.a7<|J.b6<|J.a7<|J.a7<|J.b6<|J.a7<|J.b4 hw0 (λ_ _ h=>h) (qKf V V V V V) (qAj () (by rw [qGr hp (by omega) hq (λ⟨a1,a2,a3,a4,a5,a6⟩=>by dsimp only at a1 a2 a3 a4 a5 a6;first|(simp [a1] at h83;done)|omega|contradiction)];rfl) trivial [0] rfl (by decide))
    refine J.T (qAA (j:=2) V V qBW V z3_ V) V<|J.T (qAD 2 (v:=I ((q.at_:Nat):Int)) V V V b3_ V) V<|J.b V<|J.T (qAU V V V) V<|J.j 2 V<|J.c6 (d:=89) V (λh89=>?_) (λh89=>?_)
    ·
      refine J.j 27 V<|J.c hK20<|J.c5 1 8 10 12 69 70 116 ?_
      refine J.c7 ?_
      refine J.g λK22 hK22=>J.j 4 V<|J.c hK22<|J.O 4 5 6 7 ?_
      exact J.D<|J.a7<|J.b6<|J.a7<|J.a7<|J.b6<|J.a7<|J.b4 hw0 (λ_ _ h=>h) (qKf V V V V V) (qAj () (by rw [qGr hp (by omega) hq (λ⟨a1,a2,a3,a4,a5,a6⟩=>by dsimp only at a1 a2 a3 a4 a5 a6;first|(simp [a1] at h83;done)|omega|contradiction)];rfl) trivial [0] rfl (by decide))
    refine J.T (qAA (j:=0) V V qBW V qCG V) V<|J.T (qAD 2 (v:=W64 (q.turn)) V V V qCZ V) V<|J.T (qAA (j:=0) V V qBW V qCG V) V<|J.T (qAD 1 (v:=W64 (p.turn)) V V V qCZ V) V<|J.T (qAU V V V) V<|J.j 2 V<|J.c6 (d:=96) V (λh96=>?_) (λh96=>?_)
    ·
      refine J.j 20 V<|J.c hK20<|J.c5 1 8 10 12 69 70 116 ?_
      refine J.c7 ?_
      refine J.g λK23 hK23=>J.j 4 V<|J.c hK23<|J.O 4 5 6 7 ?_
      exact J.D<|J.a7<|J.b6<|J.a7<|J.a7<|J.b6<|J.a7<|J.b4 hw0 (λ_ _ h=>h) (qKf V V V V V) (qAj () (by rw [qGr hp (by omega) hq (λ⟨a1,a2,a3,a4,a5,a6⟩=>by dsimp only at a1 a2 a3 a4 a5 a6;first|(simp [a1] at h83;done)|omega|contradiction)];rfl) trivial [0] rfl (by decide))
    refine J.T (qAA (j:=1) V V qBW V qCG V) V<|J.T (qAD 2 (v:=W64 (q.num)) V V V qCZ V) V<|J.T (qAA (j:=1) V V qBW V qCG V) V<|J.T (qAD 1 (v:=W64 (p.num)) V V V qCZ V) V<|J.T (qAU V V V) V<|J.j 2 V<|J.c6 (d:=103) V (λh103=>?_) (λh103=>?_)
    ·
      refine J.j 13 V<|J.c hK20<|J.c5 1 8 10 12 69 70 116 ?_
      refine J.c7 ?_
      refine J.g λK24 hK24=>J.j 4 V<|J.c hK24<|J.O 4 5 6 7 ?_
      exact J.D<|J.a7<|J.b6<|J.a7<|J.a7<|J.b6<|J.a7<|J.b4 hw0 (λ_ _ h=>h) (qKf V V V V V) (qAj () (by rw [qGr hp (by omega) hq (λ⟨a1,a2,a3,a4,a5,a6⟩=>by dsimp only at a1 a2 a3 a4 a5 a6;first|(simp [a1] at h83;done)|omega|contradiction)];rfl) trivial [0] rfl (by decide))
    refine J.T (qAA (j:=3) V V qBW V z3_ V) V<|J.T (qAD 2 (v:=I ((q.all:Nat):Int)) V V V b3_ V) V<|J.T (qAA (j:=3) V V qBW V z3_ V) V<|J.T (qAD 1 (v:=I ((p.all:Nat):Int)) V V V b3_ V) V<|J.T (qAU V V V) V<|J.j 2 V<|J.c6 (d:=110) V (λh110=>?_) (λh110=>?_)
    ·
      refine J.j 6 V<|J.c hK20<|J.c5 1 8 10 12 69 70 116 ?_
      refine J.c7 ?_
      refine J.g λK25 hK25=>J.j 4 V<|J.c hK25<|J.O 4 5 6 7 ?_
      exact J.D<|J.a7<|J.b6<|J.a7<|J.a7<|J.b6<|J.a7<|J.b4 hw0 (λ_ _ h=>h) (qKf V V V V V) (qAj () (by rw [qGr hp (by omega) hq (λ⟨a1,a2,a3,a4,a5,a6⟩=>by dsimp only at a1 a2 a3 a4 a5 a6;first|(simp [a1] at h83;done)|omega|contradiction)];rfl) trivial [0] rfl (by decide))
    refine J.T (qAA (j:=4) V V qBW V z9_ V) V<|J.T (qAD 2 (v:=Str (q.name)) V V V b9_ V) V<|J.T (qAA (j:=4) V V qBW V z9_ V) V<|J.T (qAD 1 (v:=Str (p.name)) V V V b9_ V) V<|J.T (qBv V V V) V<|J.b V<|J.c hK20<|J.c5 1 8 10 12 69 70 116 ?_
    refine J.a4 V (λh116=>?_) (λh116=>?_)
    ·
      refine J.g λK26 hK26=>J.j 4 V<|J.c hK26<|J.O 4 5 6 7 ?_
      exact J.D<|J.a7<|J.b6<|J.a7<|J.a7<|J.b6<|J.a7<|J.b4 hw0 (λ_ _ h=>h) (qKf V V V V V) (qAj () (by rw [qGr hp (by omega) hq (λ⟨a1,a2,a3,a4,a5,a6⟩=>by dsimp only at a1 a2 a3 a4 a5 a6;first|(simp [a1] at h83;done)|omega|contradiction)];rfl) trivial [0] rfl (by decide))
    refine J.W hK19<|J.b5 1 8 10 12 69 70 ?_
    have hqi:qQm p i (qA8 (l.getD i [])):=by rw [hq];exact⟨by simpa using h83,by show q.at_=i;omega,by show q.turn.toNat=p.turn.toNat;omega,by show q.num.toNat=p.num.toNat;omega,by show q.all=p.all;omega,by first|assumption|exact Decidable.not_not.1 (by assumption)⟩
    refine J.H<|J.b V<|J.a2 5 qBW z9_ V V V V V<|J.f (qAD 2 (v:=Str (q.con)) V V V b9_ V) V<|J.f (qBT (a:=qFb l i) (b:=q.con) V V V (by omega)) V ?_
    rw [show qFb l i++q.con=qFb l (i+1) by rw [qFb,hq]]
    refine J.b V<|J.a8<|J.b0<|J.u (J.M hK16 ?_)
    refine J.a0 1 8 10 69 70 ?_
    exact J.H<|J.f ((qAQ V V V (by omega)).nat (i+1) (by omega)) V<|J.b V<|J.a8<|J.u<|J.a9 (i+1) (λη (hη:_∧p.all-η<p.all-i)=>hI0 η hη.1 hη.2) ⟨⟨by omega,λj hj=>by rcases Nat.lt_succ_iff_lt_or_eq.1 hj with h|rfl;exact hqs j h;exact hqi⟩,by first|omega|(dsimp only;omega)⟩ ⟨rfl,rfl,rfl,rfl,rfl,trivial⟩ (λ_ h=>h.pick [0,1] (by decide))
  refine J.b8<|J.a6<|J.a6<|J.b9 ?_
  refine J.u (J.M hK12 ?_)
  refine J.E 8 10 ?_
  refine J.k λK27 hK27=>?_
  obtain rfl:i=p.all:=by omega
  have hy:=qQl hp hf hqs
  have hcl:=qFa l p.all
  refine J.b7 [blk g8 [W64 (p.turn),W64 (p.num),I ((p.at_:Nat):Int),I ((p.all:Nat):Int),Str (p.name),Str (p.con)] 303] [] (.y 0 (.y 1 (.y 2 (.y 3 (.y 4 (.y 5 (.y 6 (.y 7 (.y 8 (.e 9 (.y 10 (.y 11 (.y 12 (.y 13 (.y 14 (.y 15 (.y 16 (.y 17 (.y 18 (.e 19 (.y 20 (.y 21 (.y 22 (.y 23 (.y 24 (.y 25 .nil)))))))))))))))))))))))))) Tryz.wide (by decide+kernel) (by simp) ?_
  refine J.p V (qAA (j:=0) V V qBW V qCG V) V V<|J.p V (qAD 0 (v:=W64 (p.turn)) V V V qCZ V) V V<|J.L ?_
  refine J.p V (qAA (j:=3) V V qBW V z3_ V) V V<|J.p V (qAD 0 (v:=I ((p.all:Nat):Int)) V V V b3_ V) V V<|J.p V (qAA (j:=3) V V qBW V z3_ V) V V<|J.p V (qAD 0 (v:=I ((p.all:Nat):Int)) V V V b3_ V) V V<|J.L ?_
  refine J.p V (qAg u9_ V V) V V<|J.b2 V (qAB V V ent166 (Ct.use0 (λF' hF=>qCL F' (qFb l p.all).length (by omega)))) V (by simp) λg131 _=>J.p rfl (qAS rfl rfl rfl) rfl rfl<|J.L ?_
  refine J.c6 (d:=133) V (λh133=>?_) (λh133=>?_)
  ·
    refine J.V V (qAA (j:=4) V V qBW V z9_ V) V V<|J.V V (qAD 0 (v:=Str (p.name)) V V V b9_ V) V V<|J.V V (qAA (j:=0) V V qBW V qCG V) V V<|J.V V (qAD 0 (v:=W64 (p.turn)) V V V qCZ V) V V<|J.V V (qAA (j:=1) V V qBW V qCG V) V V<|J.V V (qAD 0 (v:=W64 (p.num)) V V V qCZ V) V V<|J.V V (qAb V V) V V<|J.e2 V (qAB V V ent193 (Ct.use0 (λF' hF=>qLP F' (hK.mo hF) p.turn p.num (qFb l p.all) p1 p2 (by omega)))) (Wan.is V V V V V) V V (by simp) ?_
    intro g141 _
    refine J.V V (qBb V V V) V V<|J.d1 ?_
    iterate 4 refine J.c3 ?_
    refine J.b3<|J.u (J.M hK27 ?_)
    refine J.O 4 5 6 7 ?_
    exact J.D<|J.b4 hw0 (λ_ _ h=>h) (qKf V V V V V) (qAj () (by rw [hy,show decide (p.all=qAx (qFb l p.all).length∧p.name=qB7 p.turn p.num (qFb l p.all))=decide (p.name=qB7 p.turn p.num (qFb l p.all)) from decide_eq_decide.2 ⟨λh=>h.2,λh=>⟨by omega,h⟩⟩];rfl) trivial [0] rfl (by decide))
  iterate 7 refine J.a3 ?_
  refine J.h3 V (Wan.is V V V V V) V V (by simp)<|J.a3 ?_
  refine J.d5 ?_
  iterate 4 refine J.c3 ?_
  refine J.b3<|J.u (J.M hK27 ?_)
  refine J.O 4 5 6 7 ?_
  exact J.D<|J.b4 hw0 (λ_ _ h=>h) (qKf V V V V V) (qAj () (by rw [hy,show decide (p.all=qAx (qFb l p.all).length∧p.name=qB7 p.turn p.num (qFb l p.all))=false from decide_eq_false (λh=>by have:=h.1;omega)];rfl) trivial [0] rfl (by decide))
def rdl(t:UInt64)(R:List (List UInt8))(e:Nat)(l:List (List UInt8)):UInt64×List (List UInt8)×Nat:=
 if h:l≠ []∧(qBt t R.length l).ok=true then
  rdl (qBt t R.length l).turn (R++ [(qBt t R.length l).text]) (e+(qBt t R.length l).n) (l.drop (qBt t R.length l).n)
 else(t,R,e)
termination_by l.length
decreasing_by
 have:=qNO h.2
 rw [jL];omega
theorem qNP{t:UInt64}{R:List (List UInt8)}{e:Nat}{l:List (List UInt8)}(h:l≠ [])(h2:(qBt t R.length l).ok=true):
    rdl t R e l=rdl (qBt t R.length l).turn (R++ [(qBt t R.length l).text]) (e+(qBt t R.length l).n) (l.drop (qBt t R.length l).n):=by rw [rdl,dif_pos ⟨h,h2⟩]
theorem qKi{t:UInt64}{R:List (List UInt8)}{e:Nat}{l:List (List UInt8)}(h: ¬(l≠ []∧(qBt t R.length l).ok=true)):rdl t R e l=(t,R,e):=by rw [rdl,dif_neg h]
def qDN(d:Dk)(at_ n:Nat):List (List UInt8):=(List.range n).map λi=>d.now (at_+i)
theorem qNG(d:Dk)(at_ n:Nat):qDN d at_ (n+1)=qDN d at_ n++ [d.now (at_+n)]:=by unfold qDN;rw [zB,jM];rfl
theorem qCS(d:Dk)(at_ n:Nat):(qDN d at_ n).length=n:=by unfold qDN;rw [jK,zP]
theorem qNF{L:List Wri}{m:Nat}(h: ∀w∈L,w.1<m∧w.2.length=64)(i:Nat): ∀k,k≤L.length→ ∀s,qOs L i k=some s→s.length=64
 |0,_,s,hs=>by cases hs
 |k+1,hk,s,hs=>by
  rw [qIV] at hs
  split at hs
  · cases hs;exact(qOE h (show k<L.length by omega)).2
  · exact qNF h i k (by omega) s hs
theorem qTu{d:Dk}(h:d.ok){i:Nat}(hi:i<d.last.length):(d.now i).length=64:=by
 unfold Dk.now
 cases e:qOs d.wait i d.wait.length with
 |none=>exact qIy h.l64 hi
 |some s=>exact qNF h.w64 i _ (jJ _) s e
theorem qRn{d:Dk}(h:d.ok){at_ n:Nat}(hn:at_+n≤d.last.length): ∀s∈qDN d at_ n,s.length=64:=λs hs=>by
 obtain ⟨i,hi,rfl⟩:=List.mem_map.1 hs
 have:=List.mem_range.1 hi
 exact qTu h (by omega)
theorem qQO(F:Hp)(hK:KF F)(gb gd:Nat)(first:Int)(size:Nat)(rest:List Value)(hB:qAP F ⟨gb,0,none⟩ (Ptr gd::I first::I (size:Nat)::rest))(d:Dk)(hok:d.ok)(A:Option Addr)(c:Nat)(B:Option Addr)(e:Nat)(C:Option Addr)(f:Nat)(hc:qAP F ⟨gd,0,none⟩ (d.cells A c B e C f))(hL:Sl F 1 A d.last.length c (qAH d.last))(hW:Sl F 2 B d.wait.length e (qCC d.wait))(hn1:d.last.length≤1073741824)(hn2:d.wait.length≤1073741824)(at_:Nat)(hs:at_+size≤d.last.length)(hoff:d.off=false):
    Ct prog 116 [Ptr gb,I ((at_:Nat):Int)] [F] (λx:Option Addr×Nat×Hp=> .tuple #[.agg #[I ((at_:Nat):Int),W64 (rdl 0 [] 0 (qDN d at_ size)).1,I (((rdl 0 [] 0 (qDN d at_ size)).2.2:Nat):Int),.slice x.1 (rdl 0 [] 0 (qDN d at_ size)).2.1.length x.2.1],I ((0:Nat):Int)]) (λx=>Row x.2.2 9 1 x.1 (rdl 0 [] 0 (qDN d at_ size)).2.1.length x.2.1 (qAH (rdl 0 [] 0 (qDN d at_ size)).2.1)) (λx=> [F,x.2.2]):=by
  have hn3:=hok.n1
  refine Ct.walk func116 rfl ntmps116 rfl (λw0 hw0=>?_)
  change J _ [(0,_),(1,_)] _ _ _
  refine J.g λK1 hK1=>J.q (qAO (l:= [I 0,.int .u64 0,I 0,.slice none 0 0]) V qHv V) V λg4 _=>?_
  change J _ _ _ [F,blk g4 [I 0,.int .u64 0,I 0,.slice none 0 0] 221] _
  refine J.b V<|J.c hK1<|J.G 0 1 4 ?_
  refine J.g λK2 hK2=>J.b V<|J.f (qAK (l:= [(0,.tmp 15)]) (vs:= [I ((at_:Nat):Int)]) (places:= [(0,1),(1,1),(2,1),(3,1)]) (r:= [I ((at_:Nat):Int),.int .u64 0,I 0,.slice none 0 0]) V V V qBH qHv (λ_=>by kernel_rfl) V) V<|J.q (qAO (l:= [I 0,.int .u64 0,I 0,.slice none 0 0]) V qHv V) V λg6 _=>?_
  change J _ _ _ [_,_,blk g6 [I 0,.int .u64 0,I 0,.slice none 0 0] 221] _
  refine J.b1 (qAG (i:=2) (l:= [I 0,.int .u64 0,I 0,.slice none 0 0]) (vs:= [I ((at_:Nat):Int),.int .u64 0,I 0,.slice none 0 0]) V V V V V qBG V V) V V λ_ _=>?_
  change J _ _ _ [_,_,blk g6 [I ((at_:Nat):Int),.int .u64 0,I 0,.slice none 0 0] 221] _
  refine J.c hK2<|J.O 0 1 4 6 ?_
  refine J.g λK3 hK3=>J.b V<|J.c hK3<|J.a0 0 1 4 6 7 ?_
  refine J.k λK4 hK4=>J.g λK5 hK5=>J.b V<|J.f (qAC V V) V<|J.a2 2 qBX z3_ V V V V V<|J.f (qAL V V b3_ (m:=F) (by simp) (hB.at (i:=2) rfl)) rfl<|J.b rfl<|J.c hK5<|J.c5 0 1 4 6 7 20 21 ?_
  refine J.a1<|J.c1 (X:=Nat×Option Addr×Nat×Hp) (λζ=> [(0,Ptr gb),(1,I ((at_:Nat):Int)),(4,Ptr g4),(6,Ptr g6),(7,.slice ζ.2.1 ((qDN d at_ ζ.1).length) ζ.2.2.1),(20,I ((size:Nat):Int)),(21,I ((ζ.1:Nat):Int))]) (λζ=> [F,blk g4 [I 0,.int .u64 0,I 0,.slice none 0 0] 221,blk g6 [I ((at_:Nat):Int),.int .u64 0,I 0,.slice none 0 0] 221,ζ.2.2.2]) (λζ=>ζ.1≤size∧Row ζ.2.2.2 9 1 ζ.2.1 (qDN d at_ ζ.1).length ζ.2.2.1 (qAH (qDN d at_ ζ.1))) (λζ=>size-ζ.1) (0,none,0,(λ_=>none)) (⟨jF _,qBc.nil⟩) ⟨V,V,V,V,V,V,V,trivial⟩ (λ_ h=>h.empty.pick [0,1,2,3] (by decide)) ?_
  rintro⟨k,A7,c7,m⟩ ⟨hk,hr0⟩ I0 hI0
  dsimp only at hk hr0⊢
  have hsl:=qCS d at_ k
  refine J.g λK6 hK6=>J.f (qAT V V V) V<|J.c hK6<|J.d6 0 1 4 6 7 20 21 22 ?_
  refine J.k λK7 hK7=>J.a4 V (λh22=>?_) (λh22=>?_)
  ·
    refine J.W hK7<|J.c5 0 1 4 6 7 20 21 ?_
    refine J.k λK8 hK8=>J.a1<|J.g λK9 hK9=>J.j 2 V<|J.c hK9<|J.d6 0 1 4 6 7 8 20 21 ?_
    refine J.k λK10 hK10=>?_
    have hrk:d.read ((at_+k:Nat):Int)=d.now (at_+k)∧d.ready ((at_+k:Nat):Int)=0:=by
      have h0:=qBR hoff (i:=at_+k) (by omega)
      exact⟨qR4 h0,h0⟩
    refine J.H<|J.b V<|J.f (qAC V V) V<|J.a2 0 qBX sizeOf67 V V V V V<|J.f (qAL V V isAgg67 (m:=F) (by simp) (hB.at (i:=0) rfl)) rfl<|J.j 2 rfl<|J.f ((qAQ rfl rfl rfl (by omega)).nat (at_+k) (by omega)) rfl<|J.q (qAB rfl rfl ent159 (Ct.use0 (λF' hF=>by have:=qPB F' gd d A c B e C f (hc.mono (hF F (by simp))) (hL.mono (hF F (by simp))) (hW.mono (hF F (by simp))) ((at_+k:Nat):Int) hn1 hn2;rw [hrk.1,hrk.2] at this;exact this))) rfl λg32 _=>J.j 5 rfl<|J.c hK10<|J.e4 0 1 4 6 7 9 10 20 21 ?_
    refine J.k λK11 hK11=>J.g λK12 hK12=>J.b V<|J.f ((qAU V V V).no (by decide)) V<|J.c hK12<|J.f1 0 1 4 6 7 9 10 20 21 36 ?_
    refine J.a5 ?_
    refine J.W hK11<|J.d6 0 1 4 6 7 9 20 21 ?_
    refine J.H<|J.j 2 V<|J.q (qAJ (l:= [.tmp 40]) (xs:= [[Str (d.now (at_+k))]]) V V V V qAh el9 V (by decide) (by decide) (by simp)) rfl λg41 _=>?_
    change J _ _ _ [F,blk g4 [I 0,.int .u64 0,I 0,.slice none 0 0] 221,blk g6 [I ((at_:Nat):Int),.int .u64 0,I 0,.slice none 0 0] 221,m,blk g41 [Str (d.now (at_+k))] 9] _
    refine J.q (qAa (i:=3) (xs:=qAH (qDN d at_ k)) (m2:=blk g41 [Str (d.now (at_+k))] 9) (ys:= [[Str (d.now (at_+k))]]) V V V qAh qAh el9 V hr0 (by simp) ((qCK (q:=True) (qAH [d.now (at_+k)]) rfl (by simp [qAH]) rfl).sl) rfl (by omega) (by omega)) rfl ?_
    rintro⟨A42,c42,m42⟩ h42
    try dsimp only at h42
    change J _ ((42,.slice A42 (((qDN d at_ k).length)+1) c42)::_) _ [_,_,_,m42,_] _
    rw [←qBx,←qNG] at h42
    rw [show(qDN d at_ k).length+1=(qDN d at_ (k+1)).length by rw [qCS,qCS]] at h42⊢
    refine J.b V<|J.a8<|J.b0<|J.u (J.M hK8 ?_)
    refine J.c5 0 1 4 6 7 20 21 ?_
    exact J.H<|J.f ((qAQ V V V (by omega)).nat (k+1) (by omega)) V<|J.b V<|J.a8<|J.u<|J.a9 (k+1,A42,c42,m42) (λη (hη:_∧size-η.1<size-k)=>hI0 η hη.1 hη.2) ⟨⟨by dsimp only;omega,h42⟩,by dsimp only;omega⟩ ⟨V,V,V,V,V,V,V,trivial⟩ (λ_ h=>h.pick [0,1,2,3] (by decide))
  refine J.b8<|J.a6<|J.a6<|J.b9 ?_
  refine J.u (J.M hK4 ?_)
  refine J.G 4 6 7 ?_
  refine J.k λK13 hK13=>J.a1 ?_
  obtain rfl:size=k:=by omega
  refine J.c1 (X:=UInt64×List (List UInt8)×Nat×Option Addr×Nat×Hp×Option Addr×Nat×List (List UInt8)) (λζ=> [(4,Ptr g4),(6,Ptr g6),(7,.slice ζ.2.2.2.2.2.2.1 ζ.2.2.2.2.2.2.2.2.length ζ.2.2.2.2.2.2.2.1)]) (λζ=> [F,blk g4 [I 0,.int .u64 0,I 0,.slice none 0 0] 221,blk g6 [I ((at_:Nat):Int),W64 (ζ.1),I ((ζ.2.2.1:Nat):Int),.slice ζ.2.2.2.1 ζ.2.1.length ζ.2.2.2.2.1] 221,m,ζ.2.2.2.2.2.1]) (λζ=>Sl m 1 ζ.2.2.2.2.2.2.1 ζ.2.2.2.2.2.2.2.2.length ζ.2.2.2.2.2.2.2.1 (qAH ζ.2.2.2.2.2.2.2.2)∧Row ζ.2.2.2.2.2.1 9 1 ζ.2.2.2.1 ζ.2.1.length ζ.2.2.2.2.1 (qAH ζ.2.1)∧rdl ζ.1 ζ.2.1 ζ.2.2.1 ζ.2.2.2.2.2.2.2.2=(rdl 0 [] 0 (qDN d at_ size))∧ζ.2.1.length+ζ.2.2.2.2.2.2.2.2.length≤size∧ζ.2.2.1+ζ.2.2.2.2.2.2.2.2.length≤size∧ ∀s∈ζ.2.2.2.2.2.2.2.2,s.length=64) (λζ=>ζ.2.2.2.2.2.2.2.2.length) (0,[],0,none,0,(λ_=>none),A7,c7,qDN d at_ size) (⟨hr0.sl,qBc.nil,V,by simp only [qCS,jH];omega,by simp only [qCS];omega,qRn hok hs⟩) ⟨rfl,rfl,rfl,trivial⟩ (λ_ h=>h.empty.pick [0,1,2,3,4] (by decide)) ?_
  rintro⟨t,R,e',Ar,cr,mr,A7,c7,l⟩ ⟨hl,hr,hq,hb1,hb2,h64⟩ I2 hI2
  dsimp only at hl hr hq hb1 hb2 h64⊢
  refine J.k λK14 hK14=>J.g λK15 hK15=>J.b V<|J.f (qAY qAh V V) V<|J.f (qA5 V V V) V<|J.c hK15<|J.O 4 6 7 46 ?_
  refine J.a4 V (λh46=>?_) (λh46=>?_)
  ·
    refine J.W hK14<|J.G 4 6 7 ?_
    refine J.a1<|J.g λK16 hK16=>J.b V<|J.q (qAB V V ent160 (Ct.use0 (λF' hF=>qNN F' (hK.mo hF) g6 at_ t e' Ar R.length cr (qAP.blk0.mono (hF (blk g6 [I ((at_:Nat):Int),W64 (t),I ((e':Nat):Int),.slice Ar R.length cr] 221) (by simp))) (by omega) A7 l.length c7 l (hl.mono (hF m (by simp))) (by omega) h64))) rfl λg49 _=>J.j 9 rfl<|J.c hK16<|J.c5 4 6 7 11 12 13 14 ?_
    refine J.k λK17 hK17=>J.g λK18 hK18=>J.b V<|J.f (qAw V V) V<|J.c hK18<|J.c5 4 6 7 11 12 13 55 ?_
    refine J.e3 V (λh55=>?_) (λh55=>?_)
    ·
      refine J.b8<|J.a6<|J.i3 V ?_
      refine J.a6<|J.b9 ?_
      refine J.u (J.M hK13 ?_)
      refine J.E 4 6 ?_
      refine J.k λK19 hK19=>?_
      have hfin:rdl t R e' l=(t,R,e'):=qKi (by rintro⟨q1,q2⟩;first|(simp [q2] at h55;done)|exact q1 (List.length_eq_zero_iff.1 (by omega)))
      have hx:(rdl 0 [] 0 (qDN d at_ size))=(t,R,e'):=hq.symm.trans hfin
      refine J.H<|J.c8 2 qE1 qBG V V V V V<|J.b1 (qAG (i:=1) (l:= [I 0,.int .u64 0,I 0,.slice none 0 0]) (vs:= [I ((at_:Nat):Int),W64 (t),I ((e':Nat):Int),.slice Ar R.length cr]) V V V V V qBG V V) V V λ_ _=>?_
      change J _ _ _ [F,blk g4 [I ((at_:Nat):Int),W64 (t),I ((e':Nat):Int),.slice Ar R.length cr] 221,blk g6 [I ((at_:Nat):Int),W64 (t),I ((e':Nat):Int),.slice Ar R.length cr] 221,m,mr] _
      refine J.b V<|J.c hK19<|J.E 4 5 ?_
      exact J.D<|J.b4 hw0 (λ_ _ h=>h) (rv2 V (RV.blkA 1 V V qE1 qBG) V) (qAj (Ar,cr,mr) (by rw [hx];rfl) (by rw [hx];exact hr) [0,4] rfl (by decide))
    refine J.W hK17<|J.b5 4 6 7 11 12 13 ?_
    refine J.k λK20 hK20=>?_
    have hok2:(qBt t R.length l).ok=true:=by simpa using h55
    obtain ⟨hr1,hr2,hr3,hr4⟩:=qNO hok2
    have hne:l≠ []:=λh=>by have hz:=congrArg List.length h;rw [jH] at hz;omega
    have hcap:=hl.2.1
    have hstep:=qNP (e:=e') hne hok2
    refine J.H<|J.b V<|J.a2 3 qBH qCA V V V V V<|J.f (qAD 2 (v:= .slice Ar R.length cr) V V V qCR V) V<|J.b V<|J.q (qAJ (l:= [.tmp 59]) (xs:= [[Str ((qBt t R.length l).text)]]) V V V V qAh el9 V (by decide) (by decide) (by simp)) rfl λg60 _=>?_
    change J _ _ _ [F,blk g4 [I 0,.int .u64 0,I 0,.slice none 0 0] 221,blk g6 [I ((at_:Nat):Int),W64 (t),I ((e':Nat):Int),.slice Ar R.length cr] 221,m,mr,blk g60 [Str ((qBt t R.length l).text)] 9] _
    refine J.q (qAa (i:=4) (xs:=qAH R) (m2:=blk g60 [Str ((qBt t R.length l).text)] 9) (ys:= [[Str ((qBt t R.length l).text)]]) V V V qAh qAh el9 V hr (by simp) ((qCK (q:=True) (qAH [(qBt t R.length l).text]) rfl (by simp [qAH]) rfl).sl) rfl (by omega) (by omega)) rfl ?_
    rintro⟨A61,c61,m61⟩ h61
    try dsimp only at h61
    change J _ ((61,.slice A61 (R.length+1) c61)::_) _ [_,_,_,_,m61,_] _
    rw [show R.length+1=(R++ [(qBt t R.length l).text]).length by rw [jA];rfl] at h61⊢
    rw [←qBx] at h61
    refine J.a2 1 qBH qCG V V V V V<|J.b1 (qAV (i:=2) (l:= [I ((at_:Nat):Int),W64 (t),I ((e':Nat):Int),.slice Ar R.length cr]) (vs:= [W64 ((qBt t R.length l).turn)]) V V V V V qCG V (by simp)) rfl rfl λ_ _=>?_
    change J _ _ _ [_,_,blk g6 [I ((at_:Nat):Int),W64 ((qBt t R.length l).turn),I ((e':Nat):Int),.slice Ar R.length cr] 221,_,_,_] _
    refine J.a2 3 qBH qCA V V V V V<|J.b1 (qAV (i:=2) (l:= [I ((at_:Nat):Int),W64 ((qBt t R.length l).turn),I ((e':Nat):Int),.slice Ar R.length cr]) (vs:= [.slice A61 ((R++ [(qBt t R.length l).text]).length) c61]) V V V V V qCA V (by simp)) rfl rfl λ_ _=>?_
    change J _ _ _ [_,_,blk g6 [I ((at_:Nat):Int),W64 ((qBt t R.length l).turn),I ((e':Nat):Int),.slice A61 ((R++ [(qBt t R.length l).text]).length) c61] 221,_,_,_] _
    refine J.c hK20<|J.O 4 6 7 13 ?_
    refine J.g λK21 hK21=>J.a2 2 qBH z3_ V V V V V<|J.f (qAD 2 (v:=I ((e':Nat):Int)) V V V b3_ V) V<|J.b V<|J.f ((qAQ V V V (by omega)).as (v':=I ((e'+((qBt t R.length l).n):Nat):Int)) (congrArg I (by omega))) V<|J.a2 2 qBH z3_ V V V V V<|J.b1 (qAV (i:=2) (l:= [I ((at_:Nat):Int),W64 ((qBt t R.length l).turn),I ((e':Nat):Int),.slice A61 ((R++ [(qBt t R.length l).text]).length) c61]) (vs:= [I ((e'+((qBt t R.length l).n):Nat):Int)]) V V V V V z3_ V (by simp)) rfl rfl λ_ _=>?_
    change J _ _ _ [_,_,blk g6 [I ((at_:Nat):Int),W64 ((qBt t R.length l).turn),I ((e'+((qBt t R.length l).n):Nat):Int),.slice A61 ((R++ [(qBt t R.length l).text]).length) c61] 221,_,_,_] _
    refine J.c hK21<|J.O 4 6 7 13 ?_
    exact J.H<|J.j 2 V<|J.f (qC4 (l:=(qBt t R.length l).n) (h:=l.length) V V qAh z9_ V V (by omega)) V<|J.b V<|J.a8<|J.b0<|J.u<|J.a9 ((qBt t R.length l).turn,R++ [(qBt t R.length l).text],e'+(qBt t R.length l).n,A61,c61,m61,if c7=(qBt t R.length l).n then A7 else(A7).map (·.add ((qBt t R.length l).n*1)),c7-((qBt t R.length l).n),l.drop (qBt t R.length l).n) (λη (hη:_∧η.2.2.2.2.2.2.2.2.length<l.length)=>hI2 η hη.1 hη.2) ⟨⟨by dsimp only;rw [jL];exact hl.strsFrom (by omega),h61,by dsimp only;rw [←hstep];exact hq,by dsimp only;rw [jA,jL,jP];omega,by dsimp only;rw [jL];omega,λs hs=>h64 s (List.mem_of_mem_drop hs)⟩,by dsimp only;rw [jL];omega⟩ ⟨rfl,rfl,by dsimp only;rw [jL];rfl,trivial⟩ (λ_ h=>h.pick [0,1,2,3,4] (by decide))
  refine J.b8<|J.a6<|J.a6<|J.b9 ?_
  refine J.u (J.M hK13 ?_)
  refine J.E 4 6 ?_
  refine J.k λK22 hK22=>?_
  have hfin:rdl t R e' l=(t,R,e'):=qKi (by rintro⟨q1,q2⟩;first|(simp [q2] at h55;done)|exact q1 (List.length_eq_zero_iff.1 (by omega)))
  have hx:(rdl 0 [] 0 (qDN d at_ size))=(t,R,e'):=hq.symm.trans hfin
  refine J.H<|J.c8 2 qE1 qBG V V V V V<|J.b1 (qAG (i:=1) (l:= [I 0,.int .u64 0,I 0,.slice none 0 0]) (vs:= [I ((at_:Nat):Int),W64 (t),I ((e':Nat):Int),.slice Ar R.length cr]) V V V V V qBG V V) V V λ_ _=>?_
  change J _ _ _ [F,blk g4 [I ((at_:Nat):Int),W64 (t),I ((e':Nat):Int),.slice Ar R.length cr] 221,blk g6 [I ((at_:Nat):Int),W64 (t),I ((e':Nat):Int),.slice Ar R.length cr] 221,m,mr] _
  refine J.b V<|J.c hK22<|J.E 4 5 ?_
  exact J.D<|J.b4 hw0 (λ_ _ h=>h) (rv2 V (RV.blkA 1 V V qE1 qBG) V) (qAj (Ar,cr,mr) (by rw [hx];rfl) (by rw [hx];exact hr) [0,4] rfl (by decide))
structure Hlf where
 at_:Nat
 t:UInt64
 R:List (List UInt8)
 e:Nat
def hlf(d:Dk)(at_ size:Nat):Hlf:=⟨at_,(rdl 0 [] 0 (qDN d at_ size)).1,(rdl 0 [] 0 (qDN d at_ size)).2.1,(rdl 0 [] 0 (qDN d at_ size)).2.2⟩
def hst(d:Dk)(first size:Nat):Nat→Hlf
 |0=>⟨0,0,[],0⟩
 |1=>hlf d first size
 |_+2=>if 0<(hlf d (first+size) size).R.length∧((hlf d first size).R.length=0∨(hlf d first size).t.toNat<(hlf d (first+size) size).t.toNat) then hlf d (first+size) size else hlf d first size
theorem qGC{d:Dk}{at_ size:Nat}{t:UInt64}{R:List (List UInt8)}{e:Nat}(h:rdl 0 [] 0 (qDN d at_ size)=(t,R,e)):hlf d at_ size=⟨at_,t,R,e⟩:=by unfold hlf;rw [h]
theorem qHq{d:Dk}{first size k km at1 e1 e2:Nat}{t1 t2:UInt64}{R1 R2:List (List UInt8)}(hk:k<2)(hkm:km=k*size)(h1:hst d first size k=⟨at1,t1,R1,e1⟩)(h2:rdl 0 [] 0 (qDN d (first+km) size)=(t2,R2,e2))
    (hc:k=0∨(0<R2.length∧(R1.length=0∨t1.toNat<t2.toNat))):hst d first size (k+1)=⟨first+km,t2,R2,e2⟩:=by
  have h3:=qGC h2
  match k,hk with
  |0,_=>
    rw [zg] at hkm
    subst hkm
    exact h3
  |1,_=>
    rw [Nat.one_mul] at hkm
    subst hkm
    have hc2:=hc.resolve_left (by decide)
    have h4:hlf d first km=⟨at1,t1,R1,e1⟩:=h1
    show(if _ then _ else _)=_
    rw [h3,h4,if_pos hc2]
theorem qLC{d:Dk}{first size k km at1 e1 e2:Nat}{t1 t2:UInt64}{R1 R2:List (List UInt8)}(hk:k<2)(hkm:km=k*size)(h1:hst d first size k=⟨at1,t1,R1,e1⟩)(h2:rdl 0 [] 0 (qDN d (first+km) size)=(t2,R2,e2))
    (hc:k≠0∧ ¬(0<R2.length∧(R1.length=0∨t1.toNat<t2.toNat))):hst d first size (k+1)=⟨at1,t1,R1,e1⟩:=by
  have h3:=qGC h2
  match k,hk with
  |0,_=>exact absurd rfl hc.1
  |1,_=>
    rw [Nat.one_mul] at hkm
    subst hkm
    have h4:hlf d first km=⟨at1,t1,R1,e1⟩:=h1
    show(if _ then _ else _)=_
    rw [h3,h4,if_neg hc.2]
def bkC(gd first size:Nat)(x:Hlf)(A:Option Addr)(c:Nat)(bad:Bool):List Value:= [Ptr gd,I ((first:Nat):Int),I ((size:Nat):Int),I ((x.at_:Nat):Int),W64 x.t,I ((x.e:Nat):Int),.slice A x.R.length c,.bool bad]
theorem qFd(F:Hp)(hK:KF F)(gd:Nat)(d:Dk)(hok:d.ok)(A:Option Addr)(c:Nat)(B:Option Addr)(e:Nat)(C:Option Addr)(f:Nat)(hc:qAP F ⟨gd,0,none⟩ (d.cells A c B e C f))(hL:Sl F 1 A d.last.length c (qAH d.last))(hW:Sl F 2 B d.wait.length e (qCC d.wait))(hn2:d.wait.length≤1073741824)(first count:Nat)(h8:8≤count)(hfc:first+count≤d.last.length)(hoff:d.off=false):
    Ct prog 53 [Ptr gd,I ((first:Nat):Int),I ((count:Nat):Int)] [F] (λx:Nat×Option Addr×Nat×Hp=> .tuple #[Ptr x.1,I ((0:Nat):Int)]) (λx=>Row x.2.2.2 9 1 x.2.1 (hst d first (count/2) 2).R.length x.2.2.1 (qAH (hst d first (count/2) 2).R)) (λx=> [F,blk x.1 (bkC gd first (count/2) (hst d first (count/2) 2) x.2.1 x.2.2.1 false) 223,x.2.2.2]):=by
  have hn1:=hok.n1
  refine Ct.walk func53 rfl ntmps53 rfl (λw0 hw0=>?_)
  change J _ [(0,_),(1,_),(2,_)] _ _ _
  refine J.g λK1 hK1=>J.j 2 V<|J.c hK1<|J.G 0 1 2 ?_
  refine J.k λK2 hK2=>J.g λK3 hK3=>J.b V<|J.f ((qA1 qRU V V V).as (v':= .bool false) V) V<|J.j 2 V<|J.T ((qAT V V V).no (by omega)) V<|J.j 3 V<|J.T ((qAT V V V).no (by omega)) V<|J.j 4 V<|J.e0 (qAB V V ent115 (Ct.use0 (λF' hF=>qLM F' gd d A c B e C f (hc.mono (hF F (by simp)))))) rfl λg25 _=>J.T ((qA5 rfl rfl rfl).no (by omega)) rfl<|J.j 4 rfl<|J.e0 (qAB rfl rfl ent115 (Ct.use0 (λF' hF=>qLM F' gd d A c B e C f (hc.mono (hF F (by simp)))))) rfl λg31 _=>J.b rfl<|J.T (qAn rfl rfl rfl (by omega)) rfl<|J.T ((qA5 rfl rfl rfl).no (by omega)) rfl<|J.b rfl<|J.c hK3<|J.O 0 1 2 35 ?_
  refine J.a5 ?_
  refine J.W hK2<|J.G 0 1 2 ?_
  refine J.g λK4 hK4=>J.j 3 V<|J.f ((qGv V V V (by omega)).nat (count/2) (by omega)) V<|J.f (qAK (l:= [(0,.tmp 36),(1,.tmp 37),(2,.tmp 39)]) (vs:= [Ptr gd,I ((first:Nat):Int),I ((count/2:Nat):Int)]) (places:= [(0,1),(1,1),(2,1),(3,4),(7,1)]) (r:= [Ptr gd,I ((first:Nat):Int),I ((count/2:Nat):Int),I 0,.int .u64 0,I 0,.slice none 0 0,.bool false]) V V V qBX zeroValue223 (λ_=>by kernel_rfl) (by kernel_rfl)) V<|J.q (qAi (l:= [Ptr gd,I ((first:Nat):Int),I ((count/2:Nat):Int),I 0,.int .u64 0,I 0,.slice none 0 0,.bool false]) V V V) V λg41 _=>?_
  change J _ _ _ [F,blk g41 [Ptr gd,I ((first:Nat):Int),I ((count/2:Nat):Int),I 0,.int .u64 0,I 0,.slice none 0 0,.bool false] 223] _
  refine J.b V<|J.c hK4<|J.E 1 8 ?_
  refine J.k λK5 hK5=>J.g λK6 hK6=>J.b V<|J.c hK6<|J.G 1 8 42 ?_
  refine J.a1<|J.c1 (X:=Nat×Nat×UInt64×List (List UInt8)×Nat×Option Addr×Nat×Hp) (λζ=> [(1,I ((first:Nat):Int)),(8,Ptr g41),(42,I ((ζ.1:Nat):Int))]) (λζ=> [F,blk g41 [Ptr gd,I ((first:Nat):Int),I ((count/2:Nat):Int),I ((ζ.2.1:Nat):Int),W64 (ζ.2.2.1),I ((ζ.2.2.2.2.1:Nat):Int),.slice ζ.2.2.2.2.2.1 ζ.2.2.2.1.length ζ.2.2.2.2.2.2.1,.bool false] 223,ζ.2.2.2.2.2.2.2]) (λζ=>ζ.1≤2∧hst d first (count/2) ζ.1=⟨ζ.2.1,ζ.2.2.1,ζ.2.2.2.1,ζ.2.2.2.2.1⟩∧Row ζ.2.2.2.2.2.2.2 9 1 ζ.2.2.2.2.2.1 ζ.2.2.2.1.length ζ.2.2.2.2.2.2.1 (qAH ζ.2.2.2.1)) (λζ=>2-ζ.1) (0,0,0,[],0,none,0,(λ_=>none)) (⟨jF _,V,qBc.nil⟩) ⟨V,V,V,trivial⟩ (λ_ h=>h.empty.pick [0,1,2] (by decide)) ?_
  rintro⟨k,at1,t1,R1,e1,A1,c1,mr⟩ ⟨hk,hq,hr⟩ I0 hI0
  dsimp only at hk hq hr⊢
  refine J.g λK7 hK7=>J.f (qAT V V V) V<|J.c hK7<|J.O 1 8 42 43 ?_
  refine J.k λK8 hK8=>J.a4 V (λh43=>?_) (λh43=>?_)
  ·
    refine J.W hK8<|J.G 1 8 42 ?_
    refine J.k λK9 hK9=>J.a1<|J.g λK10 hK10=>J.j 2 V<|J.c hK10<|J.O 1 8 9 42 ?_
    refine J.k λK11 hK11=>?_
    obtain ⟨km,hkm⟩: ∃km,km=k*(count/2):=⟨_,rfl⟩
    have hkm2:km+count/2≤count:=by
      have:k=0∨k=1:=by omega
      rcases this with e|e<;>rw [hkm,e]<;>omega
    obtain ⟨t2,R2,e2,hD2⟩: ∃t2 R2 e2,rdl 0 [] 0 (qDN d (first+km) (count/2))=(t2,R2,e2):=⟨_,_,_,rfl⟩
    refine J.H<|J.j 4 V<|J.f (qAC V V) V<|J.a2 2 qBX z3_ V V V V V<|J.f (qAD 1 (v:=I ((count/2:Nat):Int)) V V V b3_ V) V<|J.f ((qB6 V V V (by rw [←yA,←hkm];omega)).as (v':=I ((km:Nat):Int)) (congrArg I (by rw [hkm,yA]))) rfl<|J.f ((qAQ rfl rfl rfl (by omega)).nat (first+km) (by omega)) rfl<|J.q (qAB rfl rfl ent116 (Ct.use (new:=λx:Option Addr×Nat×Hp=> [x.2.2]) (λF' hF=>by have:=qQO F' (hK.mo hF) g41 gd ((first:Nat):Int) (count/2) _ (qAP.blk0.mono (hF (blk g41 [Ptr gd,I ((first:Nat):Int),I ((count/2:Nat):Int),I ((at1:Nat):Int),W64 (t1),I ((e1:Nat):Int),.slice A1 R1.length c1,.bool false] 223) (by simp))) d hok A c B e C f (hc.mono (hF F (by simp))) (hL.mono (hF F (by simp))) (hW.mono (hF F (by simp))) (by omega) hn2 (first+km) (by omega) hoff;rw [hD2] at this;exact this))) rfl ?_
    rintro⟨A55,c55,m55⟩ h55
    try dsimp only at h55
    change J _ ((55,.tuple #[.agg #[I ((first+km:Nat):Int),W64 (t2),I ((e2:Nat):Int),.slice A55 R2.length c55],I ((0:Nat):Int)])::_) _ [F,blk g41 [Ptr gd,I ((first:Nat):Int),I ((count/2:Nat):Int),I ((at1:Nat):Int),W64 (t1),I ((e1:Nat):Int),.slice A1 R1.length c1,.bool false] 223,mr,m55] _
    refine J.j 3 V<|J.q (qAO (l:= [I 0,.int .u64 0,I 0,.slice none 0 0]) V qHv V) V λg10 _=>?_
    change J _ _ _ [_,_,_,_,blk g10 [I 0,.int .u64 0,I 0,.slice none 0 0] 221] _
    refine J.b1 (qAG (i:=4) (l:= [I 0,.int .u64 0,I 0,.slice none 0 0]) (vs:= [I ((first+km:Nat):Int),W64 (t2),I ((e2:Nat):Int),.slice A55 R2.length c55]) V V V V V qBG V V) V V λ_ _=>?_
    change J _ _ _ [_,_,_,_,blk g10 [I ((first+km:Nat):Int),W64 (t2),I ((e2:Nat):Int),.slice A55 R2.length c55] 221] _
    refine J.b V<|J.c hK11<|J.b5 1 8 9 10 11 42 ?_
    refine J.k λK12 hK12=>J.g λK13 hK13=>J.b V<|J.f ((qAU V V V).no (by decide)) V<|J.c hK13<|J.c5 1 8 9 10 11 42 59 ?_
    refine J.a5 ?_
    refine J.W hK12<|J.a0 1 8 9 10 42 ?_
    refine J.k λK14 hK14=>J.b7 [F,blk g41 [Ptr gd,I ((first:Nat):Int),I ((count/2:Nat):Int),I ((at1:Nat):Int),W64 (t1),I ((e1:Nat):Int),.slice A1 R1.length c1,.bool false] 223,blk g10 [I ((first+km:Nat):Int),W64 (t2),I ((e2:Nat):Int),.slice A55 R2.length c55] 221] [] (.y 0 (.y 1 (.y 2 (.y 3 (.y 4 (.y 5 (.y 6 (.y 7 (.y 8 (.y 9 (.y 10 (.y 11 (.y 12 (.y 13 (.y 14 (.y 15 (.y 16 (.y 17 (.y 18 (.y 19 (.y 20 (.y 21 (.y 22 (.y 23 (.y 24 (.y 25 (.y 26 .nil))))))))))))))))))))))))))) Tryz.wide (by decide+kernel) (by simp) ?_
    refine J.L ?_
    refine J.p V (qAS V V V) V V<|J.L ?_
    refine J.c6 (d:=63) V (λh63=>?_) (λh63=>?_)
    ·
      iterate 5 refine J.a3 ?_
      refine J.c4 V (Wan.un V V V V) V V ?_
      refine J.c4 V (Wan.un V V V V) V V ?_
      refine J.c4 V (Wan.un V V V V) V V ?_
      refine J.c4 V (Wan.un V V V V) V V ?_
      refine J.c4 V (Wan.un V V V V) V V ?_
      refine J.c4 V (Wan.un V V V V) V V ?_
      refine J.c4 V (Wan.un V V V V) V V ?_
      refine J.c4 V (Wan.un V V V V) V V ?_
      refine J.c4 V (Wan.un V V V V) V V ?_
      refine J.c4 V (Wan.un V V V V) V V ?_
      refine J.c4 V (Wan.un V V V V) V V ?_
      refine J.c4 V (Wan.un V V V V) V V ?_
      refine J.c4 V (Wan.un V V V V) V V ?_
      refine J.c4 V (Wan.un V V V V) V V ?_
      refine J.c4 V (Wan.un V V V V) V V ?_
      refine J.c4 V (Wan.un V V V V) V V ?_
      refine J.c4 V (Wan.un V V V V) V V ?_
      refine J.a3 ?_
      refine J.d1 ?_
      refine J.b3<|J.u (J.M hK14 ?_)
      refine J.a0 1 8 10 42 87 ?_
      refine J.c7 ?_
      refine J.H<|J.b V<|J.c8 4 qE1 qBG V V V V V<|J.f (qAC V V) V<|J.a2 3 qBX qBG V V V V V<|J.b1 (qAV (i:=1) (l:= [Ptr gd,I ((first:Nat):Int),I ((count/2:Nat):Int),I ((at1:Nat):Int),W64 (t1),I ((e1:Nat):Int),.slice A1 R1.length c1,.bool false]) (vs:= [I ((first+km:Nat):Int),W64 (t2),I ((e2:Nat):Int),.slice A55 R2.length c55]) V V V V V qBG V (by simp)) rfl rfl λ_ _=>?_
      change J _ _ _ [_,blk g41 [Ptr gd,I ((first:Nat):Int),I ((count/2:Nat):Int),I ((first+km:Nat):Int),W64 (t2),I ((e2:Nat):Int),.slice A55 R2.length c55,.bool false] 223,_,_,_] _
      refine J.a8<|J.b0<|J.u (J.M hK9 ?_)
      refine J.G 1 8 42 ?_
      exact J.H<|J.f ((qAQ V V V (by omega)).nat (k+1) (by omega)) V<|J.b V<|J.a8<|J.u<|J.a9 (k+1,first+km,t2,R2,e2,A55,c55,m55) (λη (hη:_∧2-η.1<2-k)=>hI0 η hη.1 hη.2) ⟨⟨by dsimp only;omega,by dsimp only;exact qHq (by omega) hkm hq hD2 (by omega),h55⟩,by dsimp only;omega⟩ ⟨V,V,V,trivial⟩ (λ_ h=>h.pick [0,1,3] (by decide))
    refine J.V V (qAA (j:=3) V V qBH V qCA V) V V<|J.V V (qAD 2 (v:= .slice A55 R2.length c55) V V V qCR V) V V<|J.V V (qAY qAh V V) V V<|J.V V (qA5 V V V) V V<|J.V V (qAb V V) V V<|J.c6 (d:=68) V (λh68=>?_) (λh68=>?_)
    ·
      refine J.V V (qAb V V) V V<|J.V V (qAC V V) V V<|J.V V (qAA (j:=3) V V qBX V qBG V) V V<|J.V V (qAA (j:=6) V V qBH V qCA V) V V<|J.V V (qAD 1 (v:= .slice A1 R1.length c1) V V V qCR V) V V<|J.V V (qAY qAh V V) V V<|J.V V (qAS V V V) V V<|J.V V (qAb V V) V V<|J.c6 (d:=76) V (λh76=>?_) (λh76=>?_)
      ·
        iterate 8 refine J.a3 ?_
        refine J.V V (qBh V V V) V V<|J.V V (qBh V V V) V V<|J.d5 ?_
        refine J.b3<|J.u (J.M hK14 ?_)
        refine J.a0 1 8 10 42 87 ?_
        refine J.c7 ?_
        refine J.H<|J.b V<|J.c8 4 qE1 qBG V V V V V<|J.f (qAC V V) V<|J.a2 3 qBX qBG V V V V V<|J.b1 (qAV (i:=1) (l:= [Ptr gd,I ((first:Nat):Int),I ((count/2:Nat):Int),I ((at1:Nat):Int),W64 (t1),I ((e1:Nat):Int),.slice A1 R1.length c1,.bool false]) (vs:= [I ((first+km:Nat):Int),W64 (t2),I ((e2:Nat):Int),.slice A55 R2.length c55]) V V V V V qBG V (by simp)) rfl rfl λ_ _=>?_
        change J _ _ _ [_,blk g41 [Ptr gd,I ((first:Nat):Int),I ((count/2:Nat):Int),I ((first+km:Nat):Int),W64 (t2),I ((e2:Nat):Int),.slice A55 R2.length c55,.bool false] 223,_,_,_] _
        refine J.a8<|J.b0<|J.u (J.M hK9 ?_)
        refine J.G 1 8 42 ?_
        exact J.H<|J.f ((qAQ V V V (by omega)).nat (k+1) (by omega)) V<|J.b V<|J.a8<|J.u<|J.a9 (k+1,first+km,t2,R2,e2,A55,c55,m55) (λη (hη:_∧2-η.1<2-k)=>hI0 η hη.1 hη.2) ⟨⟨by dsimp only;omega,by dsimp only;exact qHq (by omega) hkm hq hD2 (by omega),h55⟩,by dsimp only;omega⟩ ⟨V,V,V,trivial⟩ (λ_ h=>h.pick [0,1,3] (by decide))
      refine J.V V (qAA (j:=1) V V qBH V qCG V) V V<|J.V V (qAD 2 (v:=W64 (t2)) V V V qCZ V) V V<|J.V V (qAb V V) V V<|J.V V (qAC V V) V V<|J.V V (qAA (j:=3) V V qBX V qBG V) V V<|J.V V (qAA (j:=4) V V qBH V qCG V) V V<|J.V V (qAD 1 (v:=W64 (t1)) V V V qCZ V) V V<|J.V V (qA5 V V V) V V<|J.V V (qBp V V V) V V<|J.V V (qBh V V V) V V<|J.d5 ?_
      refine J.b3<|J.u (J.M hK14 ?_)
      refine J.a0 1 8 10 42 87 ?_
      refine J.a4 V (λh87=>?_) (λh87=>?_)
      ·
        refine J.H<|J.b V<|J.c8 4 qE1 qBG V V V V V<|J.f (qAC V V) V<|J.a2 3 qBX qBG V V V V V<|J.b1 (qAV (i:=1) (l:= [Ptr gd,I ((first:Nat):Int),I ((count/2:Nat):Int),I ((at1:Nat):Int),W64 (t1),I ((e1:Nat):Int),.slice A1 R1.length c1,.bool false]) (vs:= [I ((first+km:Nat):Int),W64 (t2),I ((e2:Nat):Int),.slice A55 R2.length c55]) V V V V V qBG V (by simp)) rfl rfl λ_ _=>?_
        change J _ _ _ [_,blk g41 [Ptr gd,I ((first:Nat):Int),I ((count/2:Nat):Int),I ((first+km:Nat):Int),W64 (t2),I ((e2:Nat):Int),.slice A55 R2.length c55,.bool false] 223,_,_,_] _
        refine J.a8<|J.b0<|J.u (J.M hK9 ?_)
        refine J.G 1 8 42 ?_
        exact J.H<|J.f ((qAQ V V V (by omega)).nat (k+1) (by omega)) V<|J.b V<|J.a8<|J.u<|J.a9 (k+1,first+km,t2,R2,e2,A55,c55,m55) (λη (hη:_∧2-η.1<2-k)=>hI0 η hη.1 hη.2) ⟨⟨by dsimp only;omega,by dsimp only;exact qHq (by omega) hkm hq hD2 (by omega),h55⟩,by dsimp only;omega⟩ ⟨V,V,V,trivial⟩ (λ_ h=>h.pick [0,1,3] (by decide))
      refine J.c0<|J.b0<|J.u (J.M hK9 ?_)
      refine J.G 1 8 42 ?_
      exact J.H<|J.f ((qAQ V V V (by omega)).nat (k+1) (by omega)) V<|J.b V<|J.a8<|J.u<|J.a9 (k+1,at1,t1,R1,e1,A1,c1,mr) (λη (hη:_∧2-η.1<2-k)=>hI0 η hη.1 hη.2) ⟨⟨by dsimp only;omega,by dsimp only;exact qLC (by omega) hkm hq hD2 (by omega),hr⟩,by dsimp only;omega⟩ ⟨V,V,V,trivial⟩ (λ_ h=>h.pick [0,1,2] (by decide))
    iterate 8 refine J.a3 ?_
    refine J.c4 V (Wan.un V V V V) V V ?_
    refine J.c4 V (Wan.un V V V V) V V ?_
    refine J.c4 V (Wan.un V V V V) V V ?_
    refine J.c4 V (Wan.un V V V V) V V ?_
    refine J.c4 V (Wan.un V V V V) V V ?_
    refine J.c4 V (Wan.un V V V V) V V ?_
    refine J.c4 V (Wan.un V V V V) V V ?_
    refine J.c4 V (Wan.un V V V V) V V ?_
    refine J.a3 ?_
    refine J.V V (qBp V V V) V V<|J.d5 ?_
    refine J.b3<|J.u (J.M hK14 ?_)
    refine J.a0 1 8 10 42 87 ?_
    refine J.a5 ?_
    refine J.c0<|J.b0<|J.u (J.M hK9 ?_)
    refine J.G 1 8 42 ?_
    exact J.H<|J.f ((qAQ V V V (by omega)).nat (k+1) (by omega)) V<|J.b V<|J.a8<|J.u<|J.a9 (k+1,at1,t1,R1,e1,A1,c1,mr) (λη (hη:_∧2-η.1<2-k)=>hI0 η hη.1 hη.2) ⟨⟨by dsimp only;omega,by dsimp only;exact qLC (by omega) hkm hq hD2 (by omega),hr⟩,by dsimp only;omega⟩ ⟨V,V,V,trivial⟩ (λ_ h=>h.pick [0,1,2] (by decide))
  refine J.b8<|J.a6<|J.a6<|J.b9 ?_
  refine J.u (J.M hK5 ?_)
  refine J.A 8 ?_
  refine J.k λK15 hK15=>?_
  obtain rfl:k=2:=by omega
  refine J.H<|J.j 3 V<|J.c hK15<|J.E 6 7 ?_
  exact J.D<|J.b4 hw0 (λ_ _ h=>h) (qDe V V V) (qAj (g41,A1,c1,mr) V (by rw [hq];exact hr) [0,1,2] (by dsimp only;rw [hq];rfl) (by decide))
def T1(tn:UInt64)(nr:Nat)(s:List UInt8):List UInt8:=(prt tn (UInt64.ofNat nr) s 1 0).text
theorem qTt{nr:Nat}(h:nr<65536):(UInt64.ofNat nr).toNat=nr∧(UInt64.ofNat nr).toNat<2^(8*2):=by
 rw [qAu (by omega)];exact⟨rfl,h⟩
theorem qTF{tn:UInt64}{nr:Nat}(s:List UInt8)(ht:tn.toNat<2^(8*4))(hn:nr<65536):(prt tn (UInt64.ofNat nr) s 1 0).ok:=qIc ht (qTt hn).2 (by decide) (by decide)
theorem qLX{tn:UInt64}{nr:Nat}(s:List UInt8)(ht:tn.toNat<2^(8*4))(hn:nr<65536):(T1 tn nr s).length=64:=Prt.text_len (qTF s ht hn)
theorem qQZ{tn:UInt64}{nr:Nat}(s:List UInt8)(ht:tn.toNat<2^(8*4))(hn:nr<65536):qA8 (T1 tn nr s)=(prt tn (UInt64.ofNat nr) s 1 0,true):=qL2 (qTF s ht hn) (qBf _ _ _)
theorem qAv{n:Nat}(h:n≤39):qAx n=1:=by
 unfold qAx
 split
 · rfl
 · rw [show(n-1)/39=0 by omega]
theorem qJn{tn num:UInt64}{s:List UInt8}(h:s.length≤39):(prt tn num s 1 0).con=s:=by
 show(s.drop (39*0)).take 39=s
 rw [Nat.mul_zero,zW,jV h]
theorem qPO{turn tn:UInt64}{nr:Nat}{l:List (List UInt8)}{s:List UInt8}(hl:l.getD 0 []=T1 tn nr s)(h0:tn.toNat≠0)(ht:tn.toNat<2^(8*4))(hn:nr<65536)(hs:s.length≤39)(h1:0<l.length)(hc:0<nr→tn.toNat=turn.toNat):
    qBt turn nr l=⟨tn,s,1,true⟩:=by
  have hp:qA8 (l.getD 0 [])=(prt tn (UInt64.ofNat nr) s 1 0,true):=by rw [hl];exact qQZ s ht hn
  have hf:qR3 turn nr l.length (prt tn (UInt64.ofNat nr) s 1 0,true):=⟨rfl,rfl,h0,(qTt hn).1,h1,hc⟩
  have hq: ∀i<(prt tn (UInt64.ofNat nr) s 1 0).all,qQm (prt tn (UInt64.ofNat nr) s 1 0) i (qA8 (l.getD i [])):=λi hi=>by
    have hi0:i=0:=by have:i<1:=hi;omega
    rw [hi0,hp];exact⟨rfl,rfl,rfl,rfl,rfl,rfl⟩
  have hcat:qFb l (prt tn (UInt64.ofNat nr) s 1 0).all=s:=by
    show qFb l 0++(qA8 (l.getD 0 [])).1.con=s
    rw [hp]
    show []++(prt tn (UInt64.ofNat nr) s 1 0).con=s
    rw [qJn hs,jp]
  rw [qQl hp hf hq,hcat,decide_eq_true]
  · rfl
  · exact⟨(qAv hs).symm,rfl⟩
def qFE(s:List UInt8):Prop:=(qA8 s).2=false∨(qA8 s).1.turn.toNat=0
theorem qEJ{turn:UInt64}{nr:Nat}{l:List (List UInt8)}(h:qFE (l.getD 0 [])):qBt turn nr l=qMB:=by
 unfold qBt
 rw [if_neg]
 rintro⟨hf,_⟩
 rcases h with h|h
 · exact absurd hf.1 (by rw [h];decide)
 · exact hf.2.2.1 h
def Txs(tn:UInt64):Nat→List (List UInt8)→List (List UInt8)
 |_,[]=> []
 |nr,s::r=>T1 tn nr s::Txs tn (nr+1) r
theorem qH8(tn:UInt64): ∀(S:List (List UInt8)) (nr:Nat),(Txs tn nr S).length=S.length
 | [],_=>rfl
 |_::r,nr=>by rw [Txs,jD,jD,qH8 tn r]
theorem qJm{tn:UInt64}(h0:tn.toNat≠0)(h1:tn.toNat<2^(8*4)): ∀(S:List (List UInt8)) (t:UInt64) (R:List (List UInt8)) (e:Nat) (J:List (List UInt8)),(∀s∈S,s.length≤39)→R.length+S.length≤65536→(0<R.length→tn=t)→
    (∀t',qBt t' (R.length+S.length) J=qMB)→rdl t R e (Txs tn R.length S++J)=(if S= [] then t else tn,R++S,e+S.length)
  | [],t,R,e,J,_,_,_,hJ=>by
    have:=hJ t
    rw [jH,zO] at this
    show rdl t R e J=_
    rw [qKi (λh=>by rw [this] at h;exact absurd h.2 (by decide)),if_pos rfl,jS];rfl
  |s::r,t,R,e,J,hS,hn,ht,hJ=>by
    have hs:=hS s (.head _)
    rw [jD] at hn hJ
    have hr:qBt t R.length (Txs tn R.length (s::r)++J)=⟨tn,s,1,true⟩:=qPO (by rw [Txs];rfl) h0 h1 (by omega) hs (by rw [Txs];simp) (λh=>by rw [ht h])
    have hne:Txs tn R.length (s::r)++J≠ []:=by rw [Txs];simp
    rw [qNP hne (by rw [hr]),hr]
    dsimp only
    have e1:(Txs tn R.length (s::r)++J).drop 1=Txs tn (R++ [s]).length r++J:=by
      rw [Txs,jA];rfl
    rw [e1,qJm h0 h1 r tn (R++ [s]) (e+1) J (λx hx=>hS x (.tail _ hx)) (by rw [jA,jP];omega) (λ_=>rfl) (λt'=>by rw [jA,jP];have:=hJ t';rwa [show R.length+1+r.length=R.length+(r.length+1) by omega])]
    rw [if_neg (List.cons_ne_nil s r),jT]
    refine Prod.ext_iff.2 ⟨?_,Prod.ext_iff.2 ⟨rfl,?_⟩⟩
    · dsimp only
      split<;>rfl
    · dsimp only
      rw [jD];omega
theorem qKh{t:UInt64}{R:List (List UInt8)}{e:Nat}{J:List (List UInt8)}(hJ: ∀t',qBt t' R.length J=qMB):rdl t R e J=(t,R,e):=qKi (λh=>by rw [hJ t] at h;exact absurd h.2 (by decide))
theorem qOz:qFE zS:=qRN.imp id (λh=>by rw [h];rfl)
theorem qKv{d:Dk}(h:d.wait= [])(i:Nat):d.now i=d.last.getD i []:=by unfold Dk.now;rw [h];rfl
theorem qHk(n i:Nat)(h:i<n):(Dk.new n).last.getD i []=zS:=by
 show(List.replicate n (List.replicate 64 0)).getD i []=zS
 rw [jB,zE,if_pos h];rfl
theorem qCT{d:Dk}{at_ n i:Nat}(h:i<n):(qDN d at_ n).getD i []=d.now (at_+i):=by
 unfold qDN
 rw [jB,jN,jv h];rfl
theorem qOX{d:Dk}(ho:d.off=false)(ha:d.armed=false)(hw:d.wait= []){p:Nat}{T:List UInt8}(hT:T.length=64)(hp:p<d.last.length)(h64: ∀s∈d.last,s.length=64):
    (qBM d p (λ_=>T) 1)=({d with last:=d.last.set p T,wait:= []},0):=by
  have h0:d.ready ((p+0:Nat):Int)=0:=qBR ho (i:=p+0) (by omega)
  have hwr:=qFN h0 (s:=T) (by omega) (qGK ha).2
  rw [(qGK ha).1] at hwr
  have e1:qCH d p (λ_=>T) 1=(d.write ((p+0:Nat):Int) T,d.wErr ((p+0:Nat):Int) T):=qB1 rfl
  have hfull:qHA T=T:=by unfold qHA;rw [hT];simp
  rw [hwr.1,hwr.2,hw,hfull] at e1
  have h2:(qCH d p (λ_=>T) 1).2=0:=by rw [e1]
  unfold qBM
  rw [if_pos h2,e1]
  dsimp only
  have hl:0<d.last.length:=by omega
  have h3:({d with wait:= []++ [(((p+0:Nat):Int).toNat,T)]}:Dk).ready 0=0:=qBR (d:={d with wait:= []++ [(((p+0:Nat):Int).toNat,T)]}) ho (i:=0) hl
  have h4:=qGK (d:={d with wait:= []++ [(((p+0:Nat):Int).toNat,T)]}) ha
  unfold Dk.sync Dk.sErr
  rw [if_neg (by rw [h3];decide),if_neg h4.2,if_neg (by rw [h3];decide),if_neg h4.2,h4.1]
  refine Prod.ext_iff.2 ⟨?_,rfl⟩
  dsimp only
  congr 1
  show qHp d.last (p,T) 64=d.last.set p T
  unfold qHp qGo
  dsimp only
  rw [jV (by omega),jq (by rw [qIy h64 hp];exact jJ _),jS]
end Go.Proofs.YtfldiegfenndjaaGreatDoor
