/- A part of the proof. -/
import Derived.Test.YtmemgokiolfdoaaGreatDoorTopMfG20
set_option maxRecDepth 100000
set_option maxHeartbeats 1000000
set_option linter.unusedSimpArgs false
set_option linter.unusedVariables false
namespace Go.Proofs.YtmemgokiolfdoaaGreatDoor
open Go Go.Fw Go.Proofs.Tryz
theorem el371:qCe prog 371 [.int .u64 0,.int .u64 0,.int .i64 0,.int .i64 0,Str [],Str []] 64:=qCe.of xH O
theorem qSj(g:Nat):Wtr (blk g [.pointer none,.slice none 0 0,I 0] 148) g [] 0:=
 ⟨[.pointer none,.slice none 0 0,I 0],λ_=>none,none,0,none,by funext k;simp only [U];cases blk g [.pointer none,.slice none 0 0,I 0] 148 k<;>rfl,λ_=> .inr O,O,⟨O,.inl O,O,qBc.nil,.inl O⟩,O⟩
theorem qPV{n:UInt64}{size:Nat}(h:n.toNat<2^(8*size))(bs:xA):qLi n size bs 0=bs++Sha.numB n size∧qCR (okN n size) 10 0=0:=by
 have e:okN n size=true:=decide_eq_true h
 have f:qCR (okN n size) 10 0=0:=by unfold qCR;rw [e,if_neg xD]
 exact⟨by unfold qLi;rw [if_pos f],f⟩
def qVi(s:xA):xA:=(Sha.tagged 8 [s]).take 8
def qLM(turn num:UInt64)(s:xA):xA:=(Sha.tagged 7 [Sha.numB turn 4,Sha.numB num 2,s]).take 8
theorem qCs(F:Hp)(n:UInt64)(size:Nat)(h1:1≤size)(h8:size<8)(hn:n.toNat<2^(8*size)):
    Cz prog 287 [W64 n,I size] F (Str (Sha.numB n size)):=by
  refine Ct.walk func287 O ntmps287 O (λw0 hw0=>?_)
  refine J.f λ_ j1=>J.b O<|J.c j1<|J.f λ_ j2=>J.k (qAJ O qLA O) O λg5 _=>J.c j2<|J.f λ_ j3=>J.j 2 O<|J.k (qAI O O ent (Ct.use1 1 O (λF' _=>qD2 F' (blk g5 [.pointer none,.slice none 0 0,I 0] 148) g5 [] 0 (qSj g5) xC n size h1 h8))) O ?_
  rintro m11 hw11
  rw [(qPV hn []).1,(qPV hn []).2,jq] at hw11
  refine J.k (qAI O O ent (Ct.use1 1 O (λF' _=>qDe F' m11 g5 (Sha.numB n size) 0 hw11 (by rw [Sha.numB_length];omega)))) O ?_
  rintro m12 _
  exact J.j 5 O<|J.c j3<|J.f λ_ j4=>J.j 2 O<|J.c j4<|J.A<|J.E hw0 O () O trivial [0] O xC
theorem qR9(F:Hp)(hK:qAG F ⟨3,0,none⟩ (Sha.K.map W32))(s:xA)(hs:s.length≤1048576):Cz prog 286 [Str s] F (Str (qVi s)):=by
 refine Ct.walk func286 O ntmps286 O (λw0 hw0=>?_)
 exact J.f λ_ j1=>J.b O<|J.c j1<|J.f λ_ j2=>J.b O<|J.k (qAF (l:= [.tmp 3]) (xs:= [[Str (s)]]) O O O O qAm el9 O xC xC xD) O λg4 _=>J.k (qAY O O (λF' hF=>qA5 F' (hK.mono (Fa hF)) 8 (some ⟨g4,0,none⟩) 1 1 [s] ((slS [s] O).mono (hF (blk g4 (([s]:List xA).map λs=>Str s) 9) xD)) xJ xC)) O λg5 _=>J.g ((qBC u9_ O O O O (by rw [Sha.tagged_length];decide)).as (v':=Str (qVi s)) (congrArg Str zk)) O<|J.b O<|J.c j2<|J.A<|J.E hw0 O () O trivial [0] O xC
theorem qUo(F:Hp)(hK:qAG F ⟨3,0,none⟩ (Sha.K.map W32))(turn num:UInt64)(s:xA)(ht:turn.toNat<2^(8*4))(hn:num.toNat<2^(8*2))(hs:s.length≤1048576):Cz prog 256 [W64 turn,W64 num,Str s] F (Str (qLM turn num s)):=by
 refine Ct.walk func256 O ntmps256 O (λw0 hw0=>?_)
 exact J.f λ_ j1=>J.b O<|J.c j1<|J.f λ_ j2=>J.b O<|J.k (qAY O O (λF' hF=>qCs F' turn 4 xC xC ht)) O λg8 _=>J.b O<|J.k (qAY O O (λF' hF=>qCs F' num 2 xC xC hn)) O λg10 _=>J.b O<|J.k (qAF (l:= [.tmp 8,.tmp 10,.tmp 11]) (xs:= [[Str (Sha.numB turn 4)],[Str (Sha.numB num 2)],[Str (s)]]) O O O O qAm el9 O xC xC xD) O λg12 _=>J.k (qAY O O (λF' hF=>qA5 F' (hK.mono (Fa hF)) 7 (some ⟨g12,0,none⟩) 3 3 [Sha.numB turn 4,Sha.numB num 2,s] ((slS [Sha.numB turn 4,Sha.numB num 2,s] O).mono (hF (blk g12 (([Sha.numB turn 4,Sha.numB num 2,s]:List xA).map λs=>Str s) 9) xD)) (by simp only [jb,jt,jP,jA,Sha.numB_length];omega) xC)) O λg13 _=>J.g ((qBC u9_ O O O O (by rw [Sha.tagged_length];decide)).as (v':=Str (qLM turn num s)) (congrArg Str zk)) O<|J.b O<|J.c j2<|J.A<|J.E hw0 O () O trivial [0] O xC
def qBg(n:Nat):Nat:=if n<1 then 1 else(n-1)/39+1
theorem qHH(F:Hp)(n:Nat)(hn:n≤1048576):Cz prog 135 [I n] F (I (qBg n:Nat)):=by
 refine Ct.walk func135 O ntmps135 O (λw0 hw0=>?_)
 refine J.f λ_ j1=>J.b O<|J.c j1<|J.q λ_ j2=>J.f λ_ j3=>J.b O<|J.g (qAS O O O) O<|J.c j3<|J.Z O (λh4=>?_) (λh4=>?_)
 ·
  exact J.f λ_ j4=>J.b O<|J.c j4<|J.A<|J.W<|J.E hw0 O () (by unfold qBg;rw [if_pos xB];rfl) trivial [0] O xC
 exact J.M j2<|J.f λ_ j5=>J.b O<|J.g ((qA8 O O O xB).nat (n-1) xB) O<|J.g ((qIM O O O xB).as (v':=I ((n-1)/39:Nat)) (congrArg I (Int.ofNat_tdiv _ _).symm)) O<|J.g (qAR O O O xB) O<|J.b O<|J.c j5<|J.A<|J.E hw0 O () (by unfold qBg;rw [if_neg xB];rfl) trivial [0] O xC
structure Prt where
 turn:UInt64
 num:UInt64
 at_:Nat
 all:Nat
 name:xA
 con:xA
def Prt.cells(p:Prt):List Value:= [W64 p.turn,W64 p.num,I p.at_,I p.all,Str p.name,Str p.con]
structure Prt.ok (p:Prt):Prop where
 t:p.turn.toNat<2^(8*4)
 n:p.num.toNat<2^(8*2)
 a:p.at_<256
 l:p.all<256
 m:p.name.length≤8
 c:p.con.length≤39
def Prt.b1(p:Prt):xA:=Sha.numB p.turn 4++Sha.numB p.num 2
def Prt.b2(p:Prt):xA:=p.b1++Sha.numB (UInt64.ofNat p.at_) 1
def Prt.b3(p:Prt):xA:=p.b2++Sha.numB (UInt64.ofNat p.all) 1
def Prt.b4(p:Prt):xA:=p.b3++Sha.numB (UInt64.ofNat p.con.length) 1
def Prt.b5(p:Prt):xA:=p.b4++p.name
def Prt.body(p:Prt):xA:=p.b5++p.con
def Prt.pad(p:Prt):xA:=p.body++List.replicate (56-p.body.length) 0
def Prt.text(p:Prt):xA:=p.pad++qVi p.pad
theorem qN5(s:xA):(qVi s).length=8:=by unfold qVi;rw [jE,Sha.tagged_length];rfl
theorem qSD(t n:UInt64)(s:xA):(qLM t n s).length=8:=by unfold qLM;rw [jE,Sha.tagged_length];rfl
theorem Prt.b4_len(p:Prt):p.b4.length=9:=by unfold Prt.b4 Prt.b3 Prt.b2 Prt.b1;simp only [jA,Sha.numB_length]
theorem Prt.body_len(p:Prt):p.body.length=9+p.name.length+p.con.length:=by unfold Prt.body Prt.b5;rw [jA,jA,p.b4_len]
theorem Prt.pad_len{p:Prt}(h:p.ok):p.pad.length=56:=by
 have:=p.body_len
 have:=h.m
 have:=h.c
 unfold Prt.pad;rw [jA,jI];omega
theorem Prt.text_len{p:Prt}(h:p.ok):p.text.length=64:=by unfold Prt.text;rw [jA,p.pad_len h,qN5]
theorem n1ok{n:Nat}(h:n<256):(UInt64.ofNat n).toNat<2^(8*1):=by rw [qBF xB];exact h
theorem qNI(F:Hp)(hK:qAG F ⟨3,0,none⟩ (Sha.K.map W32))(p:Prt)(hp:p.ok):Cz prog 261 [.agg p.cells.toArray] F (Str p.text):=by
 obtain ⟨h1,h2,h3,h4,h5,h6⟩:=hp
 have hbl:=p.body_len
 have hpl:=Prt.pad_len ⟨h1,h2,h3,h4,h5,h6⟩
 refine Ct.walk func261 O ntmps261 O (λw0 hw0=>?_)
 refine J.f λ_ j1=>J.k (qAd O O O) O λg1 _=>J.b O<|J.c j1<|J.q λ_ j2=>J.b2 [blk g1 p.cells 371] [] (.y 0 (.y 1 (.y 3 (.y 4 (.y 7 (.y 8 (.y 9 (.y 12 (.y 13 (.y 14 (.y 17 (.y 18 (.y 19 (.y 20 (.y 23 (.y 24 (.y 26 (.y 27 (.e 2 (.e 5 (.y 6 (.e 10 (.y 11 (.e 15 (.y 16 (.e 21 (.y 22 (.y 25 (.y 28 (.y 29 .nil)))))))))))))))))))))))))))))) Tryz.wide xF xD ?_
 refine J.p O (qAA O O qFA O qEk O) O O<|J.p O (qAC 0 O O O qFi O) O O<|J.p O (qAA O O qFA O qEk O) O O<|J.p O (qAC 0 O O O qFi O) O O<|J.p O (qAA O O qFA O z3_ O) O O<|J.p O (qAC 0 O O O b3_ O) O O<|J.p O (qAx O O u3_ qEp xB) O O<|J.p O (qAA O O qFA O z3_ O) O O<|J.p O (qAC 0 O O O b3_ O) O O<|J.p O (qAx O O u3_ qEp xB) O O<|J.p O (qAA O O qFA O z9_ O) O O<|J.p O (qAC 0 O O O b9_ O) O O<|J.p O (qAv u9_ O O) O O<|J.p O (qAx O O u3_ qEp xB) O O<|J.p O (qAA O O qFA O z9_ O) O O<|J.p O (qAC 0 O O O b9_ O) O O<|J.p O (qAA O O qFA O z9_ O) O O<|J.p O (qAC 0 O O O b9_ O) O O<|J.a1 O (qAY O O (λF' hF=>qCs F' p.turn 4 xC xC h1)) O xD λg6 _=>J.a1 O (qAY O O (λF' hF=>qCs F' p.num 2 xC xC h2)) O xD λg9 _=>J.p O ((qBb O O O (by first|(have hb4:=p.b4_len;have hbl:=p.body_len;simp only [jA,jI,Prt.b4,Prt.b3,Prt.b2,Prt.b1,Prt.b5,Prt.body,Sha.numB_length] at hb4 hbl⊢;omega)|omega)).as (v':=Str (p.b1)) O) O O<|J.a1 O (qAY O O (λF' hF=>qCs F' (UInt64.ofNat p.at_) 1 xC xC (n1ok h3))) O xD λg14 _=>J.p O ((qBb O O O (by first|(have hb4:=p.b4_len;have hbl:=p.body_len;simp only [jA,jI,Prt.b4,Prt.b3,Prt.b2,Prt.b1,Prt.b5,Prt.body,Sha.numB_length] at hb4 hbl⊢;omega)|omega)).as (v':=Str (p.b2)) O) O O<|J.a1 O (qAY O O (λF' hF=>qCs F' (UInt64.ofNat p.all) 1 xC xC (n1ok h4))) O xD λg19 _=>J.p O ((qBb O O O (by first|(have hb4:=p.b4_len;have hbl:=p.body_len;simp only [jA,jI,Prt.b4,Prt.b3,Prt.b2,Prt.b1,Prt.b5,Prt.body,Sha.numB_length] at hb4 hbl⊢;omega)|omega)).as (v':=Str (p.b3)) O) O O<|J.a1 O (qAY O O (λF' hF=>qCs F' (UInt64.ofNat p.con.length) 1 xC xC (n1ok xB))) O xD λg25 _=>J.p O ((qBb O O O (by first|(have hb4:=p.b4_len;have hbl:=p.body_len;simp only [jA,jI,Prt.b4,Prt.b3,Prt.b2,Prt.b1,Prt.b5,Prt.body,Sha.numB_length] at hb4 hbl⊢;omega)|omega)).as (v':=Str (p.b4)) O) O O ?_
 refine J.p O ((qBb O O O (by first|(have hb4:=p.b4_len;have hbl:=p.body_len;simp only [jA,jI,Prt.b4,Prt.b3,Prt.b2,Prt.b1,Prt.b5,Prt.body,Sha.numB_length] at hb4 hbl⊢;omega)|omega)).as (v':=Str (p.b5)) O) O O<|J.p O ((qBb O O O (by first|(have hb4:=p.b4_len;have hbl:=p.body_len;simp only [jA,jI,Prt.b4,Prt.b3,Prt.b2,Prt.b1,Prt.b5,Prt.body,Sha.numB_length] at hb4 hbl⊢;omega)|omega)).as (v':=Str (p.body)) O) O O<|J.b7 ?_
 refine J.b1<|J.u (J.D j2 ?_)
 exact J.f λ_ j3=>J.j 2 O<|J.g (qAv u9_ O O) O<|J.g ((qA8 O O O xB).nat (56-p.body.length) xB) O<|J.k (qAY O O (λF' hF=>qFp F' (56-p.body.length) xB)) O λg37 _=>J.g ((qBb O O O (by rw [jI];omega)).as (v':=Str p.pad) O) O<|J.b O<|J.c j3<|J.f λ_ j4=>J.j 2 O<|J.k (qAY O O (λF' hF=>qR9 F' (hK.mono (Fa hF)) p.pad xB)) O λg41 _=>J.g ((qBb O O O (by rw [qN5];omega)).as (v':=Str p.text) O) O<|J.b O<|J.c j4<|J.A<|J.E hw0 O () O trivial [0] O xC
def R0(s:xA):RS:=⟨s.take 56,0⟩
def R1(s:xA):RS:=(R0 s).take 4
def R2(s:xA):RS:=(R1 s).take 2
def R3(s:xA):RS:=(R2 s).take 1
def R4(s:xA):RS:=(R3 s).take 1
def R5(s:xA):RS:=(R4 s).take 1
def R6(s:xA):RS:=(R5 s).take 8
def qYJ(s:xA):Nat:=min (qFv ((R4 s).out 1)) 39
def rdp(s:xA):Prt:=⟨UInt64.ofNat (qFv ((R0 s).out 4)),UInt64.ofNat (qFv ((R1 s).out 2)),qFv ((R2 s).out 1),qFv ((R3 s).out 1),(R5 s).out 8,(R6 s).out (qYJ s)⟩
def qKk:Prt:=⟨0,0,0,0,[],[]⟩
theorem qCb(st:RS)(n k:Nat)(h:256^n≤k):qFv (st.out n)<k:=
 zb (qMJ _) (jX (jm xC (st.out_len n)) h)
theorem qYc(s:xA):(rdp s).ok:=by
  have h4:=qCb (R0 s) 4 4294967296 xC
  have h2:=qCb (R1 s) 2 65536 xC
  refine⟨?_,?_,qCb _ 1 256 xC,qCb _ 1 256 xC,RS.out_len _ _,jX (RS.out_len _ _) (Nat.min_le_right _ _)⟩
  · show(UInt64.ofNat (qFv ((R0 s).out 4))).toNat<_
    rw [qBF xB];exact h4
  · show(UInt64.ofNat (qFv ((R1 s).out 2))).toNat<_
    rw [qBF xB];exact h2
def qC5(s:xA):Prt×Bool:=if qVi (s.take 56)=s.drop 56 then(rdp s,decide ((rdp s).text=s)) else(qKk,false)
theorem qNO(F:Hp)(hK:qAG F ⟨3,0,none⟩ (Sha.K.map W32))(s:xA)(hs:s.length=64):Cz prog 255 [Str s] F (.tuple #[.agg (qC5 s).1.cells.toArray,.bool (qC5 s).2]):=by
 have hn4:=qCb (R4 s) 1 256 xC
 refine Ct.walk func255 O ntmps255 O (λw0 hw0=>?_)
 change J _ [(0,_)] _ _ _
 refine J.f λ_ j1=>J.k (qAJ O qMa O) O λg2 _=>?_
 change J _ _ _ [F,blk g2 _ 371] _
 refine J.b O<|J.c j1<|J.q λ_ j2=>J.q λ_ j3=>J.b2 [F] [] (.y 0 (.y 1 (.y 3 (.y 4 (.e 2 (.y 5 .nil)))))) Tryz.wide xF xD ?_
 refine J.G ?_
 refine J.p O ((qBC (l:=0) (h:=56) u9_ O O O O ⟨xB,xB⟩).as (v':=Str (s.take 56)) (congrArg Str zk)) O O<|J.G ?_
 refine J.p O ((qBC (l:=56) (h:=s.length) u9_ O O O O ⟨xB,xB⟩).as (v':=Str (s.drop 56)) (by rw [jo])) O O<|J.a1 O (qAY O O (λF' hF=>qR9 F' (hK.mono (Fa hF)) (s.take 56) (by rw [jE];omega))) O xD λg9 _=>J.p O (qDi O O O) O O<|J.b1<|J.u (J.D j3 ?_)
 refine J.Z O (λh12=>?_) (λh12=>?_)
 ·
  refine J.f λ_ j4=>J.g (qAM (l:= []) (vs:= []) (places:= [(0,1),(1,1),(2,1),(3,1),(4,1),(5,1)]) (r:= [W64 0,W64 0,I 0,I 0,Str [],Str []]) O O O qFA qMa (λ_=>xH) O) O<|J.a8 (qAD (l:=qKk.cells) (i:=1) (vs:=qKk.cells) O O O O O qGp O O) O O λ_ _=>?_
  change J _ _ _ [_,blk g2 qKk.cells 371] _
  exact J.b O<|J.c j4<|J.A<|J.W<|J.a9 hw0 (λ_ _ h=>h) (rv2 O (RV.blkA 1 O O isAgg371 qGp) O) (qAi () (by unfold qC5;rw [if_neg (show¬qVi (s.take 56)=s.drop 56 from h12)]) trivial [0] O xC)
 refine J.M j2<|J.f λ_ j5=>J.b O<|J.g ((qBC (l:=0) (h:=56) u9_ O O O O ⟨xB,xB⟩).as (v':=Str (s.take 56)) (congrArg Str zk)) O<|J.k (qAI O O ent (Ct.use (new:=λg=> [RSb g (R0 s)]) (λF' _=>(qWc F' (s.take 56)).mono (φ2:=λ_=>True) (val2:=Ptr) (ms2:=λg=>F':: [RSb g (R0 s)]) id (λ_ _=>rfl) (λ_ h=>h) (λx w0 w _ h=>h.pick [1,0] xC)))) O ?_
 rintro g16 _
 change J _ _ _ [F,blk g2 _ 371,RSb g16 (R0 s)] _
 refine J.b O<|J.c j5<|J.f λ_ j6=>J.b O<|J.k (qAI O O ent (Ct.use1 2 (m':=λ_:Unit=>RSb g16 (R1 s)) (new:=λ_=> []) O (λF' _=>qHA F' g16 (R0 s) 4 xB xB))) O λg18 _=>?_
 change J _ _ _ [_,_,RSb g16 (R1 s)] _
 rw [N_W (show qFv ((R0 s).out 4)<18446744073709551616 from zb (qCb _ 4 (256^4) (jK _)) xC)]
 refine J.b O<|J.k (qAI O O ent (Ct.use1 2 (m':=λ_:Unit=>RSb g16 (R2 s)) (new:=λ_=> []) O (λF' _=>qHA F' g16 (R1 s) 2 xB xB))) O λg20 _=>?_
 change J _ _ _ [_,_,RSb g16 (R2 s)] _
 rw [N_W (show qFv ((R1 s).out 2)<18446744073709551616 from zb (qCb _ 2 (256^2) (jK _)) xC)]
 refine J.b O<|J.k (qAI O O ent (Ct.use1 2 (m':=λ_:Unit=>RSb g16 (R3 s)) (new:=λ_=> []) O (λF' _=>qHA F' g16 (R2 s) 1 xB xB))) O λg22 _=>?_
 change J _ _ _ [_,_,RSb g16 (R3 s)] _
 refine J.g (qEO O O qEp u3_ (by have:=qCb (R2 s) 1 256 xC;omega)) O<|J.b O<|J.k (qAI O O ent (Ct.use1 2 (m':=λ_:Unit=>RSb g16 (R4 s)) (new:=λ_=> []) O (λF' _=>qHA F' g16 (R3 s) 1 xB xB))) O λg25 _=>?_
 change J _ _ _ [_,_,RSb g16 (R4 s)] _
 refine J.g (qEO O O qEp u3_ (by have:=qCb (R3 s) 1 256 xC;omega)) O<|J.g (qAM (l:= [(0,.tmp 18),(1,.tmp 20),(2,.tmp 23),(3,.tmp 26)]) (vs:= [W64 (rdp s).turn,W64 (rdp s).num,I (rdp s).at_,I (rdp s).all]) (places:= [(0,1),(1,1),(2,1),(3,1),(4,1),(5,1)]) (r:= [W64 (rdp s).turn,W64 (rdp s).num,I (rdp s).at_,I (rdp s).all,Str [],Str []]) O O O qFA qMa (λ_=>xH) O) O<|J.k (qAJ O qMa O) O λg5 _=>?_
 change J _ _ _ [_,_,_,blk g5 _ 371] _
 refine J.a8 (qAD (l:=qKk.cells) (i:=3) (vs:= [W64 (rdp s).turn,W64 (rdp s).num,I (rdp s).at_,I (rdp s).all,Str [],Str []]) O O O O O qGp O O) O O λ_ _=>?_
 change J _ _ _ [_,_,_,blk g5 [W64 (rdp s).turn,W64 (rdp s).num,I (rdp s).at_,I (rdp s).all,Str [],Str []] 371] _
 refine J.c j6<|J.f λ_ j7=>J.b O<|J.k (qAI O O ent (Ct.use1 2 (m':=λ_:Unit=>RSb g16 (R5 s)) (new:=λ_=> []) O (λF' _=>qHA F' g16 (R4 s) 1 xB xB))) O λg29 _=>?_
 change J _ _ _ [_,_,RSb g16 (R5 s),_] _
 refine J.g (qEO O O qEp u3_ xB) O<|J.b O<|J.c j7<|J.f λ_ j8=>J.b O<|J.k (qAI O O ent (Ct.use1 2 (m':=λ_:Unit=>RSb g16 (R6 s)) (new:=λ_=> []) O (λF' _=>qKO F' g16 (R5 s) 8))) O λg32 _=>?_
 change J _ _ _ [_,_,RSb g16 (R6 s),_] _
 refine J.V 4 qFA z9_ O O O O O<|J.a8 (qAa (i:=3) (vs:= [Str (rdp s).name]) O O O O O z9_ O xD) O O λ_ _=>?_
 change J _ _ _ [_,_,_,blk g5 [W64 (rdp s).turn,W64 (rdp s).num,I (rdp s).at_,I (rdp s).all,Str (rdp s).name,Str []] 371] _
 refine J.c j8<|J.f λ_ j9=>J.j 2 O<|J.g ((qGA O O O).as (v':=I (qYJ s:Nat)) (congrArg I (by unfold qYJ;omega))) O<|J.k (qAI O O ent (Ct.use1 2 (m':=λ_:Unit=>RSb g16 ((R6 s).take (qYJ s))) (new:=λ_=> []) O (λF' _=>qKO F' g16 (R6 s) (qYJ s)))) O λg37 _=>?_
 change J _ _ _ [_,_,RSb g16 ((R6 s).take (qYJ s)),_] _
 refine J.V 5 qFA z9_ O O O O O<|J.a8 (qAa (i:=3) (vs:= [Str (rdp s).con]) O O O O O z9_ O xD) O O λ_ _=>?_
 change J _ _ _ [_,_,_,blk g5 (rdp s).cells 371] _
 refine J.c j9<|J.q λ_ j10=>J.b2 [F,blk g5 (rdp s).cells 371] [5,6,100003,100004] (.y 0 (.y 1 (.y 3 (.e 2 (.y 4 (.e 5 (.e 6 .nil))))))) Tryz.wide xF xD ?_
 refine J.p O (qAW 1 O O O isAgg371 qGp O) O O<|J.p O (qAW 1 O O O isAgg371 qGp O) O O<|J.d2 O (qAb O O) O O O ?_
 refine J.a1 O (qAY O O (λF' hF=>qNI F' (hK.mono (Fa hF)) (rdp s) (qYc s))) O xD λg41 _=>J.d2 O (qBY O O O) O O O ?_
 refine J.c1 O (qAD (l:=qKk.cells) (i:=1) (vs:=(rdp s).cells) O O O O O qGp O O) O O O λ_ _=>?_
 change J _ _ _ [_,blk g2 (rdp s).cells 371,_,_] _
 refine J.d5 O (YOp.eop (qBH O O)) O O O O ?_
 intro _ _
 refine J.b1<|J.u (J.D j10 ?_)
 exact J.A<|J.a9 hw0 (λ_ _ h=>h) (rv2 O (RV.blkA 1 O O isAgg371 qGp) O) (qAi () (by unfold qC5;rw [if_pos (show qVi (s.take 56)=s.drop 56 from Decidable.not_not.1 h12)]) trivial [0] O xC)
theorem qPP:(qC5 (List.replicate 64 0)).2=false∨(qC5 (List.replicate 64 0)).1.turn=0:=by
  unfold qC5
  split
  · right
    show UInt64.ofNat (qFv ((R0 (List.replicate 64 0)).out 4))=0
    decide
  · exact .inl O
theorem qL1(F:Hp)(hK:qAG F ⟨3,0,none⟩ (Sha.K.map W32))(gh:Option Addr)(A:Option Addr)(n c:Nat)(ls:List xA)(hl:Sl F 1 A n c (qAH ls))(hn:0<n)(s:xA)(hs:ls[0]?=some s)(h64:s.length=64)(hok:(qC5 s).2=true)(ht:(qC5 s).1.turn=0):
    Cz prog 199 [.pointer gh,.slice A n c] F (.tuple #[.int .u64 0,Str [],I 0,.bool false]):=by
  refine Ct.walk func199 O ntmps199 O (λw0 hw0=>?_)
  refine J.f λ_ j1=>J.j 4 O<|J.c j1<|J.f λ_ j2=>J.b O<|J.g (qAE (i:=0) O O O qAm z9_ hl hn) O<|J.g (qAL O O b9_ (m:=F) xD (hl.elem (qAe hs))) O<|J.k (qAY O O (λF' hF=>qNO F' (hK.mono (Fa hF)) s h64)) O λg18 _=>J.j 2 O<|J.g ((qAV (v:= .bool (qC5 s).2) O O O).as (v':= .bool true) (by rw [hok])) O<|J.k (qAJ O qMa O) O λg8 _=>J.a8 (qAD (l:=qKk.cells) (i:=1) (vs:=(qC5 s).1.cells) O O O O O qGp O O) O O λ_ _=>J.b O<|J.c j2<|J.q λ_ j3=>J.q λ_ j4=>J.b2 [blk g8 (qC5 s).1.cells 371] [] (.y 0 (.y 1 (.y 2 (.y 3 (.y 4 (.y 5 (.y 6 (.y 7 (.y 8 (.y 9 (.y 10 (.y 11 (.y 12 (.y 13 (.y 14 (.y 15 (.y 16 (.y 17 (.y 18 (.y 19 (.y 20 (.y 21 (.y 22 (.y 23 (.y 24 (.y 25 (.y 26 (.y 27 (.y 28 (.y 29 (.y 30 (.y 31 (.y 32 (.y 33 (.y 34 (.y 35 (.y 36 (.y 37 (.y 38 (.y 39 (.y 40 (.y 41 (.y 42 (.y 43 (.y 44 (.y 45 (.y 46 .nil))))))))))))))))))))))))))))))))))))))))))))))) Tryz.wide xF xD ?_
  refine J.G ?_
  refine J.p O ((qAq O O).as (v':= .bool false) O) O O<|J.G ?_
  refine J.a2 O (qAA O O qFA O z3_ O) O O<|J.a2 O (qAC 0 O O O b3_ O) O O<|J.a2 O (qAf O O O) O O<|J.e5 ?_
  refine J.G ?_
  refine J.c0 (d:=28) O (λh28=>?_) (λh28=>?_)
  ·
    iterate 3 refine J.b4 ?_
    refine J.c3 ?_
    refine J.G ?_
    iterate 9 refine J.b4 ?_
    refine J.c3 ?_
    refine J.G ?_
    iterate 5 refine J.b4 ?_
    refine J.c3 ?_
    refine J.G ?_
    iterate 7 refine J.b4 ?_
    refine J.c5 O (Wan.un O O O O) O O ?_
    refine J.c5 O (Wan.un O O O O) O O ?_
    refine J.c5 O (Wan.un O O O O) O O ?_
    refine J.c5 O (Wan.un O O O O) O O ?_
    refine J.c5 O (Wan.un O O O O) O O ?_
    refine J.c5 O (Wan.un O O O O) O O ?_
    refine J.c5 O (Wan.un O O O O) O O ?_
    refine J.b4 ?_
    refine J.c3 ?_
    refine J.b1<|J.u (J.D j4 ?_)
    refine J.c2 ?_
    exact J.f λ_ j5=>J.j 4 O<|J.c j5<|J.A<|J.W<|J.a9 hw0 (λ_ _ h=>h) (qTW O O O O O) (qAi () O trivial [0] O xC)
  refine J.a2 O (qAA O O qFA O qEk O) O O<|J.a2 O (qAC 0 O O O qFi O) O O<|J.a2 O ((qAU O O O).as (v':= .bool true) (by rw [ht];rfl)) O O<|J.e5 ?_
  refine J.G ?_
  iterate 9 refine J.b4 ?_
  refine J.c3 ?_
  refine J.G ?_
  iterate 5 refine J.b4 ?_
  refine J.c3 ?_
  refine J.G ?_
  iterate 7 refine J.b4 ?_
  refine J.c5 O (Wan.un O O O O) O O ?_
  refine J.c5 O (Wan.un O O O O) O O ?_
  refine J.c5 O (Wan.un O O O O) O O ?_
  refine J.c5 O (Wan.un O O O O) O O ?_
  refine J.c5 O (Wan.un O O O O) O O ?_
  refine J.c5 O (Wan.un O O O O) O O ?_
  refine J.c5 O (Wan.un O O O O) O O ?_
  refine J.b4 ?_
  refine J.c3 ?_
  refine J.b1<|J.u (J.D j4 ?_)
  refine J.c2 ?_
  exact J.f λ_ j6=>J.j 4 O<|J.c j6<|J.A<|J.W<|J.a9 hw0 (λ_ _ h=>h) (qTW O O O O O) (qAi () O trivial [0] O xC)
theorem qL2(F:Hp)(hK:qAG F ⟨3,0,none⟩ (Sha.K.map W32))(gh:Option Addr)(A:Option Addr)(n c:Nat)(ls:List xA)(hl:Sl F 1 A n c (qAH ls))(hn:0<n)(s:xA)(hs:ls[0]?=some s)(h64:s.length=64)(hok:(qC5 s).2=false):
    Cz prog 199 [.pointer gh,.slice A n c] F (.tuple #[.int .u64 0,Str [],I 0,.bool false]):=by
  refine Ct.walk func199 O ntmps199 O (λw0 hw0=>?_)
  refine J.f λ_ j1=>J.j 4 O<|J.c j1<|J.f λ_ j2=>J.b O<|J.g (qAE (i:=0) O O O qAm z9_ hl hn) O<|J.g (qAL O O b9_ (m:=F) xD (hl.elem (qAe hs))) O<|J.k (qAY O O (λF' hF=>qNO F' (hK.mono (Fa hF)) s h64)) O λg18 _=>J.j 2 O<|J.g ((qAV (v:= .bool (qC5 s).2) O O O).as (v':= .bool false) (by rw [hok])) O<|J.k (qAJ O qMa O) O λg8 _=>J.a8 (qAD (l:=qKk.cells) (i:=1) (vs:=(qC5 s).1.cells) O O O O O qGp O O) O O λ_ _=>J.b O<|J.c j2<|J.q λ_ j3=>J.q λ_ j4=>J.b2 [blk g8 (qC5 s).1.cells 371] [] (.y 0 (.y 1 (.y 2 (.y 3 (.y 4 (.y 5 (.y 6 (.y 7 (.y 8 (.y 9 (.y 10 (.y 11 (.y 12 (.y 13 (.y 14 (.y 15 (.y 16 (.y 17 (.y 18 (.y 19 (.y 20 (.y 21 (.y 22 (.y 23 (.y 24 (.y 25 (.y 26 (.y 27 (.y 28 (.y 29 (.y 30 (.y 31 (.y 32 (.y 33 (.y 34 (.y 35 (.y 36 (.y 37 (.y 38 (.y 39 (.y 40 (.y 41 (.y 42 (.y 43 (.y 44 (.y 45 (.y 46 .nil))))))))))))))))))))))))))))))))))))))))))))))) Tryz.wide xF xD ?_
  refine J.G ?_
  refine J.p O ((qAq O O).as (v':= .bool true) O) O O<|J.G ?_
  iterate 3 refine J.b4 ?_
  refine J.c3 ?_
  refine J.G ?_
  iterate 3 refine J.b4 ?_
  refine J.c3 ?_
  refine J.G ?_
  iterate 9 refine J.b4 ?_
  refine J.c3 ?_
  refine J.G ?_
  iterate 5 refine J.b4 ?_
  refine J.c3 ?_
  refine J.G ?_
  iterate 7 refine J.b4 ?_
  refine J.c5 O (Wan.un O O O O) O O ?_
  refine J.c5 O (Wan.un O O O O) O O ?_
  refine J.c5 O (Wan.un O O O O) O O ?_
  refine J.c5 O (Wan.un O O O O) O O ?_
  refine J.c5 O (Wan.un O O O O) O O ?_
  refine J.c5 O (Wan.un O O O O) O O ?_
  refine J.c5 O (Wan.un O O O O) O O ?_
  refine J.b4 ?_
  refine J.c3 ?_
  refine J.b1<|J.u (J.D j4 ?_)
  refine J.c2 ?_
  exact J.f λ_ j5=>J.j 4 O<|J.c j5<|J.A<|J.W<|J.a9 hw0 (λ_ _ h=>h) (qTW O O O O O) (qAi () O trivial [0] O xC)
theorem qOc(F:Hp)(hK:qAG F ⟨3,0,none⟩ (Sha.K.map W32))(gh:Option Addr)(A:Option Addr)(n c:Nat)(ls:List xA)(hl:Sl F 1 A n c (qAH ls))(hn:0<n)(s:xA)(hs:ls[0]?=some s)(h64:s.length=64)(hz:(qC5 s).2=false∨(qC5 s).1.turn=0):
    Cz prog 199 [.pointer gh,.slice A n c] F (.tuple #[.int .u64 0,Str [],I 0,.bool false]):=by
  cases h:(qC5 s).2 with
  |false=>exact qL2 F hK gh A n c ls hl hn s hs h64 h
  |true=>exact qL1 F hK gh A n c ls hl hn s hs h64 h (hz.resolve_left (by rw [h];decide))
def zS:xA:=List.replicate 64 0
theorem qYK:zS.length=64:=jI
theorem qVo:(qC5 zS).2=false∨(qC5 zS).1.turn=0:=qPP
theorem qOQ(n:Nat)(z:xA):qAH (List.replicate n z)++qAH [z]=qAH (List.replicate (n+1) z):=by
 rw [List.replicate_succ',←qID]
theorem qSB(F:Hp)(hK:qAG F ⟨3,0,none⟩ (Sha.K.map W32))(gb gd:Nat)(first:Int)(size:Nat)(hat:Int)(hturn:UInt64)(hend:Int)(Ar:Option Addr)(nr cr:Nat)(bad:Bool)(hB:qAG F ⟨gb,0,none⟩ [Ptr gd,I first,I (size:Nat),I hat,W64 hturn,I hend,.slice Ar nr cr,.bool bad])(d:Dk)(A:Option Addr)(c:Nat)(B:Option Addr)(e:Nat)(C:Option Addr)(f:Nat)(hc:qAG F ⟨gd,0,none⟩ (d.cells A c B e C f))(hL:Sl F 1 A d.last.length c (qAH d.last))(hW:Sl F 2 B d.wait.length e (qDk d.wait))(hn1:d.last.length≤1073741824)(hn2:d.wait.length≤1073741824)
    (at_:Nat) (hs0:0<size) (hs:at_+size≤1048576) (hz: ∀i:Nat,i<size→d.ready ((at_+i:Nat):Int)=0∧d.read ((at_+i:Nat):Int)=zS):
    Cz prog 121 [Ptr gb,I (at_:Nat)] F (.tuple #[.agg #[I at_,W64 0,I 0,.slice none 0 0],I 0]):=by
  refine Ct.walk func121 O ntmps121 O (λw0 hw0=>?_)
  refine J.f λ_ j1=>J.k (qAJ O zeroValue242 O) O λg4 _=>J.b O<|J.c j1<|J.f λ_ j2=>J.b O<|J.g (qAM (places:= [(0,1),(1,1),(2,1),(3,1)]) (r:= [I at_,W64 0,I 0,.slice none 0 0]) O O O qEq zeroValue242 (λ_=>xH) O) O<|J.k (qAJ O zeroValue242 O) O λg6 _=>J.a8 (qAD (l:= [I 0,W64 0,I 0,.slice none 0 0]) (i:=2) (vs:= [I at_,W64 0,I 0,.slice none 0 0]) O O O O O qDs O O) O O λ_ _=>J.c j2<|J.f λ_ j3=>J.b O<|J.c j3<|J.q λ_ j4=>J.q λ_ j5=>J.c7 [0,1,2,3] [F,blk g4 _ 242,blk g6 [I at_,W64 0,I 0,.slice none 0 0] 242,(λ_=>none)] O xC<|J.L<|J.b O<|J.g (qAB O O) O<|J.V 2 qFl z3_ O O O O O<|J.g (qAL O O b3_ (m:=F) xD (hB.at (i:=2) O)) O<|J.b O<|J.c j5<|J.T<|J.b8 (X:=Nat×Hp×Option Addr×Nat) (λx=> [(0,Ptr gb),(1,I (at_:Nat)),(4,Ptr g4),(6,Ptr g6),(7,.slice x.2.2.1 x.1 x.2.2.2),(20,I (size:Nat)),(21,I x.1)]) (λx=> [F,blk g4 [I 0,W64 0,I 0,.slice none 0 0] 242,blk g6 [I at_,W64 0,I 0,.slice none 0 0] 242,x.2.1]) (λx=>x.1≤size∧Row x.2.1 9 1 x.2.2.1 x.1 x.2.2.2 (qAH (List.replicate x.1 zS))) (λx=>size-x.1) (0,(λ_=>none),none,0) (⟨jG _,qBc.nil⟩) ⟨O,O,O,O,O,O,O,trivial⟩ (λ_ h=>h) ?_
  rintro⟨k,m,A7,c7⟩ ⟨hk,hr⟩ I0 hI0
  dsimp only at hk hr⊢
  refine J.f λ_ j6=>J.g (qAS O O O) O<|J.c j6<|J.q λ_ j7=>J.Z O (λh22=>?_) (λh22=>?_)
  ·
    refine J.M j7<|J.q λ_ j8=>J.T<|J.f λ_ j9=>J.j 2 O<|J.c j9<|J.f λ_ j10=>J.b O<|J.g (qAB O O) O<|J.V 0 qFl sizeOf24 O O O O O<|J.g (qAL O O isAgg24 (m:=F) xD (hB.at (i:=0) O)) O<|J.j 2 O<|J.g ((qAR O O O xB).nat (at_+k) xB) O<|J.k (qAY O O (λF' hF=>qTC F' gd d A c B e C f (hc.mono (Fa hF)) (hL.mono (Fa hF)) (hW.mono (Fa hF)) ((at_+k:Nat):Int) hn1 hn2)) O λg32 _=>J.b O<|J.g ((qAV (v:=Str (d.read ((at_+k:Nat):Int))) O O O).as (v':=Str zS) (by rw [(hz k xB).2])) O<|J.g ((qAV (v:=I (d.ready ((at_+k:Nat):Int))) O O O).as (v':=I 0) (by rw [(hz k xB).1])) O<|J.j 2 O<|J.c j10<|J.q λ_ j11=>J.f λ_ j12=>J.b O<|J.g ((qAf O O O).no xC) O<|J.c j12<|J.a3 ?_
    refine J.M j11<|J.L<|J.j 2 O<|J.k (qAF (l:= [.tmp 40]) (xs:= [[Str zS]]) O O O O qAm el9 O xC xC xD) O λg41 _=>J.k (qAc (i:=3) (m2:=blk g41 [Str zS] 9) O O O qAm qAm el9 O hr xD ((qAp (q:=True) (xs:=qAH [zS]) O (by simp [qAH])).sl) (by simp [qAH,Value.oneCell']) xB xB) O ?_
    rintro⟨A8,c8,m8⟩ h8
    try dsimp only at h8
    rw [qOQ] at h8
    refine J.b O<|J.a5<|J.a4<|J.u (J.D j8 ?_)
    exact J.L<|J.g ((qAR O O O xB).nat (k+1) xB) O<|J.b O<|J.a5<|J.u<|J.b0 (k+1,m8,A8,c8) (λy (hy:_∧size-y.1<size-k)=>hI0 y hy.1 hy.2) ⟨⟨by dsimp only;omega,h8⟩,by dsimp only;omega⟩ ⟨O,O,O,O,O,O,O,trivial⟩ (λ_ h=>h.pick [0,1,2,3] xC)
  refine J.b5<|J.a0<|J.a0<|J.b6 ?_
  refine J.u (J.D j4 ?_)
  refine J.q λ_ j13=>J.T<|J.b8 (X:=Unit) (λ_=> [(4,Ptr g4),(6,Ptr g6),(7,.slice A7 k c7)]) (λ_=> [F,blk g4 [I 0,W64 0,I 0,.slice none 0 0] 242,blk g6 [I at_,W64 0,I 0,.slice none 0 0] 242,m]) (λ_=>True) (λ_=>0) () (trivial) ⟨O,O,O,trivial⟩ (λ_ h=>h) ?_
  rintro _ _ I2 hI2
  refine J.q λ_ j14=>J.f λ_ j15=>J.b O<|J.g (qAQ qAm O O) O<|J.g ((qA7 O O O).yes xB) O<|J.c j15<|J.c2 ?_
  refine J.M j14<|J.T<|J.f λ_ j16=>J.b O<|J.k (qAY O O (λF' hF=>qOc F' (hK.mo hF) (some ⟨g6,0,none⟩) A7 k c7 (List.replicate k zS) (hr.sl.mono (Fa hF)) xB zS (by rw [List.getElem?_replicate,if_pos xB]) qYK qVo)) O ?_
  intro g49 _
  refine J.j 9 O<|J.c j16<|J.q λ_ j17=>J.f λ_ j18=>J.b O<|J.g ((qAq O O).as (v':= .bool true) O) O<|J.c j18<|J.c2 ?_
  refine J.b5<|J.a0<|J.h1 O ?_
  refine J.a0<|J.b6 ?_
  refine J.u (J.D j13 ?_)
  exact J.f λ_ j19=>J.b9 2 isAgg242 qDs O O O O O<|J.a8 (qAD (l:= [I 0,W64 0,I 0,.slice none 0 0]) (i:=1) (vs:= [I at_,W64 0,I 0,.slice none 0 0]) O O O O O qDs O O) O O λ_ _=>J.b O<|J.c j19<|J.A<|J.a9 hw0 (λ_ _ h=>h) (rv2 O (RV.blkA 1 O O isAgg242 qDs) O) (qAi () O trivial [0] O xC)
def hatk(first:Nat):Nat→Int
 |0=>0
 |_+1=>first
theorem qOl(F:Hp)(hK:qAG F ⟨3,0,none⟩ (Sha.K.map W32))(gd:Nat)(d:Dk)(A:Option Addr)(c:Nat)(B:Option Addr)(e:Nat)(C:Option Addr)(f:Nat)(hc:qAG F ⟨gd,0,none⟩ (d.cells A c B e C f))(hL:Sl F 1 A d.last.length c (qAH d.last))(hW:Sl F 2 B d.wait.length e (qDk d.wait))(hn1:d.last.length≤1024)(hn2:d.wait.length≤1073741824)(first count:Nat)(h8:8≤count)(hfc:first+count≤d.last.length)(hz: ∀i:Nat,i<d.last.length→d.ready (i:Int)=0∧d.read (i:Int)=zS):
    Ct prog 51 [Ptr gd,I (first:Nat),I (count:Nat)] [F] (λg:Nat=> .tuple #[Ptr g,I 0]) (λ_=>True) (λg41=> [F,blk g41 [Ptr gd,I (first:Nat),I ((count/2):Nat),I (first:Nat),W64 0,I 0,.slice none 0 0,.bool false] 244]):=by
  refine Ct.walk func51 O ntmps51 O (λw0 hw0=>?_)
  refine J.f λ_ j1=>J.j 2 O<|J.c j1<|J.q λ_ j2=>J.f λ_ j3=>J.b O<|J.g ((qA4 underlying24 O O O).as (v':= .bool false) O) O<|J.j 2 O<|J.H ((qAS O O O).no xB) O<|J.j 3 O<|J.H ((qAS O O O).no xB) O<|J.j 4 O<|J.d0 (qAY O O (λF' hF=>qN1 F' gd d A c B e C f (hc.mono (Fa hF)))) O λg25 _=>J.H ((qA7 O O O).no xB) O<|J.j 4 O<|J.d0 (qAY O O (λF' hF=>qN1 F' gd d A c B e C f (hc.mono (Fa hF)))) O λg31 _=>J.b O<|J.H (qA8 O O O xB) O<|J.H ((qA7 O O O).no xB) O<|J.b O<|J.c j3<|J.a3 ?_
  refine J.M j2<|J.f λ_ j4=>J.j 3 O<|J.g ((qIM O O O xB).as (v':=I (count/2:Nat)) (congrArg I (Int.ofNat_tdiv _ _).symm)) O<|J.g (qAM (places:= [(0,1),(1,1),(2,1),(3,4),(7,1)]) (r:= [Ptr gd,I (first:Nat),I ((count/2):Nat),I 0,W64 0,I 0,.slice none 0 0,.bool false]) O O O qFl zeroValue244 (λ_=>xH) O) O<|J.k (qAd O O O) O ?_
  rintro g41 _
  refine J.b O<|J.c j4<|J.q λ_ j5=>J.f λ_ j6=>J.b O<|J.c j6<|J.T<|J.b8 (X:=Nat) (λk=> [(1,I (first:Nat)),(8,Ptr g41),(42,I k)]) (λk=> [F,blk g41 [Ptr gd,I (first:Nat),I ((count/2):Nat),I (hatk first k),W64 0,I 0,.slice none 0 0,.bool false] 244]) (λk=>k≤2) (λk=>2-k) 0 (jG _) ⟨O,O,O,trivial⟩ (λ_ h=>h) ?_
  intro k hk I0 hI0
  refine J.f λ_ j7=>J.g (qAS O O O) O<|J.c j7<|J.q λ_ j8=>J.Z O (λh43=>?_) (λh43=>?_)
  ·
    refine J.M j8<|J.q λ_ j9=>J.T<|J.f λ_ j10=>J.j 2 O<|J.c j10<|J.q λ_ j11=>?_
    obtain ⟨km,hkm⟩: ∃km,km=k*(count/2):=⟨_,rfl⟩
    have hk2:k<2:=xB
    have hkm2:km+(count/2)≤count:=by
      have:k=0∨k=1:=xB
      rcases this with e|e<;>rw [hkm,e]<;>omega
    refine J.L<|J.j 4 O<|J.g (qAB O O) O<|J.V 2 qFl z3_ O O O O O<|J.a6 1 b3_ O O O O O<|J.g ((qDj O O O (by rw [←yJ,←hkm];omega)).as (v':=I (km:Nat)) (congrArg I (by rw [hkm,yJ]))) O<|J.g ((qAR O O O xB).nat (first+km) xB) O<|J.k (qAY O O (λF' hF=>qSB F' (hK.mo hF) g41 gd (first:Nat) (count/2) (hatk first k) 0 0 none 0 0 false (qAG.blk0.mono (hF (blk g41 [Ptr gd,I (first:Nat),I ((count/2):Nat),I (hatk first k),W64 0,I 0,.slice none 0 0,.bool false] 244) xD)) d A c B e C f (hc.mono (Fa hF)) (hL.mono (Fa hF)) (hW.mono (Fa hF)) xB hn2 (first+km) xB xB (λi hi=>hz (first+km+i) xB))) O λg55 _=>J.j 3 O<|J.k (qAJ O zeroValue242 O) O λg10 _=>J.a8 (qAD (l:= [I 0,W64 0,I 0,.slice none 0 0]) (i:=2) (vs:= [I (first+km:Nat),W64 0,I 0,.slice none 0 0]) O O O O O qDs O O) O O λ_ _=>J.b O<|J.c j11<|J.q λ_ j12=>J.f λ_ j13=>J.b O<|J.g ((qAf O O O).no xC) O<|J.c j13<|J.a3 ?_
    refine J.M j12<|J.q λ_ j14=>J.b2 [F,blk g41 [Ptr gd,I (first:Nat),I ((count/2):Nat),I (hatk first k),W64 0,I 0,.slice none 0 0,.bool false] 244,blk g10 [I (first+km:Nat),W64 0,I 0,.slice none 0 0] 242] [] (.y 0 (.y 1 (.y 2 (.y 3 (.y 4 (.y 5 (.y 6 (.y 7 (.y 8 (.y 9 (.y 10 (.y 11 (.y 12 (.y 13 (.y 14 (.y 15 (.y 16 (.y 17 (.y 18 (.y 19 (.y 20 (.y 21 (.y 22 (.y 23 (.y 24 (.y 25 (.y 26 .nil))))))))))))))))))))))))))) Tryz.wide xF xD ?_
    refine J.G ?_
    refine J.p O (qAU O O O) O O<|J.G ?_
    refine J.c0 (d:=63) O (λh63=>?_) (λh63=>?_)
    ·
      iterate 5 refine J.b4 ?_
      refine J.c5 O (Wan.un O O O O) O O ?_
      refine J.c5 O (Wan.un O O O O) O O ?_
      refine J.c5 O (Wan.un O O O O) O O ?_
      refine J.c5 O (Wan.un O O O O) O O ?_
      refine J.c5 O (Wan.un O O O O) O O ?_
      refine J.c5 O (Wan.un O O O O) O O ?_
      refine J.c5 O (Wan.un O O O O) O O ?_
      refine J.c5 O (Wan.un O O O O) O O ?_
      refine J.c5 O (Wan.un O O O O) O O ?_
      refine J.c5 O (Wan.un O O O O) O O ?_
      refine J.c5 O (Wan.un O O O O) O O ?_
      refine J.c5 O (Wan.un O O O O) O O ?_
      refine J.c5 O (Wan.un O O O O) O O ?_
      refine J.c5 O (Wan.un O O O O) O O ?_
      refine J.c5 O (Wan.un O O O O) O O ?_
      refine J.c5 O (Wan.un O O O O) O O ?_
      refine J.c5 O (Wan.un O O O O) O O ?_
      refine J.b4 ?_
      refine J.c3 ?_
      refine J.b1<|J.u (J.D j14 ?_)
      refine J.c2 ?_
      refine J.L<|J.b O<|J.b9 2 isAgg242 qDs O O O O O<|J.g (qAB O O) O<|J.V 3 qFl qDs O O O O O<|J.a8 (qAa (i:=1) O O O O O qDs O xD) O O λ_ _=>J.a5<|J.a4<|J.u (J.D j9 ?_)
      refine J.L<|J.g ((qAR O O O xB).nat (k+1) xB) O<|J.b O<|J.a5<|J.u ?_
      have hk0:k=0:=xB
      subst hk0
      have hk0m:km=0:=xB
      subst hk0m
      exact J.b0 1 (λy (hy:_∧2-y<2-0)=>hI0 y hy.1 hy.2) ⟨xB,xB⟩ ⟨O,O,O,trivial⟩ (λ_ h=>h.pick [0,1] xC)
    refine J.a2 O (qAA O O qEq O qB5 O) O O<|J.a2 O (qAC 2 O O O qCO O) O O<|J.a2 O (qAQ qAm O O) O O<|J.a2 O ((qA7 O O O).no xC) O O<|J.a2 O (qAb O O) O O<|J.b4 ?_
    iterate 7 refine J.b4 ?_
    refine J.c5 O (Wan.un O O O O) O O ?_
    refine J.c5 O (Wan.un O O O O) O O ?_
    refine J.c5 O (Wan.un O O O O) O O ?_
    refine J.c5 O (Wan.un O O O O) O O ?_
    refine J.c5 O (Wan.un O O O O) O O ?_
    refine J.c5 O (Wan.un O O O O) O O ?_
    refine J.c5 O (Wan.un O O O O) O O ?_
    refine J.c5 O (Wan.un O O O O) O O ?_
    refine J.b4 ?_
    refine J.a2 O (qCZ O O O) O O<|J.e5 ?_
    refine J.b1<|J.u (J.D j14 ?_)
    refine J.a3 ?_
    refine J.b3<|J.a4<|J.u (J.D j9 ?_)
    refine J.L<|J.g ((qAR O O O xB).nat (k+1) xB) O<|J.b O<|J.a5<|J.u ?_
    have hk1:k=1:=xB
    subst hk1
    exact J.b0 2 (λy (hy:_∧2-y<2-1)=>hI0 y hy.1 hy.2) ⟨xB,xB⟩ ⟨O,O,O,trivial⟩ (λ_ h=>h.pick [0,1] xC)
  refine J.b5<|J.a0<|J.a0<|J.b6 ?_
  refine J.u (J.D j5 ?_)
  refine J.q λ_ j15=>?_
  have hk2:k=2:=xB
  subst hk2
  exact J.L<|J.j 3 O<|J.c j15<|J.A<|J.a9 hw0 (λ_ _ h=>h) (qBs O O O) (qAi g41 O trivial [0,1] O xC)
theorem qYr(F:Hp)(gb gd:Nat)(first:Int)(size:Nat)(hat:Int)(hturn:UInt64)(hend:Int)(Ar:Option Addr)(nr cr:Nat)(bad:Bool)(hB:qAG F ⟨gb,0,none⟩ [Ptr gd,I first,I (size:Nat),I hat,W64 hturn,I hend,.slice Ar nr cr,.bool bad])(s:xA):
    Cz prog 209 [Ptr gb,Str s] F (I (if 900<s.length then 2 else if bad=true then 21 else 0)):=by
  refine Ct.walk func209 O ntmps209 O (λw0 hw0=>?_)
  refine J.f λ_ j1=>J.b O<|J.c j1<|J.q λ_ j2=>J.T<|J.f λ_ j3=>J.b O<|J.g ((qA4 underlying125 O O O).as (v':= .bool false) O) O<|J.b O<|J.c j3<|J.a3 ?_
  refine J.f λ_ j4=>J.b O<|J.g (qAv u9_ O O) O<|J.g (qA7 O O O) O<|J.b O<|J.c j4<|J.Z O (λh8=>?_) (λh8=>?_)
  ·
    exact J.f λ_ j5=>J.b O<|J.c j5<|J.A<|J.a7<|J.W<|J.E hw0 O () (congrArg I (by rw [if_pos xB])) trivial [0] O xC
  refine J.f λ_ j6=>J.b O<|J.g (qAB O O) O<|J.V 7 qFl z4_ O O O O O<|J.g ((qAL O O b4_ (m:=F) xD (hB.at (i:=7) O)).as (v':= .bool (decide (bad=true))) (by rw [Bool.decide_eq_true])) O<|J.b O<|J.c j6<|J.Z O (λh12=>?_) (λh12=>?_)
  ·
    exact J.f λ_ j7=>J.b O<|J.c j7<|J.A<|J.a7<|J.W<|J.E hw0 O () (congrArg I (by rw [if_neg xB,if_pos xG])) trivial [0] O xC
  refine J.b3<|J.a4<|J.u (J.D j2 ?_)
  exact J.f λ_ j8=>J.b O<|J.c j8<|J.A<|J.E hw0 O () (congrArg I (by rw [if_neg xB,if_neg xG])) trivial [0] O xC
theorem qRG(F:Hp)(gb gd:Nat)(first:Int)(size:Nat)(hat:Int)(hturn:UInt64)(hend:Int)(Ar:Option Addr)(nr cr:Nat)(bad:Bool)(hB:qAG F ⟨gb,0,none⟩ [Ptr gd,I first,I (size:Nat),I hat,W64 hturn,I hend,.slice Ar nr cr,.bool bad])(hs:size≤1048576)(he:0≤hend∧hend≤1048576):
    Cz prog 136 [Ptr gb] F (I ((size:Int)-hend)):=by
  refine Ct.walk func136 O ntmps136 O (λw0 hw0=>?_)
  refine J.f λ_ j1=>J.b O<|J.c j1<|J.q λ_ j2=>J.f λ_ j3=>J.b O<|J.g ((qA4 underlying125 O O O).as (v':= .bool false) O) O<|J.c j3<|J.a3 ?_
  refine J.M j2<|J.q λ_ j4=>J.b2 [F] [] (.y 0 (.y 1 (.y 2 (.y 3 (.y 4 (.y 5 (.y 6 (.y 7 (.y 8 (.y 9 (.y 10 .nil))))))))))) Tryz.wide xF xD ?_
  refine J.G ?_
  refine J.p O (qAB O O) O O<|J.p O (qAA O O qFl O z3_ O) O O<|J.p O (qAL O O b3_ (m:=F) xD (hB.at (i:=2) O)) O O<|J.G ?_
  refine J.p O (qAB O O) O O<|J.p O (qAA O O qFl O qDs O) O O<|J.p O (qAA O O qEq O z3_ O) O O<|J.p O (qAL O O b3_ (m:=F) xD (hB.at (i:=5) O)) O O<|J.p O (qA8 O O O xB) O O<|J.b7 ?_
  refine J.b1<|J.u (J.D j4 ?_)
  exact J.A<|J.E hw0 O () O trivial [0] O xC
theorem qOb(F:Hp)(gb gd:Nat)(first:Int)(size:Nat)(hat:Int)(hturn:UInt64)(hend:Int)(Ar:Option Addr)(nr cr:Nat)(bad:Bool)(hB:qAG F ⟨gb,0,none⟩ [Ptr gd,I first,I (size:Nat),I hat,W64 hturn,I hend,.slice Ar nr cr,.bool bad])(L:List xA)(hLn:L.length=nr)(hL:Sl F 1 Ar nr cr (qAH L))(hn:nr≤1073741824):
    Ct prog 53 [Ptr gb] [F] (λx:Option Addr×Nat×Hp=> .slice x.1 L.length x.2.1) (λx=>Row x.2.2 9 1 x.1 L.length x.2.1 (qAH L)) (λx=> [F,x.2.2]):=by
  subst hLn
  refine Ct.walk func53 O ntmps53 O (λw0 hw0=>?_)
  refine J.f λ_ j1=>J.b O<|J.c j1<|J.q λ_ j2=>J.f λ_ j3=>J.b O<|J.g ((qA4 underlying125 O O O).as (v':= .bool false) O) O<|J.c j3<|J.a3 ?_
  refine J.M j2<|J.f λ_ j4=>J.b O<|J.g (qAB O O) O<|J.V 3 qFl qDs O O O O O<|J.V 6 qEq qB5 O O O O O<|J.g (qAL O O qCO (m:=F) xD (hB.at (i:=6) O)) O<|J.k (qBP O O (λF' hF=>qLG F' L Ar cr (hL.mono (Fa hF)) hn)) O ?_
  rintro⟨A10,c10,m10⟩ h10
  try dsimp only at h10
  exact J.b O<|J.c j4<|J.A<|J.E hw0 O (A10,c10,m10) O h10 [0,1] O xC
theorem qLV(s:xA)(n:Nat):(s.take (min s.length n)).drop 0=s.take n:=by
 rw [zk]
 by_cases h:s.length≤n
 · rw [jn h,jY (jK _),jY h]
 · rw [Nat.min_eq_right xB]
theorem qUd(s:xA)(n:Nat):s.drop (min s.length n)=s.drop n:=by
 by_cases h:s.length≤n
 · rw [jn h,js (jK _),js h]
 · rw [Nat.min_eq_right xB]
def qHE(l:List Prt):List (List Value):=l.map Prt.cells
theorem qQR(a b:List Prt):qHE (a++b)=qHE a++qHE b:=by simp [qHE]
def prt(turn num:UInt64)(s:xA)(n i:Nat):Prt:=⟨turn,num,i,n,qLM turn num s,(s.drop (39*i)).take 39⟩
def qWl(turn num:UInt64)(s:xA)(n k:Nat):List Prt:=(List.range k).map (prt turn num s n)
theorem qQP(turn num:UInt64)(s:xA)(n k:Nat):qWl turn num s n (k+1)=qWl turn num s n k++ [prt turn num s n k]:=by unfold qWl;rw [zA,jN];rfl
theorem qQQ{turn num:UInt64}{s:xA}{n k i:Nat}(h:i<k):(qHE (qWl turn num s n k))[i]?=some (prt turn num s n i).cells:=by
 unfold qHE qWl
 rw [List.map_map,jO,zL h];rfl
theorem qFs(n:Nat):1≤qBg n:=by unfold qBg;split<;>omega
theorem qFJ{n:Nat}(h:n≤900):qBg n≤24:=by unfold qBg;split<;>omega
theorem qTj(F:Hp)(hK:qAG F ⟨3,0,none⟩ (Sha.K.map W32))(turn num:UInt64)(s:xA)(ht:turn.toNat<2^(8*4))(hnm:num.toNat<2^(8*2))(hs:s.length≤900)(n:Nat)(hn:n=qBg s.length):
    Ct prog 259 [W64 turn,W64 num,Str s] [F] (λx:Option Addr×Nat×Hp=> .slice x.1 n x.2.1) (λx=>Row x.2.2 371 6 x.1 n x.2.1 (qHE (qWl turn num s n n))) (λx=> [F,x.2.2]):=by
  have hn24:n≤24:=hn▸qFJ hs
  refine Ct.walk func259 O ntmps259 O (λw0 hw0=>?_)
  refine J.f λ_ j1=>J.b O<|J.c j1<|J.f λ_ j2=>J.b O<|J.g (qAv u9_ O O) O<|J.k (qAY O O (λF' hF=>by have:=qHH F' s.length xB;rw [←hn] at this;exact this)) O λg13 _=>J.j 3 O<|J.k (qAY O O (λF' hF=>qUo F' (hK.mono (Fa hF)) turn num s ht hnm xB)) O λg17 _=>J.j 2 O<|J.c j2<|J.f λ_ j3=>J.b O<|J.c j3<|J.q λ_ j4=>J.q λ_ j5=>J.c7 [0,1] [F,(λ_=>none)] O xC<|J.L<|J.j 2 O<|J.c j5<|J.T<|J.b8 (X:=Nat×Hp×Option Addr×Nat) (λx=> [(0,W64 turn),(1,W64 num),(2,Str (s.drop (39*x.1))),(7,I n),(8,Str (qLM turn num s)),(9,.slice x.2.2.1 x.1 x.2.2.2),(18,I n),(19,I x.1)]) (λx=> [F,x.2.1]) (λx=>x.1≤n∧Row x.2.1 371 6 x.2.2.1 x.1 x.2.2.2 (qHE (qWl turn num s n x.1))) (λx=>n-x.1) (0,(λ_=>none),none,0) (⟨jG _,qBc.nil⟩) ⟨O,O,O,O,O,O,O,O,trivial⟩ (λ_ h=>h) ?_
  rintro⟨k,m,A7,c7⟩ ⟨hk,hr⟩ I0 hI0
  dsimp only at hk hr⊢
  refine J.f λ_ j6=>J.g (qAS O O O) O<|J.c j6<|J.q λ_ j7=>J.Z O (λh20=>?_) (λh20=>?_)
  ·
    refine J.M j7<|J.q λ_ j8=>J.T<|J.f λ_ j9=>J.j 2 O<|J.c j9<|J.f λ_ j10=>J.j 8 O<|J.g (qAv u9_ O O) O<|J.g ((qGA O O O).as (v':=I (min (s.drop (39*k)).length 39:Nat)) (congrArg I xB)) O<|J.g ((qBC u9_ O O O O ⟨xB,xB⟩).as (v':=Str ((s.drop (39*k)).take 39)) (congrArg Str (qLV _ _))) O<|J.g (qAM (places:= [(0,1),(1,1),(2,1),(3,1),(4,1),(5,1)]) (r:= [W64 turn,W64 num,I k,I n,Str (qLM turn num s),Str ((s.drop (39*k)).take 39)]) O O O qFA qMa (λ_=>xH) O) O<|J.k (qAF (l:= [.tmp 33]) (xs:= [(prt turn num s n k).cells]) O O O O qOK el371 O xC xC (by simp [Prt.cells,prt])) O λg34 _=>J.k (qAc (i:=1) (m2:=blk g34 (prt turn num s n k).cells 371) O O O qOK qOK el371 O hr xD ((qAp (q:=True) (xs:=qHE [(prt turn num s n k)]) O (by simp [qHE,Prt.cells])).sl) (by simp [qHE,Prt.cells,Value.oneCell']) xB xB) O ?_
    rintro⟨A8,c8,m8⟩ h8
    try dsimp only at h8
    rw [←qQR,←qQP] at h8
    refine J.b O<|J.c j10<|J.L<|J.j 2 O<|J.g (qAv u9_ O O) O<|J.g ((qGA O O O).as (v':=I (min (s.drop (39*k)).length 39:Nat)) (congrArg I xB)) O<|J.g ((qBC u9_ O O O O ⟨xB,xB⟩).as (v':=Str (s.drop (39*(k+1)))) (congrArg Str (by rw [jo,qUd,zi,Nat.mul_add,Nat.mul_one]))) O<|J.b O<|J.a5<|J.a4<|J.u (J.D j8 ?_)
    exact J.L<|J.g ((qAR O O O xB).nat (k+1) xB) O<|J.b O<|J.a5<|J.u<|J.b0 (k+1,m8,A8,c8) (λy (hy:_∧n-y.1<n-k)=>hI0 y hy.1 hy.2) ⟨⟨by dsimp only;omega,h8⟩,by dsimp only;omega⟩ ⟨O,O,O,O,O,O,O,O,trivial⟩ (λ_ h=>h.pick [0,1] xC)
  refine J.b5<|J.a0<|J.a0<|J.b6 ?_
  refine J.u (J.D j4 ?_)
  refine J.q λ_ j11=>?_
  have hkn:k=n:=xB
  subst hkn
  exact J.L<|J.j 2 O<|J.c j11<|J.A<|J.E hw0 O (A7,c7,m) O hr [0,1] O xC
def qCT(d:Dk)(p:Nat)(t:Nat→xA):Nat→Dk×Int
 |0=>(d,0)
 |k+1=>if(qCT d p t k).2=0 then((qCT d p t k).1.write ((p+k:Nat):Int) (t k),(qCT d p t k).1.wErr ((p+k:Nat):Int) (t k)) else qCT d p t k
theorem qGs{d:Dk}{p:Nat}{t:Nat→xA}{k:Nat}(h:(qCT d p t k).2=0):qCT d p t (k+1)=((qCT d p t k).1.write ((p+k:Nat):Int) (t k),(qCT d p t k).1.wErr ((p+k:Nat):Int) (t k)):=if_pos h
theorem qGt{d:Dk}{p:Nat}{t:Nat→xA}{k:Nat}(h: ¬(qCT d p t k).2=0): ∀n,qCT d p t (k+n)=qCT d p t k
 |0=>rfl
 |n+1=>by
  have e:=qGt h n
  show(if(qCT d p t (k+n)).2=0 then _ else qCT d p t (k+n))=_
  rw [e,if_neg h]
def qLb(d:Dk)(p:Nat)(t:Nat→xA)(n:Nat):Dk×Int:=if(qCT d p t n).2=0 then((qCT d p t n).1.sync,(qCT d p t n).1.sErr) else qCT d p t n
theorem qR7(d:Dk):d.burn.keep=d.keep∧d.burn.wait.length≤d.wait.length:=by
  unfold Dk.burn Dk.cut
  split
  · split
    · exact⟨O,jG _⟩
    · exact⟨O,jK _⟩
  · exact⟨O,jK _⟩
theorem qOG(d:Dk)(i:Int)(s:xA):(d.write i s).keep=d.keep∧(d.write i s).wait.length≤d.wait.length+1:=by
  have hb:=qR7 d
  unfold Dk.write
  split
  · exact⟨O,Nat.le_succ _⟩
  · split
    · exact⟨O,Nat.le_succ _⟩
    · split
      · exact⟨hb.1,Nat.le_succ_of_le hb.2⟩
      · refine⟨hb.1,?_⟩
        show(d.burn.wait++ [_]).length≤_
        rw [jA];exact Nat.succ_le_succ hb.2
theorem qIq{d:Dk}(h:d.ok)(p:Nat)(t:Nat→xA): ∀k,(qCT d p t k).1.ok∧(qCT d p t k).1.wait.length≤d.wait.length+k∧(qCT d p t k).1.keep=d.keep
  |0=>⟨h,jK _,rfl⟩
  |k+1=>by
    obtain ⟨h1,h2,h3⟩:=qIq h p t k
    by_cases he:(qCT d p t k).2=0
    · rw [qGs he]
      have hw:=qOG (qCT d p t k).1 ((p+k:Nat):Int) (t k)
      exact⟨h1.write _ _,jX hw.2 xB,hw.1.trans h3⟩
    · rw [show k+1=k+1 from rfl,qGt he 1]
      exact⟨h1,xB,h3⟩
theorem qQT{turn num:UInt64}{s:xA}{n i:Nat}(ht:turn.toNat<2^(8*4))(hn:num.toNat<2^(8*2))(h:n≤24)(hi:i<n):(prt turn num s n i).ok:=
 ⟨ht,hn,by show i<256;omega,by show n<256;omega,by show(qLM _ _ _).length≤8;rw [qSD];exact jK _,by show((s.drop _).take 39).length≤39;rw [jE];exact Nat.min_le_left _ _⟩
theorem qH0(F mm:Hp)(hK:qAG F ⟨3,0,none⟩ (Sha.K.map W32))(gb gd:Nat)(first size hat0:Int)(ht0:UInt64)(he0:Int)(Ar0:Option Addr)(nr0 cr0:Nat)(bad:Bool)(d:Dk)(C:Option Addr)(f:Nat)(hb:Dsk mm gd d C f)(hok:d.ok)(hn2:d.wait.length≤1048576)(hKp:Sl F 1 C d.keep.length f (qAh d.keep))(hn3:d.keep.length≤9223372036854775807)(hat:Nat)(hturn:UInt64)(hend:Nat)(Ar:Option Addr)(nr cr:Nat)(R:List xA)(hR:R.length=nr)(hRs:Sl F 1 Ar nr cr (qAH R))(s:xA)(hs:s.length≤900)(n:Nat)(hn:n=qBg s.length)(ht:hturn.toNat<2^(8*4))(hnr:nr<65536)(hp:hat+hend≤1048576)(he:(qLb d (hat+hend) (λi=>(prt hturn (UInt64.ofNat nr) s n i).text) n).2=0):
    Ct prog 210 [Ptr gb,.agg #[I hat,W64 hturn,I hend,.slice Ar nr cr],Str s] [blk gb [Ptr gd,I first,I size,I hat0,W64 ht0,I he0,.slice Ar0 nr0 cr0,.bool bad] 244,mm,F] (λ_:Hp×Option Addr×Nat×Hp=>I 0) (λx=>Dsk x.1 gd (qLb d (hat+hend) (λi=>(prt hturn (UInt64.ofNat nr) s n i).text) n).1 C f∧Row x.2.2.2 9 1 x.2.1 (nr+1) x.2.2.1 (qAH (R++ [s]))) (λx=> [blk gb [Ptr gd,I first,I size,I hat,W64 hturn,I (hend+n:Nat),.slice x.2.1 (nr+1) x.2.2.1,.bool bad] 244,x.1,F,x.2.2.2]):=by
  have hn24:n≤24:=hn▸qFJ hs
  have hnum:(UInt64.ofNat nr).toNat<2^(8*2):=by rw [qBF xB];exact hnr
  refine Ct.walk func210 O ntmps210 O (λw0 hw0=>?_)
  refine J.f λ_ j1=>J.k (qAd O O O) O ?_
  rintro g4 _
  refine J.b O<|J.c j1 ?_
  refine J.f λ_ j2=>J.V 1 qEq qEk O O O O O<|J.a6 3 qFi O O O O O<|J.V 3 qEq qB5 O O O O O<|J.a6 3 qCO O O O O O<|J.g (qAQ qAm O O) O<|J.g (qAx O O u3_ qEp xB) O<|J.b O<|J.k (qBP O O (λF' hF=>qTj F' (hK.mo hF) hturn (UInt64.ofNat nr) s ht hnum hs n hn)) O ?_
  rintro⟨Ap,cp,mp⟩ hr
  try dsimp only at hr
  refine J.b O<|J.c j2 ?_
  refine J.f λ_ j3=>J.b O<|J.c j3 ?_
  refine J.e0 (λx:Hp=> [(0,Ptr gb),(2,Str s),(4,Ptr g4),(7,.slice Ap n cp),(8,I (qCT d (hat+hend) (λi=>(prt hturn (UInt64.ofNat nr) s n i).text) n).2)]) (λx=> [blk gb [Ptr gd,I first,I size,I hat0,W64 ht0,I he0,.slice Ar0 nr0 cr0,.bool bad] 244,x,F,blk g4 [I hat,W64 hturn,I hend,.slice Ar nr cr] 242,mp]) (λx=>Dsk x gd (qCT d (hat+hend) (λi=>(prt hturn (UInt64.ofNat nr) s n i).text) n).1 C f) (λ_ j4=>?_) ?_
  ·
    refine J.f λ_ j5=>J.b O<|J.c j5 ?_
    refine J.T<|J.b8 (X:=Nat×Hp) (λx=> [(0,Ptr gb),(2,Str s),(4,Ptr g4),(7,.slice Ap n cp),(8,I (qCT d (hat+hend) (λi=>(prt hturn (UInt64.ofNat nr) s n i).text) x.1).2),(9,I x.1)]) (λx=> [blk gb [Ptr gd,I first,I size,I hat0,W64 ht0,I he0,.slice Ar0 nr0 cr0,.bool bad] 244,x.2,F,blk g4 [I hat,W64 hturn,I hend,.slice Ar nr cr] 242,mp]) (λx=>x.1≤n∧Dsk x.2 gd (qCT d (hat+hend) (λi=>(prt hturn (UInt64.ofNat nr) s n i).text) x.1).1 C f) (λx=>n-x.1) (0,mm) (⟨jG _,hb⟩) ⟨O,O,O,O,O,O,trivial⟩ (λ_ h=>h) ?_
    rintro⟨k,m⟩ ⟨hk,hd⟩ I0 hI0
    dsimp only at hk hd⊢
    refine J.q λ_ j6=>J.f λ_ j7=>J.j 2 O<|J.g (qAQ qOK O O) O<|J.g (qAS O O O) O<|J.b O<|J.c0 (d:=22) O (λh22=>?_) (λh22=>?_)
    ·
      refine J.b O<|J.H (qAU O O O) O<|J.b O<|J.c j7 ?_
      refine J.Z O (λh25=>?_) (λh25=>?_)
      ·
        refine J.M j6 ?_
        refine J.q λ_ j8=>J.T ?_
        have hkn:k<n:=xB
        have hw:=qIq hok (hat+hend) (λi=>(prt hturn (UInt64.ofNat nr) s n i).text) k
        refine J.b2 [blk gb [Ptr gd,I first,I size,I hat0,W64 ht0,I he0,.slice Ar0 nr0 cr0,.bool bad] 244,blk g4 [I hat,W64 hturn,I hend,.slice Ar nr cr] 242,F,mp] [] (.y 0 (.y 1 (.y 2 (.y 3 (.y 4 (.y 5 (.y 6 (.y 7 (.y 8 (.y 9 (.y 10 (.y 11 (.y 12 (.y 13 (.y 14 (.e 15 (.e 16 (.y 17 .nil)))))))))))))))))) Tryz.wide xF xD ?_
        refine J.G ?_
        refine J.p O (qAB O O) O O<|J.p O (qAA O O qFl O sizeOf24 O) O O<|J.p O (qAC 0 O O O isAgg24 O) O O<|J.p O (qAA O O qEq O z3_ O) O O<|J.p O (qAC 1 O O O b3_ O) O O<|J.p O (qAA O O qEq O z3_ O) O O<|J.p O (qAC 1 O O O b3_ O) O O<|J.p O ((qAR O O O xB).nat (hat+hend) xB) O O<|J.G ?_
        refine J.p O ((qAR O O O xB).nat (hat+hend+k) xB) O O<|J.G ?_
        refine J.G ?_
        refine J.p O (qAE O O O qOK qGp hr.sl xB) O O<|J.p O (qAT O O isAgg371 qGp (m:=mp) xD (hr.sl.elem (qQQ hkn)) O) O O<|J.a1 O (qAY O O (λF' hF=>qNI F' (hK.mo hF) (prt hturn (UInt64.ofNat nr) s n k) (qQT ht hnum hn24 hkn))) O xD λg43 _=>J.a1 O (qAI O O ent (Ct.use1 1 O (λF' hF=>qSl F' m gd (qCT d (hat+hend) (λi=>(prt hturn (UInt64.ofNat nr) s n i).text) k).1 C f hd hw.1 (by have:=hw.2.1;omega) (by rw [hw.2.2];exact hKp.mono (Fa hF)) (by rw [hw.2.2];exact hn3) ((hat+hend+k:Nat):Int) (prt hturn (UInt64.ofNat nr) s n k).text (by rw [Prt.text_len (qQT ht hnum hn24 hkn)];decide)))) O xD ?_
        rintro m44 hd44
        refine J.b7 ?_
        refine J.b1<|J.a4<|J.u (J.D j8 ?_)
        refine J.L<|J.b O<|J.g ((qAR O O O xB).nat (k+1) xB) O<|J.b O<|J.a5<|J.u ?_
        have hsu:=qGs (show(qCT d (hat+hend) (λi=>(prt hturn (UInt64.ofNat nr) s n i).text) k).2=0 from by omega)
        exact J.b0 (k+1,m44) (λy (hy:_∧n-y.1<n-k)=>hI0 y hy.1 hy.2) ⟨⟨by dsimp only;omega,by dsimp only;rw [hsu];exact hd44⟩,by dsimp only;omega⟩ ⟨O,O,O,O,by dsimp only;rw [hsu];rfl,O,trivial⟩ (λ_ h=>h)
      refine J.b5<|J.a0<|J.a0<|J.b6 ?_
      refine J.u ?_
      have hst:=qGt (d:=d) (p:=hat+hend) (t:=(λi=>(prt hturn (UInt64.ofNat nr) s n i).text)) (k:=k) xB (n-k)
      rw [show k+(n-k)=n by omega] at hst
      exact J.b0 m j4 (by rw [hst];exact hd) ⟨O,O,O,O,by rw [hst];rfl,trivial⟩ (λ_ h=>h)
    refine J.j 3 O<|J.c j7 ?_
    refine J.a3 ?_
    refine J.b5<|J.a0<|J.a0<|J.b6 ?_
    refine J.u ?_
    have hkk:k=n:=xB
    subst hkk
    exact J.b0 m j4 hd ⟨O,O,O,O,O,trivial⟩ (λ_ h=>h)
  intro m hd
  refine J.e0 (λx:Hp=> [(0,Ptr gb),(2,Str s),(4,Ptr g4),(7,.slice Ap n cp),(8,I (qLb d (hat+hend) (λi=>(prt hturn (UInt64.ofNat nr) s n i).text) n).2)]) (λx=> [blk gb [Ptr gd,I first,I size,I hat0,W64 ht0,I he0,.slice Ar0 nr0 cr0,.bool bad] 244,x,F,blk g4 [I hat,W64 hturn,I hend,.slice Ar nr cr] 242,mp]) (λx=>Dsk x gd (qLb d (hat+hend) (λi=>(prt hturn (UInt64.ofNat nr) s n i).text) n).1 C f) (λ_ j9=>?_) ?_
  ·
    refine J.q λ_ j10=>?_
    have hw:=qIq hok (hat+hend) (λi=>(prt hturn (UInt64.ofNat nr) s n i).text) n
    refine J.L<|J.b O<|J.g (qAU O O O) O<|J.c j10 ?_
    refine J.Z O (λh46=>?_) (λh46=>?_)
    ·
      refine J.L<|J.b O<|J.g (qAB O O) O<|J.V 0 qFl sizeOf24 O O O O O<|J.a6 0 isAgg24 O O O O O<|J.k (qAI O O ent (Ct.use1 1 O (λF' hF=>qV4 F' m gd (qCT d (hat+hend) (λi=>(prt hturn (UInt64.ofNat nr) s n i).text) n).1 C f hd hw.1 (by have:=hw.2.1;omega) (by rw [hw.2.2];exact hKp.mono (Fa hF)) (by rw [hw.2.2];exact hn3)))) O ?_
      rintro m51 hd51
      refine J.b O<|J.a5<|J.u ?_
      have hst:(qLb d (hat+hend) (λi=>(prt hturn (UInt64.ofNat nr) s n i).text) n)=((qCT d (hat+hend) (λi=>(prt hturn (UInt64.ofNat nr) s n i).text) n).1.sync,(qCT d (hat+hend) (λi=>(prt hturn (UInt64.ofNat nr) s n i).text) n).1.sErr):=if_pos xB
      exact J.b0 m51 j9 (by rw [hst];exact hd51) ⟨O,O,O,O,by rw [hst];rfl,trivial⟩ (λ_ h=>h)
    refine J.b3<|J.u ?_
    have hst:(qLb d (hat+hend) (λi=>(prt hturn (UInt64.ofNat nr) s n i).text) n)=(qCT d (hat+hend) (λi=>(prt hturn (UInt64.ofNat nr) s n i).text) n):=if_neg xB
    exact J.b0 m j9 (by rw [hst];exact hd) ⟨O,O,O,O,by rw [hst];rfl,trivial⟩ (λ_ h=>h)
  intro m hd
  refine J.q λ_ j11=>J.f λ_ j12=>J.b O<|J.g ((qAf O O O).no xB) O<|J.c j12 ?_
  refine J.a3 ?_
  refine J.M j11 ?_
  refine J.f λ_ j13=>J.V 2 qEq z3_ O O O O O<|J.a6 3 b3_ O O O O O<|J.b O<|J.g (qAQ qOK O O) O<|J.g ((qAR O O O xB).nat (hend+n) xB) O<|J.V 2 qEq z3_ O O O O O<|J.a8 (qAa (i:=3) O O O O O z3_ O xD) O O λ_ _=>?_
  change J _ _ _ [blk gb [Ptr gd,I first,I size,I hat0,W64 ht0,I he0,.slice Ar0 nr0 cr0,.bool bad] 244,m,F,blk g4 [I hat,W64 hturn,I (hend+n:Nat),.slice Ar nr cr] 242,mp] _
  refine J.c j13 ?_
  refine J.f λ_ j14=>J.V 3 qEq qB5 O O O O O<|J.a6 3 qCO O O O O O<|J.k (qAI O O ent (Ct.use (new:=λx:Option Addr×Nat×Hp=> [x.2.2]) (λF' hF=>by have:=qLG F' R Ar cr (by rw [hR];exact hRs.mono (Fa hF)) xB;rw [hR] at this;exact this))) O ?_
  rintro⟨A6,c6,m6⟩ h6
  try dsimp only at h6
  change J _ _ _ [_,_,_,_,_,m6] _
  refine J.b O<|J.k (qAF (l:= [.tmp 67]) (xs:= [[Str s]]) O O O O qAm el9 O xC xC xD) O λg68 _=>?_
  change J _ _ _ [_,_,_,_,_,_,blk g68 [Str s] 9] _
  refine J.k (qAc (i:=5) (m2:=blk g68 [Str s] 9) (xs:=qAH R) (ys:=qAH [s]) O O O qAm qAm el9 O h6 xD ((qAp (q:=True) (xs:=qAH [s]) O (by simp [qAH])).sl) (by simp [qAH,Value.oneCell']) xB xB) O ?_
  rintro⟨A8,c8,m8⟩ h8
  try dsimp only at h8
  change J _ ((69,.slice A8 (nr+1) c8)::_) _ [_,_,_,_,_,m8,_] _
  rw [←qID] at h8
  refine J.V 3 qEq qB5 O O O O O<|J.a8 (qAa (i:=3) (vs:= [.slice A8 (nr+1) c8]) O O O O O qB5 O xD) O O λ_ _=>J.c j14 ?_
  refine J.f λ_ j15=>J.b O<|J.b9 3 isAgg242 qDs O O O O O<|J.g (qAB O O) O<|J.V 3 qFl qDs O O O O O<|J.a8 (qAa (i:=0) (vs:= [I hat,W64 hturn,I (hend+n:Nat),.slice A8 (nr+1) c8]) O O O O O qDs O xD) O O λ_ _=>J.c j15 ?_
  refine J.f λ_ j16=>J.b O<|J.c j16 ?_
  exact J.A<|J.E hw0 O (m,A8,c8,m8) O ⟨hd,h8⟩ [0,1,2,5] O xC
theorem qR1{m:Hp}{g k:Nat}{l vs:List Value}(h:qAG m ⟨g,0,none⟩ l)(hs: ∀j u,vs[j]?=some u→l[k+j]?=some u):qAG m ⟨g,k,none⟩ vs:=by
 obtain ⟨h1,cs,e,fz,h2,h3⟩:=h
 refine⟨O,cs,e,fz,h2,λj u hj=>?_⟩
 have:=h3 _ _ (hs j u hj)
 rwa [jj] at this
theorem qLL(F mm:Hp)(hK:qAG F ⟨3,0,none⟩ (Sha.K.map W32))(gb gd:Nat)(first:Int)(size hat:Nat)(hturn:UInt64)(hend:Nat)(Ar:Option Addr)(nr cr:Nat)(d:Dk)(C:Option Addr)(f:Nat)(hb:Dsk mm gd d C f)(hok:d.ok)(hn2:d.wait.length≤1048576)(hKp:Sl F 1 C d.keep.length f (qAh d.keep))(hn3:d.keep.length≤9223372036854775807)(R:List xA)(hR:R.length=nr)(hRs:Sl F 1 Ar nr cr (qAH R))(s:xA)(hs:s.length≤900)(n:Nat)(hn:n=qBg s.length)(t':UInt64)(ht':(t'.toNat:Int)=max (hturn.toNat:Int) 1)(ht:t'.toNat<2^(8*4))(hnr:nr<65536)(hp:hat+size≤1048576)(hfit:hend+n≤size)(he:(qLb d (hat+hend) (λi=>(prt t' (UInt64.ofNat nr) s n i).text) n).2=0):
    Ct prog 137 [Ptr gb,Str s] [blk gb [Ptr gd,I first,I (size:Nat),I (hat:Nat),W64 hturn,I (hend:Nat),.slice Ar nr cr,.bool false] 244,mm,F] (λ_:Hp×Option Addr×Nat×Hp=>I 0) (λx=>Dsk x.1 gd (qLb d (hat+hend) (λi=>(prt t' (UInt64.ofNat nr) s n i).text) n).1 C f∧Row x.2.2.2 9 1 x.2.1 (nr+1) x.2.2.1 (qAH (R++ [s]))) (λx=> [blk gb [Ptr gd,I first,I (size:Nat),I (hat:Nat),W64 t',I (hend+n:Nat),.slice x.2.1 (nr+1) x.2.2.1,.bool false] 244,x.1,F,x.2.2.2]):=by
  have hn1:=qFs s.length
  refine Ct.walk func137 O ntmps137 O (λw0 hw0=>?_)
  refine J.f λ_ j1=>J.b O<|J.c j1 ?_
  refine J.q λ_ j2=>J.f λ_ j3=>J.j 2 O<|J.k ((qAY O O (λF' hF=>qYr F' gb gd first size hat hturn hend Ar nr cr false (qAG.blk0.mono (hF (blk gb [Ptr gd,I first,I (size:Nat),I (hat:Nat),W64 hturn,I (hend:Nat),.slice Ar nr cr,.bool false] 244) xD)) s))) O λg9 _=>J.b O<|J.c j3 ?_
  refine J.f λ_ j4=>J.b O<|J.g ((qAf O O O).no (λh=>h (by rw [if_neg xB,if_neg xC]))) O<|J.c j4 ?_
  refine J.a3 ?_
  refine J.M j2 ?_
  refine J.f λ_ j5=>J.b O<|J.g (qAB O O) O<|J.V 3 qFl qDs O O O O O<|J.g (qAT O O isAgg242 qDs (m:=blk gb [Ptr gd,I first,I (size:Nat),I (hat:Nat),W64 hturn,I (hend:Nat),.slice Ar nr cr,.bool false] 244) xD (vs:= [I (hat:Nat),W64 hturn,I (hend:Nat),.slice Ar nr cr]) (qR1 qAG.blk0 (λj u hj=>by match j,hj with|0,hj=>exact hj|1,hj=>exact hj|2,hj=>exact hj|3,hj=>exact hj)) O) O<|J.k (qAJ O zeroValue242 O) O λg6 _=>J.a8 (qAD (l:= [I 0,W64 0,I 0,.slice none 0 0]) (i:=3) (vs:= [I (hat:Nat),W64 hturn,I (hend:Nat),.slice Ar nr cr]) O O O O O qDs O O) O O λ_ _=>J.c j5 ?_
  refine J.q λ_ j6=>J.f λ_ j7=>J.b O<|J.k (qAY O O (λF' hF=>qRG F' gb gd first size hat hturn hend Ar nr cr false (qAG.blk0.mono (hF (blk gb [Ptr gd,I first,I (size:Nat),I (hat:Nat),W64 hturn,I (hend:Nat),.slice Ar nr cr,.bool false] 244) xD)) xB xB)) O λg18 _=>J.b O<|J.g (qAv u9_ O O) O<|J.k (qAY O O (λF' hF=>by have:=qHH F' s.length xB;rw [←hn] at this;exact this)) O λg21 _=>J.g ((qAS O O O).no xB) O<|J.b O<|J.H (qAA O O qEq O qB5 O) O<|J.H (qAC 3 O O O qCO O) O<|J.H (qAQ qAm O O) O<|J.H ((qBI O O O).no xB) O<|J.b O<|J.c j7 ?_
  refine J.a3 ?_
  refine J.M j6 ?_
  refine J.f λ_ j8=>J.V 1 qEq qEk O O O O O<|J.a6 3 qFi O O O O O<|J.g ((qIN O O O).as (v':=W64 t') (congrArg (Value.int .u64) ht'.symm)) O<|J.V 1 qEq qEk O O O O O<|J.a8 (qAa (i:=3) O O O O O qEk O xD) O O λ_ _=>J.c j8 ?_
  refine J.f λ_ j9=>J.b O<|J.b9 3 isAgg242 qDs O O O O O<|J.b O<|J.k (qAI O O ent (Ct.useA [blk gb [Ptr gd,I first,I (size:Nat),I (hat:Nat),W64 hturn,I (hend:Nat),.slice Ar nr cr,.bool false] 244,mm] [F,blk g6 [I (hat:Nat),W64 t',I (hend:Nat),.slice Ar nr cr] 242] (A':=λx:Hp×Option Addr×Nat×Hp=> [blk gb [Ptr gd,I first,I (size:Nat),I (hat:Nat),W64 t',I (hend+n:Nat),.slice x.2.1 (nr+1) x.2.2.1,.bool false] 244,x.1]) (new:=λx=> [x.2.2.2]) (λF' hF=>qH0 F' mm (hK.mo hF) gb gd first size hat hturn hend Ar nr cr false d C f hb hok hn2 (hKp.mono (Fa hF)) hn3 hat t' hend Ar nr cr R hR (hRs.mono (Fa hF)) s hs n hn ht hnr xB he))) O ?_
  rintro⟨m36,A36,c36,m37⟩ ⟨hd36,h36⟩
  refine J.b O<|J.c j9 ?_
  exact J.A<|J.E hw0 O (m36,A36,c36,m37) O ⟨hd36,h36⟩ [0,1,2,4] O xC
theorem qEB{d:Dk}(h:d.armed=false):d.burn=d∧ ¬d.burns:=⟨by unfold Dk.burn;rw [if_neg (by rw [h];decide)],λe=>by have:=e.1;rw [h] at this;exact absurd this xC⟩
theorem qIj{d:Dk}(h:d.off=false){i:Nat}(hi:i<d.last.length):d.ready (i:Int)=0:=by unfold Dk.ready;rw [h,if_neg xC,if_neg xB]
theorem qJw{d:Dk}(ho:d.off=false)(ha:d.armed=false){p n:Nat}(hp:p+n≤d.last.length){t:Nat→xA}(ht: ∀i,i<n→(t i).length≤64): ∀k,k≤n→(qCT d p t k).2=0∧(qCT d p t k).1.off=false∧(qCT d p t k).1.armed=false∧(qCT d p t k).1.last=d.last
 |0,_=>⟨rfl,ho,ha,rfl⟩
 |k+1,hk=>by
  obtain ⟨h1,h2,h3,h4⟩:=qJw ho ha hp ht k xB
  have hw:=qSk (qIj h2 (i:=p+k) (by rw [h4];omega)) (ht k xB) (qEB h3).2
  rw [(qEB h3).1] at hw
  rw [qGs h1]
  dsimp only
  rw [hw.1]
  exact⟨hw.2,h2,h3,h4⟩
theorem qPX{d:Dk}(hok:d.ok)(ho:d.off=false)(ha:d.armed=false){p n:Nat}(hp:p+n≤d.last.length){t:Nat→xA}(ht: ∀i,i<n→(t i).length≤64):
    (qLb d p t n).2=0∧(qLb d p t n).1.off=false∧(qLb d p t n).1.armed=false∧(qLb d p t n).1.last.length=d.last.length∧(qLb d p t n).1.wait= []∧(qLb d p t n).1.keep=d.keep∧(qLb d p t n).1.ok:=by
  obtain ⟨h1,h2,h3,h4⟩:=qJw ho ha hp ht n (jK _)
  have hw:=qIq hok p t n
  have hs:=hw.1.sync
  have h0:(qCT d p t n).1.ready 0=0:=qIj h2 (i:=0) (by rw [h4];exact hok.n0)
  have e:qLb d p t n=((qCT d p t n).1.sync,(qCT d p t n).1.sErr):=if_pos h1
  have e2:(qCT d p t n).1.sync={(qCT d p t n).1 with last:=qDU (qCT d p t n).1.last (qCT d p t n).1.wait (qCT d p t n).1.wait.length,wait:= []}:=by
    unfold Dk.sync
    rw [if_neg xB,if_neg (qEB h3).2,(qEB h3).1]
  have e3:(qCT d p t n).1.sErr=0:=by
    unfold Dk.sErr
    rw [if_neg xB,if_neg (qEB h3).2]
  rw [e]
  refine⟨e3,?_,?_,?_,?_,?_,hs⟩
  · show(qCT d p t n).1.sync.off=_;rw [e2];exact h2
  · show(qCT d p t n).1.sync.armed=_;rw [e2];exact h3
  · show(qCT d p t n).1.sync.last.length=_;rw [e2];show(qDU _ _ _).length=_;rw [qBR,h4]
  · show(qCT d p t n).1.sync.wait=_;rw [e2]
  · show(qCT d p t n).1.sync.keep=_;rw [e2];exact hw.2.2
theorem qTw{n:Nat}(i:Nat)(h:i<(Dk.new n).last.length):(Dk.new n).ready (i:Int)=0∧(Dk.new n).read (i:Int)=zS:=by
 have hi:i<n:=by have:=h;unfold Dk.new at this;dsimp only at this;rwa [jI] at this
 have h0:=qQ1 (n:=n) (i:=(i:Int)) xB xB
 exact⟨h0,by rw [qWb h0];exact qXB hi⟩
theorem qQS{turn num:UInt64}{s:xA}{n:Nat}(ht:turn.toNat<2^(8*4))(hn:num.toNat<2^(8*2))(h:n≤24): ∀i,i<n→((prt turn num s n i).text).length≤64:=λi hi=>by rw [Prt.text_len (qQT ht hn h hi)];exact jK _
namespace Mk
def node(a b:xA):xA:=Sha.tagged 5 [a,b]
def above(l:List xA):List xA:=(List.range (l.length/2)).map λk=>node (l.getD (2*k) []) (l.getD (2*k+1) [])
def lvl(l:List xA):Nat→List xA
 |0=>l
 |j+1=>above (lvl l j)
def root(l:List xA)(h:Nat):xA:=(lvl l h).getD 0 []
def path(l:List xA)(i h:Nat):List xA:=(List.range h).map λj=>(lvl l j).getD ((i/2^j)^^^1) []
def climb:xA→Nat→List xA→xA
 |x,_,[]=>x
 |x,i,s::r=>climb (if i%2=0 then node x s else node s x) (i/2) r
def Right(n:Nat):Prop:=n=1∨n=2∨n=4∨n=8∨n=16∨n=32∨n=64
instance (n:Nat):Decidable (Right n):=by unfold Right;infer_instance
theorem qQI: ∀n:Fin 65,(1≤n.val∧n.val&&&(n.val-1)=0)↔Right n.val:=by decide+kernel
theorem right_of(n:Nat):(1≤n∧n≤64∧n&&&(n-1)=0)↔Right n:=by
  by_cases h:n<65
  · have:=qQI ⟨n,h⟩
    dsimp only at this
    rw [←this]
    constructor
    · intro ⟨a,_,c⟩;exact⟨a,c⟩
    · intro ⟨a,c⟩;exact⟨a,xB,c⟩
  · constructor
    · intro ⟨_,b,_⟩;omega
    · intro hr;unfold Right at hr;omega
theorem right_pow(h:Nat)(h6:h≤6):Right (2^h):=by
 have: ∀h:Fin 7,Right (2^h.val):=by decide+kernel
 exact this ⟨h,xB⟩
theorem node_length(a b:xA):(node a b).length=16:=Sha.tagged_length _ _
theorem qLT(l:List xA):(above l).length=l.length/2:=by simp [above]
theorem qMl(l:List xA): ∀s∈above l,s.length=16:=λs hs=>by
 simp only [above,za] at hs
 obtain ⟨k,_,rfl⟩:=hs
 exact node_length _ _
theorem lvl_succ_length(l:List xA)(j:Nat):(lvl l (j+1)).length=(lvl l j).length/2:=qLT _
theorem lvl_length(l:List xA)(h:Nat)(hl:l.length=2^h): ∀j,j≤h→(lvl l j).length=2^(h-j)
 |0,_=>hl
 |j+1,hj=>by
  rw [lvl_succ_length,lvl_length l h hl j xB,show h-j=(h-(j+1))+1 by omega,jx]
  omega
theorem lvl_small(l:List xA)(hs: ∀s∈l,s.length≤1048576): ∀j,∀s∈lvl l j,s.length≤1048576
 |0=>hs
 |j+1=>λs h=>by rw [qMl _ s h];decide
theorem xor_one(m k:Nat)(h:m<2*k):m^^^1<2*k:=by
 have e1:(m^^^1)/2=m/2:=by rw [Nat.xor_div_two];simp
 omega
theorem path_succ(l:List xA)(i h:Nat):path l i (h+1)=path l i h++ [(lvl l h).getD ((i/2^h)^^^1) []]:=by simp [path,zA]
theorem path_length(l:List xA)(i h:Nat):(path l i h).length=h:=by simp [path]
theorem above_succ(l:List xA)(k:Nat):((List.range (k+1)).map λk=>node (l.getD (2*k) []) (l.getD (2*k+1) []))=((List.range k).map λk=>node (l.getD (2*k) []) (l.getD (2*k+1) []))++ [node (l.getD (2*k) []) (l.getD (2*k+1) [])]:=by simp [zA]
theorem getS{l:List xA}{j:Nat}(h:j<l.length):l[j]?=some (l.getD j []):=by rw [jB,jC h];rfl
theorem getS_mem{l:List xA}{j:Nat}(h:j<l.length):l.getD j []∈l:=jM (getS h)
end Mk
theorem qKB(a:List xA):(qAH a).all (λx=>x.all Value.oneCell')=true:=by simp [qAH,Value.oneCell']
attribute [local irreducible] Mk.node
theorem qMG(F:Hp)(hK:qAG F ⟨3,0,none⟩ (Sha.K.map W32))(a b:xA)(ha:a.length≤1048576)(hb:b.length≤1048576):
    Cz prog 207 [Str a,Str b] F (Str (Mk.node a b)):=by
  refine Ct.walk func207 O ntmps207 O (λw0 hw0=>?_)
  exact J.f λ_ j1=>J.b O<|J.c j1<|J.f λ_ j2=>J.j 2 O<|J.k (qAF (l:= [.tmp 5,.tmp 6]) (xs:= [[Str a],[Str b]]) O O O O qAm el9 O xC xC xD) O λg7 _=>J.k (qAY O O (λF' hF=>qA5 F' (hK.mono (Fa hF)) 5 (some ⟨g7,0,none⟩) 2 2 [a,b] (((qAp (q:=True) (xs:=qAH [a,b]) O (by simp [qAH])).sl (m:=blk g7 [Str a,Str b] 9)).mono (Fa hF)) xJ xC)) O λg8 _=>J.b O<|J.c j2<|J.A<|J.E hw0 O () (by unfold Mk.node;rfl) trivial [0] O xC
theorem qNB(F:Hp)(n:Nat)(hn:n<9223372036854775808):Cz prog 130 [I n] F (.bool (decide (Mk.Right n))):=by
 have hR:=Mk.right_of n
 refine Ct.walk func130 O ntmps130 O (λw0 hw0=>?_)
 refine J.f λ_ j1=>J.b O<|J.c j1<|J.f λ_ j2=>J.b O<|J.g (qBI O O O) O<|J.b O<|J.c0 (d:=5) O (λh5=>?_) (λh5=>?_)
 ·
  refine J.b O<|J.H (qCV O O O) O<|J.j 2 O<|J.c0 (d:=9) O (λh9=>?_) (λh9=>?_)
  ·
   exact J.j 2 O<|J.H ((qA8 O O O xB).nat (n-1) xB) O<|J.H (qMB O O O xB) O<|J.H (qAU O O O) O<|J.j 2 O<|J.c j2<|J.A<|J.E hw0 O () (congrArg Value.bool (decide_eq_decide.2 (by rw [←hR];omega))) trivial [0] O xC
  exact J.j 7 O<|J.c j2<|J.A<|J.E hw0 O () (congrArg Value.bool (decide_eq_false (by rw [←hR];omega)).symm) trivial [0] O xC
 exact J.j 11 O<|J.c j2<|J.A<|J.E hw0 O () (congrArg Value.bool (decide_eq_false (by rw [←hR];omega)).symm) trivial [0] O xC
theorem qOC(F:Hp)(hK:qAG F ⟨3,0,none⟩ (Sha.K.map W32))(A:Option Addr)(n c:Nat)(ls:List xA)(hl:Sl F 1 A n c (qAH ls))(hsm: ∀s∈ls,s.length≤1048576)(hn:n≤1048576):
    Ct prog 131 [.slice A n c] [F] (λx:Option Addr×Nat×Hp=> .slice x.1 (n/2) x.2.1) (λx=>Row x.2.2 9 1 x.1 (n/2) x.2.1 (qAH (Mk.above ls))) (λx=> [F,x.2.2]):=by
  have hlen:ls.length=n:=by have:=hl.1;simpa [qAH] using this
  refine Ct.walk func131 O ntmps131 O (λw0 hw0=>?_)
  refine J.f λ_ j1=>J.b O<|J.c j1<|J.f λ_ j2=>J.b O<|J.c j2<|J.q λ_ j3=>J.q λ_ j4=>J.c7 [0,1] [F,(λ_=>none)] O xC<|J.L<|J.b O<|J.c j4<|J.T<|J.b8 (X:=Nat×Option Addr×Nat×Hp) (λx=> [(0,.slice A n c),(3,.slice x.2.1 x.1 x.2.2.1),(4,I (2*x.1:Nat))]) (λx=> [F,x.2.2.2]) (λx=>2*x.1≤n∧Row x.2.2.2 9 1 x.2.1 x.1 x.2.2.1 (qAH ((List.range x.1).map λk=>Mk.node (ls.getD (2*k) []) (ls.getD (2*k+1) [])))) (λx=>n-x.1) (0,none,0,λ_=>none) (⟨jG _,qBc.nil⟩) ⟨O,O,O,trivial⟩ (λ_ h=>h) ?_
  rintro⟨k,A1,c1,m⟩ ⟨hk,hrow⟩ I0 hI0
  dsimp only at hk hrow⊢
  refine J.q λ_ j5=>J.f λ_ j6=>J.b O<|J.g ((qAR O O O xB)) O<|J.b O<|J.g (qAQ qAm O O) O<|J.g (qAS O O O) O<|J.c j6<|J.Z O (λh9=>?_) (λh9=>?_)
  ·
    refine J.M j5<|J.q λ_ j7=>J.T<|J.b2 [F] [] (.y 0 (.y 1 (.y 2 (.y 3 (.y 4 (.y 5 (.y 6 (.y 7 (.y 8 (.y 9 (.e 10 (.e 11 (.e 12 (.y 13 .nil)))))))))))))) Tryz.wide xF xD ?_
    iterate 3 refine J.G ?_
    refine J.p O (qAE O O O qAm z9_ hl xB) O O<|J.p O (qAL O O b9_ (m:=F) xD (hl.elem (qAe (Mk.getS (l:=ls) (j:=2*k) xB)))) O O<|J.G ?_
    refine J.G ?_
    refine J.p O ((qAR O O O xB).nat (2*k+1) xB) O O<|J.p O (qAE O O O qAm z9_ hl xB) O O<|J.p O (qAL O O b9_ (m:=F) xD (hl.elem (qAe (Mk.getS (l:=ls) (j:=2*k+1) xB)))) O O<|J.a1 O (qAY O O (λF' hF=>qMG F' (hK.mono (Fa hF)) (ls.getD (2*k) []) (ls.getD (2*k+1) []) (hsm _ (Mk.getS_mem xB)) (hsm _ (Mk.getS_mem xB)))) O xD λg22 _=>J.a1 O (qAF (l:= [.tmp 22]) (xs:= [[Str (Mk.node (ls.getD (2*k) []) (ls.getD (2*k+1) []))]]) O O O O qAm el9 O xC xC xD) O xD λg23 _=>J.a1 O (qAc (i:=1) (m2:=blk g23 [Str (Mk.node (ls.getD (2*k) []) (ls.getD (2*k+1) []))] 9) O O O qAm qAm el9 O hrow xD (qAp (q:=True) (xs:=qAH [Mk.node (ls.getD (2*k) []) (ls.getD (2*k+1) [])]) O (by simp [qAH])).sl (qKB _) xB xB) O xD ?_
    rintro⟨A24,c24,m24⟩ h24
    try dsimp only at h24
    rw [←qCI,←Mk.above_succ ls k] at h24
    refine J.b7 ?_
    refine J.b1<|J.a4<|J.u (J.D j7 ?_)
    refine J.c4 [0,1] [F,m24] O xC<|J.L<|J.b O<|J.g ((qAR O O O xB).nat (2*(k+1)) xB) O<|J.b O<|J.a5<|J.u<|J.b0 (k+1,A24,c24,m24) (λx (hx:_∧n-x.1<n-k)=>hI0 x hx.1 hx.2) ⟨⟨by dsimp only;omega,h24⟩,by dsimp only;omega⟩ ⟨O,O,O,trivial⟩ (λ_ h=>h)
  refine J.b5<|J.a0<|J.a0<|J.b6 ?_
  refine J.u (J.D j3 ?_)
  refine J.f λ_ j8=>J.j 2 O<|J.c j8<|J.A ?_
  have hk2:k=n/2:=xB
  subst hk2
  exact J.E hw0 O (A1,c1,m) O (by rw [←hlen] at hrow;unfold Mk.above;rw [←hlen];exact hrow) [0,1] O xC
theorem qWR(F:Hp)(hK:qAG F ⟨3,0,none⟩ (Sha.K.map W32))(A:Option Addr)(n c:Nat)(ls:List xA)(hl:Sl F 1 A n c (qAH ls))(h:Nat)(h6:h≤6)(hn:n=2^h)(hsm: ∀s∈ls,s.length≤1048576):
    Cz prog 55 [.slice A n c] F (.tuple #[Str (Mk.root ls h),I 0]):=by
  have hlen:ls.length=n:=by have:=hl.1;simpa [qAH] using this
  have hR:Mk.Right n:=by rw [hn];exact Mk.right_pow h h6
  have hn64:n≤64:=by unfold Mk.Right at hR;omega
  have hlv: ∀j,j≤h→(Mk.lvl ls j).length=2^(h-j):=Mk.lvl_length ls h xB
  have hle: ∀j,2^(h-j)≤64:=λj=>jX (jm xC (show h-j≤6 by omega)) xC
  refine Ct.walk func55 O ntmps55 O (λw0 hw0=>?_)
  refine J.f λ_ j1=>J.j 2 O<|J.c j1<|J.q λ_ j2=>J.f λ_ j3=>J.b O<|J.g (qAQ qAm O O) O<|J.k (qAI O O ent (qNB F n xB)) O λg6 _=>J.g ((qFt O O).as (v':= .bool false) (by simp [hR])) O<|J.c7 [0,1] [F,(λ_=>none)] O xC<|J.c j3<|J.a3 ?_
  refine J.M j2<|J.q λ_ j4=>J.T<|J.b8 (X:=Nat×Option Addr×Nat×Hp) (λx=> [(0,.slice x.2.1 (Mk.lvl ls x.1).length x.2.2.1)]) (λx=> [F,x.2.2.2]) (λx=>x.1≤h∧ ∃mm∈ [F,x.2.2.2],Sl mm 1 x.2.1 (Mk.lvl ls x.1).length x.2.2.1 (qAH (Mk.lvl ls x.1))) (λx=>h-x.1) (0,A,c,λ_=>none) (⟨jG _,F,.head _,by rw [show(Mk.lvl ls (0,A,c,(λ_=>none:Hp)).1).length=n from hlen];exact hl⟩) ⟨by rw [←hlen];rfl,trivial⟩ (λ_ h=>h) ?_
  rintro⟨j,A1,c1,m⟩ ⟨hj,mm,hmm,hsl⟩ I0 hI0
  dsimp only at hj hmm hsl⊢
  have hj2:=hlv j hj
  have hj3:=hle j
  have hpos:0<(Mk.lvl ls j).length:=by rw [hj2];exact jz _
  have hmm2:mm=F∨mm=m:=by simpa using hmm
  refine J.q λ_ j5=>J.f λ_ j6=>J.b O<|J.g (qAQ qAm O O) O<|J.g (qA7 O O O) O<|J.c j6<|J.Z O (λh10=>?_) (λh10=>?_)
  ·
    refine J.M j5<|J.T ?_
    have hjh:j<h:=by
      rcases zm j h with hlt|hge
      · exact hlt
      · rw [hj2,show h-j=0 by omega] at h10;simp at h10
    refine J.L<|J.b O<|J.k (qBP O O (λF' hF=>qOC F' (hK.mono (Fa hF)) A1 (Mk.lvl ls j).length c1 (Mk.lvl ls j) (hsl.mono (hF _ (by rcases hmm2 with rfl|rfl<;>simp))) (Mk.lvl_small ls hsm j) xB)) O ?_
    rintro⟨A12,c12,m12⟩ h12
    try dsimp only at h12
    refine J.c4 [0,2] [F,m12] O xC<|J.b O<|J.a5<|J.a4<|J.u<|J.b0 (j+1,A12,c12,m12) (λx (hx:_∧h-x.1<h-j)=>hI0 x hx.1 hx.2) ⟨⟨by dsimp only;omega,m12,by simp,by rw [Mk.lvl_succ_length];exact h12.sl⟩,by dsimp only;omega⟩ ⟨by rw [Mk.lvl_succ_length];rfl,trivial⟩ (λ_ h=>h)
  refine J.b5<|J.a0<|J.a0<|J.b6 ?_
  refine J.u (J.D j4 ?_)
  refine J.q λ_ j7=>?_
  have hjh:j=h:=by
    rcases zm j h with hlt|hge
    · have:=Nat.one_lt_two_pow_iff.2 (show h-j≠0 by omega)
      omega
    · omega
  exact J.L<|J.b O<|J.g (qAE O O O qAm z9_ hsl hpos) O<|J.g (qAL O O b9_ hmm (hsl.elem (qAe (Mk.getS (l:=Mk.lvl ls j) (j:=0) hpos)))) O<|J.j 2 O<|J.c j7<|J.A<|J.a9 hw0 (λ_ _ h=>h) (qBs O O O) (qAi () (by rw [hjh];rfl) trivial [0] O xC)
theorem qWp(F:Hp)(hK:qAG F ⟨3,0,none⟩ (Sha.K.map W32))(A:Option Addr)(n c:Nat)(ls:List xA)(hl:Sl F 1 A n c (qAH ls))(h:Nat)(h6:h≤6)(hn:n=2^h)(hsm: ∀s∈ls,s.length≤1048576)(i:Nat)(hi:i<n):
    Ct prog 167 [.slice A n c,I i] [F] (λx:Option Addr×Nat×Hp=> .tuple #[.slice x.1 h x.2.1,I 0]) (λx=>Row x.2.2 9 1 x.1 h x.2.1 (qAH (Mk.path ls i h))) (λx=> [F,x.2.2]):=by
  have hlen:ls.length=n:=by have:=hl.1;simpa [qAH] using this
  have hR:Mk.Right n:=by rw [hn];exact Mk.right_pow h h6
  have hn64:n≤64:=by unfold Mk.Right at hR;omega
  have hlv: ∀j,j≤h→(Mk.lvl ls j).length=2^(h-j):=Mk.lvl_length ls h xB
  have hle: ∀j,2^(h-j)≤64:=λj=>jX (jm xC (show h-j≤6 by omega)) xC
  refine Ct.walk func167 O ntmps167 O (λw0 hw0=>?_)
  refine J.f λ_ j1=>J.j 2 O<|J.c j1<|J.q λ_ j2=>J.T<|J.f λ_ j3=>J.b O<|J.g (qAQ qAm O O) O<|J.k (qAI O O ent (qNB F n xB)) O λg10 _=>J.g ((qFt O O).as (v':= .bool false) (by simp [hR])) O<|J.b O<|J.c j3<|J.a3 ?_
  refine J.f λ_ j4=>J.b O<|J.g ((qAS O O O).no xB) O<|J.j 3 O<|J.H (qAQ qAm O O) O<|J.H ((qBI O O O).no xB) O<|J.j 2 O<|J.c j4<|J.a3 ?_
  refine J.b3<|J.a4<|J.u (J.D j2 ?_)
  refine J.q λ_ j5=>J.c7 [0,1] [F,(λ_=>none)] O xC<|J.c7 [0,1,2] [F,(λ_=>none),(λ_=>none)] O xC<|J.L<|J.b O<|J.c j5<|J.q λ_ j6=>J.T<|J.b8 (X:=Nat×Option Addr×Nat×Hp×Option Addr×Nat×Hp) (λx=> [(0,.slice x.2.1 (Mk.lvl ls x.1).length x.2.2.1),(1,I (i/2^x.1:Nat)),(6,.slice x.2.2.2.2.1 x.1 x.2.2.2.2.2.1)]) (λx=> [F,x.2.2.2.2.2.2,x.2.2.2.1]) (λx=>x.1≤h∧(∃mm∈ [F,x.2.2.2.1],Sl mm 1 x.2.1 (Mk.lvl ls x.1).length x.2.2.1 (qAH (Mk.lvl ls x.1)))∧Row x.2.2.2.2.2.2 9 1 x.2.2.2.2.1 x.1 x.2.2.2.2.2.1 (qAH (Mk.path ls i x.1))) (λx=>h-x.1) (0,A,c,(λ_=>none),none,0,λ_=>none) (⟨jG _,⟨F,.head _,by rw [show(Mk.lvl ls (0,A,c,(λ_=>none:Hp)).1).length=n from hlen];exact hl⟩,qBc.nil⟩) ⟨by rw [←hlen];rfl,by rw [Nat.pow_zero,Nat.div_one];rfl,O,trivial⟩ (λ_ h=>h) ?_
  rintro⟨j,A1,c1,m,A2,c2,m2⟩ ⟨hj,⟨mm,hmm,hsl⟩,hrow⟩ I0 hI0
  dsimp only at hj hmm hsl hrow⊢
  have hj2:=hlv j hj
  have hj3:=hle j
  have hpos:0<(Mk.lvl ls j).length:=by rw [hj2];exact jz _
  have hmm2:mm=F∨mm=m:=by simpa using hmm
  have hmF:mm∈ [F,m2,m]:=by rcases hmm2 with rfl|rfl<;>simp
  refine J.q λ_ j7=>J.f λ_ j8=>J.b O<|J.g (qAQ qAm O O) O<|J.g (qA7 O O O) O<|J.c j8<|J.Z O (λh23=>?_) (λh23=>?_)
  ·
    refine J.M j7<|J.q λ_ j9=>J.T ?_
    have hjh:j<h:=by
      rcases zm j h with hlt|hge
      · exact hlt
      · rw [hj2,show h-j=0 by omega] at h23;simp at h23
    have hij:i/2^j<2^(h-j):=by
      rw [z8 (jz j),←Nat.pow_add,show h-j+j=h by omega,←hn];exact hi
    have hx1:i/2^j^^^1<(Mk.lvl ls j).length:=by
      rw [hj2,show h-j=(h-j-1)+1 by omega,jx,z6]
      refine Mk.xor_one _ _ ?_
      rw [show h-j=(h-j-1)+1 by omega,jx,z6] at hij;exact hij
    refine J.L<|J.j 3 O<|J.g (qWs O O O ⟨zP (zr _ _) (show i<9223372036854775808 by omega),xC⟩) O<|J.g (qAE O O O qAm z9_ hsl hx1) O<|J.g (qAL O O b9_ hmF (hsl.elem (qAe (Mk.getS (l:=Mk.lvl ls j) (j:=i/2^j^^^1) hx1)))) O<|J.k (qAF (l:= [.tmp 33]) (xs:= [[Str ((Mk.lvl ls j).getD ((i/2^j)^^^1) [])]]) O O O O qAm el9 O xC xC xD) O λg34 _=>J.k (qAc (i:=1) (m2:=blk g34 [Str ((Mk.lvl ls j).getD ((i/2^j)^^^1) [])] 9) O O O qAm qAm el9 O hrow xD (qAp (q:=True) (xs:=qAH [((Mk.lvl ls j).getD ((i/2^j)^^^1) [])]) O (by simp [qAH])).sl (qKB _) xB xB) O ?_
    rintro⟨A35,c35,m35⟩ h35
    try dsimp only at h35
    rw [←qCI,←Mk.path_succ] at h35
    refine J.b O<|J.a5<|J.a4<|J.u (J.D j9 ?_)
    refine J.L<|J.b O<|J.k (qBP O O (λF' hF=>qOC F' (hK.mono (Fa hF)) A1 (Mk.lvl ls j).length c1 (Mk.lvl ls j) (hsl.mono (hF _ (by rcases hmm2 with rfl|rfl<;>simp))) (Mk.lvl_small ls hsm j) xB)) O ?_
    rintro⟨A25,c25,m25⟩ h25
    try dsimp only at h25
    refine J.c4 [0,1,4] [F,m35,m25] O xC<|J.b O<|J.g ((qIM O O O ⟨Int.natCast_nonneg _,xC,Int.ofNat_le.2 (jX (zr _ _) (show i≤9223372036854775807 by omega))⟩).as (v':=I (i/2^(j+1):Nat)) (congrArg I (by rw [jx,←zz];rfl))) O<|J.j 2 O<|J.a5<|J.u<|J.b0 (j+1,A25,c25,m25,A35,c35,m35) (λx (hx:_∧h-x.1<h-j)=>hI0 x hx.1 hx.2) ⟨⟨by dsimp only;omega,⟨m25,by simp,by rw [Mk.lvl_succ_length];exact h25.sl⟩,h35⟩,by dsimp only;omega⟩ ⟨by rw [Mk.lvl_succ_length];rfl,O,O,trivial⟩ (λ_ h=>h)
  refine J.b5<|J.a0<|J.a0<|J.b6 ?_
  refine J.u (J.D j6 ?_)
  refine J.q λ_ j10=>?_
  have hjh:j=h:=by
    rcases zm j h with hlt|hge
    · have:=Nat.one_lt_two_pow_iff.2 (show h-j≠0 by omega)
      omega
    · omega
  exact J.L<|J.j 3 O<|J.c j10<|J.A<|J.a9 hw0 (λ_ _ h=>h) (qBs O O O) (qAi (A2,c2,m2) (by rw [hjh]) (by rw [hjh] at hrow;exact hrow) [0,1] O xC)
theorem qUg(F:Hp)(hK:qAG F ⟨3,0,none⟩ (Sha.K.map W32))(xx:xA)(i:Nat)(A:Option Addr)(n c:Nat)(ls:List xA)(hl:Sl F 1 A n c (qAH ls))(hx:xx.length≤1048576)(hsm: ∀s∈ls,s.length≤1048576)(hi:i<9223372036854775808)(hn:n≤1048576):
    Cz prog 245 [Str xx,I i,.slice A n c] F (Str (Mk.climb xx i ls)):=by
  have hlen:ls.length=n:=by have:=hl.1;simpa [qAH] using this
  refine Ct.walk func245 O ntmps245 O (λw0 hw0=>?_)
  refine J.f λ_ j1=>J.b O<|J.c j1<|J.q λ_ j2=>J.f λ_ j3=>J.b O<|J.g (qAQ qAm O O) O<|J.b O<|J.c j3<|J.T<|J.b8 (X:=Nat×xA×Nat) (λx=> [(0,Str x.2.1),(1,I x.2.2),(9,.slice A n c),(10,I n),(11,I x.1)]) (λ_=> [F]) (λx=>x.1≤n∧x.2.1.length≤1048576∧x.2.2≤i∧Mk.climb x.2.1 x.2.2 (ls.drop x.1)=Mk.climb xx i ls) (λx=>n-x.1) (0,xx,i) (⟨jG _,hx,jK _,O⟩) ⟨O,O,O,O,O,trivial⟩ (λ_ h=>h) ?_
  rintro⟨k,y,j⟩ ⟨hk,hy,hji,hc⟩ I0 hI0
  dsimp only at hk hy hji hc⊢
  refine J.f λ_ j4=>J.g (qAS O O O) O<|J.c j4<|J.q λ_ j5=>J.Z O (λh12=>?_) (λh12=>?_)
  ·
    refine J.M j5<|J.q λ_ j6=>J.T<|J.q λ_ j7=>?_
    have hkn:k<n:=xB
    obtain ⟨s,hs⟩: ∃s,ls[k]?=some s:=⟨_,jC xB⟩
    have hdr:ls.drop k=s::ls.drop (k+1):=by
      obtain ⟨hk2,rfl⟩:=List.getElem?_eq_some_iff.1 hs
      exact zD hk2
    rw [hdr,Mk.climb] at hc
    refine J.L<|J.g (qAE O O O qAm z9_ hl xB) O<|J.g (qAL O O b9_ (m:=F) xD (hl.elem (qAe hs))) O<|J.b O<|J.c j7<|J.q λ_ j8=>J.f λ_ j9=>J.b O<|J.g (qMB (a:=j) (b:=1) O O O xB) O<|J.g (qAU O O O) O<|J.c j9<|J.Z O (λh17=>?_) (λh17=>?_)
    ·
      refine J.L<|J.j 2 O<|J.k (qAY O O (λF' hF=>qMG F' (hK.mono (Fa hF)) y s hy (hsm _ (jM hs)))) O λg20 _=>J.b O<|J.c j8<|J.L<|J.b O<|J.g ((qC6 (m:=1) O O O xB).nat (j/2) xB) O<|J.b O<|J.a5<|J.a4<|J.u (J.D j6 ?_)
      refine J.L<|J.g (qAR O O O xB) O<|J.b O<|J.a5<|J.u ?_
      rw [if_pos (by rw [Nat.and_one_is_mod] at h17;omega)] at hc
      refine J.b0 (k+1,Mk.node y s,j/2) (λx (hx:_∧n-x.1<n-k)=>hI0 x hx.1 hx.2) ⟨⟨by dsimp only;omega,by dsimp only;rw [Mk.node_length];decide,by dsimp only;omega,hc⟩,by dsimp only;omega⟩ ⟨O,O,O,O,O,trivial⟩ (λ_ h=>h)
    refine J.L<|J.j 2 O<|J.k (qAY O O (λF' hF=>qMG F' (hK.mono (Fa hF)) s y (hsm _ (jM hs)) hy)) O λg23 _=>J.b O<|J.c j8<|J.L<|J.b O<|J.g ((qC6 (m:=1) O O O xB).nat (j/2) xB) O<|J.b O<|J.a5<|J.a4<|J.u (J.D j6 ?_)
    refine J.L<|J.g (qAR O O O xB) O<|J.b O<|J.a5<|J.u ?_
    rw [if_neg (by rw [Nat.and_one_is_mod] at h17;omega)] at hc
    refine J.b0 (k+1,Mk.node s y,j/2) (λx (hx:_∧n-x.1<n-k)=>hI0 x hx.1 hx.2) ⟨⟨by dsimp only;omega,by dsimp only;rw [Mk.node_length];decide,by dsimp only;omega,hc⟩,by dsimp only;omega⟩ ⟨O,O,O,O,O,trivial⟩ (λ_ h=>h)
  refine J.b5<|J.a0<|J.a0<|J.b6 ?_
  refine J.u (J.D j2 ?_)
  refine J.q λ_ j10=>?_
  rw [js xB] at hc
  exact J.L<|J.j 2 O<|J.c j10<|J.A<|J.E hw0 O () (by rw [←hc];rfl) trivial [0] O xC
end Go.Proofs.YtmemgokiolfdoaaGreatDoor
namespace Go.Proofs.YtmemgokiolfdoaaGreatDoor
open Go Go.Fw Go.Proofs.Tryz
attribute [local irreducible] Mk.node
namespace Mk
theorem qVp(m:Nat):m^^^1=if m%2=0 then m+1 else m-1:=by
 have e1:(m^^^1)/2=m/2:=by rw [Nat.xor_div_two];simp
 have e2:(m^^^1)%2=(m%2)^^^1:=Nat.xor_mod_two_pow (n:=1)
 rcases Nat.mod_two_eq_zero_or_one m with h|h
 · rw [h,show(0:Nat)^^^1=1 from rfl] at e2;rw [if_pos h];omega
 · rw [h,show(1:Nat)^^^1=0 from rfl] at e2;rw [if_neg xB];omega
theorem qSS(l:List xA)(k:Nat):(above l)[k]?=if k<l.length/2 then some (node (l.getD (2*k) []) (l.getD (2*k+1) [])) else none:=by
 unfold above
 rw [jO]
 by_cases h:k<l.length/2
 · rw [if_pos h,zL h];rfl
 · rw [if_neg h,jd (by simpa using Nat.le_of_not_lt h)];rfl
theorem qJ7{k:Nat}(h:0<k):2^k%2=0:=by
 rw [show k=(k-1)+1 by omega,jx];omega
end Mk
attribute [local irreducible] Mk.root Mk.path
end Go.Proofs.YtmemgokiolfdoaaGreatDoor
namespace Go.Proofs.YtmemgokiolfdoaaGreatDoor
open Go Go.Fw Go.Proofs.Tryz
attribute [local irreducible] Mk.node
namespace Mk
theorem qIf(s:xA): ∀(p:List xA) (x:xA) (i:Nat),climb x i (p++ [s])=if i/2^p.length%2=0 then node (climb x i p) s else node s (climb x i p)
 | [],x,i=>by simp [climb]
 |a::p,x,i=>by
  rw [zy,climb,climb,qIf s p,jD,jx,z6,←zz]
theorem qLI(l:List xA)(h i:Nat)(hl:l.length=2^h)(hi:i<2^h): ∀j,j≤h→climb (l.getD i []) i (path l i j)=(lvl l j).getD (i/2^j) []
  |0,_=>by simp [path,climb,lvl]
  |j+1,hj=>by
    have hlen:=lvl_length l h hl j xB
    have h1:i/2^j<2^(h-j):=by rw [z8 (jz j),←Nat.pow_add,show h-j+j=h by omega];exact hi
    have h2:=qJ7 (show 0<h-j by omega)
    rw [path_succ,qIf,qLI l h i hl hi j xB,path_length,jx,←zz]
    generalize i/2^j=q at*
    rw [show lvl l (j+1)=above (lvl l j) from rfl,jB (l:=above (lvl l j)),qSS,hlen,if_pos (show q/2<2^(h-j)/2 by omega),qVp]
    split
    · rename_i e
      rw [show 2*(q/2)=q by omega];rfl
    · rename_i e
      rw [show 2*(q/2)=q-1 by omega,show q-1+1=q by omega];rfl
theorem climb_root(l:List xA)(h i:Nat)(hl:l.length=2^h)(hi:i<2^h):climb (l.getD i []) i (path l i h)=root l h:=by
 rw [qLI l h i hl hi h (jK _),zJ hi];rfl
theorem flat_small{ls:List xA}{w:Nat}(h: ∀s∈ls,s.length≤w):ls.flatten.length≤w*ls.length:=by
 induction ls with
 |nil=>simp
 |cons a l ih=>
  have:=ih (λs hs=>h s (.tail _ hs))
  have h2:=h a (.head _)
  rw [jb,jA,jD,Nat.mul_add];omega
end Mk
namespace Sha
end Sha
attribute [local irreducible] Sha.tagB Mk.root Mk.path
end Go.Proofs.YtmemgokiolfdoaaGreatDoor