/- A part of the proof. -/
import Derived.Test.YtmemgokiolfdoaaGreatDoorTopMsG20
set_option maxRecDepth 100000
set_option maxHeartbeats 1000000
set_option linter.unusedSimpArgs false
set_option linter.unusedVariables false
namespace Go.Proofs.YtmemgokiolfdoaaGreatDoor
open Go Go.Fw Go.Proofs.Tryz
theorem el371:qCY prog 371 [.int .u64 0,.int .u64 0,.int .i64 0,.int .i64 0,Str [],Str []] 64:=qCY.of xI O
theorem qS6(g:Nat):Wtr (blk g [.pointer none,.slice none 0 0,I 0] 148) g [] 0:=
 ⟨[.pointer none,.slice none 0 0,I 0],λ_=>none,none,0,none,by funext k;simp only [U];cases blk g [.pointer none,.slice none 0 0,I 0] 148 k<;>rfl,λ_=> .inr O,O,⟨O,.inl O,O,qBZ.nil,.inl O⟩,O⟩
theorem qPh{n:UInt64}{size:Nat}(h:n.toNat<2^(8*size))(bs:xA):qLs n size bs 0=bs++Sha.numB n size∧qCV (okN n size) 10 0=0:=by
 have e:okN n size=true:=decide_eq_true h
 have f:qCV (okN n size) 10 0=0:=by unfold qCV;rw [e,if_neg xD]
 exact⟨by unfold qLs;rw [if_pos f],f⟩
def qWC(s:xA):xA:=(Sha.tagged 8 [s]).take 8
def qLW(turn num:UInt64)(s:xA):xA:=(Sha.tagged 7 [Sha.numB turn 4,Sha.numB num 2,s]).take 8
theorem qCw(F:Hp)(n:UInt64)(size:Nat)(h1:1≤size)(h8:size<8)(hn:n.toNat<2^(8*size)):
    Cz prog 287 [W64 n,I size] F (Str (Sha.numB n size)):=by
  refine Ct.walk func287 O ntmps287 O (λw0 hw0=>?_)
  refine J.f λ_ j1=>J.b O<|J.c j1<|J.f λ_ j2=>J.q (qAJ O qLI O) O λg5 _=>J.c j2<|J.f λ_ j3=>J.p 2 O<|J.q (qAK O O ent (Ct.use1 1 O (λF' _=>qD4 F' (blk g5 [.pointer none,.slice none 0 0,I 0] 148) g5 [] 0 (qS6 g5) xC n size h1 h8))) O ?_
  rintro m11 hw11
  rw [(qPh hn []).1,(qPh hn []).2,jr] at hw11
  refine J.q (qAK O O ent (Ct.use1 1 O (λF' _=>qDf F' m11 g5 (Sha.numB n size) 0 hw11 (by rw [Sha.numB_length];omega)))) O ?_
  rintro m12 _
  exact J.p 5 O<|J.c j3<|J.f λ_ j4=>J.p 2 O<|J.c j4<|J.A<|J.E hw0 O () O trivial [0] O xC
theorem qSX(F:Hp)(hK:qAG F ⟨3,0,none⟩ (Sha.K.map W32))(s:xA)(hs:s.length≤1048576):Cz prog 286 [Str s] F (Str (qWC s)):=by
 refine Ct.walk func286 O ntmps286 O (λw0 hw0=>?_)
 exact J.f λ_ j1=>J.b O<|J.c j1<|J.f λ_ j2=>J.b O<|J.q (qAE (l:= [.tmp 3]) (xs:= [[Str (s)]]) O O O O qAn el9 O xC xC xD) O λg4 _=>J.q (qAZ O O (λF' hF=>qA3 F' (hK.mono (Fa hF)) 8 (some ⟨g4,0,none⟩) 1 1 [s] ((slS [s] O).mono (hF (blk g4 (([s]:List xA).map λs=>Str s) 9) xD)) xJ xC)) O λg5 _=>J.g ((qA9 u9_ O O O O (by rw [Sha.tagged_length];decide)).as (v':=Str (qWC s)) (congrArg Str ze)) O<|J.b O<|J.c j2<|J.A<|J.E hw0 O () O trivial [0] O xC
theorem qVJ(F:Hp)(hK:qAG F ⟨3,0,none⟩ (Sha.K.map W32))(turn num:UInt64)(s:xA)(ht:turn.toNat<2^(8*4))(hn:num.toNat<2^(8*2))(hs:s.length≤1048576):Cz prog 256 [W64 turn,W64 num,Str s] F (Str (qLW turn num s)):=by
 refine Ct.walk func256 O ntmps256 O (λw0 hw0=>?_)
 exact J.f λ_ j1=>J.b O<|J.c j1<|J.f λ_ j2=>J.b O<|J.q (qAZ O O (λF' hF=>qCw F' turn 4 xC xC ht)) O λg8 _=>J.b O<|J.q (qAZ O O (λF' hF=>qCw F' num 2 xC xC hn)) O λg10 _=>J.b O<|J.q (qAE (l:= [.tmp 8,.tmp 10,.tmp 11]) (xs:= [[Str (Sha.numB turn 4)],[Str (Sha.numB num 2)],[Str (s)]]) O O O O qAn el9 O xC xC xD) O λg12 _=>J.q (qAZ O O (λF' hF=>qA3 F' (hK.mono (Fa hF)) 7 (some ⟨g12,0,none⟩) 3 3 [Sha.numB turn 4,Sha.numB num 2,s] ((slS [Sha.numB turn 4,Sha.numB num 2,s] O).mono (hF (blk g12 (([Sha.numB turn 4,Sha.numB num 2,s]:List xA).map λs=>Str s) 9) xD)) (by simp only [ji,zQ,jR,jA,Sha.numB_length];omega) xC)) O λg13 _=>J.g ((qA9 u9_ O O O O (by rw [Sha.tagged_length];decide)).as (v':=Str (qLW turn num s)) (congrArg Str ze)) O<|J.b O<|J.c j2<|J.A<|J.E hw0 O () O trivial [0] O xC
def qBi(n:Nat):Nat:=if n<1 then 1 else(n-1)/39+1
theorem qG3(F:Hp)(n:Nat)(hn:n≤1048576):Cz prog 135 [I n] F (I (qBi n:Nat)):=by
 refine Ct.walk func135 O ntmps135 O (λw0 hw0=>?_)
 refine J.f λ_ j1=>J.b O<|J.c j1<|J.k λ_ j2=>J.f λ_ j3=>J.b O<|J.g (qAS O O O) O<|J.c j3<|J.Z O (λh4=>?_) (λh4=>?_)
 ·
  exact J.f λ_ j4=>J.b O<|J.c j4<|J.A<|J.V<|J.E hw0 O () (by unfold qBi;rw [if_pos xB];rfl) trivial [0] O xC
 exact J.M j2<|J.f λ_ j5=>J.b O<|J.g ((qA4 O O O xB).nat (n-1) xB) O<|J.g ((qIK O O O xB).as (v':=I ((n-1)/39:Nat)) (congrArg I (Int.ofNat_tdiv _ _).symm)) O<|J.g (qAR O O O xB) O<|J.b O<|J.c j5<|J.A<|J.E hw0 O () (by unfold qBi;rw [if_neg xB];rfl) trivial [0] O xC
structure Prt where
 turn:UInt64
 num:UInt64
 at_:Nat
 all:Nat
 name:xA
 con:xA
def Prt.cells(p:Prt):List Value:= [W64 p.turn,W64 p.num,I p.at_,I p.all,Str p.name,Str p.con]
structure Prt.ok (p:Prt):Prop where
 t:p.turn.toNat<2^(8*4)
 n:p.num.toNat<2^(8*2)
 a:p.at_<256
 l:p.all<256
 m:p.name.length≤8
 c:p.con.length≤39
def Prt.b1(p:Prt):xA:=Sha.numB p.turn 4++Sha.numB p.num 2
def Prt.b2(p:Prt):xA:=p.b1++Sha.numB (UInt64.ofNat p.at_) 1
def Prt.b3(p:Prt):xA:=p.b2++Sha.numB (UInt64.ofNat p.all) 1
def Prt.b4(p:Prt):xA:=p.b3++Sha.numB (UInt64.ofNat p.con.length) 1
def Prt.b5(p:Prt):xA:=p.b4++p.name
def Prt.body(p:Prt):xA:=p.b5++p.con
def Prt.pad(p:Prt):xA:=p.body++List.replicate (56-p.body.length) 0
def Prt.text(p:Prt):xA:=p.pad++qWC p.pad
theorem qN8(s:xA):(qWC s).length=8:=by unfold qWC;rw [jF,Sha.tagged_length];rfl
theorem qSb(t n:UInt64)(s:xA):(qLW t n s).length=8:=by unfold qLW;rw [jF,Sha.tagged_length];rfl
theorem Prt.b4_len(p:Prt):p.b4.length=9:=by unfold Prt.b4 Prt.b3 Prt.b2 Prt.b1;simp only [jA,Sha.numB_length]
theorem Prt.body_len(p:Prt):p.body.length=9+p.name.length+p.con.length:=by unfold Prt.body Prt.b5;rw [jA,jA,p.b4_len]
theorem Prt.pad_len{p:Prt}(h:p.ok):p.pad.length=56:=by
 have:=p.body_len
 have:=h.m
 have:=h.c
 unfold Prt.pad;rw [jA,jL];omega
theorem Prt.text_len{p:Prt}(h:p.ok):p.text.length=64:=by unfold Prt.text;rw [jA,p.pad_len h,qN8]
theorem n1ok{n:Nat}(h:n<256):(UInt64.ofNat n).toNat<2^(8*1):=by rw [qBE xB];exact h
theorem qNM(F:Hp)(hK:qAG F ⟨3,0,none⟩ (Sha.K.map W32))(p:Prt)(hp:p.ok):Cz prog 261 [.agg p.cells.toArray] F (Str p.text):=by
 obtain ⟨h1,h2,h3,h4,h5,h6⟩:=hp
 have hbl:=p.body_len
 have hpl:=Prt.pad_len ⟨h1,h2,h3,h4,h5,h6⟩
 refine Ct.walk func261 O ntmps261 O (λw0 hw0=>?_)
 refine J.f λ_ j1=>J.q (qAb O O O) O λg1 _=>J.b O<|J.c j1<|J.k λ_ j2=>J.b1 [blk g1 p.cells 371] [] (.y 0 (.y 1 (.y 3 (.y 4 (.y 7 (.y 8 (.y 9 (.y 12 (.y 13 (.y 14 (.y 17 (.y 18 (.y 19 (.y 20 (.y 23 (.y 24 (.y 26 (.y 27 (.e 2 (.e 5 (.y 6 (.e 10 (.y 11 (.e 15 (.y 16 (.e 21 (.y 22 (.y 25 (.y 28 (.y 29 .nil)))))))))))))))))))))))))))))) Tryz.wide xF xD ?_
 refine J.j O (qAA O O qEy O qDs O) O O<|J.j O (qAD 0 O O O qEv O) O O<|J.j O (qAA O O qEy O qDs O) O O<|J.j O (qAD 0 O O O qEv O) O O<|J.j O (qAA O O qEy O z3_ O) O O<|J.j O (qAD 0 O O O b3_ O) O O<|J.j O (qAw O O u3_ qEV xB) O O<|J.j O (qAA O O qEy O z3_ O) O O<|J.j O (qAD 0 O O O b3_ O) O O<|J.j O (qAw O O u3_ qEV xB) O O<|J.j O (qAA O O qEy O z9_ O) O O<|J.j O (qAD 0 O O O b9_ O) O O<|J.j O (qAu u9_ O O) O O<|J.j O (qAw O O u3_ qEV xB) O O<|J.j O (qAA O O qEy O z9_ O) O O<|J.j O (qAD 0 O O O b9_ O) O O<|J.j O (qAA O O qEy O z9_ O) O O<|J.j O (qAD 0 O O O b9_ O) O O<|J.a1 O (qAZ O O (λF' hF=>qCw F' p.turn 4 xC xC h1)) O xD λg6 _=>J.a1 O (qAZ O O (λF' hF=>qCw F' p.num 2 xC xC h2)) O xD λg9 _=>J.j O ((qBe O O O (by first|(have hb4:=p.b4_len;have hbl:=p.body_len;simp only [jA,jL,Prt.b4,Prt.b3,Prt.b2,Prt.b1,Prt.b5,Prt.body,Sha.numB_length] at hb4 hbl⊢;omega)|omega)).as (v':=Str (p.b1)) O) O O<|J.a1 O (qAZ O O (λF' hF=>qCw F' (UInt64.ofNat p.at_) 1 xC xC (n1ok h3))) O xD λg14 _=>J.j O ((qBe O O O (by first|(have hb4:=p.b4_len;have hbl:=p.body_len;simp only [jA,jL,Prt.b4,Prt.b3,Prt.b2,Prt.b1,Prt.b5,Prt.body,Sha.numB_length] at hb4 hbl⊢;omega)|omega)).as (v':=Str (p.b2)) O) O O<|J.a1 O (qAZ O O (λF' hF=>qCw F' (UInt64.ofNat p.all) 1 xC xC (n1ok h4))) O xD λg19 _=>J.j O ((qBe O O O (by first|(have hb4:=p.b4_len;have hbl:=p.body_len;simp only [jA,jL,Prt.b4,Prt.b3,Prt.b2,Prt.b1,Prt.b5,Prt.body,Sha.numB_length] at hb4 hbl⊢;omega)|omega)).as (v':=Str (p.b3)) O) O O<|J.a1 O (qAZ O O (λF' hF=>qCw F' (UInt64.ofNat p.con.length) 1 xC xC (n1ok xB))) O xD λg25 _=>J.j O ((qBe O O O (by first|(have hb4:=p.b4_len;have hbl:=p.body_len;simp only [jA,jL,Prt.b4,Prt.b3,Prt.b2,Prt.b1,Prt.b5,Prt.body,Sha.numB_length] at hb4 hbl⊢;omega)|omega)).as (v':=Str (p.b4)) O) O O ?_
 refine J.j O ((qBe O O O (by first|(have hb4:=p.b4_len;have hbl:=p.body_len;simp only [jA,jL,Prt.b4,Prt.b3,Prt.b2,Prt.b1,Prt.b5,Prt.body,Sha.numB_length] at hb4 hbl⊢;omega)|omega)).as (v':=Str (p.b5)) O) O O<|J.j O ((qBe O O O (by first|(have hb4:=p.b4_len;have hbl:=p.body_len;simp only [jA,jL,Prt.b4,Prt.b3,Prt.b2,Prt.b1,Prt.b5,Prt.body,Sha.numB_length] at hb4 hbl⊢;omega)|omega)).as (v':=Str (p.body)) O) O O<|J.b7 ?_
 refine J.b0<|J.u (J.D j2 ?_)
 exact J.f λ_ j3=>J.p 2 O<|J.g (qAu u9_ O O) O<|J.g ((qA4 O O O xB).nat (56-p.body.length) xB) O<|J.q (qAZ O O (λF' hF=>qFZ F' (56-p.body.length) xB)) O λg37 _=>J.g ((qBe O O O (by rw [jL];omega)).as (v':=Str p.pad) O) O<|J.b O<|J.c j3<|J.f λ_ j4=>J.p 2 O<|J.q (qAZ O O (λF' hF=>qSX F' (hK.mono (Fa hF)) p.pad xB)) O λg41 _=>J.g ((qBe O O O (by rw [qN8];omega)).as (v':=Str p.text) O) O<|J.b O<|J.c j4<|J.A<|J.E hw0 O () O trivial [0] O xC
def R0(s:xA):RS:=⟨s.take 56,0⟩
def R1(s:xA):RS:=(R0 s).take 4
def R2(s:xA):RS:=(R1 s).take 2
def R3(s:xA):RS:=(R2 s).take 1
def R4(s:xA):RS:=(R3 s).take 1
def R5(s:xA):RS:=(R4 s).take 1
def R6(s:xA):RS:=(R5 s).take 8
def qYl(s:xA):Nat:=min (qFe ((R4 s).out 1)) 39
def rdp(s:xA):Prt:=⟨UInt64.ofNat (qFe ((R0 s).out 4)),UInt64.ofNat (qFe ((R1 s).out 2)),qFe ((R2 s).out 1),qFe ((R3 s).out 1),(R5 s).out 8,(R6 s).out (qYl s)⟩
def qKt:Prt:=⟨0,0,0,0,[],[]⟩
theorem qCi(st:RS)(n k:Nat)(h:256^n≤k):qFe (st.out n)<k:=
 zc (qMR _) (jg (jn xC (st.out_len n)) h)
theorem qY9(s:xA):(rdp s).ok:=by
  have h4:=qCi (R0 s) 4 4294967296 xC
  have h2:=qCi (R1 s) 2 65536 xC
  refine⟨?_,?_,qCi _ 1 256 xC,qCi _ 1 256 xC,RS.out_len _ _,jg (RS.out_len _ _) (Nat.min_le_right _ _)⟩
  · show(UInt64.ofNat (qFe ((R0 s).out 4))).toNat<_
    rw [qBE xB];exact h4
  · show(UInt64.ofNat (qFe ((R1 s).out 2))).toNat<_
    rw [qBE xB];exact h2
def qC9(s:xA):Prt×Bool:=if qWC (s.take 56)=s.drop 56 then(rdp s,decide ((rdp s).text=s)) else(qKt,false)
theorem qNS(F:Hp)(hK:qAG F ⟨3,0,none⟩ (Sha.K.map W32))(s:xA)(hs:s.length=64):Cz prog 255 [Str s] F (.tuple #[.agg (qC9 s).1.cells.toArray,.bool (qC9 s).2]):=by
 have hn4:=qCi (R4 s) 1 256 xC
 refine Ct.walk func255 O ntmps255 O (λw0 hw0=>?_)
 change J _ [(0,_)] _ _ _
 refine J.f λ_ j1=>J.q (qAJ O qMi O) O λg2 _=>?_
 change J _ _ _ [F,blk g2 _ 371] _
 refine J.b O<|J.c j1<|J.k λ_ j2=>J.k λ_ j3=>J.b1 [F] [] (.y 0 (.y 1 (.y 3 (.y 4 (.e 2 (.y 5 .nil)))))) Tryz.wide xF xD ?_
 refine J.L ?_
 refine J.j O ((qA9 (l:=0) (h:=56) u9_ O O O O ⟨xB,xB⟩).as (v':=Str (s.take 56)) (congrArg Str ze)) O O<|J.L ?_
 refine J.j O ((qA9 (l:=56) (h:=s.length) u9_ O O O O ⟨xB,xB⟩).as (v':=Str (s.drop 56)) (by rw [jm])) O O<|J.a1 O (qAZ O O (λF' hF=>qSX F' (hK.mono (Fa hF)) (s.take 56) (by rw [jF];omega))) O xD λg9 _=>J.j O (qDH O O O) O O<|J.b0<|J.u (J.D j3 ?_)
 refine J.Z O (λh12=>?_) (λh12=>?_)
 ·
  refine J.f λ_ j4=>J.g (qAL (l:= []) (vs:= []) (places:= [(0,1),(1,1),(2,1),(3,1),(4,1),(5,1)]) (r:= [W64 0,W64 0,I 0,I 0,Str [],Str []]) O O O qEy qMi (λ_=>xI) O) O<|J.a7 (qAC (l:=qKt.cells) (i:=1) (vs:=qKt.cells) O O O O O qGc O O) O O λ_ _=>?_
  change J _ _ _ [_,blk g2 qKt.cells 371] _
  exact J.b O<|J.c j4<|J.A<|J.V<|J.a9 hw0 (λ_ _ h=>h) (rv2 O (RV.blkA 1 O O isAgg371 qGc) O) (qAg () (by unfold qC9;rw [if_neg (show¬qWC (s.take 56)=s.drop 56 from h12)]) trivial [0] O xC)
 refine J.M j2<|J.f λ_ j5=>J.b O<|J.g ((qA9 (l:=0) (h:=56) u9_ O O O O ⟨xB,xB⟩).as (v':=Str (s.take 56)) (congrArg Str ze)) O<|J.q (qAK O O ent (Ct.use (new:=λg=> [RSb g (R0 s)]) (λF' _=>(qW4 F' (s.take 56)).mono (φ2:=λ_=>True) (val2:=Ptr) (ms2:=λg=>F':: [RSb g (R0 s)]) id (λ_ _=>rfl) (λ_ h=>h) (λx w0 w _ h=>h.pick [1,0] xC)))) O ?_
 rintro g16 _
 change J _ _ _ [F,blk g2 _ 371,RSb g16 (R0 s)] _
 refine J.b O<|J.c j5<|J.f λ_ j6=>J.b O<|J.q (qAK O O ent (Ct.use1 2 (m':=λ_:Unit=>RSb g16 (R1 s)) (new:=λ_=> []) O (λF' _=>qGx F' g16 (R0 s) 4 xB xB))) O λg18 _=>?_
 change J _ _ _ [_,_,RSb g16 (R1 s)] _
 rw [N_W (show qFe ((R0 s).out 4)<18446744073709551616 from zc (qCi _ 4 (256^4) (jJ _)) xC)]
 refine J.b O<|J.q (qAK O O ent (Ct.use1 2 (m':=λ_:Unit=>RSb g16 (R2 s)) (new:=λ_=> []) O (λF' _=>qGx F' g16 (R1 s) 2 xB xB))) O λg20 _=>?_
 change J _ _ _ [_,_,RSb g16 (R2 s)] _
 rw [N_W (show qFe ((R1 s).out 2)<18446744073709551616 from zc (qCi _ 2 (256^2) (jJ _)) xC)]
 refine J.b O<|J.q (qAK O O ent (Ct.use1 2 (m':=λ_:Unit=>RSb g16 (R3 s)) (new:=λ_=> []) O (λF' _=>qGx F' g16 (R2 s) 1 xB xB))) O λg22 _=>?_
 change J _ _ _ [_,_,RSb g16 (R3 s)] _
 refine J.g (qDJ O O qEV u3_ (by have:=qCi (R2 s) 1 256 xC;omega)) O<|J.b O<|J.q (qAK O O ent (Ct.use1 2 (m':=λ_:Unit=>RSb g16 (R4 s)) (new:=λ_=> []) O (λF' _=>qGx F' g16 (R3 s) 1 xB xB))) O λg25 _=>?_
 change J _ _ _ [_,_,RSb g16 (R4 s)] _
 refine J.g (qDJ O O qEV u3_ (by have:=qCi (R3 s) 1 256 xC;omega)) O<|J.g (qAL (l:= [(0,.tmp 18),(1,.tmp 20),(2,.tmp 23),(3,.tmp 26)]) (vs:= [W64 (rdp s).turn,W64 (rdp s).num,I (rdp s).at_,I (rdp s).all]) (places:= [(0,1),(1,1),(2,1),(3,1),(4,1),(5,1)]) (r:= [W64 (rdp s).turn,W64 (rdp s).num,I (rdp s).at_,I (rdp s).all,Str [],Str []]) O O O qEy qMi (λ_=>xI) O) O<|J.q (qAJ O qMi O) O λg5 _=>?_
 change J _ _ _ [_,_,_,blk g5 _ 371] _
 refine J.a7 (qAC (l:=qKt.cells) (i:=3) (vs:= [W64 (rdp s).turn,W64 (rdp s).num,I (rdp s).at_,I (rdp s).all,Str [],Str []]) O O O O O qGc O O) O O λ_ _=>?_
 change J _ _ _ [_,_,_,blk g5 [W64 (rdp s).turn,W64 (rdp s).num,I (rdp s).at_,I (rdp s).all,Str [],Str []] 371] _
 refine J.c j6<|J.f λ_ j7=>J.b O<|J.q (qAK O O ent (Ct.use1 2 (m':=λ_:Unit=>RSb g16 (R5 s)) (new:=λ_=> []) O (λF' _=>qGx F' g16 (R4 s) 1 xB xB))) O λg29 _=>?_
 change J _ _ _ [_,_,RSb g16 (R5 s),_] _
 refine J.g (qDJ O O qEV u3_ xB) O<|J.b O<|J.c j7<|J.f λ_ j8=>J.b O<|J.q (qAK O O ent (Ct.use1 2 (m':=λ_:Unit=>RSb g16 (R6 s)) (new:=λ_=> []) O (λF' _=>qKU F' g16 (R5 s) 8))) O λg32 _=>?_
 change J _ _ _ [_,_,RSb g16 (R6 s),_] _
 refine J.W 4 qEy z9_ O O O O O<|J.a7 (qAW (i:=3) (vs:= [Str (rdp s).name]) O O O O O z9_ O xD) O O λ_ _=>?_
 change J _ _ _ [_,_,_,blk g5 [W64 (rdp s).turn,W64 (rdp s).num,I (rdp s).at_,I (rdp s).all,Str (rdp s).name,Str []] 371] _
 refine J.c j8<|J.f λ_ j9=>J.p 2 O<|J.g ((qF4 O O O).as (v':=I (qYl s:Nat)) (congrArg I (by unfold qYl;omega))) O<|J.q (qAK O O ent (Ct.use1 2 (m':=λ_:Unit=>RSb g16 ((R6 s).take (qYl s))) (new:=λ_=> []) O (λF' _=>qKU F' g16 (R6 s) (qYl s)))) O λg37 _=>?_
 change J _ _ _ [_,_,RSb g16 ((R6 s).take (qYl s)),_] _
 refine J.W 5 qEy z9_ O O O O O<|J.a7 (qAW (i:=3) (vs:= [Str (rdp s).con]) O O O O O z9_ O xD) O O λ_ _=>?_
 change J _ _ _ [_,_,_,blk g5 (rdp s).cells 371] _
 refine J.c j9<|J.k λ_ j10=>J.b1 [F,blk g5 (rdp s).cells 371] [5,6,100003,100004] (.y 0 (.y 1 (.y 3 (.e 2 (.y 4 (.e 5 (.e 6 .nil))))))) Tryz.wide xF xD ?_
 refine J.j O (qAU 1 O O O isAgg371 qGc O) O O<|J.j O (qAU 1 O O O isAgg371 qGc O) O O<|J.d1 O (qA2 O O) O O O ?_
 refine J.a1 O (qAZ O O (λF' hF=>qNM F' (hK.mono (Fa hF)) (rdp s) (qY9 s))) O xD λg41 _=>J.d1 O (qBY O O O) O O O ?_
 refine J.c1 O (qAC (l:=qKt.cells) (i:=1) (vs:=(rdp s).cells) O O O O O qGc O O) O O O λ_ _=>?_
 change J _ _ _ [_,blk g2 (rdp s).cells 371,_,_] _
 refine J.d4 O (YOp.eop (qBF O O)) O O O O ?_
 intro _ _
 refine J.b0<|J.u (J.D j10 ?_)
 exact J.A<|J.a9 hw0 (λ_ _ h=>h) (rv2 O (RV.blkA 1 O O isAgg371 qGc) O) (qAg () (by unfold qC9;rw [if_pos (show qWC (s.take 56)=s.drop 56 from Decidable.not_not.1 h12)]) trivial [0] O xC)
theorem qPb:(qC9 (List.replicate 64 0)).2=false∨(qC9 (List.replicate 64 0)).1.turn=0:=by
  unfold qC9
  split
  · right
    show UInt64.ofNat (qFe ((R0 (List.replicate 64 0)).out 4))=0
    decide
  · exact .inl O
theorem qL9(F:Hp)(hK:qAG F ⟨3,0,none⟩ (Sha.K.map W32))(gh:Option Addr)(A:Option Addr)(n c:Nat)(ls:List xA)(hl:Sl F 1 A n c (qAH ls))(hn:0<n)(s:xA)(hs:ls[0]?=some s)(h64:s.length=64)(hok:(qC9 s).2=true)(ht:(qC9 s).1.turn=0):
    Cz prog 199 [.pointer gh,.slice A n c] F (.tuple #[.int .u64 0,Str [],I 0,.bool false]):=by
  refine Ct.walk func199 O ntmps199 O (λw0 hw0=>?_)
  refine J.f λ_ j1=>J.p 4 O<|J.c j1<|J.f λ_ j2=>J.b O<|J.g (qAF (i:=0) O O O qAn z9_ hl hn) O<|J.g (qAI O O b9_ (m:=F) xD (hl.elem (qAc hs))) O<|J.q (qAZ O O (λF' hF=>qNS F' (hK.mono (Fa hF)) s h64)) O λg18 _=>J.p 2 O<|J.g ((qAT (v:= .bool (qC9 s).2) O O O).as (v':= .bool true) (by rw [hok])) O<|J.q (qAJ O qMi O) O λg8 _=>J.a7 (qAC (l:=qKt.cells) (i:=1) (vs:=(qC9 s).1.cells) O O O O O qGc O O) O O λ_ _=>J.b O<|J.c j2<|J.k λ_ j3=>J.k λ_ j4=>J.b1 [blk g8 (qC9 s).1.cells 371] [] (.y 0 (.y 1 (.y 2 (.y 3 (.y 4 (.y 5 (.y 6 (.y 7 (.y 8 (.y 9 (.y 10 (.y 11 (.y 12 (.y 13 (.y 14 (.y 15 (.y 16 (.y 17 (.y 18 (.y 19 (.y 20 (.y 21 (.y 22 (.y 23 (.y 24 (.y 25 (.y 26 (.y 27 (.y 28 (.y 29 (.y 30 (.y 31 (.y 32 (.y 33 (.y 34 (.y 35 (.y 36 (.y 37 (.y 38 (.y 39 (.y 40 (.y 41 (.y 42 (.y 43 (.y 44 (.y 45 (.y 46 .nil))))))))))))))))))))))))))))))))))))))))))))))) Tryz.wide xF xD ?_
  refine J.L ?_
  refine J.j O ((qAs O O).as (v':= .bool false) O) O O<|J.L ?_
  refine J.b8 O (qAA O O qEy O z3_ O) O O<|J.b8 O (qAD 0 O O O b3_ O) O O<|J.b8 O (qAV O O O) O O<|J.e5 ?_
  refine J.L ?_
  refine J.b9 (d:=28) O (λh28=>?_) (λh28=>?_)
  ·
    iterate 3 refine J.b6 ?_
    refine J.d2 ?_
    refine J.L ?_
    iterate 9 refine J.b6 ?_
    refine J.d2 ?_
    refine J.L ?_
    iterate 5 refine J.b6 ?_
    refine J.d2 ?_
    refine J.L ?_
    iterate 7 refine J.b6 ?_
    refine J.c4 O (Wan.un O O O O) O O ?_
    refine J.c4 O (Wan.un O O O O) O O ?_
    refine J.c4 O (Wan.un O O O O) O O ?_
    refine J.c4 O (Wan.un O O O O) O O ?_
    refine J.c4 O (Wan.un O O O O) O O ?_
    refine J.c4 O (Wan.un O O O O) O O ?_
    refine J.c4 O (Wan.un O O O O) O O ?_
    refine J.b6 ?_
    refine J.d2 ?_
    refine J.b0<|J.u (J.D j4 ?_)
    refine J.c3 ?_
    exact J.f λ_ j5=>J.p 4 O<|J.c j5<|J.A<|J.V<|J.a9 hw0 (λ_ _ h=>h) (qTx O O O O O) (qAg () O trivial [0] O xC)
  refine J.b8 O (qAA O O qEy O qDs O) O O<|J.b8 O (qAD 0 O O O qEv O) O O<|J.b8 O ((qAe O O O).as (v':= .bool true) (by rw [ht];rfl)) O O<|J.e5 ?_
  refine J.L ?_
  iterate 9 refine J.b6 ?_
  refine J.d2 ?_
  refine J.L ?_
  iterate 5 refine J.b6 ?_
  refine J.d2 ?_
  refine J.L ?_
  iterate 7 refine J.b6 ?_
  refine J.c4 O (Wan.un O O O O) O O ?_
  refine J.c4 O (Wan.un O O O O) O O ?_
  refine J.c4 O (Wan.un O O O O) O O ?_
  refine J.c4 O (Wan.un O O O O) O O ?_
  refine J.c4 O (Wan.un O O O O) O O ?_
  refine J.c4 O (Wan.un O O O O) O O ?_
  refine J.c4 O (Wan.un O O O O) O O ?_
  refine J.b6 ?_
  refine J.d2 ?_
  refine J.b0<|J.u (J.D j4 ?_)
  refine J.c3 ?_
  exact J.f λ_ j6=>J.p 4 O<|J.c j6<|J.A<|J.V<|J.a9 hw0 (λ_ _ h=>h) (qTx O O O O O) (qAg () O trivial [0] O xC)
theorem qMA(F:Hp)(hK:qAG F ⟨3,0,none⟩ (Sha.K.map W32))(gh:Option Addr)(A:Option Addr)(n c:Nat)(ls:List xA)(hl:Sl F 1 A n c (qAH ls))(hn:0<n)(s:xA)(hs:ls[0]?=some s)(h64:s.length=64)(hok:(qC9 s).2=false):
    Cz prog 199 [.pointer gh,.slice A n c] F (.tuple #[.int .u64 0,Str [],I 0,.bool false]):=by
  refine Ct.walk func199 O ntmps199 O (λw0 hw0=>?_)
  refine J.f λ_ j1=>J.p 4 O<|J.c j1<|J.f λ_ j2=>J.b O<|J.g (qAF (i:=0) O O O qAn z9_ hl hn) O<|J.g (qAI O O b9_ (m:=F) xD (hl.elem (qAc hs))) O<|J.q (qAZ O O (λF' hF=>qNS F' (hK.mono (Fa hF)) s h64)) O λg18 _=>J.p 2 O<|J.g ((qAT (v:= .bool (qC9 s).2) O O O).as (v':= .bool false) (by rw [hok])) O<|J.q (qAJ O qMi O) O λg8 _=>J.a7 (qAC (l:=qKt.cells) (i:=1) (vs:=(qC9 s).1.cells) O O O O O qGc O O) O O λ_ _=>J.b O<|J.c j2<|J.k λ_ j3=>J.k λ_ j4=>J.b1 [blk g8 (qC9 s).1.cells 371] [] (.y 0 (.y 1 (.y 2 (.y 3 (.y 4 (.y 5 (.y 6 (.y 7 (.y 8 (.y 9 (.y 10 (.y 11 (.y 12 (.y 13 (.y 14 (.y 15 (.y 16 (.y 17 (.y 18 (.y 19 (.y 20 (.y 21 (.y 22 (.y 23 (.y 24 (.y 25 (.y 26 (.y 27 (.y 28 (.y 29 (.y 30 (.y 31 (.y 32 (.y 33 (.y 34 (.y 35 (.y 36 (.y 37 (.y 38 (.y 39 (.y 40 (.y 41 (.y 42 (.y 43 (.y 44 (.y 45 (.y 46 .nil))))))))))))))))))))))))))))))))))))))))))))))) Tryz.wide xF xD ?_
  refine J.L ?_
  refine J.j O ((qAs O O).as (v':= .bool true) O) O O<|J.L ?_
  iterate 3 refine J.b6 ?_
  refine J.d2 ?_
  refine J.L ?_
  iterate 3 refine J.b6 ?_
  refine J.d2 ?_
  refine J.L ?_
  iterate 9 refine J.b6 ?_
  refine J.d2 ?_
  refine J.L ?_
  iterate 5 refine J.b6 ?_
  refine J.d2 ?_
  refine J.L ?_
  iterate 7 refine J.b6 ?_
  refine J.c4 O (Wan.un O O O O) O O ?_
  refine J.c4 O (Wan.un O O O O) O O ?_
  refine J.c4 O (Wan.un O O O O) O O ?_
  refine J.c4 O (Wan.un O O O O) O O ?_
  refine J.c4 O (Wan.un O O O O) O O ?_
  refine J.c4 O (Wan.un O O O O) O O ?_
  refine J.c4 O (Wan.un O O O O) O O ?_
  refine J.b6 ?_
  refine J.d2 ?_
  refine J.b0<|J.u (J.D j4 ?_)
  refine J.c3 ?_
  exact J.f λ_ j5=>J.p 4 O<|J.c j5<|J.A<|J.V<|J.a9 hw0 (λ_ _ h=>h) (qTx O O O O O) (qAg () O trivial [0] O xC)
theorem qOj(F:Hp)(hK:qAG F ⟨3,0,none⟩ (Sha.K.map W32))(gh:Option Addr)(A:Option Addr)(n c:Nat)(ls:List xA)(hl:Sl F 1 A n c (qAH ls))(hn:0<n)(s:xA)(hs:ls[0]?=some s)(h64:s.length=64)(hz:(qC9 s).2=false∨(qC9 s).1.turn=0):
    Cz prog 199 [.pointer gh,.slice A n c] F (.tuple #[.int .u64 0,Str [],I 0,.bool false]):=by
  cases h:(qC9 s).2 with
  |false=>exact qMA F hK gh A n c ls hl hn s hs h64 h
  |true=>exact qL9 F hK gh A n c ls hl hn s hs h64 h (hz.resolve_left (by rw [h];decide))
def zS:xA:=List.replicate 64 0
theorem qYm:zS.length=64:=jL
theorem qWH:(qC9 zS).2=false∨(qC9 zS).1.turn=0:=qPb
theorem qOV(n:Nat)(z:xA):qAH (List.replicate n z)++qAH [z]=qAH (List.replicate (n+1) z):=by
 rw [List.replicate_succ',←qIA]
theorem qSZ(F:Hp)(hK:qAG F ⟨3,0,none⟩ (Sha.K.map W32))(gb gd:Nat)(first:Int)(size:Nat)(hat:Int)(hturn:UInt64)(hend:Int)(Ar:Option Addr)(nr cr:Nat)(bad:Bool)(hB:qAG F ⟨gb,0,none⟩ [Ptr gd,I first,I (size:Nat),I hat,W64 hturn,I hend,.slice Ar nr cr,.bool bad])(d:Dk)(A:Option Addr)(c:Nat)(B:Option Addr)(e:Nat)(C:Option Addr)(f:Nat)(hc:qAG F ⟨gd,0,none⟩ (d.cells A c B e C f))(hL:Sl F 1 A d.last.length c (qAH d.last))(hW:Sl F 2 B d.wait.length e (qDk d.wait))(hn1:d.last.length≤1073741824)(hn2:d.wait.length≤1073741824)
    (at_:Nat) (hs0:0<size) (hs:at_+size≤1048576) (hz: ∀i:Nat,i<size→d.ready ((at_+i:Nat):Int)=0∧d.read ((at_+i:Nat):Int)=zS):
    Cz prog 121 [Ptr gb,I (at_:Nat)] F (.tuple #[.agg #[I at_,W64 0,I 0,.slice none 0 0],I 0]):=by
  refine Ct.walk func121 O ntmps121 O (λw0 hw0=>?_)
  refine J.f λ_ j1=>J.q (qAJ O zeroValue242 O) O λg4 _=>J.b O<|J.c j1<|J.f λ_ j2=>J.b O<|J.g (qAL (places:= [(0,1),(1,1),(2,1),(3,1)]) (r:= [I at_,W64 0,I 0,.slice none 0 0]) O O O qEf zeroValue242 (λ_=>xI) O) O<|J.q (qAJ O zeroValue242 O) O λg6 _=>J.a7 (qAC (l:= [I 0,W64 0,I 0,.slice none 0 0]) (i:=2) (vs:= [I at_,W64 0,I 0,.slice none 0 0]) O O O O O qDt O O) O O λ_ _=>J.c j2<|J.f λ_ j3=>J.b O<|J.c j3<|J.k λ_ j4=>J.k λ_ j5=>J.c6 [0,1,2,3] [F,blk g4 _ 242,blk g6 [I at_,W64 0,I 0,.slice none 0 0] 242,(λ_=>none)] O xC<|J.H<|J.b O<|J.g (qAB O O) O<|J.W 2 qFV z3_ O O O O O<|J.g (qAI O O b3_ (m:=F) xD (hB.at (i:=2) O)) O<|J.b O<|J.c j5<|J.T<|J.b5 (X:=Nat×Hp×Option Addr×Nat) (λx=> [(0,Ptr gb),(1,I (at_:Nat)),(4,Ptr g4),(6,Ptr g6),(7,.slice x.2.2.1 x.1 x.2.2.2),(20,I (size:Nat)),(21,I x.1)]) (λx=> [F,blk g4 [I 0,W64 0,I 0,.slice none 0 0] 242,blk g6 [I at_,W64 0,I 0,.slice none 0 0] 242,x.2.1]) (λx=>x.1≤size∧Row x.2.1 9 1 x.2.2.1 x.1 x.2.2.2 (qAH (List.replicate x.1 zS))) (λx=>size-x.1) (0,(λ_=>none),none,0) (⟨jE _,qBZ.nil⟩) ⟨O,O,O,O,O,O,O,trivial⟩ (λ_ h=>h) ?_
  rintro⟨k,m,A7,c7⟩ ⟨hk,hr⟩ I0 hI0
  dsimp only at hk hr⊢
  refine J.f λ_ j6=>J.g (qAS O O O) O<|J.c j6<|J.k λ_ j7=>J.Z O (λh22=>?_) (λh22=>?_)
  ·
    refine J.M j7<|J.k λ_ j8=>J.T<|J.f λ_ j9=>J.p 2 O<|J.c j9<|J.f λ_ j10=>J.b O<|J.g (qAB O O) O<|J.W 0 qFV sizeOf24 O O O O O<|J.g (qAI O O isAgg24 (m:=F) xD (hB.at (i:=0) O)) O<|J.p 2 O<|J.g ((qAR O O O xB).nat (at_+k) xB) O<|J.q (qAZ O O (λF' hF=>qTZ F' gd d A c B e C f (hc.mono (Fa hF)) (hL.mono (Fa hF)) (hW.mono (Fa hF)) ((at_+k:Nat):Int) hn1 hn2)) O λg32 _=>J.b O<|J.g ((qAT (v:=Str (d.read ((at_+k:Nat):Int))) O O O).as (v':=Str zS) (by rw [(hz k xB).2])) O<|J.g ((qAT (v:=I (d.ready ((at_+k:Nat):Int))) O O O).as (v':=I 0) (by rw [(hz k xB).1])) O<|J.p 2 O<|J.c j10<|J.k λ_ j11=>J.f λ_ j12=>J.b O<|J.g ((qAV O O O).no xC) O<|J.c j12<|J.a3 ?_
    refine J.M j11<|J.H<|J.p 2 O<|J.q (qAE (l:= [.tmp 40]) (xs:= [[Str zS]]) O O O O qAn el9 O xC xC xD) O λg41 _=>J.q (qAX (i:=3) (m2:=blk g41 [Str zS] 9) O O O qAn qAn el9 O hr xD ((qAm (q:=True) (xs:=qAH [zS]) O (by simp [qAH])).sl) (by simp [qAH,Value.oneCell']) xB xB) O ?_
    rintro⟨A8,c8,m8⟩ h8
    try dsimp only at h8
    rw [qOV] at h8
    refine J.b O<|J.a4<|J.a2<|J.u (J.D j8 ?_)
    exact J.H<|J.g ((qAR O O O xB).nat (k+1) xB) O<|J.b O<|J.a4<|J.u<|J.a8 (k+1,m8,A8,c8) (λy (hy:_∧size-y.1<size-k)=>hI0 y hy.1 hy.2) ⟨⟨by dsimp only;omega,h8⟩,by dsimp only;omega⟩ ⟨O,O,O,O,O,O,O,trivial⟩ (λ_ h=>h.pick [0,1,2,3] xC)
  refine J.b3<|J.a0<|J.a0<|J.b4 ?_
  refine J.u (J.D j4 ?_)
  refine J.k λ_ j13=>J.T<|J.b5 (X:=Unit) (λ_=> [(4,Ptr g4),(6,Ptr g6),(7,.slice A7 k c7)]) (λ_=> [F,blk g4 [I 0,W64 0,I 0,.slice none 0 0] 242,blk g6 [I at_,W64 0,I 0,.slice none 0 0] 242,m]) (λ_=>True) (λ_=>0) () (trivial) ⟨O,O,O,trivial⟩ (λ_ h=>h) ?_
  rintro _ _ I2 hI2
  refine J.k λ_ j14=>J.f λ_ j15=>J.b O<|J.g (qAO qAn O O) O<|J.g ((qA5 O O O).yes xB) O<|J.c j15<|J.c3 ?_
  refine J.M j14<|J.T<|J.f λ_ j16=>J.b O<|J.q (qAZ O O (λF' hF=>qOj F' (hK.mo hF) (some ⟨g6,0,none⟩) A7 k c7 (List.replicate k zS) (hr.sl.mono (Fa hF)) xB zS (by rw [List.getElem?_replicate,if_pos xB]) qYm qWH)) O ?_
  intro g49 _
  refine J.p 9 O<|J.c j16<|J.k λ_ j17=>J.f λ_ j18=>J.b O<|J.g ((qAs O O).as (v':= .bool true) O) O<|J.c j18<|J.c3 ?_
  refine J.b3<|J.a0<|J.h1 O ?_
  refine J.a0<|J.b4 ?_
  refine J.u (J.D j13 ?_)
  exact J.f λ_ j19=>J.c0 2 isAgg242 qDt O O O O O<|J.a7 (qAC (l:= [I 0,W64 0,I 0,.slice none 0 0]) (i:=1) (vs:= [I at_,W64 0,I 0,.slice none 0 0]) O O O O O qDt O O) O O λ_ _=>J.b O<|J.c j19<|J.A<|J.a9 hw0 (λ_ _ h=>h) (rv2 O (RV.blkA 1 O O isAgg242 qDt) O) (qAg () O trivial [0] O xC)
def hatk(first:Nat):Nat→Int
 |0=>0
 |_+1=>first
theorem qOs(F:Hp)(hK:qAG F ⟨3,0,none⟩ (Sha.K.map W32))(gd:Nat)(d:Dk)(A:Option Addr)(c:Nat)(B:Option Addr)(e:Nat)(C:Option Addr)(f:Nat)(hc:qAG F ⟨gd,0,none⟩ (d.cells A c B e C f))(hL:Sl F 1 A d.last.length c (qAH d.last))(hW:Sl F 2 B d.wait.length e (qDk d.wait))(hn1:d.last.length≤1024)(hn2:d.wait.length≤1073741824)(first count:Nat)(h8:8≤count)(hfc:first+count≤d.last.length)(hz: ∀i:Nat,i<d.last.length→d.ready (i:Int)=0∧d.read (i:Int)=zS):
    Ct prog 51 [Ptr gd,I (first:Nat),I (count:Nat)] [F] (λg:Nat=> .tuple #[Ptr g,I 0]) (λ_=>True) (λg41=> [F,blk g41 [Ptr gd,I (first:Nat),I ((count/2):Nat),I (first:Nat),W64 0,I 0,.slice none 0 0,.bool false] 244]):=by
  refine Ct.walk func51 O ntmps51 O (λw0 hw0=>?_)
  refine J.f λ_ j1=>J.p 2 O<|J.c j1<|J.k λ_ j2=>J.f λ_ j3=>J.b O<|J.g ((qA6 underlying24 O O O).as (v':= .bool false) O) O<|J.p 2 O<|J.G ((qAS O O O).no xB) O<|J.p 3 O<|J.G ((qAS O O O).no xB) O<|J.p 4 O<|J.d0 (qAZ O O (λF' hF=>qN4 F' gd d A c B e C f (hc.mono (Fa hF)))) O λg25 _=>J.G ((qA5 O O O).no xB) O<|J.p 4 O<|J.d0 (qAZ O O (λF' hF=>qN4 F' gd d A c B e C f (hc.mono (Fa hF)))) O λg31 _=>J.b O<|J.G (qA4 O O O xB) O<|J.G ((qA5 O O O).no xB) O<|J.b O<|J.c j3<|J.a3 ?_
  refine J.M j2<|J.f λ_ j4=>J.p 3 O<|J.g ((qIK O O O xB).as (v':=I (count/2:Nat)) (congrArg I (Int.ofNat_tdiv _ _).symm)) O<|J.g (qAL (places:= [(0,1),(1,1),(2,1),(3,4),(7,1)]) (r:= [Ptr gd,I (first:Nat),I ((count/2):Nat),I 0,W64 0,I 0,.slice none 0 0,.bool false]) O O O qFV zeroValue244 (λ_=>xI) O) O<|J.q (qAb O O O) O ?_
  rintro g41 _
  refine J.b O<|J.c j4<|J.k λ_ j5=>J.f λ_ j6=>J.b O<|J.c j6<|J.T<|J.b5 (X:=Nat) (λk=> [(1,I (first:Nat)),(8,Ptr g41),(42,I k)]) (λk=> [F,blk g41 [Ptr gd,I (first:Nat),I ((count/2):Nat),I (hatk first k),W64 0,I 0,.slice none 0 0,.bool false] 244]) (λk=>k≤2) (λk=>2-k) 0 (jE _) ⟨O,O,O,trivial⟩ (λ_ h=>h) ?_
  intro k hk I0 hI0
  refine J.f λ_ j7=>J.g (qAS O O O) O<|J.c j7<|J.k λ_ j8=>J.Z O (λh43=>?_) (λh43=>?_)
  ·
    refine J.M j8<|J.k λ_ j9=>J.T<|J.f λ_ j10=>J.p 2 O<|J.c j10<|J.k λ_ j11=>?_
    obtain ⟨km,hkm⟩: ∃km,km=k*(count/2):=⟨_,rfl⟩
    have hk2:k<2:=xB
    have hkm2:km+(count/2)≤count:=by
      have:k=0∨k=1:=xB
      rcases this with e|e<;>rw [hkm,e]<;>omega
    refine J.H<|J.p 4 O<|J.g (qAB O O) O<|J.W 2 qFV z3_ O O O O O<|J.a6 1 b3_ O O O O O<|J.g ((qDj O O O (by rw [←yK,←hkm];omega)).as (v':=I (km:Nat)) (congrArg I (by rw [hkm,yK]))) O<|J.g ((qAR O O O xB).nat (first+km) xB) O<|J.q (qAZ O O (λF' hF=>qSZ F' (hK.mo hF) g41 gd (first:Nat) (count/2) (hatk first k) 0 0 none 0 0 false (qAG.blk0.mono (hF (blk g41 [Ptr gd,I (first:Nat),I ((count/2):Nat),I (hatk first k),W64 0,I 0,.slice none 0 0,.bool false] 244) xD)) d A c B e C f (hc.mono (Fa hF)) (hL.mono (Fa hF)) (hW.mono (Fa hF)) xB hn2 (first+km) xB xB (λi hi=>hz (first+km+i) xB))) O λg55 _=>J.p 3 O<|J.q (qAJ O zeroValue242 O) O λg10 _=>J.a7 (qAC (l:= [I 0,W64 0,I 0,.slice none 0 0]) (i:=2) (vs:= [I (first+km:Nat),W64 0,I 0,.slice none 0 0]) O O O O O qDt O O) O O λ_ _=>J.b O<|J.c j11<|J.k λ_ j12=>J.f λ_ j13=>J.b O<|J.g ((qAV O O O).no xC) O<|J.c j13<|J.a3 ?_
    refine J.M j12<|J.k λ_ j14=>J.b1 [F,blk g41 [Ptr gd,I (first:Nat),I ((count/2):Nat),I (hatk first k),W64 0,I 0,.slice none 0 0,.bool false] 244,blk g10 [I (first+km:Nat),W64 0,I 0,.slice none 0 0] 242] [] (.y 0 (.y 1 (.y 2 (.y 3 (.y 4 (.y 5 (.y 6 (.y 7 (.y 8 (.y 9 (.y 10 (.y 11 (.y 12 (.y 13 (.y 14 (.y 15 (.y 16 (.y 17 (.y 18 (.y 19 (.y 20 (.y 21 (.y 22 (.y 23 (.y 24 (.y 25 (.y 26 .nil))))))))))))))))))))))))))) Tryz.wide xF xD ?_
    refine J.L ?_
    refine J.j O (qAe O O O) O O<|J.L ?_
    refine J.b9 (d:=63) O (λh63=>?_) (λh63=>?_)
    ·
      iterate 5 refine J.b6 ?_
      refine J.c4 O (Wan.un O O O O) O O ?_
      refine J.c4 O (Wan.un O O O O) O O ?_
      refine J.c4 O (Wan.un O O O O) O O ?_
      refine J.c4 O (Wan.un O O O O) O O ?_
      refine J.c4 O (Wan.un O O O O) O O ?_
      refine J.c4 O (Wan.un O O O O) O O ?_
      refine J.c4 O (Wan.un O O O O) O O ?_
      refine J.c4 O (Wan.un O O O O) O O ?_
      refine J.c4 O (Wan.un O O O O) O O ?_
      refine J.c4 O (Wan.un O O O O) O O ?_
      refine J.c4 O (Wan.un O O O O) O O ?_
      refine J.c4 O (Wan.un O O O O) O O ?_
      refine J.c4 O (Wan.un O O O O) O O ?_
      refine J.c4 O (Wan.un O O O O) O O ?_
      refine J.c4 O (Wan.un O O O O) O O ?_
      refine J.c4 O (Wan.un O O O O) O O ?_
      refine J.c4 O (Wan.un O O O O) O O ?_
      refine J.b6 ?_
      refine J.d2 ?_
      refine J.b0<|J.u (J.D j14 ?_)
      refine J.c3 ?_
      refine J.H<|J.b O<|J.c0 2 isAgg242 qDt O O O O O<|J.g (qAB O O) O<|J.W 3 qFV qDt O O O O O<|J.a7 (qAW (i:=1) O O O O O qDt O xD) O O λ_ _=>J.a4<|J.a2<|J.u (J.D j9 ?_)
      refine J.H<|J.g ((qAR O O O xB).nat (k+1) xB) O<|J.b O<|J.a4<|J.u ?_
      have hk0:k=0:=xB
      subst hk0
      have hk0m:km=0:=xB
      subst hk0m
      exact J.a8 1 (λy (hy:_∧2-y<2-0)=>hI0 y hy.1 hy.2) ⟨xB,xB⟩ ⟨O,O,O,trivial⟩ (λ_ h=>h.pick [0,1] xC)
    refine J.b8 O (qAA O O qEf O qB9 O) O O<|J.b8 O (qAD 2 O O O qCQ O) O O<|J.b8 O (qAO qAn O O) O O<|J.b8 O ((qA5 O O O).no xC) O O<|J.b8 O (qA2 O O) O O<|J.b6 ?_
    iterate 7 refine J.b6 ?_
    refine J.c4 O (Wan.un O O O O) O O ?_
    refine J.c4 O (Wan.un O O O O) O O ?_
    refine J.c4 O (Wan.un O O O O) O O ?_
    refine J.c4 O (Wan.un O O O O) O O ?_
    refine J.c4 O (Wan.un O O O O) O O ?_
    refine J.c4 O (Wan.un O O O O) O O ?_
    refine J.c4 O (Wan.un O O O O) O O ?_
    refine J.c4 O (Wan.un O O O O) O O ?_
    refine J.b6 ?_
    refine J.b8 O (qCf O O O) O O<|J.e5 ?_
    refine J.b0<|J.u (J.D j14 ?_)
    refine J.a3 ?_
    refine J.b2<|J.a2<|J.u (J.D j9 ?_)
    refine J.H<|J.g ((qAR O O O xB).nat (k+1) xB) O<|J.b O<|J.a4<|J.u ?_
    have hk1:k=1:=xB
    subst hk1
    exact J.a8 2 (λy (hy:_∧2-y<2-1)=>hI0 y hy.1 hy.2) ⟨xB,xB⟩ ⟨O,O,O,trivial⟩ (λ_ h=>h.pick [0,1] xC)
  refine J.b3<|J.a0<|J.a0<|J.b4 ?_
  refine J.u (J.D j5 ?_)
  refine J.k λ_ j15=>?_
  have hk2:k=2:=xB
  subst hk2
  exact J.H<|J.p 3 O<|J.c j15<|J.A<|J.a9 hw0 (λ_ _ h=>h) (qBw O O O) (qAg g41 O trivial [0,1] O xC)
theorem qZS(F:Hp)(gb gd:Nat)(first:Int)(size:Nat)(hat:Int)(hturn:UInt64)(hend:Int)(Ar:Option Addr)(nr cr:Nat)(bad:Bool)(hB:qAG F ⟨gb,0,none⟩ [Ptr gd,I first,I (size:Nat),I hat,W64 hturn,I hend,.slice Ar nr cr,.bool bad])(s:xA):
    Cz prog 209 [Ptr gb,Str s] F (I (if 900<s.length then 2 else if bad=true then 21 else 0)):=by
  refine Ct.walk func209 O ntmps209 O (λw0 hw0=>?_)
  refine J.f λ_ j1=>J.b O<|J.c j1<|J.k λ_ j2=>J.T<|J.f λ_ j3=>J.b O<|J.g ((qA6 underlying125 O O O).as (v':= .bool false) O) O<|J.b O<|J.c j3<|J.a3 ?_
  refine J.f λ_ j4=>J.b O<|J.g (qAu u9_ O O) O<|J.g (qA5 O O O) O<|J.b O<|J.c j4<|J.Z O (λh8=>?_) (λh8=>?_)
  ·
    exact J.f λ_ j5=>J.b O<|J.c j5<|J.A<|J.a5<|J.V<|J.E hw0 O () (congrArg I (by rw [if_pos xB])) trivial [0] O xC
  refine J.f λ_ j6=>J.b O<|J.g (qAB O O) O<|J.W 7 qFV z4_ O O O O O<|J.g ((qAI O O b4_ (m:=F) xD (hB.at (i:=7) O)).as (v':= .bool (decide (bad=true))) (by rw [Bool.decide_eq_true])) O<|J.b O<|J.c j6<|J.Z O (λh12=>?_) (λh12=>?_)
  ·
    exact J.f λ_ j7=>J.b O<|J.c j7<|J.A<|J.a5<|J.V<|J.E hw0 O () (congrArg I (by rw [if_neg xB,if_pos xG])) trivial [0] O xC
  refine J.b2<|J.a2<|J.u (J.D j2 ?_)
  exact J.f λ_ j8=>J.b O<|J.c j8<|J.A<|J.E hw0 O () (congrArg I (by rw [if_neg xB,if_neg xG])) trivial [0] O xC
theorem qRa(F:Hp)(gb gd:Nat)(first:Int)(size:Nat)(hat:Int)(hturn:UInt64)(hend:Int)(Ar:Option Addr)(nr cr:Nat)(bad:Bool)(hB:qAG F ⟨gb,0,none⟩ [Ptr gd,I first,I (size:Nat),I hat,W64 hturn,I hend,.slice Ar nr cr,.bool bad])(hs:size≤1048576)(he:0≤hend∧hend≤1048576):
    Cz prog 136 [Ptr gb] F (I ((size:Int)-hend)):=by
  refine Ct.walk func136 O ntmps136 O (λw0 hw0=>?_)
  refine J.f λ_ j1=>J.b O<|J.c j1<|J.k λ_ j2=>J.f λ_ j3=>J.b O<|J.g ((qA6 underlying125 O O O).as (v':= .bool false) O) O<|J.c j3<|J.a3 ?_
  refine J.M j2<|J.k λ_ j4=>J.b1 [F] [] (.y 0 (.y 1 (.y 2 (.y 3 (.y 4 (.y 5 (.y 6 (.y 7 (.y 8 (.y 9 (.y 10 .nil))))))))))) Tryz.wide xF xD ?_
  refine J.L ?_
  refine J.j O (qAB O O) O O<|J.j O (qAA O O qFV O z3_ O) O O<|J.j O (qAI O O b3_ (m:=F) xD (hB.at (i:=2) O)) O O<|J.L ?_
  refine J.j O (qAB O O) O O<|J.j O (qAA O O qFV O qDt O) O O<|J.j O (qAA O O qEf O z3_ O) O O<|J.j O (qAI O O b3_ (m:=F) xD (hB.at (i:=5) O)) O O<|J.j O (qA4 O O O xB) O O<|J.b7 ?_
  refine J.b0<|J.u (J.D j4 ?_)
  exact J.A<|J.E hw0 O () O trivial [0] O xC
theorem qOi(F:Hp)(gb gd:Nat)(first:Int)(size:Nat)(hat:Int)(hturn:UInt64)(hend:Int)(Ar:Option Addr)(nr cr:Nat)(bad:Bool)(hB:qAG F ⟨gb,0,none⟩ [Ptr gd,I first,I (size:Nat),I hat,W64 hturn,I hend,.slice Ar nr cr,.bool bad])(L:List xA)(hLn:L.length=nr)(hL:Sl F 1 Ar nr cr (qAH L))(hn:nr≤1073741824):
    Ct prog 53 [Ptr gb] [F] (λx:Option Addr×Nat×Hp=> .slice x.1 L.length x.2.1) (λx=>Row x.2.2 9 1 x.1 L.length x.2.1 (qAH L)) (λx=> [F,x.2.2]):=by
  subst hLn
  refine Ct.walk func53 O ntmps53 O (λw0 hw0=>?_)
  refine J.f λ_ j1=>J.b O<|J.c j1<|J.k λ_ j2=>J.f λ_ j3=>J.b O<|J.g ((qA6 underlying125 O O O).as (v':= .bool false) O) O<|J.c j3<|J.a3 ?_
  refine J.M j2<|J.f λ_ j4=>J.b O<|J.g (qAB O O) O<|J.W 3 qFV qDt O O O O O<|J.W 6 qEf qB9 O O O O O<|J.g (qAI O O qCQ (m:=F) xD (hB.at (i:=6) O)) O<|J.q (qBb O O (λF' hF=>qLP F' L Ar cr (hL.mono (Fa hF)) hn)) O ?_
  rintro⟨A10,c10,m10⟩ h10
  try dsimp only at h10
  exact J.b O<|J.c j4<|J.A<|J.E hw0 O (A10,c10,m10) O h10 [0,1] O xC
theorem qLe(s:xA)(n:Nat):(s.take (min s.length n)).drop 0=s.take n:=by
 rw [ze]
 by_cases h:s.length≤n
 · rw [jp h,jV (jJ _),jV h]
 · rw [Nat.min_eq_right xB]
theorem qU8(s:xA)(n:Nat):s.drop (min s.length n)=s.drop n:=by
 by_cases h:s.length≤n
 · rw [jp h,js (jJ _),js h]
 · rw [Nat.min_eq_right xB]
def qG0(l:List Prt):List (List Value):=l.map Prt.cells
theorem qQm(a b:List Prt):qG0 (a++b)=qG0 a++qG0 b:=by simp [qG0]
def prt(turn num:UInt64)(s:xA)(n i:Nat):Prt:=⟨turn,num,i,n,qLW turn num s,(s.drop (39*i)).take 39⟩
def qXD(turn num:UInt64)(s:xA)(n k:Nat):List Prt:=(List.range k).map (prt turn num s n)
theorem qQk(turn num:UInt64)(s:xA)(n k:Nat):qXD turn num s n (k+1)=qXD turn num s n k++ [prt turn num s n k]:=by unfold qXD;rw [jx,jO];rfl
theorem qQl{turn num:UInt64}{s:xA}{n k i:Nat}(h:i<k):(qG0 (qXD turn num s n k))[i]?=some (prt turn num s n i).cells:=by
 unfold qG0 qXD
 rw [List.map_map,jN,zB h];rfl
theorem qFb(n:Nat):1≤qBi n:=by unfold qBi;split<;>omega
theorem qD2{n:Nat}(h:n≤900):qBi n≤24:=by unfold qBi;split<;>omega
theorem qUB(F:Hp)(hK:qAG F ⟨3,0,none⟩ (Sha.K.map W32))(turn num:UInt64)(s:xA)(ht:turn.toNat<2^(8*4))(hnm:num.toNat<2^(8*2))(hs:s.length≤900)(n:Nat)(hn:n=qBi s.length):
    Ct prog 259 [W64 turn,W64 num,Str s] [F] (λx:Option Addr×Nat×Hp=> .slice x.1 n x.2.1) (λx=>Row x.2.2 371 6 x.1 n x.2.1 (qG0 (qXD turn num s n n))) (λx=> [F,x.2.2]):=by
  have hn24:n≤24:=hn▸qD2 hs
  refine Ct.walk func259 O ntmps259 O (λw0 hw0=>?_)
  refine J.f λ_ j1=>J.b O<|J.c j1<|J.f λ_ j2=>J.b O<|J.g (qAu u9_ O O) O<|J.q (qAZ O O (λF' hF=>by have:=qG3 F' s.length xB;rw [←hn] at this;exact this)) O λg13 _=>J.p 3 O<|J.q (qAZ O O (λF' hF=>qVJ F' (hK.mono (Fa hF)) turn num s ht hnm xB)) O λg17 _=>J.p 2 O<|J.c j2<|J.f λ_ j3=>J.b O<|J.c j3<|J.k λ_ j4=>J.k λ_ j5=>J.c6 [0,1] [F,(λ_=>none)] O xC<|J.H<|J.p 2 O<|J.c j5<|J.T<|J.b5 (X:=Nat×Hp×Option Addr×Nat) (λx=> [(0,W64 turn),(1,W64 num),(2,Str (s.drop (39*x.1))),(7,I n),(8,Str (qLW turn num s)),(9,.slice x.2.2.1 x.1 x.2.2.2),(18,I n),(19,I x.1)]) (λx=> [F,x.2.1]) (λx=>x.1≤n∧Row x.2.1 371 6 x.2.2.1 x.1 x.2.2.2 (qG0 (qXD turn num s n x.1))) (λx=>n-x.1) (0,(λ_=>none),none,0) (⟨jE _,qBZ.nil⟩) ⟨O,O,O,O,O,O,O,O,trivial⟩ (λ_ h=>h) ?_
  rintro⟨k,m,A7,c7⟩ ⟨hk,hr⟩ I0 hI0
  dsimp only at hk hr⊢
  refine J.f λ_ j6=>J.g (qAS O O O) O<|J.c j6<|J.k λ_ j7=>J.Z O (λh20=>?_) (λh20=>?_)
  ·
    refine J.M j7<|J.k λ_ j8=>J.T<|J.f λ_ j9=>J.p 2 O<|J.c j9<|J.f λ_ j10=>J.p 8 O<|J.g (qAu u9_ O O) O<|J.g ((qF4 O O O).as (v':=I (min (s.drop (39*k)).length 39:Nat)) (congrArg I xB)) O<|J.g ((qA9 u9_ O O O O ⟨xB,xB⟩).as (v':=Str ((s.drop (39*k)).take 39)) (congrArg Str (qLe _ _))) O<|J.g (qAL (places:= [(0,1),(1,1),(2,1),(3,1),(4,1),(5,1)]) (r:= [W64 turn,W64 num,I k,I n,Str (qLW turn num s),Str ((s.drop (39*k)).take 39)]) O O O qEy qMi (λ_=>xI) O) O<|J.q (qAE (l:= [.tmp 33]) (xs:= [(prt turn num s n k).cells]) O O O O qOP el371 O xC xC (by simp [Prt.cells,prt])) O λg34 _=>J.q (qAX (i:=1) (m2:=blk g34 (prt turn num s n k).cells 371) O O O qOP qOP el371 O hr xD ((qAm (q:=True) (xs:=qG0 [(prt turn num s n k)]) O (by simp [qG0,Prt.cells])).sl) (by simp [qG0,Prt.cells,Value.oneCell']) xB xB) O ?_
    rintro⟨A8,c8,m8⟩ h8
    try dsimp only at h8
    rw [←qQm,←qQk] at h8
    refine J.b O<|J.c j10<|J.H<|J.p 2 O<|J.g (qAu u9_ O O) O<|J.g ((qF4 O O O).as (v':=I (min (s.drop (39*k)).length 39:Nat)) (congrArg I xB)) O<|J.g ((qA9 u9_ O O O O ⟨xB,xB⟩).as (v':=Str (s.drop (39*(k+1)))) (congrArg Str (by rw [jm,qU8,zk,Nat.mul_add,Nat.mul_one]))) O<|J.b O<|J.a4<|J.a2<|J.u (J.D j8 ?_)
    exact J.H<|J.g ((qAR O O O xB).nat (k+1) xB) O<|J.b O<|J.a4<|J.u<|J.a8 (k+1,m8,A8,c8) (λy (hy:_∧n-y.1<n-k)=>hI0 y hy.1 hy.2) ⟨⟨by dsimp only;omega,h8⟩,by dsimp only;omega⟩ ⟨O,O,O,O,O,O,O,O,trivial⟩ (λ_ h=>h.pick [0,1] xC)
  refine J.b3<|J.a0<|J.a0<|J.b4 ?_
  refine J.u (J.D j4 ?_)
  refine J.k λ_ j11=>?_
  have hkn:k=n:=xB
  subst hkn
  exact J.H<|J.p 2 O<|J.c j11<|J.A<|J.E hw0 O (A7,c7,m) O hr [0,1] O xC
def qCZ(d:Dk)(p:Nat)(t:Nat→xA):Nat→Dk×Int
 |0=>(d,0)
 |k+1=>if(qCZ d p t k).2=0 then((qCZ d p t k).1.write ((p+k:Nat):Int) (t k),(qCZ d p t k).1.wErr ((p+k:Nat):Int) (t k)) else qCZ d p t k
theorem qGf{d:Dk}{p:Nat}{t:Nat→xA}{k:Nat}(h:(qCZ d p t k).2=0):qCZ d p t (k+1)=((qCZ d p t k).1.write ((p+k:Nat):Int) (t k),(qCZ d p t k).1.wErr ((p+k:Nat):Int) (t k)):=if_pos h
theorem qGg{d:Dk}{p:Nat}{t:Nat→xA}{k:Nat}(h: ¬(qCZ d p t k).2=0): ∀n,qCZ d p t (k+n)=qCZ d p t k
 |0=>rfl
 |n+1=>by
  have e:=qGg h n
  show(if(qCZ d p t (k+n)).2=0 then _ else qCZ d p t (k+n))=_
  rw [e,if_neg h]
def qLl(d:Dk)(p:Nat)(t:Nat→xA)(n:Nat):Dk×Int:=if(qCZ d p t n).2=0 then((qCZ d p t n).1.sync,(qCZ d p t n).1.sErr) else qCZ d p t n
theorem qSV(d:Dk):d.burn.keep=d.keep∧d.burn.wait.length≤d.wait.length:=by
  unfold Dk.burn Dk.cut
  split
  · split
    · exact⟨O,jE _⟩
    · exact⟨O,jJ _⟩
  · exact⟨O,jJ _⟩
theorem qOK(d:Dk)(i:Int)(s:xA):(d.write i s).keep=d.keep∧(d.write i s).wait.length≤d.wait.length+1:=by
  have hb:=qSV d
  unfold Dk.write
  split
  · exact⟨O,Nat.le_succ _⟩
  · split
    · exact⟨O,Nat.le_succ _⟩
    · split
      · exact⟨hb.1,Nat.le_succ_of_le hb.2⟩
      · refine⟨hb.1,?_⟩
        show(d.burn.wait++ [_]).length≤_
        rw [jA];exact Nat.succ_le_succ hb.2
theorem qIp{d:Dk}(h:d.ok)(p:Nat)(t:Nat→xA): ∀k,(qCZ d p t k).1.ok∧(qCZ d p t k).1.wait.length≤d.wait.length+k∧(qCZ d p t k).1.keep=d.keep
  |0=>⟨h,jJ _,rfl⟩
  |k+1=>by
    obtain ⟨h1,h2,h3⟩:=qIp h p t k
    by_cases he:(qCZ d p t k).2=0
    · rw [qGf he]
      have hw:=qOK (qCZ d p t k).1 ((p+k:Nat):Int) (t k)
      exact⟨h1.write _ _,jg hw.2 xB,hw.1.trans h3⟩
    · rw [show k+1=k+1 from rfl,qGg he 1]
      exact⟨h1,xB,h3⟩
theorem qQo{turn num:UInt64}{s:xA}{n i:Nat}(ht:turn.toNat<2^(8*4))(hn:num.toNat<2^(8*2))(h:n≤24)(hi:i<n):(prt turn num s n i).ok:=
 ⟨ht,hn,by show i<256;omega,by show n<256;omega,by show(qLW _ _ _).length≤8;rw [qSb];exact jJ _,by show((s.drop _).take 39).length≤39;rw [jF];exact Nat.min_le_left _ _⟩
theorem qHy(F mm:Hp)(hK:qAG F ⟨3,0,none⟩ (Sha.K.map W32))(gb gd:Nat)(first size hat0:Int)(ht0:UInt64)(he0:Int)(Ar0:Option Addr)(nr0 cr0:Nat)(bad:Bool)(d:Dk)(C:Option Addr)(f:Nat)(hb:Dsk mm gd d C f)(hok:d.ok)(hn2:d.wait.length≤1048576)(hKp:Sl F 1 C d.keep.length f (qAf d.keep))(hn3:d.keep.length≤9223372036854775807)(hat:Nat)(hturn:UInt64)(hend:Nat)(Ar:Option Addr)(nr cr:Nat)(R:List xA)(hR:R.length=nr)(hRs:Sl F 1 Ar nr cr (qAH R))(s:xA)(hs:s.length≤900)(n:Nat)(hn:n=qBi s.length)(ht:hturn.toNat<2^(8*4))(hnr:nr<65536)(hp:hat+hend≤1048576)(he:(qLl d (hat+hend) (λi=>(prt hturn (UInt64.ofNat nr) s n i).text) n).2=0):
    Ct prog 210 [Ptr gb,.agg #[I hat,W64 hturn,I hend,.slice Ar nr cr],Str s] [blk gb [Ptr gd,I first,I size,I hat0,W64 ht0,I he0,.slice Ar0 nr0 cr0,.bool bad] 244,mm,F] (λ_:Hp×Option Addr×Nat×Hp=>I 0) (λx=>Dsk x.1 gd (qLl d (hat+hend) (λi=>(prt hturn (UInt64.ofNat nr) s n i).text) n).1 C f∧Row x.2.2.2 9 1 x.2.1 (nr+1) x.2.2.1 (qAH (R++ [s]))) (λx=> [blk gb [Ptr gd,I first,I size,I hat,W64 hturn,I (hend+n:Nat),.slice x.2.1 (nr+1) x.2.2.1,.bool bad] 244,x.1,F,x.2.2.2]):=by
  have hn24:n≤24:=hn▸qD2 hs
  have hnum:(UInt64.ofNat nr).toNat<2^(8*2):=by rw [qBE xB];exact hnr
  refine Ct.walk func210 O ntmps210 O (λw0 hw0=>?_)
  refine J.f λ_ j1=>J.q (qAb O O O) O ?_
  rintro g4 _
  refine J.b O<|J.c j1 ?_
  refine J.f λ_ j2=>J.W 1 qEf qDs O O O O O<|J.a6 3 qEv O O O O O<|J.W 3 qEf qB9 O O O O O<|J.a6 3 qCQ O O O O O<|J.g (qAO qAn O O) O<|J.g (qAw O O u3_ qEV xB) O<|J.b O<|J.q (qBb O O (λF' hF=>qUB F' (hK.mo hF) hturn (UInt64.ofNat nr) s ht hnum hs n hn)) O ?_
  rintro⟨Ap,cp,mp⟩ hr
  try dsimp only at hr
  refine J.b O<|J.c j2 ?_
  refine J.f λ_ j3=>J.b O<|J.c j3 ?_
  refine J.d9 (λx:Hp=> [(0,Ptr gb),(2,Str s),(4,Ptr g4),(7,.slice Ap n cp),(8,I (qCZ d (hat+hend) (λi=>(prt hturn (UInt64.ofNat nr) s n i).text) n).2)]) (λx=> [blk gb [Ptr gd,I first,I size,I hat0,W64 ht0,I he0,.slice Ar0 nr0 cr0,.bool bad] 244,x,F,blk g4 [I hat,W64 hturn,I hend,.slice Ar nr cr] 242,mp]) (λx=>Dsk x gd (qCZ d (hat+hend) (λi=>(prt hturn (UInt64.ofNat nr) s n i).text) n).1 C f) (λ_ j4=>?_) ?_
  ·
    refine J.f λ_ j5=>J.b O<|J.c j5 ?_
    refine J.T<|J.b5 (X:=Nat×Hp) (λx=> [(0,Ptr gb),(2,Str s),(4,Ptr g4),(7,.slice Ap n cp),(8,I (qCZ d (hat+hend) (λi=>(prt hturn (UInt64.ofNat nr) s n i).text) x.1).2),(9,I x.1)]) (λx=> [blk gb [Ptr gd,I first,I size,I hat0,W64 ht0,I he0,.slice Ar0 nr0 cr0,.bool bad] 244,x.2,F,blk g4 [I hat,W64 hturn,I hend,.slice Ar nr cr] 242,mp]) (λx=>x.1≤n∧Dsk x.2 gd (qCZ d (hat+hend) (λi=>(prt hturn (UInt64.ofNat nr) s n i).text) x.1).1 C f) (λx=>n-x.1) (0,mm) (⟨jE _,hb⟩) ⟨O,O,O,O,O,O,trivial⟩ (λ_ h=>h) ?_
    rintro⟨k,m⟩ ⟨hk,hd⟩ I0 hI0
    dsimp only at hk hd⊢
    refine J.k λ_ j6=>J.f λ_ j7=>J.p 2 O<|J.g (qAO qOP O O) O<|J.g (qAS O O O) O<|J.b O<|J.b9 (d:=22) O (λh22=>?_) (λh22=>?_)
    ·
      refine J.b O<|J.G (qAe O O O) O<|J.b O<|J.c j7 ?_
      refine J.Z O (λh25=>?_) (λh25=>?_)
      ·
        refine J.M j6 ?_
        refine J.k λ_ j8=>J.T ?_
        have hkn:k<n:=xB
        have hw:=qIp hok (hat+hend) (λi=>(prt hturn (UInt64.ofNat nr) s n i).text) k
        refine J.b1 [blk gb [Ptr gd,I first,I size,I hat0,W64 ht0,I he0,.slice Ar0 nr0 cr0,.bool bad] 244,blk g4 [I hat,W64 hturn,I hend,.slice Ar nr cr] 242,F,mp] [] (.y 0 (.y 1 (.y 2 (.y 3 (.y 4 (.y 5 (.y 6 (.y 7 (.y 8 (.y 9 (.y 10 (.y 11 (.y 12 (.y 13 (.y 14 (.e 15 (.e 16 (.y 17 .nil)))))))))))))))))) Tryz.wide xF xD ?_
        refine J.L ?_
        refine J.j O (qAB O O) O O<|J.j O (qAA O O qFV O sizeOf24 O) O O<|J.j O (qAD 0 O O O isAgg24 O) O O<|J.j O (qAA O O qEf O z3_ O) O O<|J.j O (qAD 1 O O O b3_ O) O O<|J.j O (qAA O O qEf O z3_ O) O O<|J.j O (qAD 1 O O O b3_ O) O O<|J.j O ((qAR O O O xB).nat (hat+hend) xB) O O<|J.L ?_
        refine J.j O ((qAR O O O xB).nat (hat+hend+k) xB) O O<|J.L ?_
        refine J.L ?_
        refine J.j O (qAF O O O qOP qGc hr.sl xB) O O<|J.j O (qAP O O isAgg371 qGc (m:=mp) xD (hr.sl.elem (qQl hkn)) O) O O<|J.a1 O (qAZ O O (λF' hF=>qNM F' (hK.mo hF) (prt hturn (UInt64.ofNat nr) s n k) (qQo ht hnum hn24 hkn))) O xD λg43 _=>J.a1 O (qAK O O ent (Ct.use1 1 O (λF' hF=>qS8 F' m gd (qCZ d (hat+hend) (λi=>(prt hturn (UInt64.ofNat nr) s n i).text) k).1 C f hd hw.1 (by have:=hw.2.1;omega) (by rw [hw.2.2];exact hKp.mono (Fa hF)) (by rw [hw.2.2];exact hn3) ((hat+hend+k:Nat):Int) (prt hturn (UInt64.ofNat nr) s n k).text (by rw [Prt.text_len (qQo ht hnum hn24 hkn)];decide)))) O xD ?_
        rintro m44 hd44
        refine J.b7 ?_
        refine J.b0<|J.a2<|J.u (J.D j8 ?_)
        refine J.H<|J.b O<|J.g ((qAR O O O xB).nat (k+1) xB) O<|J.b O<|J.a4<|J.u ?_
        have hsu:=qGf (show(qCZ d (hat+hend) (λi=>(prt hturn (UInt64.ofNat nr) s n i).text) k).2=0 from by omega)
        exact J.a8 (k+1,m44) (λy (hy:_∧n-y.1<n-k)=>hI0 y hy.1 hy.2) ⟨⟨by dsimp only;omega,by dsimp only;rw [hsu];exact hd44⟩,by dsimp only;omega⟩ ⟨O,O,O,O,by dsimp only;rw [hsu];rfl,O,trivial⟩ (λ_ h=>h)
      refine J.b3<|J.a0<|J.a0<|J.b4 ?_
      refine J.u ?_
      have hst:=qGg (d:=d) (p:=hat+hend) (t:=(λi=>(prt hturn (UInt64.ofNat nr) s n i).text)) (k:=k) xB (n-k)
      rw [show k+(n-k)=n by omega] at hst
      exact J.a8 m j4 (by rw [hst];exact hd) ⟨O,O,O,O,by rw [hst];rfl,trivial⟩ (λ_ h=>h)
    refine J.p 3 O<|J.c j7 ?_
    refine J.a3 ?_
    refine J.b3<|J.a0<|J.a0<|J.b4 ?_
    refine J.u ?_
    have hkk:k=n:=xB
    subst hkk
    exact J.a8 m j4 hd ⟨O,O,O,O,O,trivial⟩ (λ_ h=>h)
  intro m hd
  refine J.d9 (λx:Hp=> [(0,Ptr gb),(2,Str s),(4,Ptr g4),(7,.slice Ap n cp),(8,I (qLl d (hat+hend) (λi=>(prt hturn (UInt64.ofNat nr) s n i).text) n).2)]) (λx=> [blk gb [Ptr gd,I first,I size,I hat0,W64 ht0,I he0,.slice Ar0 nr0 cr0,.bool bad] 244,x,F,blk g4 [I hat,W64 hturn,I hend,.slice Ar nr cr] 242,mp]) (λx=>Dsk x gd (qLl d (hat+hend) (λi=>(prt hturn (UInt64.ofNat nr) s n i).text) n).1 C f) (λ_ j9=>?_) ?_
  ·
    refine J.k λ_ j10=>?_
    have hw:=qIp hok (hat+hend) (λi=>(prt hturn (UInt64.ofNat nr) s n i).text) n
    refine J.H<|J.b O<|J.g (qAe O O O) O<|J.c j10 ?_
    refine J.Z O (λh46=>?_) (λh46=>?_)
    ·
      refine J.H<|J.b O<|J.g (qAB O O) O<|J.W 0 qFV sizeOf24 O O O O O<|J.a6 0 isAgg24 O O O O O<|J.q (qAK O O ent (Ct.use1 1 O (λF' hF=>qWW F' m gd (qCZ d (hat+hend) (λi=>(prt hturn (UInt64.ofNat nr) s n i).text) n).1 C f hd hw.1 (by have:=hw.2.1;omega) (by rw [hw.2.2];exact hKp.mono (Fa hF)) (by rw [hw.2.2];exact hn3)))) O ?_
      rintro m51 hd51
      refine J.b O<|J.a4<|J.u ?_
      have hst:(qLl d (hat+hend) (λi=>(prt hturn (UInt64.ofNat nr) s n i).text) n)=((qCZ d (hat+hend) (λi=>(prt hturn (UInt64.ofNat nr) s n i).text) n).1.sync,(qCZ d (hat+hend) (λi=>(prt hturn (UInt64.ofNat nr) s n i).text) n).1.sErr):=if_pos xB
      exact J.a8 m51 j9 (by rw [hst];exact hd51) ⟨O,O,O,O,by rw [hst];rfl,trivial⟩ (λ_ h=>h)
    refine J.b2<|J.u ?_
    have hst:(qLl d (hat+hend) (λi=>(prt hturn (UInt64.ofNat nr) s n i).text) n)=(qCZ d (hat+hend) (λi=>(prt hturn (UInt64.ofNat nr) s n i).text) n):=if_neg xB
    exact J.a8 m j9 (by rw [hst];exact hd) ⟨O,O,O,O,by rw [hst];rfl,trivial⟩ (λ_ h=>h)
  intro m hd
  refine J.k λ_ j11=>J.f λ_ j12=>J.b O<|J.g ((qAV O O O).no xB) O<|J.c j12 ?_
  refine J.a3 ?_
  refine J.M j11 ?_
  refine J.f λ_ j13=>J.W 2 qEf z3_ O O O O O<|J.a6 3 b3_ O O O O O<|J.b O<|J.g (qAO qOP O O) O<|J.g ((qAR O O O xB).nat (hend+n) xB) O<|J.W 2 qEf z3_ O O O O O<|J.a7 (qAW (i:=3) O O O O O z3_ O xD) O O λ_ _=>?_
  change J _ _ _ [blk gb [Ptr gd,I first,I size,I hat0,W64 ht0,I he0,.slice Ar0 nr0 cr0,.bool bad] 244,m,F,blk g4 [I hat,W64 hturn,I (hend+n:Nat),.slice Ar nr cr] 242,mp] _
  refine J.c j13 ?_
  refine J.f λ_ j14=>J.W 3 qEf qB9 O O O O O<|J.a6 3 qCQ O O O O O<|J.q (qAK O O ent (Ct.use (new:=λx:Option Addr×Nat×Hp=> [x.2.2]) (λF' hF=>by have:=qLP F' R Ar cr (by rw [hR];exact hRs.mono (Fa hF)) xB;rw [hR] at this;exact this))) O ?_
  rintro⟨A6,c6,m6⟩ h6
  try dsimp only at h6
  change J _ _ _ [_,_,_,_,_,m6] _
  refine J.b O<|J.q (qAE (l:= [.tmp 67]) (xs:= [[Str s]]) O O O O qAn el9 O xC xC xD) O λg68 _=>?_
  change J _ _ _ [_,_,_,_,_,_,blk g68 [Str s] 9] _
  refine J.q (qAX (i:=5) (m2:=blk g68 [Str s] 9) (xs:=qAH R) (ys:=qAH [s]) O O O qAn qAn el9 O h6 xD ((qAm (q:=True) (xs:=qAH [s]) O (by simp [qAH])).sl) (by simp [qAH,Value.oneCell']) xB xB) O ?_
  rintro⟨A8,c8,m8⟩ h8
  try dsimp only at h8
  change J _ ((69,.slice A8 (nr+1) c8)::_) _ [_,_,_,_,_,m8,_] _
  rw [←qIA] at h8
  refine J.W 3 qEf qB9 O O O O O<|J.a7 (qAW (i:=3) (vs:= [.slice A8 (nr+1) c8]) O O O O O qB9 O xD) O O λ_ _=>J.c j14 ?_
  refine J.f λ_ j15=>J.b O<|J.c0 3 isAgg242 qDt O O O O O<|J.g (qAB O O) O<|J.W 3 qFV qDt O O O O O<|J.a7 (qAW (i:=0) (vs:= [I hat,W64 hturn,I (hend+n:Nat),.slice A8 (nr+1) c8]) O O O O O qDt O xD) O O λ_ _=>J.c j15 ?_
  refine J.f λ_ j16=>J.b O<|J.c j16 ?_
  exact J.A<|J.E hw0 O (m,A8,c8,m8) O ⟨hd,h8⟩ [0,1,2,5] O xC
theorem qSO{m:Hp}{g k:Nat}{l vs:List Value}(h:qAG m ⟨g,0,none⟩ l)(hs: ∀j u,vs[j]?=some u→l[k+j]?=some u):qAG m ⟨g,k,none⟩ vs:=by
 obtain ⟨h1,cs,e,fz,h2,h3⟩:=h
 refine⟨O,cs,e,fz,h2,λj u hj=>?_⟩
 have:=h3 _ _ (hs j u hj)
 rwa [jj] at this
theorem qLV(F mm:Hp)(hK:qAG F ⟨3,0,none⟩ (Sha.K.map W32))(gb gd:Nat)(first:Int)(size hat:Nat)(hturn:UInt64)(hend:Nat)(Ar:Option Addr)(nr cr:Nat)(d:Dk)(C:Option Addr)(f:Nat)(hb:Dsk mm gd d C f)(hok:d.ok)(hn2:d.wait.length≤1048576)(hKp:Sl F 1 C d.keep.length f (qAf d.keep))(hn3:d.keep.length≤9223372036854775807)(R:List xA)(hR:R.length=nr)(hRs:Sl F 1 Ar nr cr (qAH R))(s:xA)(hs:s.length≤900)(n:Nat)(hn:n=qBi s.length)(t':UInt64)(ht':(t'.toNat:Int)=max (hturn.toNat:Int) 1)(ht:t'.toNat<2^(8*4))(hnr:nr<65536)(hp:hat+size≤1048576)(hfit:hend+n≤size)(he:(qLl d (hat+hend) (λi=>(prt t' (UInt64.ofNat nr) s n i).text) n).2=0):
    Ct prog 137 [Ptr gb,Str s] [blk gb [Ptr gd,I first,I (size:Nat),I (hat:Nat),W64 hturn,I (hend:Nat),.slice Ar nr cr,.bool false] 244,mm,F] (λ_:Hp×Option Addr×Nat×Hp=>I 0) (λx=>Dsk x.1 gd (qLl d (hat+hend) (λi=>(prt t' (UInt64.ofNat nr) s n i).text) n).1 C f∧Row x.2.2.2 9 1 x.2.1 (nr+1) x.2.2.1 (qAH (R++ [s]))) (λx=> [blk gb [Ptr gd,I first,I (size:Nat),I (hat:Nat),W64 t',I (hend+n:Nat),.slice x.2.1 (nr+1) x.2.2.1,.bool false] 244,x.1,F,x.2.2.2]):=by
  have hn1:=qFb s.length
  refine Ct.walk func137 O ntmps137 O (λw0 hw0=>?_)
  refine J.f λ_ j1=>J.b O<|J.c j1 ?_
  refine J.k λ_ j2=>J.f λ_ j3=>J.p 2 O<|J.q ((qAZ O O (λF' hF=>qZS F' gb gd first size hat hturn hend Ar nr cr false (qAG.blk0.mono (hF (blk gb [Ptr gd,I first,I (size:Nat),I (hat:Nat),W64 hturn,I (hend:Nat),.slice Ar nr cr,.bool false] 244) xD)) s))) O λg9 _=>J.b O<|J.c j3 ?_
  refine J.f λ_ j4=>J.b O<|J.g ((qAV O O O).no (λh=>h (by rw [if_neg xB,if_neg xC]))) O<|J.c j4 ?_
  refine J.a3 ?_
  refine J.M j2 ?_
  refine J.f λ_ j5=>J.b O<|J.g (qAB O O) O<|J.W 3 qFV qDt O O O O O<|J.g (qAP O O isAgg242 qDt (m:=blk gb [Ptr gd,I first,I (size:Nat),I (hat:Nat),W64 hturn,I (hend:Nat),.slice Ar nr cr,.bool false] 244) xD (vs:= [I (hat:Nat),W64 hturn,I (hend:Nat),.slice Ar nr cr]) (qSO qAG.blk0 (λj u hj=>by match j,hj with|0,hj=>exact hj|1,hj=>exact hj|2,hj=>exact hj|3,hj=>exact hj)) O) O<|J.q (qAJ O zeroValue242 O) O λg6 _=>J.a7 (qAC (l:= [I 0,W64 0,I 0,.slice none 0 0]) (i:=3) (vs:= [I (hat:Nat),W64 hturn,I (hend:Nat),.slice Ar nr cr]) O O O O O qDt O O) O O λ_ _=>J.c j5 ?_
  refine J.k λ_ j6=>J.f λ_ j7=>J.b O<|J.q (qAZ O O (λF' hF=>qRa F' gb gd first size hat hturn hend Ar nr cr false (qAG.blk0.mono (hF (blk gb [Ptr gd,I first,I (size:Nat),I (hat:Nat),W64 hturn,I (hend:Nat),.slice Ar nr cr,.bool false] 244) xD)) xB xB)) O λg18 _=>J.b O<|J.g (qAu u9_ O O) O<|J.q (qAZ O O (λF' hF=>by have:=qG3 F' s.length xB;rw [←hn] at this;exact this)) O λg21 _=>J.g ((qAS O O O).no xB) O<|J.b O<|J.G (qAA O O qEf O qB9 O) O<|J.G (qAD 3 O O O qCQ O) O<|J.G (qAO qAn O O) O<|J.G ((qBI O O O).no xB) O<|J.b O<|J.c j7 ?_
  refine J.a3 ?_
  refine J.M j6 ?_
  refine J.f λ_ j8=>J.W 1 qEf qDs O O O O O<|J.a6 3 qEv O O O O O<|J.g ((qIL O O O).as (v':=W64 t') (congrArg (Value.int .u64) ht'.symm)) O<|J.W 1 qEf qDs O O O O O<|J.a7 (qAW (i:=3) O O O O O qDs O xD) O O λ_ _=>J.c j8 ?_
  refine J.f λ_ j9=>J.b O<|J.c0 3 isAgg242 qDt O O O O O<|J.b O<|J.q (qAK O O ent (Ct.useA [blk gb [Ptr gd,I first,I (size:Nat),I (hat:Nat),W64 hturn,I (hend:Nat),.slice Ar nr cr,.bool false] 244,mm] [F,blk g6 [I (hat:Nat),W64 t',I (hend:Nat),.slice Ar nr cr] 242] (A':=λx:Hp×Option Addr×Nat×Hp=> [blk gb [Ptr gd,I first,I (size:Nat),I (hat:Nat),W64 t',I (hend+n:Nat),.slice x.2.1 (nr+1) x.2.2.1,.bool false] 244,x.1]) (new:=λx=> [x.2.2.2]) (λF' hF=>qHy F' mm (hK.mo hF) gb gd first size hat hturn hend Ar nr cr false d C f hb hok hn2 (hKp.mono (Fa hF)) hn3 hat t' hend Ar nr cr R hR (hRs.mono (Fa hF)) s hs n hn ht hnr xB he))) O ?_
  rintro⟨m36,A36,c36,m37⟩ ⟨hd36,h36⟩
  refine J.b O<|J.c j9 ?_
  exact J.A<|J.E hw0 O (m36,A36,c36,m37) O ⟨hd36,h36⟩ [0,1,2,4] O xC
theorem qEC{d:Dk}(h:d.armed=false):d.burn=d∧ ¬d.burns:=⟨by unfold Dk.burn;rw [if_neg (by rw [h];decide)],λe=>by have:=e.1;rw [h] at this;exact absurd this xC⟩
theorem qIi{d:Dk}(h:d.off=false){i:Nat}(hi:i<d.last.length):d.ready (i:Int)=0:=by unfold Dk.ready;rw [h,if_neg xC,if_neg xB]
theorem qJ0{d:Dk}(ho:d.off=false)(ha:d.armed=false){p n:Nat}(hp:p+n≤d.last.length){t:Nat→xA}(ht: ∀i,i<n→(t i).length≤64): ∀k,k≤n→(qCZ d p t k).2=0∧(qCZ d p t k).1.off=false∧(qCZ d p t k).1.armed=false∧(qCZ d p t k).1.last=d.last
 |0,_=>⟨rfl,ho,ha,rfl⟩
 |k+1,hk=>by
  obtain ⟨h1,h2,h3,h4⟩:=qJ0 ho ha hp ht k xB
  have hw:=qS7 (qIi h2 (i:=p+k) (by rw [h4];omega)) (ht k xB) (qEC h3).2
  rw [(qEC h3).1] at hw
  rw [qGf h1]
  dsimp only
  rw [hw.1]
  exact⟨hw.2,h2,h3,h4⟩
theorem qPj{d:Dk}(hok:d.ok)(ho:d.off=false)(ha:d.armed=false){p n:Nat}(hp:p+n≤d.last.length){t:Nat→xA}(ht: ∀i,i<n→(t i).length≤64):
    (qLl d p t n).2=0∧(qLl d p t n).1.off=false∧(qLl d p t n).1.armed=false∧(qLl d p t n).1.last.length=d.last.length∧(qLl d p t n).1.wait= []∧(qLl d p t n).1.keep=d.keep∧(qLl d p t n).1.ok:=by
  obtain ⟨h1,h2,h3,h4⟩:=qJ0 ho ha hp ht n (jJ _)
  have hw:=qIp hok p t n
  have hs:=hw.1.sync
  have h0:(qCZ d p t n).1.ready 0=0:=qIi h2 (i:=0) (by rw [h4];exact hok.n0)
  have e:qLl d p t n=((qCZ d p t n).1.sync,(qCZ d p t n).1.sErr):=if_pos h1
  have e2:(qCZ d p t n).1.sync={(qCZ d p t n).1 with last:=qDX (qCZ d p t n).1.last (qCZ d p t n).1.wait (qCZ d p t n).1.wait.length,wait:= []}:=by
    unfold Dk.sync
    rw [if_neg xB,if_neg (qEC h3).2,(qEC h3).1]
  have e3:(qCZ d p t n).1.sErr=0:=by
    unfold Dk.sErr
    rw [if_neg xB,if_neg (qEC h3).2]
  rw [e]
  refine⟨e3,?_,?_,?_,?_,?_,hs⟩
  · show(qCZ d p t n).1.sync.off=_;rw [e2];exact h2
  · show(qCZ d p t n).1.sync.armed=_;rw [e2];exact h3
  · show(qCZ d p t n).1.sync.last.length=_;rw [e2];show(qDX _ _ _).length=_;rw [qBQ,h4]
  · show(qCZ d p t n).1.sync.wait=_;rw [e2]
  · show(qCZ d p t n).1.sync.keep=_;rw [e2];exact hw.2.2
theorem qUP{n:Nat}(i:Nat)(h:i<(Dk.new n).last.length):(Dk.new n).ready (i:Int)=0∧(Dk.new n).read (i:Int)=zS:=by
 have hi:i<n:=by have:=h;unfold Dk.new at this;dsimp only at this;rwa [jL] at this
 have h0:=qRI (n:=n) (i:=(i:Int)) xB xB
 exact⟨h0,by rw [qW3 h0];exact qXg hi⟩
theorem qQn{turn num:UInt64}{s:xA}{n:Nat}(ht:turn.toNat<2^(8*4))(hn:num.toNat<2^(8*2))(h:n≤24): ∀i,i<n→((prt turn num s n i).text).length≤64:=λi hi=>by rw [Prt.text_len (qQo ht hn h hi)];exact jJ _
namespace Mk
def node(a b:xA):xA:=Sha.tagged 5 [a,b]
def above(l:List xA):List xA:=(List.range (l.length/2)).map λk=>node (l.getD (2*k) []) (l.getD (2*k+1) [])
def lvl(l:List xA):Nat→List xA
 |0=>l
 |j+1=>above (lvl l j)
def root(l:List xA)(h:Nat):xA:=(lvl l h).getD 0 []
def path(l:List xA)(i h:Nat):List xA:=(List.range h).map λj=>(lvl l j).getD ((i/2^j)^^^1) []
def climb:xA→Nat→List xA→xA
 |x,_,[]=>x
 |x,i,s::r=>climb (if i%2=0 then node x s else node s x) (i/2) r
def Right(n:Nat):Prop:=n=1∨n=2∨n=4∨n=8∨n=16∨n=32∨n=64
instance (n:Nat):Decidable (Right n):=by unfold Right;infer_instance
theorem qQX: ∀n:Fin 65,(1≤n.val∧n.val&&&(n.val-1)=0)↔Right n.val:=by decide+kernel
theorem right_of(n:Nat):(1≤n∧n≤64∧n&&&(n-1)=0)↔Right n:=by
  by_cases h:n<65
  · have:=qQX ⟨n,h⟩
    dsimp only at this
    rw [←this]
    constructor
    · intro ⟨a,_,c⟩;exact⟨a,c⟩
    · intro ⟨a,c⟩;exact⟨a,xB,c⟩
  · constructor
    · intro ⟨_,b,_⟩;omega
    · intro hr;unfold Right at hr;omega
theorem right_pow(h:Nat)(h6:h≤6):Right (2^h):=by
 have: ∀h:Fin 7,Right (2^h.val):=by decide+kernel
 exact this ⟨h,xB⟩
theorem node_length(a b:xA):(node a b).length=16:=Sha.tagged_length _ _
theorem qLc(l:List xA):(above l).length=l.length/2:=by simp [above]
theorem qMt(l:List xA): ∀s∈above l,s.length=16:=λs hs=>by
 simp only [above,zU] at hs
 obtain ⟨k,_,rfl⟩:=hs
 exact node_length _ _
theorem lvl_succ_length(l:List xA)(j:Nat):(lvl l (j+1)).length=(lvl l j).length/2:=qLc _
theorem lvl_length(l:List xA)(h:Nat)(hl:l.length=2^h): ∀j,j≤h→(lvl l j).length=2^(h-j)
 |0,_=>hl
 |j+1,hj=>by
  rw [lvl_succ_length,lvl_length l h hl j xB,show h-j=(h-(j+1))+1 by omega,jw]
  omega
theorem lvl_small(l:List xA)(hs: ∀s∈l,s.length≤1048576): ∀j,∀s∈lvl l j,s.length≤1048576
 |0=>hs
 |j+1=>λs h=>by rw [qMt _ s h];decide
theorem xor_one(m k:Nat)(h:m<2*k):m^^^1<2*k:=by
 have e1:(m^^^1)/2=m/2:=by rw [Nat.xor_div_two];simp
 omega
theorem path_succ(l:List xA)(i h:Nat):path l i (h+1)=path l i h++ [(lvl l h).getD ((i/2^h)^^^1) []]:=by simp [path,jx]
theorem path_length(l:List xA)(i h:Nat):(path l i h).length=h:=by simp [path]
theorem above_succ(l:List xA)(k:Nat):((List.range (k+1)).map λk=>node (l.getD (2*k) []) (l.getD (2*k+1) []))=((List.range k).map λk=>node (l.getD (2*k) []) (l.getD (2*k+1) []))++ [node (l.getD (2*k) []) (l.getD (2*k+1) [])]:=by simp [jx]
theorem getS{l:List xA}{j:Nat}(h:j<l.length):l[j]?=some (l.getD j []):=by rw [jB,jC h];rfl
theorem getS_mem{l:List xA}{j:Nat}(h:j<l.length):l.getD j []∈l:=jM (getS h)
end Mk
theorem qKC(a:List xA):(qAH a).all (λx=>x.all Value.oneCell')=true:=by simp [qAH,Value.oneCell']
attribute [local irreducible] Mk.node
theorem qMO(F:Hp)(hK:qAG F ⟨3,0,none⟩ (Sha.K.map W32))(a b:xA)(ha:a.length≤1048576)(hb:b.length≤1048576):
    Cz prog 207 [Str a,Str b] F (Str (Mk.node a b)):=by
  refine Ct.walk func207 O ntmps207 O (λw0 hw0=>?_)
  exact J.f λ_ j1=>J.b O<|J.c j1<|J.f λ_ j2=>J.p 2 O<|J.q (qAE (l:= [.tmp 5,.tmp 6]) (xs:= [[Str a],[Str b]]) O O O O qAn el9 O xC xC xD) O λg7 _=>J.q (qAZ O O (λF' hF=>qA3 F' (hK.mono (Fa hF)) 5 (some ⟨g7,0,none⟩) 2 2 [a,b] (((qAm (q:=True) (xs:=qAH [a,b]) O (by simp [qAH])).sl (m:=blk g7 [Str a,Str b] 9)).mono (Fa hF)) xJ xC)) O λg8 _=>J.b O<|J.c j2<|J.A<|J.E hw0 O () (by unfold Mk.node;rfl) trivial [0] O xC
theorem qNE(F:Hp)(n:Nat)(hn:n<9223372036854775808):Cz prog 130 [I n] F (.bool (decide (Mk.Right n))):=by
 have hR:=Mk.right_of n
 refine Ct.walk func130 O ntmps130 O (λw0 hw0=>?_)
 refine J.f λ_ j1=>J.b O<|J.c j1<|J.f λ_ j2=>J.b O<|J.g (qBI O O O) O<|J.b O<|J.b9 (d:=5) O (λh5=>?_) (λh5=>?_)
 ·
  refine J.b O<|J.G (qCb O O O) O<|J.p 2 O<|J.b9 (d:=9) O (λh9=>?_) (λh9=>?_)
  ·
   exact J.p 2 O<|J.G ((qA4 O O O xB).nat (n-1) xB) O<|J.G (qMJ O O O xB) O<|J.G (qAe O O O) O<|J.p 2 O<|J.c j2<|J.A<|J.E hw0 O () (congrArg Value.bool (decide_eq_decide.2 (by rw [←hR];omega))) trivial [0] O xC
  exact J.p 7 O<|J.c j2<|J.A<|J.E hw0 O () (congrArg Value.bool (decide_eq_false (by rw [←hR];omega)).symm) trivial [0] O xC
 exact J.p 11 O<|J.c j2<|J.A<|J.E hw0 O () (congrArg Value.bool (decide_eq_false (by rw [←hR];omega)).symm) trivial [0] O xC
theorem qOG(F:Hp)(hK:qAG F ⟨3,0,none⟩ (Sha.K.map W32))(A:Option Addr)(n c:Nat)(ls:List xA)(hl:Sl F 1 A n c (qAH ls))(hsm: ∀s∈ls,s.length≤1048576)(hn:n≤1048576):
    Ct prog 131 [.slice A n c] [F] (λx:Option Addr×Nat×Hp=> .slice x.1 (n/2) x.2.1) (λx=>Row x.2.2 9 1 x.1 (n/2) x.2.1 (qAH (Mk.above ls))) (λx=> [F,x.2.2]):=by
  have hlen:ls.length=n:=by have:=hl.1;simpa [qAH] using this
  refine Ct.walk func131 O ntmps131 O (λw0 hw0=>?_)
  refine J.f λ_ j1=>J.b O<|J.c j1<|J.f λ_ j2=>J.b O<|J.c j2<|J.k λ_ j3=>J.k λ_ j4=>J.c6 [0,1] [F,(λ_=>none)] O xC<|J.H<|J.b O<|J.c j4<|J.T<|J.b5 (X:=Nat×Option Addr×Nat×Hp) (λx=> [(0,.slice A n c),(3,.slice x.2.1 x.1 x.2.2.1),(4,I (2*x.1:Nat))]) (λx=> [F,x.2.2.2]) (λx=>2*x.1≤n∧Row x.2.2.2 9 1 x.2.1 x.1 x.2.2.1 (qAH ((List.range x.1).map λk=>Mk.node (ls.getD (2*k) []) (ls.getD (2*k+1) [])))) (λx=>n-x.1) (0,none,0,λ_=>none) (⟨jE _,qBZ.nil⟩) ⟨O,O,O,trivial⟩ (λ_ h=>h) ?_
  rintro⟨k,A1,c1,m⟩ ⟨hk,hrow⟩ I0 hI0
  dsimp only at hk hrow⊢
  refine J.k λ_ j5=>J.f λ_ j6=>J.b O<|J.g ((qAR O O O xB)) O<|J.b O<|J.g (qAO qAn O O) O<|J.g (qAS O O O) O<|J.c j6<|J.Z O (λh9=>?_) (λh9=>?_)
  ·
    refine J.M j5<|J.k λ_ j7=>J.T<|J.b1 [F] [] (.y 0 (.y 1 (.y 2 (.y 3 (.y 4 (.y 5 (.y 6 (.y 7 (.y 8 (.y 9 (.e 10 (.e 11 (.e 12 (.y 13 .nil)))))))))))))) Tryz.wide xF xD ?_
    iterate 3 refine J.L ?_
    refine J.j O (qAF O O O qAn z9_ hl xB) O O<|J.j O (qAI O O b9_ (m:=F) xD (hl.elem (qAc (Mk.getS (l:=ls) (j:=2*k) xB)))) O O<|J.L ?_
    refine J.L ?_
    refine J.j O ((qAR O O O xB).nat (2*k+1) xB) O O<|J.j O (qAF O O O qAn z9_ hl xB) O O<|J.j O (qAI O O b9_ (m:=F) xD (hl.elem (qAc (Mk.getS (l:=ls) (j:=2*k+1) xB)))) O O<|J.a1 O (qAZ O O (λF' hF=>qMO F' (hK.mono (Fa hF)) (ls.getD (2*k) []) (ls.getD (2*k+1) []) (hsm _ (Mk.getS_mem xB)) (hsm _ (Mk.getS_mem xB)))) O xD λg22 _=>J.a1 O (qAE (l:= [.tmp 22]) (xs:= [[Str (Mk.node (ls.getD (2*k) []) (ls.getD (2*k+1) []))]]) O O O O qAn el9 O xC xC xD) O xD λg23 _=>J.a1 O (qAX (i:=1) (m2:=blk g23 [Str (Mk.node (ls.getD (2*k) []) (ls.getD (2*k+1) []))] 9) O O O qAn qAn el9 O hrow xD (qAm (q:=True) (xs:=qAH [Mk.node (ls.getD (2*k) []) (ls.getD (2*k+1) [])]) O (by simp [qAH])).sl (qKC _) xB xB) O xD ?_
    rintro⟨A24,c24,m24⟩ h24
    try dsimp only at h24
    rw [←qCL,←Mk.above_succ ls k] at h24
    refine J.b7 ?_
    refine J.b0<|J.a2<|J.u (J.D j7 ?_)
    refine J.c2 [0,1] [F,m24] O xC<|J.H<|J.b O<|J.g ((qAR O O O xB).nat (2*(k+1)) xB) O<|J.b O<|J.a4<|J.u<|J.a8 (k+1,A24,c24,m24) (λx (hx:_∧n-x.1<n-k)=>hI0 x hx.1 hx.2) ⟨⟨by dsimp only;omega,h24⟩,by dsimp only;omega⟩ ⟨O,O,O,trivial⟩ (λ_ h=>h)
  refine J.b3<|J.a0<|J.a0<|J.b4 ?_
  refine J.u (J.D j3 ?_)
  refine J.f λ_ j8=>J.p 2 O<|J.c j8<|J.A ?_
  have hk2:k=n/2:=xB
  subst hk2
  exact J.E hw0 O (A1,c1,m) O (by rw [←hlen] at hrow;unfold Mk.above;rw [←hlen];exact hrow) [0,1] O xC
theorem qWu(F:Hp)(hK:qAG F ⟨3,0,none⟩ (Sha.K.map W32))(A:Option Addr)(n c:Nat)(ls:List xA)(hl:Sl F 1 A n c (qAH ls))(h:Nat)(h6:h≤6)(hn:n=2^h)(hsm: ∀s∈ls,s.length≤1048576):
    Cz prog 55 [.slice A n c] F (.tuple #[Str (Mk.root ls h),I 0]):=by
  have hlen:ls.length=n:=by have:=hl.1;simpa [qAH] using this
  have hR:Mk.Right n:=by rw [hn];exact Mk.right_pow h h6
  have hn64:n≤64:=by unfold Mk.Right at hR;omega
  have hlv: ∀j,j≤h→(Mk.lvl ls j).length=2^(h-j):=Mk.lvl_length ls h xB
  have hle: ∀j,2^(h-j)≤64:=λj=>jg (jn xC (show h-j≤6 by omega)) xC
  refine Ct.walk func55 O ntmps55 O (λw0 hw0=>?_)
  refine J.f λ_ j1=>J.p 2 O<|J.c j1<|J.k λ_ j2=>J.f λ_ j3=>J.b O<|J.g (qAO qAn O O) O<|J.q (qAK O O ent (qNE F n xB)) O λg6 _=>J.g ((qFc O O).as (v':= .bool false) (by simp [hR])) O<|J.c6 [0,1] [F,(λ_=>none)] O xC<|J.c j3<|J.a3 ?_
  refine J.M j2<|J.k λ_ j4=>J.T<|J.b5 (X:=Nat×Option Addr×Nat×Hp) (λx=> [(0,.slice x.2.1 (Mk.lvl ls x.1).length x.2.2.1)]) (λx=> [F,x.2.2.2]) (λx=>x.1≤h∧ ∃mm∈ [F,x.2.2.2],Sl mm 1 x.2.1 (Mk.lvl ls x.1).length x.2.2.1 (qAH (Mk.lvl ls x.1))) (λx=>h-x.1) (0,A,c,λ_=>none) (⟨jE _,F,.head _,by rw [show(Mk.lvl ls (0,A,c,(λ_=>none:Hp)).1).length=n from hlen];exact hl⟩) ⟨by rw [←hlen];rfl,trivial⟩ (λ_ h=>h) ?_
  rintro⟨j,A1,c1,m⟩ ⟨hj,mm,hmm,hsl⟩ I0 hI0
  dsimp only at hj hmm hsl⊢
  have hj2:=hlv j hj
  have hj3:=hle j
  have hpos:0<(Mk.lvl ls j).length:=by rw [hj2];exact zA _
  have hmm2:mm=F∨mm=m:=by simpa using hmm
  refine J.k λ_ j5=>J.f λ_ j6=>J.b O<|J.g (qAO qAn O O) O<|J.g (qA5 O O O) O<|J.c j6<|J.Z O (λh10=>?_) (λh10=>?_)
  ·
    refine J.M j5<|J.T ?_
    have hjh:j<h:=by
      rcases zo j h with hlt|hge
      · exact hlt
      · rw [hj2,show h-j=0 by omega] at h10;simp at h10
    refine J.H<|J.b O<|J.q (qBb O O (λF' hF=>qOG F' (hK.mono (Fa hF)) A1 (Mk.lvl ls j).length c1 (Mk.lvl ls j) (hsl.mono (hF _ (by rcases hmm2 with rfl|rfl<;>simp))) (Mk.lvl_small ls hsm j) xB)) O ?_
    rintro⟨A12,c12,m12⟩ h12
    try dsimp only at h12
    refine J.c2 [0,2] [F,m12] O xC<|J.b O<|J.a4<|J.a2<|J.u<|J.a8 (j+1,A12,c12,m12) (λx (hx:_∧h-x.1<h-j)=>hI0 x hx.1 hx.2) ⟨⟨by dsimp only;omega,m12,by simp,by rw [Mk.lvl_succ_length];exact h12.sl⟩,by dsimp only;omega⟩ ⟨by rw [Mk.lvl_succ_length];rfl,trivial⟩ (λ_ h=>h)
  refine J.b3<|J.a0<|J.a0<|J.b4 ?_
  refine J.u (J.D j4 ?_)
  refine J.k λ_ j7=>?_
  have hjh:j=h:=by
    rcases zo j h with hlt|hge
    · have:=Nat.one_lt_two_pow_iff.2 (show h-j≠0 by omega)
      omega
    · omega
  exact J.H<|J.b O<|J.g (qAF O O O qAn z9_ hsl hpos) O<|J.g (qAI O O b9_ hmm (hsl.elem (qAc (Mk.getS (l:=Mk.lvl ls j) (j:=0) hpos)))) O<|J.p 2 O<|J.c j7<|J.A<|J.a9 hw0 (λ_ _ h=>h) (qBw O O O) (qAg () (by rw [hjh];rfl) trivial [0] O xC)
theorem qXI(F:Hp)(hK:qAG F ⟨3,0,none⟩ (Sha.K.map W32))(A:Option Addr)(n c:Nat)(ls:List xA)(hl:Sl F 1 A n c (qAH ls))(h:Nat)(h6:h≤6)(hn:n=2^h)(hsm: ∀s∈ls,s.length≤1048576)(i:Nat)(hi:i<n):
    Ct prog 167 [.slice A n c,I i] [F] (λx:Option Addr×Nat×Hp=> .tuple #[.slice x.1 h x.2.1,I 0]) (λx=>Row x.2.2 9 1 x.1 h x.2.1 (qAH (Mk.path ls i h))) (λx=> [F,x.2.2]):=by
  have hlen:ls.length=n:=by have:=hl.1;simpa [qAH] using this
  have hR:Mk.Right n:=by rw [hn];exact Mk.right_pow h h6
  have hn64:n≤64:=by unfold Mk.Right at hR;omega
  have hlv: ∀j,j≤h→(Mk.lvl ls j).length=2^(h-j):=Mk.lvl_length ls h xB
  have hle: ∀j,2^(h-j)≤64:=λj=>jg (jn xC (show h-j≤6 by omega)) xC
  refine Ct.walk func167 O ntmps167 O (λw0 hw0=>?_)
  refine J.f λ_ j1=>J.p 2 O<|J.c j1<|J.k λ_ j2=>J.T<|J.f λ_ j3=>J.b O<|J.g (qAO qAn O O) O<|J.q (qAK O O ent (qNE F n xB)) O λg10 _=>J.g ((qFc O O).as (v':= .bool false) (by simp [hR])) O<|J.b O<|J.c j3<|J.a3 ?_
  refine J.f λ_ j4=>J.b O<|J.g ((qAS O O O).no xB) O<|J.p 3 O<|J.G (qAO qAn O O) O<|J.G ((qBI O O O).no xB) O<|J.p 2 O<|J.c j4<|J.a3 ?_
  refine J.b2<|J.a2<|J.u (J.D j2 ?_)
  refine J.k λ_ j5=>J.c6 [0,1] [F,(λ_=>none)] O xC<|J.c6 [0,1,2] [F,(λ_=>none),(λ_=>none)] O xC<|J.H<|J.b O<|J.c j5<|J.k λ_ j6=>J.T<|J.b5 (X:=Nat×Option Addr×Nat×Hp×Option Addr×Nat×Hp) (λx=> [(0,.slice x.2.1 (Mk.lvl ls x.1).length x.2.2.1),(1,I (i/2^x.1:Nat)),(6,.slice x.2.2.2.2.1 x.1 x.2.2.2.2.2.1)]) (λx=> [F,x.2.2.2.2.2.2,x.2.2.2.1]) (λx=>x.1≤h∧(∃mm∈ [F,x.2.2.2.1],Sl mm 1 x.2.1 (Mk.lvl ls x.1).length x.2.2.1 (qAH (Mk.lvl ls x.1)))∧Row x.2.2.2.2.2.2 9 1 x.2.2.2.2.1 x.1 x.2.2.2.2.2.1 (qAH (Mk.path ls i x.1))) (λx=>h-x.1) (0,A,c,(λ_=>none),none,0,λ_=>none) (⟨jE _,⟨F,.head _,by rw [show(Mk.lvl ls (0,A,c,(λ_=>none:Hp)).1).length=n from hlen];exact hl⟩,qBZ.nil⟩) ⟨by rw [←hlen];rfl,by rw [Nat.pow_zero,Nat.div_one];rfl,O,trivial⟩ (λ_ h=>h) ?_
  rintro⟨j,A1,c1,m,A2,c2,m2⟩ ⟨hj,⟨mm,hmm,hsl⟩,hrow⟩ I0 hI0
  dsimp only at hj hmm hsl hrow⊢
  have hj2:=hlv j hj
  have hj3:=hle j
  have hpos:0<(Mk.lvl ls j).length:=by rw [hj2];exact zA _
  have hmm2:mm=F∨mm=m:=by simpa using hmm
  have hmF:mm∈ [F,m2,m]:=by rcases hmm2 with rfl|rfl<;>simp
  refine J.k λ_ j7=>J.f λ_ j8=>J.b O<|J.g (qAO qAn O O) O<|J.g (qA5 O O O) O<|J.c j8<|J.Z O (λh23=>?_) (λh23=>?_)
  ·
    refine J.M j7<|J.k λ_ j9=>J.T ?_
    have hjh:j<h:=by
      rcases zo j h with hlt|hge
      · exact hlt
      · rw [hj2,show h-j=0 by omega] at h23;simp at h23
    have hij:i/2^j<2^(h-j):=by
      rw [yB (zA j),←Nat.pow_add,show h-j+j=h by omega,←hn];exact hi
    have hx1:i/2^j^^^1<(Mk.lvl ls j).length:=by
      rw [hj2,show h-j=(h-j-1)+1 by omega,jw,z7]
      refine Mk.xor_one _ _ ?_
      rw [show h-j=(h-j-1)+1 by omega,jw,z7] at hij;exact hij
    refine J.H<|J.p 3 O<|J.g (qXO O O O ⟨zP (zt _ _) (show i<9223372036854775808 by omega),xC⟩) O<|J.g (qAF O O O qAn z9_ hsl hx1) O<|J.g (qAI O O b9_ hmF (hsl.elem (qAc (Mk.getS (l:=Mk.lvl ls j) (j:=i/2^j^^^1) hx1)))) O<|J.q (qAE (l:= [.tmp 33]) (xs:= [[Str ((Mk.lvl ls j).getD ((i/2^j)^^^1) [])]]) O O O O qAn el9 O xC xC xD) O λg34 _=>J.q (qAX (i:=1) (m2:=blk g34 [Str ((Mk.lvl ls j).getD ((i/2^j)^^^1) [])] 9) O O O qAn qAn el9 O hrow xD (qAm (q:=True) (xs:=qAH [((Mk.lvl ls j).getD ((i/2^j)^^^1) [])]) O (by simp [qAH])).sl (qKC _) xB xB) O ?_
    rintro⟨A35,c35,m35⟩ h35
    try dsimp only at h35
    rw [←qCL,←Mk.path_succ] at h35
    refine J.b O<|J.a4<|J.a2<|J.u (J.D j9 ?_)
    refine J.H<|J.b O<|J.q (qBb O O (λF' hF=>qOG F' (hK.mono (Fa hF)) A1 (Mk.lvl ls j).length c1 (Mk.lvl ls j) (hsl.mono (hF _ (by rcases hmm2 with rfl|rfl<;>simp))) (Mk.lvl_small ls hsm j) xB)) O ?_
    rintro⟨A25,c25,m25⟩ h25
    try dsimp only at h25
    refine J.c2 [0,1,4] [F,m35,m25] O xC<|J.b O<|J.g ((qIK O O O ⟨Int.natCast_nonneg _,xC,Int.ofNat_le.2 (jg (zt _ _) (show i≤9223372036854775807 by omega))⟩).as (v':=I (i/2^(j+1):Nat)) (congrArg I (by rw [jw,←zz];rfl))) O<|J.p 2 O<|J.a4<|J.u<|J.a8 (j+1,A25,c25,m25,A35,c35,m35) (λx (hx:_∧h-x.1<h-j)=>hI0 x hx.1 hx.2) ⟨⟨by dsimp only;omega,⟨m25,by simp,by rw [Mk.lvl_succ_length];exact h25.sl⟩,h35⟩,by dsimp only;omega⟩ ⟨by rw [Mk.lvl_succ_length];rfl,O,O,trivial⟩ (λ_ h=>h)
  refine J.b3<|J.a0<|J.a0<|J.b4 ?_
  refine J.u (J.D j6 ?_)
  refine J.k λ_ j10=>?_
  have hjh:j=h:=by
    rcases zo j h with hlt|hge
    · have:=Nat.one_lt_two_pow_iff.2 (show h-j≠0 by omega)
      omega
    · omega
  exact J.H<|J.p 3 O<|J.c j10<|J.A<|J.a9 hw0 (λ_ _ h=>h) (qBw O O O) (qAg (A2,c2,m2) (by rw [hjh]) (by rw [hjh] at hrow;exact hrow) [0,1] O xC)
theorem qVB(F:Hp)(hK:qAG F ⟨3,0,none⟩ (Sha.K.map W32))(xx:xA)(i:Nat)(A:Option Addr)(n c:Nat)(ls:List xA)(hl:Sl F 1 A n c (qAH ls))(hx:xx.length≤1048576)(hsm: ∀s∈ls,s.length≤1048576)(hi:i<9223372036854775808)(hn:n≤1048576):
    Cz prog 245 [Str xx,I i,.slice A n c] F (Str (Mk.climb xx i ls)):=by
  have hlen:ls.length=n:=by have:=hl.1;simpa [qAH] using this
  refine Ct.walk func245 O ntmps245 O (λw0 hw0=>?_)
  refine J.f λ_ j1=>J.b O<|J.c j1<|J.k λ_ j2=>J.f λ_ j3=>J.b O<|J.g (qAO qAn O O) O<|J.b O<|J.c j3<|J.T<|J.b5 (X:=Nat×xA×Nat) (λx=> [(0,Str x.2.1),(1,I x.2.2),(9,.slice A n c),(10,I n),(11,I x.1)]) (λ_=> [F]) (λx=>x.1≤n∧x.2.1.length≤1048576∧x.2.2≤i∧Mk.climb x.2.1 x.2.2 (ls.drop x.1)=Mk.climb xx i ls) (λx=>n-x.1) (0,xx,i) (⟨jE _,hx,jJ _,O⟩) ⟨O,O,O,O,O,trivial⟩ (λ_ h=>h) ?_
  rintro⟨k,y,j⟩ ⟨hk,hy,hji,hc⟩ I0 hI0
  dsimp only at hk hy hji hc⊢
  refine J.f λ_ j4=>J.g (qAS O O O) O<|J.c j4<|J.k λ_ j5=>J.Z O (λh12=>?_) (λh12=>?_)
  ·
    refine J.M j5<|J.k λ_ j6=>J.T<|J.k λ_ j7=>?_
    have hkn:k<n:=xB
    obtain ⟨s,hs⟩: ∃s,ls[k]?=some s:=⟨_,jC xB⟩
    have hdr:ls.drop k=s::ls.drop (k+1):=by
      obtain ⟨hk2,rfl⟩:=List.getElem?_eq_some_iff.1 hs
      exact zD hk2
    rw [hdr,Mk.climb] at hc
    refine J.H<|J.g (qAF O O O qAn z9_ hl xB) O<|J.g (qAI O O b9_ (m:=F) xD (hl.elem (qAc hs))) O<|J.b O<|J.c j7<|J.k λ_ j8=>J.f λ_ j9=>J.b O<|J.g (qMJ (a:=j) (b:=1) O O O xB) O<|J.g (qAe O O O) O<|J.c j9<|J.Z O (λh17=>?_) (λh17=>?_)
    ·
      refine J.H<|J.p 2 O<|J.q (qAZ O O (λF' hF=>qMO F' (hK.mono (Fa hF)) y s hy (hsm _ (jM hs)))) O λg20 _=>J.b O<|J.c j8<|J.H<|J.b O<|J.g ((qDA (m:=1) O O O xB).nat (j/2) xB) O<|J.b O<|J.a4<|J.a2<|J.u (J.D j6 ?_)
      refine J.H<|J.g (qAR O O O xB) O<|J.b O<|J.a4<|J.u ?_
      rw [if_pos (by rw [Nat.and_one_is_mod] at h17;omega)] at hc
      refine J.a8 (k+1,Mk.node y s,j/2) (λx (hx:_∧n-x.1<n-k)=>hI0 x hx.1 hx.2) ⟨⟨by dsimp only;omega,by dsimp only;rw [Mk.node_length];decide,by dsimp only;omega,hc⟩,by dsimp only;omega⟩ ⟨O,O,O,O,O,trivial⟩ (λ_ h=>h)
    refine J.H<|J.p 2 O<|J.q (qAZ O O (λF' hF=>qMO F' (hK.mono (Fa hF)) s y (hsm _ (jM hs)) hy)) O λg23 _=>J.b O<|J.c j8<|J.H<|J.b O<|J.g ((qDA (m:=1) O O O xB).nat (j/2) xB) O<|J.b O<|J.a4<|J.a2<|J.u (J.D j6 ?_)
    refine J.H<|J.g (qAR O O O xB) O<|J.b O<|J.a4<|J.u ?_
    rw [if_neg (by rw [Nat.and_one_is_mod] at h17;omega)] at hc
    refine J.a8 (k+1,Mk.node s y,j/2) (λx (hx:_∧n-x.1<n-k)=>hI0 x hx.1 hx.2) ⟨⟨by dsimp only;omega,by dsimp only;rw [Mk.node_length];decide,by dsimp only;omega,hc⟩,by dsimp only;omega⟩ ⟨O,O,O,O,O,trivial⟩ (λ_ h=>h)
  refine J.b3<|J.a0<|J.a0<|J.b4 ?_
  refine J.u (J.D j2 ?_)
  refine J.k λ_ j10=>?_
  rw [js xB] at hc
  exact J.H<|J.p 2 O<|J.c j10<|J.A<|J.E hw0 O () (by rw [←hc];rfl) trivial [0] O xC
end Go.Proofs.YtmemgokiolfdoaaGreatDoor
namespace Go.Proofs.YtmemgokiolfdoaaGreatDoor
open Go Go.Fw Go.Proofs.Tryz
attribute [local irreducible] Mk.node
namespace Mk
theorem qWI(m:Nat):m^^^1=if m%2=0 then m+1 else m-1:=by
 have e1:(m^^^1)/2=m/2:=by rw [Nat.xor_div_two];simp
 have e2:(m^^^1)%2=(m%2)^^^1:=Nat.xor_mod_two_pow (n:=1)
 rcases Nat.mod_two_eq_zero_or_one m with h|h
 · rw [h,show(0:Nat)^^^1=1 from rfl] at e2;rw [if_pos h];omega
 · rw [h,show(1:Nat)^^^1=0 from rfl] at e2;rw [if_neg xB];omega
theorem qSq(l:List xA)(k:Nat):(above l)[k]?=if k<l.length/2 then some (node (l.getD (2*k) []) (l.getD (2*k+1) [])) else none:=by
 unfold above
 rw [jN]
 by_cases h:k<l.length/2
 · rw [if_pos h,zB h];rfl
 · rw [if_neg h,jd (by simpa using Nat.le_of_not_lt h)];rfl
theorem qJ8{k:Nat}(h:0<k):2^k%2=0:=by
 rw [show k=(k-1)+1 by omega,jw];omega
end Mk
attribute [local irreducible] Mk.root Mk.path
end Go.Proofs.YtmemgokiolfdoaaGreatDoor
namespace Go.Proofs.YtmemgokiolfdoaaGreatDoor
open Go Go.Fw Go.Proofs.Tryz
attribute [local irreducible] Mk.node
namespace Mk
theorem qIg(s:xA): ∀(p:List xA) (x:xA) (i:Nat),climb x i (p++ [s])=if i/2^p.length%2=0 then node (climb x i p) s else node s (climb x i p)
 | [],x,i=>by simp [climb]
 |a::p,x,i=>by
  rw [zy,climb,climb,qIg s p,jD,jw,z7,←zz]
theorem qLR(l:List xA)(h i:Nat)(hl:l.length=2^h)(hi:i<2^h): ∀j,j≤h→climb (l.getD i []) i (path l i j)=(lvl l j).getD (i/2^j) []
  |0,_=>by simp [path,climb,lvl]
  |j+1,hj=>by
    have hlen:=lvl_length l h hl j xB
    have h1:i/2^j<2^(h-j):=by rw [yB (zA j),←Nat.pow_add,show h-j+j=h by omega];exact hi
    have h2:=qJ8 (show 0<h-j by omega)
    rw [path_succ,qIg,qLR l h i hl hi j xB,path_length,jw,←zz]
    generalize i/2^j=q at*
    rw [show lvl l (j+1)=above (lvl l j) from rfl,jB (l:=above (lvl l j)),qSq,hlen,if_pos (show q/2<2^(h-j)/2 by omega),qWI]
    split
    · rename_i e
      rw [show 2*(q/2)=q by omega];rfl
    · rename_i e
      rw [show 2*(q/2)=q-1 by omega,show q-1+1=q by omega];rfl
theorem climb_root(l:List xA)(h i:Nat)(hl:l.length=2^h)(hi:i<2^h):climb (l.getD i []) i (path l i h)=root l h:=by
 rw [qLR l h i hl hi h (jJ _),zJ hi];rfl
theorem flat_small{ls:List xA}{w:Nat}(h: ∀s∈ls,s.length≤w):ls.flatten.length≤w*ls.length:=by
 induction ls with
 |nil=>simp
 |cons a l ih=>
  have:=ih (λs hs=>h s (.tail _ hs))
  have h2:=h a (.head _)
  rw [ji,jA,jD,Nat.mul_add];omega
end Mk
namespace Sha
end Sha
attribute [local irreducible] Sha.tagB Mk.root Mk.path
end Go.Proofs.YtmemgokiolfdoaaGreatDoor