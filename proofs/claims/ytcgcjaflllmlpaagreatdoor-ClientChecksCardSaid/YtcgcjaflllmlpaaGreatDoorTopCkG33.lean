/- A part of the proof. -/
import Derived.Test.YtcgcjaflllmlpaaGreatDoorTopCkG32
set_option maxRecDepth 100000
set_option maxHeartbeats 1000000
set_option linter.unusedSimpArgs false
set_option linter.unusedVariables false
namespace Go.Proofs.YtcgcjaflllmlpaaGreatDoor
open Go Go.Fw Go.Proofs.Tryz
theorem el281:qCt prog 281 [.int .u64 0,.int .u64 0,.int .i64 0,.int .i64 0,Str [],Str []] 64:=qCt.of xI O
theorem qS6(g:Nat):Wtr (blk g [.pointer none,.slice none 0 0,I 0] 158) g [] 0:=
 ⟨[.pointer none,.slice none 0 0,I 0],λ_=>none,none,0,none,by funext k;simp only [U];cases blk g [.pointer none,.slice none 0 0,I 0] 158 k<;>rfl,λ_=> .inr O,O,⟨O,.inl O,O,qBh.nil,.inl O⟩,O⟩
theorem qPl{n:UInt64}{size:Nat}(h:n.toNat<2^(8*size))(bs:xA):qLY n size bs 0=bs++Sha.numB n size∧qCU (okN n size) 10 0=0:=by
 have e:okN n size=true:=decide_eq_true h
 have f:qCU (okN n size) 10 0=0:=by unfold qCU;rw [e,if_neg xD]
 exact⟨by unfold qLY;rw [if_pos f],f⟩
def qWG(s:xA):xA:=(Sha.tagged 8 [s]).take 8
def qLC(turn num:UInt64)(s:xA):xA:=(Sha.tagged 7 [Sha.numB turn 4,Sha.numB num 2,s]).take 8
theorem qCs(F:Hp)(n:UInt64)(size:Nat)(h1:1≤size)(h8:size<8)(hn:n.toNat<2^(8*size)):
    Cz prog 212 [W64 n,I size] F (Str (Sha.numB n size)):=by
  refine Ct.walk func212 O ntmps212 O (λw0 hw0=>?_)
  refine J.g λ_ j1=>J.b O<|J.c j1<|J.g λ_ j2=>J.p (qAJ O qKy O) O λg5 _=>J.c j2<|J.g λ_ j3=>J.k 2 O<|J.p (qAK O O ent (Ct.use1 1 O (λF' _=>qDw F' (blk g5 [.pointer none,.slice none 0 0,I 0] 158) g5 [] 0 (qS6 g5) xC n size h1 h8))) O ?_
  rintro m11 hw11
  rw [(qPl hn []).1,(qPl hn []).2,jq] at hw11
  refine J.p (qAK O O ent (Ct.use1 1 O (λF' _=>qDa F' m11 g5 (Sha.numB n size) 0 hw11 (by rw [Sha.numB_length];omega)))) O ?_
  rintro m12 _
  exact J.k 5 O<|J.c j3<|J.g λ_ j4=>J.k 2 O<|J.c j4<|J.A<|J.E hw0 O () O trivial [0] O xC
theorem qSV(F:Hp)(hK:KF F)(s:xA)(hs:s.length≤1048576):Cz prog 213 [Str s] F (Str (qWG s)):=by
 refine Ct.walk func213 O ntmps213 O (λw0 hw0=>?_)
 exact J.g λ_ j1=>J.b O<|J.c j1<|J.g λ_ j2=>J.b O<|J.p (qAE (l:= [.tmp 3]) (xs:= [[Str (s)]]) O O O O qAk el9 O xC xC xD) O λg4 _=>J.p (qAa O O (λF' hF=>qA6 F' (hK.mono (Fa hF)) 8 (some ⟨g4,0,none⟩) 1 1 [s] ((slS [s] O).mono (hF (blk g4 (([s]:List xA).map λs=>Str s) 9) xD)) xK xC)) O λg5 _=>J.f ((qBD u9_ O O O O (by rw [Sha.tagged_length];decide)).as (v':=Str (qWG s)) (congrArg Str zn)) O<|J.b O<|J.c j2<|J.A<|J.E hw0 O () O trivial [0] O xC
theorem qU8(F:Hp)(hK:KF F)(turn num:UInt64)(s:xA)(ht:turn.toNat<2^(8*4))(hn:num.toNat<2^(8*2))(hs:s.length≤1048576):Cz prog 207 [W64 turn,W64 num,Str s] F (Str (qLC turn num s)):=by
 refine Ct.walk func207 O ntmps207 O (λw0 hw0=>?_)
 exact J.g λ_ j1=>J.b O<|J.c j1<|J.g λ_ j2=>J.b O<|J.p (qAa O O (λF' hF=>qCs F' turn 4 xC xC ht)) O λg8 _=>J.b O<|J.p (qAa O O (λF' hF=>qCs F' num 2 xC xC hn)) O λg10 _=>J.b O<|J.p (qAE (l:= [.tmp 8,.tmp 10,.tmp 11]) (xs:= [[Str (Sha.numB turn 4)],[Str (Sha.numB num 2)],[Str (s)]]) O O O O qAk el9 O xC xC xD) O λg12 _=>J.p (qAa O O (λF' hF=>qA6 F' (hK.mono (Fa hF)) 7 (some ⟨g12,0,none⟩) 3 3 [Sha.numB turn 4,Sha.numB num 2,s] ((slS [Sha.numB turn 4,Sha.numB num 2,s] O).mono (hF (blk g12 (([Sha.numB turn 4,Sha.numB num 2,s]:List xA).map λs=>Str s) 9) xD)) (by simp only [jc,js,jR,jA,Sha.numB_length];omega) xC)) O λg13 _=>J.f ((qBD u9_ O O O O (by rw [Sha.tagged_length];decide)).as (v':=Str (qLC turn num s)) (congrArg Str zn)) O<|J.b O<|J.c j2<|J.A<|J.E hw0 O () O trivial [0] O xC
def qBg(n:Nat):Nat:=if n<1 then 1 else(n-1)/39+1
theorem qGy(F:Hp)(n:Nat)(hn:n≤1048576):Cz prog 69 [I n] F (I (qBg n:Nat)):=by
 refine Ct.walk func69 O ntmps69 O (λw0 hw0=>?_)
 refine J.g λ_ j1=>J.b O<|J.c j1<|J.q λ_ j2=>J.g λ_ j3=>J.b O<|J.f (qAS O O O) O<|J.c j3<|J.a0 O (λh4=>?_) (λh4=>?_)
 ·
  exact J.g λ_ j4=>J.b O<|J.c j4<|J.A<|J.W<|J.E hw0 O () (by unfold qBg;rw [if_pos xB];rfl) trivial [0] O xC
 exact J.T j2<|J.g λ_ j5=>J.b O<|J.f ((qA3 O O O xB).nat (n-1) xB) O<|J.f ((qIA O O O xB).as (v':=I ((n-1)/39:Nat)) (congrArg I (Int.ofNat_tdiv _ _).symm)) O<|J.f (qAQ O O O xB) O<|J.b O<|J.c j5<|J.A<|J.E hw0 O () (by unfold qBg;rw [if_neg xB];rfl) trivial [0] O xC
structure Prt where
 turn:UInt64
 num:UInt64
 at_:Nat
 all:Nat
 name:xA
 con:xA
def Prt.cells(p:Prt):List Value:= [W64 p.turn,W64 p.num,I p.at_,I p.all,Str p.name,Str p.con]
structure Prt.ok (p:Prt):Prop where
 t:p.turn.toNat<2^(8*4)
 n:p.num.toNat<2^(8*2)
 a:p.at_<256
 l:p.all<256
 m:p.name.length≤8
 c:p.con.length≤39
def Prt.b1(p:Prt):xA:=Sha.numB p.turn 4++Sha.numB p.num 2
def Prt.b2(p:Prt):xA:=p.b1++Sha.numB (UInt64.ofNat p.at_) 1
def Prt.b3(p:Prt):xA:=p.b2++Sha.numB (UInt64.ofNat p.all) 1
def Prt.b4(p:Prt):xA:=p.b3++Sha.numB (UInt64.ofNat p.con.length) 1
def Prt.b5(p:Prt):xA:=p.b4++p.name
def Prt.body(p:Prt):xA:=p.b5++p.con
def Prt.pad(p:Prt):xA:=p.body++List.replicate (56-p.body.length) 0
def Prt.text(p:Prt):xA:=p.pad++qWG p.pad
theorem qOC(s:xA):(qWG s).length=8:=by unfold qWG;rw [jF,Sha.tagged_length];rfl
theorem qSZ(t n:UInt64)(s:xA):(qLC t n s).length=8:=by unfold qLC;rw [jF,Sha.tagged_length];rfl
theorem Prt.b4_len(p:Prt):p.b4.length=9:=by unfold Prt.b4 Prt.b3 Prt.b2 Prt.b1;simp only [jA,Sha.numB_length]
theorem Prt.body_len(p:Prt):p.body.length=9+p.name.length+p.con.length:=by unfold Prt.body Prt.b5;rw [jA,jA,p.b4_len]
theorem Prt.pad_len{p:Prt}(h:p.ok):p.pad.length=56:=by
 have:=p.body_len
 have:=h.m
 have:=h.c
 unfold Prt.pad;rw [jA,jJ];omega
theorem Prt.text_len{p:Prt}(h:p.ok):p.text.length=64:=by unfold Prt.text;rw [jA,p.pad_len h,qOC]
theorem n1ok{n:Nat}(h:n<256):(UInt64.ofNat n).toNat<2^(8*1):=by rw [qBF xB];exact h
theorem qNF(F:Hp)(hK:KF F)(p:Prt)(hp:p.ok):Cz prog 185 [.agg p.cells.toArray] F (Str p.text):=by
 obtain ⟨h1,h2,h3,h4,h5,h6⟩:=hp
 have hbl:=p.body_len
 have hpl:=Prt.pad_len ⟨h1,h2,h3,h4,h5,h6⟩
 refine Ct.walk func185 O ntmps185 O (λw0 hw0=>?_)
 refine J.g λ_ j1=>J.p (qAZ O O O) O λg1 _=>J.b O<|J.c j1<|J.q λ_ j2=>J.b1 [blk g1 p.cells 281] [] (.y 0 (.y 1 (.y 3 (.y 4 (.y 7 (.y 8 (.y 9 (.y 12 (.y 13 (.y 14 (.y 17 (.y 18 (.y 19 (.y 20 (.y 23 (.y 24 (.y 26 (.y 27 (.e 2 (.e 5 (.y 6 (.e 10 (.y 11 (.e 15 (.y 16 (.e 21 (.y 22 (.y 25 (.y 28 (.y 29 .nil)))))))))))))))))))))))))))))) Tryz.wide xF xD ?_
 refine J.j O (qAA O O qEu O qEW O) O O<|J.j O (qAC 0 O O O qFM O) O O<|J.j O (qAA O O qEu O qEW O) O O<|J.j O (qAC 0 O O O qFM O) O O<|J.j O (qAA O O qEu O z3_ O) O O<|J.j O (qAC 0 O O O b3_ O) O O<|J.j O (qAx O O u3_ qEd xB) O O<|J.j O (qAA O O qEu O z3_ O) O O<|J.j O (qAC 0 O O O b3_ O) O O<|J.j O (qAx O O u3_ qEd xB) O O<|J.j O (qAA O O qEu O z9_ O) O O<|J.j O (qAC 0 O O O b9_ O) O O<|J.j O (qAs u9_ O O) O O<|J.j O (qAx O O u3_ qEd xB) O O<|J.j O (qAA O O qEu O z9_ O) O O<|J.j O (qAC 0 O O O b9_ O) O O<|J.j O (qAA O O qEu O z9_ O) O O<|J.j O (qAC 0 O O O b9_ O) O O<|J.Z O (qAa O O (λF' hF=>qCs F' p.turn 4 xC xC h1)) O xD λg6 _=>J.Z O (qAa O O (λF' hF=>qCs F' p.num 2 xC xC h2)) O xD λg9 _=>J.j O ((qBN O O O (by first|(have hb4:=p.b4_len;have hbl:=p.body_len;simp only [jA,jJ,Prt.b4,Prt.b3,Prt.b2,Prt.b1,Prt.b5,Prt.body,Sha.numB_length] at hb4 hbl⊢;omega)|omega)).as (v':=Str (p.b1)) O) O O<|J.Z O (qAa O O (λF' hF=>qCs F' (UInt64.ofNat p.at_) 1 xC xC (n1ok h3))) O xD λg14 _=>J.j O ((qBN O O O (by first|(have hb4:=p.b4_len;have hbl:=p.body_len;simp only [jA,jJ,Prt.b4,Prt.b3,Prt.b2,Prt.b1,Prt.b5,Prt.body,Sha.numB_length] at hb4 hbl⊢;omega)|omega)).as (v':=Str (p.b2)) O) O O<|J.Z O (qAa O O (λF' hF=>qCs F' (UInt64.ofNat p.all) 1 xC xC (n1ok h4))) O xD λg19 _=>J.j O ((qBN O O O (by first|(have hb4:=p.b4_len;have hbl:=p.body_len;simp only [jA,jJ,Prt.b4,Prt.b3,Prt.b2,Prt.b1,Prt.b5,Prt.body,Sha.numB_length] at hb4 hbl⊢;omega)|omega)).as (v':=Str (p.b3)) O) O O<|J.Z O (qAa O O (λF' hF=>qCs F' (UInt64.ofNat p.con.length) 1 xC xC (n1ok xB))) O xD λg25 _=>J.j O ((qBN O O O (by first|(have hb4:=p.b4_len;have hbl:=p.body_len;simp only [jA,jJ,Prt.b4,Prt.b3,Prt.b2,Prt.b1,Prt.b5,Prt.body,Sha.numB_length] at hb4 hbl⊢;omega)|omega)).as (v':=Str (p.b4)) O) O O ?_
 refine J.j O ((qBN O O O (by first|(have hb4:=p.b4_len;have hbl:=p.body_len;simp only [jA,jJ,Prt.b4,Prt.b3,Prt.b2,Prt.b1,Prt.b5,Prt.body,Sha.numB_length] at hb4 hbl⊢;omega)|omega)).as (v':=Str (p.b5)) O) O O<|J.j O ((qBN O O O (by first|(have hb4:=p.b4_len;have hbl:=p.body_len;simp only [jA,jJ,Prt.b4,Prt.b3,Prt.b2,Prt.b1,Prt.b5,Prt.body,Sha.numB_length] at hb4 hbl⊢;omega)|omega)).as (v':=Str (p.body)) O) O O<|J.b7 ?_
 refine J.a9<|J.u (J.G j2 ?_)
 exact J.g λ_ j3=>J.k 2 O<|J.f (qAs u9_ O O) O<|J.f ((qA3 O O O xB).nat (56-p.body.length) xB) O<|J.p (qAa O O (λF' hF=>qFV F' (56-p.body.length) xB)) O λg37 _=>J.f ((qBN O O O (by rw [jJ];omega)).as (v':=Str p.pad) O) O<|J.b O<|J.c j3<|J.g λ_ j4=>J.k 2 O<|J.p (qAa O O (λF' hF=>qSV F' (hK.mono (Fa hF)) p.pad xB)) O λg41 _=>J.f ((qBN O O O (by rw [qOC];omega)).as (v':=Str p.text) O) O<|J.b O<|J.c j4<|J.A<|J.E hw0 O () O trivial [0] O xC
def R0(s:xA):RS:=⟨s.take 56,0⟩
def R1(s:xA):RS:=(R0 s).take 4
def R2(s:xA):RS:=(R1 s).take 2
def R3(s:xA):RS:=(R2 s).take 1
def R4(s:xA):RS:=(R3 s).take 1
def R5(s:xA):RS:=(R4 s).take 1
def R6(s:xA):RS:=(R5 s).take 8
def qYo(s:xA):Nat:=min (qFb ((R4 s).out 1)) 39
def rdp(s:xA):Prt:=⟨UInt64.ofNat (qFb ((R0 s).out 4)),UInt64.ofNat (qFb ((R1 s).out 2)),qFb ((R2 s).out 1),qFb ((R3 s).out 1),(R5 s).out 8,(R6 s).out (qYo s)⟩
def qKb:Prt:=⟨0,0,0,0,[],[]⟩
theorem qCe(st:RS)(n k:Nat)(h:256^n≤k):qFb (st.out n)<k:=
 zK (qMC _) (jZ (jh xC (st.out_len n)) h)
theorem qY7(s:xA):(rdp s).ok:=by
  have h4:=qCe (R0 s) 4 4294967296 xC
  have h2:=qCe (R1 s) 2 65536 xC
  refine⟨?_,?_,qCe _ 1 256 xC,qCe _ 1 256 xC,RS.out_len _ _,jZ (RS.out_len _ _) (Nat.min_le_right _ _)⟩
  · show(UInt64.ofNat (qFb ((R0 s).out 4))).toNat<_
    rw [qBF xB];exact h4
  · show(UInt64.ofNat (qFb ((R1 s).out 2))).toNat<_
    rw [qBF xB];exact h2
def qC2(s:xA):Prt×Bool:=if qWG (s.take 56)=s.drop 56 then(rdp s,decide ((rdp s).text=s)) else(qKb,false)
theorem qNL(F:Hp)(hK:KF F)(s:xA)(hs:s.length=64):Cz prog 206 [Str s] F (.tuple #[.agg (qC2 s).1.cells.toArray,.bool (qC2 s).2]):=by
 have hn4:=qCe (R4 s) 1 256 xC
 refine Ct.walk func206 O ntmps206 O (λw0 hw0=>?_)
 change J _ [(0,_)] _ _ _
 refine J.g λ_ j1=>J.p (qAJ O qMU O) O λg2 _=>?_
 change J _ _ _ [F,blk g2 _ 281] _
 refine J.b O<|J.c j1<|J.q λ_ j2=>J.q λ_ j3=>J.b1 [F] [] (.y 0 (.y 1 (.y 3 (.y 4 (.e 2 (.y 5 .nil)))))) Tryz.wide xF xD ?_
 refine J.L ?_
 refine J.j O ((qBD (l:=0) (h:=56) u9_ O O O O ⟨xB,xB⟩).as (v':=Str (s.take 56)) (congrArg Str zn)) O O<|J.L ?_
 refine J.j O ((qBD (l:=56) (h:=s.length) u9_ O O O O ⟨xB,xB⟩).as (v':=Str (s.drop 56)) (by rw [jp])) O O<|J.Z O (qAa O O (λF' hF=>qSV F' (hK.mono (Fa hF)) (s.take 56) (by rw [jF];omega))) O xD λg9 _=>J.j O (qDv O O O) O O<|J.a9<|J.u (J.G j3 ?_)
 refine J.a0 O (λh12=>?_) (λh12=>?_)
 ·
  refine J.g λ_ j4=>J.f (qAH (l:= []) (vs:= []) (places:= [(0,1),(1,1),(2,1),(3,1),(4,1),(5,1)]) (r:= [W64 0,W64 0,I 0,I 0,Str [],Str []]) O O O qEu qMU (λ_=>xI) O) O<|J.a6 (qAD (l:=qKb.cells) (i:=1) (vs:=qKb.cells) O O O O O qGU O O) O O λ_ _=>?_
  change J _ _ _ [_,blk g2 qKb.cells 281] _
  exact J.b O<|J.c j4<|J.A<|J.W<|J.b0 hw0 (λ_ _ h=>h) (rv2 O (RV.blkA 1 O O isAgg281 qGU) O) (qAn () (by unfold qC2;rw [if_neg (show¬qWG (s.take 56)=s.drop 56 from h12)]) trivial [0] O xC)
 refine J.T j2<|J.g λ_ j5=>J.b O<|J.f ((qBD (l:=0) (h:=56) u9_ O O O O ⟨xB,xB⟩).as (v':=Str (s.take 56)) (congrArg Str zn)) O<|J.p (qAK O O ent (Ct.use (new:=λg=> [RSb g (R0 s)]) (λF' _=>(qXC F' (s.take 56)).mono (φ2:=λ_=>True) (val2:=Ptr) (ms2:=λg=>F':: [RSb g (R0 s)]) id (λ_ _=>rfl) (λ_ h=>h) (λx w0 w _ h=>h.pick [1,0] xC)))) O ?_
 rintro g16 _
 change J _ _ _ [F,blk g2 _ 281,RSb g16 (R0 s)] _
 refine J.b O<|J.c j5<|J.g λ_ j6=>J.b O<|J.p (qAK O O ent (Ct.use1 2 (m':=λ_:Unit=>RSb g16 (R1 s)) (new:=λ_=> []) O (λF' _=>qGo F' g16 (R0 s) 4 xB xB))) O λg18 _=>?_
 change J _ _ _ [_,_,RSb g16 (R1 s)] _
 rw [N_W (show qFb ((R0 s).out 4)<18446744073709551616 from zK (qCe _ 4 (256^4) (jK _)) xC)]
 refine J.b O<|J.p (qAK O O ent (Ct.use1 2 (m':=λ_:Unit=>RSb g16 (R2 s)) (new:=λ_=> []) O (λF' _=>qGo F' g16 (R1 s) 2 xB xB))) O λg20 _=>?_
 change J _ _ _ [_,_,RSb g16 (R2 s)] _
 rw [N_W (show qFb ((R1 s).out 2)<18446744073709551616 from zK (qCe _ 2 (256^2) (jK _)) xC)]
 refine J.b O<|J.p (qAK O O ent (Ct.use1 2 (m':=λ_:Unit=>RSb g16 (R3 s)) (new:=λ_=> []) O (λF' _=>qGo F' g16 (R2 s) 1 xB xB))) O λg22 _=>?_
 change J _ _ _ [_,_,RSb g16 (R3 s)] _
 refine J.f (qEN O O qEd u3_ (by have:=qCe (R2 s) 1 256 xC;omega)) O<|J.b O<|J.p (qAK O O ent (Ct.use1 2 (m':=λ_:Unit=>RSb g16 (R4 s)) (new:=λ_=> []) O (λF' _=>qGo F' g16 (R3 s) 1 xB xB))) O λg25 _=>?_
 change J _ _ _ [_,_,RSb g16 (R4 s)] _
 refine J.f (qEN O O qEd u3_ (by have:=qCe (R3 s) 1 256 xC;omega)) O<|J.f (qAH (l:= [(0,.tmp 18),(1,.tmp 20),(2,.tmp 23),(3,.tmp 26)]) (vs:= [W64 (rdp s).turn,W64 (rdp s).num,I (rdp s).at_,I (rdp s).all]) (places:= [(0,1),(1,1),(2,1),(3,1),(4,1),(5,1)]) (r:= [W64 (rdp s).turn,W64 (rdp s).num,I (rdp s).at_,I (rdp s).all,Str [],Str []]) O O O qEu qMU (λ_=>xI) O) O<|J.p (qAJ O qMU O) O λg5 _=>?_
 change J _ _ _ [_,_,_,blk g5 _ 281] _
 refine J.a6 (qAD (l:=qKb.cells) (i:=3) (vs:= [W64 (rdp s).turn,W64 (rdp s).num,I (rdp s).at_,I (rdp s).all,Str [],Str []]) O O O O O qGU O O) O O λ_ _=>?_
 change J _ _ _ [_,_,_,blk g5 [W64 (rdp s).turn,W64 (rdp s).num,I (rdp s).at_,I (rdp s).all,Str [],Str []] 281] _
 refine J.c j6<|J.g λ_ j7=>J.b O<|J.p (qAK O O ent (Ct.use1 2 (m':=λ_:Unit=>RSb g16 (R5 s)) (new:=λ_=> []) O (λF' _=>qGo F' g16 (R4 s) 1 xB xB))) O λg29 _=>?_
 change J _ _ _ [_,_,RSb g16 (R5 s),_] _
 refine J.f (qEN O O qEd u3_ xB) O<|J.b O<|J.c j7<|J.g λ_ j8=>J.b O<|J.p (qAK O O ent (Ct.use1 2 (m':=λ_:Unit=>RSb g16 (R6 s)) (new:=λ_=> []) O (λF' _=>qKH F' g16 (R5 s) 8))) O λg32 _=>?_
 change J _ _ _ [_,_,RSb g16 (R6 s),_] _
 refine J.M 4 qEu z9_ O O O O O<|J.a6 (qAT (i:=3) (vs:= [Str (rdp s).name]) O O O O O z9_ O xD) O O λ_ _=>?_
 change J _ _ _ [_,_,_,blk g5 [W64 (rdp s).turn,W64 (rdp s).num,I (rdp s).at_,I (rdp s).all,Str (rdp s).name,Str []] 281] _
 refine J.c j8<|J.g λ_ j9=>J.k 2 O<|J.f ((qFr O O O).as (v':=I (qYo s:Nat)) (congrArg I (by unfold qYo;omega))) O<|J.p (qAK O O ent (Ct.use1 2 (m':=λ_:Unit=>RSb g16 ((R6 s).take (qYo s))) (new:=λ_=> []) O (λF' _=>qKH F' g16 (R6 s) (qYo s)))) O λg37 _=>?_
 change J _ _ _ [_,_,RSb g16 ((R6 s).take (qYo s)),_] _
 refine J.M 5 qEu z9_ O O O O O<|J.a6 (qAT (i:=3) (vs:= [Str (rdp s).con]) O O O O O z9_ O xD) O O λ_ _=>?_
 change J _ _ _ [_,_,_,blk g5 (rdp s).cells 281] _
 refine J.c j9<|J.q λ_ j10=>J.b1 [F,blk g5 (rdp s).cells 281] [5,6,100003,100004] (.y 0 (.y 1 (.y 3 (.e 2 (.y 4 (.e 5 (.e 6 .nil))))))) Tryz.wide xF xD ?_
 refine J.j O (qAW 1 O O O isAgg281 qGU O) O O<|J.j O (qAW 1 O O O isAgg281 qGU O) O O<|J.d3 O (qA2 O O) O O O ?_
 refine J.Z O (qAa O O (λF' hF=>qNF F' (hK.mono (Fa hF)) (rdp s) (qY7 s))) O xD λg41 _=>J.d3 O (qBA O O O) O O O ?_
 refine J.c1 O (qAD (l:=qKb.cells) (i:=1) (vs:=(rdp s).cells) O O O O O qGU O O) O O O λ_ _=>?_
 change J _ _ _ [_,blk g2 (rdp s).cells 281,_,_] _
 refine J.d1 O (YOp.eop (qBG O O)) O O O O ?_
 intro _ _
 refine J.a9<|J.u (J.G j10 ?_)
 exact J.A<|J.b0 hw0 (λ_ _ h=>h) (rv2 O (RV.blkA 1 O O isAgg281 qGU) O) (qAn () (by unfold qC2;rw [if_pos (show qWG (s.take 56)=s.drop 56 from Decidable.not_not.1 h12)]) trivial [0] O xC)
theorem qPf:(qC2 (List.replicate 64 0)).2=false∨(qC2 (List.replicate 64 0)).1.turn=0:=by
  unfold qC2
  split
  · right
    show UInt64.ofNat (qFb ((R0 (List.replicate 64 0)).out 4))=0
    decide
  · exact .inl O
theorem qLq(F:Hp)(hK:KF F)(gh:Option Addr)(A:Option Addr)(n c:Nat)(ls:List xA)(hl:Sl F 1 A n c (qAG ls))(hn:0<n)(s:xA)(hs:ls[0]?=some s)(h64:s.length=64)(hok:(qC2 s).2=true)(ht:(qC2 s).1.turn=0):
    Cz prog 173 [.pointer gh,.slice A n c] F (.tuple #[.int .u64 0,Str [],I 0,.bool false]):=by
  refine Ct.walk func173 O ntmps173 O (λw0 hw0=>?_)
  refine J.g λ_ j1=>J.k 4 O<|J.c j1<|J.g λ_ j2=>J.b O<|J.f (qAF (i:=0) O O O qAk z9_ hl hn) O<|J.f (qAI O O b9_ (m:=F) xD (hl.elem (qAY hs))) O<|J.p (qAa O O (λF' hF=>qNL F' (hK.mono (Fa hF)) s h64)) O λg18 _=>J.k 2 O<|J.f ((qAb (v:= .bool (qC2 s).2) O O O).as (v':= .bool true) (by rw [hok])) O<|J.p (qAJ O qMU O) O λg8 _=>J.a6 (qAD (l:=qKb.cells) (i:=1) (vs:=(qC2 s).1.cells) O O O O O qGU O O) O O λ_ _=>J.b O<|J.c j2<|J.q λ_ j3=>J.q λ_ j4=>J.b1 [blk g8 (qC2 s).1.cells 281] [] (.y 0 (.y 1 (.y 2 (.y 3 (.y 4 (.y 5 (.y 6 (.y 7 (.y 8 (.y 9 (.y 10 (.y 11 (.y 12 (.y 13 (.y 14 (.y 15 (.y 16 (.y 17 (.y 18 (.y 19 (.y 20 (.y 21 (.y 22 (.y 23 (.y 24 (.y 25 (.y 26 (.y 27 (.y 28 (.y 29 (.y 30 (.y 31 (.y 32 (.y 33 (.y 34 (.y 35 (.y 36 (.y 37 (.y 38 (.y 39 (.y 40 (.y 41 (.y 42 (.y 43 (.y 44 (.y 45 (.y 46 .nil))))))))))))))))))))))))))))))))))))))))))))))) Tryz.wide xF xD ?_
  refine J.L ?_
  refine J.j O ((qAt O O).as (v':= .bool false) O) O O<|J.L ?_
  refine J.c0 O (qAA O O qEu O z3_ O) O O<|J.c0 O (qAC 0 O O O b3_ O) O O<|J.c0 O (qAe O O O) O O<|J.e2 ?_
  refine J.L ?_
  refine J.b9 (d:=28) O (λh28=>?_) (λh28=>?_)
  ·
    iterate 3 refine J.b2 ?_
    refine J.d7 ?_
    refine J.L ?_
    iterate 9 refine J.b2 ?_
    refine J.d7 ?_
    refine J.L ?_
    iterate 5 refine J.b2 ?_
    refine J.d7 ?_
    refine J.L ?_
    iterate 7 refine J.b2 ?_
    refine J.c4 O (Wan.un O O O O) O O ?_
    refine J.c4 O (Wan.un O O O O) O O ?_
    refine J.c4 O (Wan.un O O O O) O O ?_
    refine J.c4 O (Wan.un O O O O) O O ?_
    refine J.c4 O (Wan.un O O O O) O O ?_
    refine J.c4 O (Wan.un O O O O) O O ?_
    refine J.c4 O (Wan.un O O O O) O O ?_
    refine J.b2 ?_
    refine J.d7 ?_
    refine J.a9<|J.u (J.G j4 ?_)
    refine J.c3 ?_
    exact J.g λ_ j5=>J.k 4 O<|J.c j5<|J.A<|J.W<|J.b0 hw0 (λ_ _ h=>h) (res4 O O O O O) (qAn () O trivial [0] O xC)
  refine J.c0 O (qAA O O qEu O qEW O) O O<|J.c0 O (qAC 0 O O O qFM O) O O<|J.c0 O ((qAX O O O).as (v':= .bool true) (by rw [ht];rfl)) O O<|J.e2 ?_
  refine J.L ?_
  iterate 9 refine J.b2 ?_
  refine J.d7 ?_
  refine J.L ?_
  iterate 5 refine J.b2 ?_
  refine J.d7 ?_
  refine J.L ?_
  iterate 7 refine J.b2 ?_
  refine J.c4 O (Wan.un O O O O) O O ?_
  refine J.c4 O (Wan.un O O O O) O O ?_
  refine J.c4 O (Wan.un O O O O) O O ?_
  refine J.c4 O (Wan.un O O O O) O O ?_
  refine J.c4 O (Wan.un O O O O) O O ?_
  refine J.c4 O (Wan.un O O O O) O O ?_
  refine J.c4 O (Wan.un O O O O) O O ?_
  refine J.b2 ?_
  refine J.d7 ?_
  refine J.a9<|J.u (J.G j4 ?_)
  refine J.c3 ?_
  exact J.g λ_ j6=>J.k 4 O<|J.c j6<|J.A<|J.W<|J.b0 hw0 (λ_ _ h=>h) (res4 O O O O O) (qAn () O trivial [0] O xC)
theorem qLr(F:Hp)(hK:KF F)(gh:Option Addr)(A:Option Addr)(n c:Nat)(ls:List xA)(hl:Sl F 1 A n c (qAG ls))(hn:0<n)(s:xA)(hs:ls[0]?=some s)(h64:s.length=64)(hok:(qC2 s).2=false):
    Cz prog 173 [.pointer gh,.slice A n c] F (.tuple #[.int .u64 0,Str [],I 0,.bool false]):=by
  refine Ct.walk func173 O ntmps173 O (λw0 hw0=>?_)
  refine J.g λ_ j1=>J.k 4 O<|J.c j1<|J.g λ_ j2=>J.b O<|J.f (qAF (i:=0) O O O qAk z9_ hl hn) O<|J.f (qAI O O b9_ (m:=F) xD (hl.elem (qAY hs))) O<|J.p (qAa O O (λF' hF=>qNL F' (hK.mono (Fa hF)) s h64)) O λg18 _=>J.k 2 O<|J.f ((qAb (v:= .bool (qC2 s).2) O O O).as (v':= .bool false) (by rw [hok])) O<|J.p (qAJ O qMU O) O λg8 _=>J.a6 (qAD (l:=qKb.cells) (i:=1) (vs:=(qC2 s).1.cells) O O O O O qGU O O) O O λ_ _=>J.b O<|J.c j2<|J.q λ_ j3=>J.q λ_ j4=>J.b1 [blk g8 (qC2 s).1.cells 281] [] (.y 0 (.y 1 (.y 2 (.y 3 (.y 4 (.y 5 (.y 6 (.y 7 (.y 8 (.y 9 (.y 10 (.y 11 (.y 12 (.y 13 (.y 14 (.y 15 (.y 16 (.y 17 (.y 18 (.y 19 (.y 20 (.y 21 (.y 22 (.y 23 (.y 24 (.y 25 (.y 26 (.y 27 (.y 28 (.y 29 (.y 30 (.y 31 (.y 32 (.y 33 (.y 34 (.y 35 (.y 36 (.y 37 (.y 38 (.y 39 (.y 40 (.y 41 (.y 42 (.y 43 (.y 44 (.y 45 (.y 46 .nil))))))))))))))))))))))))))))))))))))))))))))))) Tryz.wide xF xD ?_
  refine J.L ?_
  refine J.j O ((qAt O O).as (v':= .bool true) O) O O<|J.L ?_
  iterate 3 refine J.b2 ?_
  refine J.d7 ?_
  refine J.L ?_
  iterate 3 refine J.b2 ?_
  refine J.d7 ?_
  refine J.L ?_
  iterate 9 refine J.b2 ?_
  refine J.d7 ?_
  refine J.L ?_
  iterate 5 refine J.b2 ?_
  refine J.d7 ?_
  refine J.L ?_
  iterate 7 refine J.b2 ?_
  refine J.c4 O (Wan.un O O O O) O O ?_
  refine J.c4 O (Wan.un O O O O) O O ?_
  refine J.c4 O (Wan.un O O O O) O O ?_
  refine J.c4 O (Wan.un O O O O) O O ?_
  refine J.c4 O (Wan.un O O O O) O O ?_
  refine J.c4 O (Wan.un O O O O) O O ?_
  refine J.c4 O (Wan.un O O O O) O O ?_
  refine J.b2 ?_
  refine J.d7 ?_
  refine J.a9<|J.u (J.G j4 ?_)
  refine J.c3 ?_
  exact J.g λ_ j5=>J.k 4 O<|J.c j5<|J.A<|J.W<|J.b0 hw0 (λ_ _ h=>h) (res4 O O O O O) (qAn () O trivial [0] O xC)
theorem qOp(F:Hp)(hK:KF F)(gh:Option Addr)(A:Option Addr)(n c:Nat)(ls:List xA)(hl:Sl F 1 A n c (qAG ls))(hn:0<n)(s:xA)(hs:ls[0]?=some s)(h64:s.length=64)(hz:(qC2 s).2=false∨(qC2 s).1.turn=0):
    Cz prog 173 [.pointer gh,.slice A n c] F (.tuple #[.int .u64 0,Str [],I 0,.bool false]):=by
  cases h:(qC2 s).2 with
  |false=>exact qLr F hK gh A n c ls hl hn s hs h64 h
  |true=>exact qLq F hK gh A n c ls hl hn s hs h64 h (hz.resolve_left (by rw [h];decide))
def zS:xA:=List.replicate 64 0
theorem qYp:zS.length=64:=jJ
theorem qWL:(qC2 zS).2=false∨(qC2 zS).1.turn=0:=qPf
theorem qOb(n:Nat)(z:xA):qAG (List.replicate n z)++qAG [z]=qAG (List.replicate (n+1) z):=by
 rw [zf,←qH0]
theorem qSX(F:Hp)(hK:KF F)(gb gd:Nat)(first:Int)(size:Nat)(hat:Int)(hturn:UInt64)(hend:Int)(Ar:Option Addr)(nr cr:Nat)(bad:Bool)(hB:qAM F ⟨gb,0,none⟩ [Ptr gd,I first,I (size:Nat),I hat,W64 hturn,I hend,.slice Ar nr cr,.bool bad])(d:Dk)(A:Option Addr)(c:Nat)(B:Option Addr)(e:Nat)(C:Option Addr)(f:Nat)(hc:qAM F ⟨gd,0,none⟩ (d.cells A c B e C f))(hL:Sl F 1 A d.last.length c (qAG d.last))(hW:Sl F 2 B d.wait.length e (qDg d.wait))(hn1:d.last.length≤1073741824)(hn2:d.wait.length≤1073741824)
    (at_:Nat) (hs0:0<size) (hs:at_+size≤1048576) (hz: ∀i:Nat,i<size→d.ready ((at_+i:Nat):Int)=0∧d.read ((at_+i:Nat):Int)=zS):
    Cz prog 124 [Ptr gb,I (at_:Nat)] F (.tuple #[.agg #[I at_,W64 0,I 0,.slice none 0 0],I 0]):=by
  refine Ct.walk func124 O ntmps124 O (λw0 hw0=>?_)
  refine J.g λ_ j1=>J.p (qAJ O zeroValue216 O) O λg4 _=>J.b O<|J.c j1<|J.g λ_ j2=>J.b O<|J.f (qAH (places:= [(0,1),(1,1),(2,1),(3,1)]) (r:= [I at_,W64 0,I 0,.slice none 0 0]) O O O qEe zeroValue216 (λ_=>xI) O) O<|J.p (qAJ O zeroValue216 O) O λg6 _=>J.a6 (qAD (l:= [I 0,W64 0,I 0,.slice none 0 0]) (i:=2) (vs:= [I at_,W64 0,I 0,.slice none 0 0]) O O O O O qDm O O) O O λ_ _=>J.c j2<|J.g λ_ j3=>J.b O<|J.c j3<|J.q λ_ j4=>J.q λ_ j5=>J.d0 [0,1,2,3] [F,blk g4 _ 216,blk g6 [I at_,W64 0,I 0,.slice none 0 0] 216,(λ_=>none)] O xC<|J.H<|J.b O<|J.f (qAB O O) O<|J.M 2 qFR z3_ O O O O O<|J.f (qAI O O b3_ (m:=F) xD (hB.at (i:=2) O)) O<|J.b O<|J.c j5<|J.V<|J.b6 (X:=Nat×Hp×Option Addr×Nat) (λx=> [(0,Ptr gb),(1,I (at_:Nat)),(4,Ptr g4),(6,Ptr g6),(7,.slice x.2.2.1 x.1 x.2.2.2),(20,I (size:Nat)),(21,I x.1)]) (λx=> [F,blk g4 [I 0,W64 0,I 0,.slice none 0 0] 216,blk g6 [I at_,W64 0,I 0,.slice none 0 0] 216,x.2.1]) (λx=>x.1≤size∧Row x.2.1 9 1 x.2.2.1 x.1 x.2.2.2 (qAG (List.replicate x.1 zS))) (λx=>size-x.1) (0,(λ_=>none),none,0) (⟨jG _,qBh.nil⟩) ⟨O,O,O,O,O,O,O,trivial⟩ (λ_ h=>h) ?_
  rintro⟨k,m,A7,c7⟩ ⟨hk,hr⟩ I0 hI0
  dsimp only at hk hr⊢
  refine J.g λ_ j6=>J.f (qAS O O O) O<|J.c j6<|J.q λ_ j7=>J.a0 O (λh22=>?_) (λh22=>?_)
  ·
    refine J.T j7<|J.q λ_ j8=>J.V<|J.g λ_ j9=>J.k 2 O<|J.c j9<|J.g λ_ j10=>J.b O<|J.f (qAB O O) O<|J.M 0 qFR sizeOf82 O O O O O<|J.f (qAI O O isAgg82 (m:=F) xD (hB.at (i:=0) O)) O<|J.k 2 O<|J.f ((qAQ O O O xB).nat (at_+k) xB) O<|J.p (qAa O O (λF' hF=>qTY F' gd d A c B e C f (hc.mono (Fa hF)) (hL.mono (Fa hF)) (hW.mono (Fa hF)) ((at_+k:Nat):Int) hn1 hn2)) O λg32 _=>J.b O<|J.f ((qAb (v:=Str (d.read ((at_+k:Nat):Int))) O O O).as (v':=Str zS) (by rw [(hz k xB).2])) O<|J.f ((qAb (v:=I (d.ready ((at_+k:Nat):Int))) O O O).as (v':=I 0) (by rw [(hz k xB).1])) O<|J.k 2 O<|J.c j10<|J.q λ_ j11=>J.g λ_ j12=>J.b O<|J.f ((qAe O O O).no xC) O<|J.c j12<|J.a2 ?_
    refine J.T j11<|J.H<|J.k 2 O<|J.p (qAE (l:= [.tmp 40]) (xs:= [[Str zS]]) O O O O qAk el9 O xC xC xD) O λg41 _=>J.p (qAU (i:=3) (m2:=blk g41 [Str zS] 9) O O O qAk qAk el9 O hr xD ((qAl (q:=True) (xs:=qAG [zS]) O (by simp [qAG])).sl) (by simp [qAG,Value.oneCell']) xB xB) O ?_
    rintro⟨A8,c8,m8⟩ h8
    try dsimp only at h8
    rw [qOb] at h8
    refine J.b O<|J.a4<|J.a3<|J.u (J.G j8 ?_)
    exact J.H<|J.f ((qAQ O O O xB).nat (k+1) xB) O<|J.b O<|J.a4<|J.u<|J.a5 (k+1,m8,A8,c8) (λy (hy:_∧size-y.1<size-k)=>hI0 y hy.1 hy.2) ⟨⟨by dsimp only;omega,h8⟩,by dsimp only;omega⟩ ⟨O,O,O,O,O,O,O,trivial⟩ (λ_ h=>h.pick [0,1,2,3] xC)
  refine J.b3<|J.a1<|J.a1<|J.b4 ?_
  refine J.u (J.G j4 ?_)
  refine J.q λ_ j13=>J.V<|J.b6 (X:=Unit) (λ_=> [(4,Ptr g4),(6,Ptr g6),(7,.slice A7 k c7)]) (λ_=> [F,blk g4 [I 0,W64 0,I 0,.slice none 0 0] 216,blk g6 [I at_,W64 0,I 0,.slice none 0 0] 216,m]) (λ_=>True) (λ_=>0) () (trivial) ⟨O,O,O,trivial⟩ (λ_ h=>h) ?_
  rintro _ _ I2 hI2
  refine J.q λ_ j14=>J.g λ_ j15=>J.b O<|J.f (qAR qAk O O) O<|J.f ((qAz O O O).yes xB) O<|J.c j15<|J.c3 ?_
  refine J.T j14<|J.V<|J.g λ_ j16=>J.b O<|J.p (qAa O O (λF' hF=>qOp F' (hK.mo hF) (some ⟨g6,0,none⟩) A7 k c7 (List.replicate k zS) (hr.sl.mono (Fa hF)) xB zS (by rw [yM,if_pos xB]) qYp qWL)) O ?_
  intro g49 _
  refine J.k 9 O<|J.c j16<|J.q λ_ j17=>J.g λ_ j18=>J.b O<|J.f ((qAt O O).as (v':= .bool true) O) O<|J.c j18<|J.c3 ?_
  refine J.b3<|J.a1<|J.g7 O ?_
  refine J.a1<|J.b4 ?_
  refine J.u (J.G j13 ?_)
  exact J.g λ_ j19=>J.b8 2 isAgg216 qDm O O O O O<|J.a6 (qAD (l:= [I 0,W64 0,I 0,.slice none 0 0]) (i:=1) (vs:= [I at_,W64 0,I 0,.slice none 0 0]) O O O O O qDm O O) O O λ_ _=>J.b O<|J.c j19<|J.A<|J.b0 hw0 (λ_ _ h=>h) (rv2 O (RV.blkA 1 O O isAgg216 qDm) O) (qAn () O trivial [0] O xC)
def hatk(first:Nat):Nat→Int
 |0=>0
 |_+1=>first
theorem qOx(F:Hp)(hK:KF F)(gd:Nat)(d:Dk)(A:Option Addr)(c:Nat)(B:Option Addr)(e:Nat)(C:Option Addr)(f:Nat)(hc:qAM F ⟨gd,0,none⟩ (d.cells A c B e C f))(hL:Sl F 1 A d.last.length c (qAG d.last))(hW:Sl F 2 B d.wait.length e (qDg d.wait))(hn1:d.last.length≤1024)(hn2:d.wait.length≤1073741824)(first count:Nat)(h8:8≤count)(hfc:first+count≤d.last.length)(hz: ∀i:Nat,i<d.last.length→d.ready (i:Int)=0∧d.read (i:Int)=zS):
    Ct prog 58 [Ptr gd,I (first:Nat),I (count:Nat)] [F] (λg:Nat=> .tuple #[Ptr g,I 0]) (λ_=>True) (λg41=> [F,blk g41 [Ptr gd,I (first:Nat),I ((count/2):Nat),I (first:Nat),W64 0,I 0,.slice none 0 0,.bool false] 218]):=by
  refine Ct.walk func58 O ntmps58 O (λw0 hw0=>?_)
  refine J.g λ_ j1=>J.k 2 O<|J.c j1<|J.q λ_ j2=>J.g λ_ j3=>J.b O<|J.f ((qA4 underlying82 O O O).as (v':= .bool false) O) O<|J.k 2 O<|J.D ((qAS O O O).no xB) O<|J.k 3 O<|J.D ((qAS O O O).no xB) O<|J.k 4 O<|J.c8 (qAa O O (λF' hF=>qN2 F' gd d A c B e C f (hc.mono (Fa hF)))) O λg25 _=>J.D ((qAz O O O).no xB) O<|J.k 4 O<|J.c8 (qAa O O (λF' hF=>qN2 F' gd d A c B e C f (hc.mono (Fa hF)))) O λg31 _=>J.b O<|J.D (qA3 O O O xB) O<|J.D ((qAz O O O).no xB) O<|J.b O<|J.c j3<|J.a2 ?_
  refine J.T j2<|J.g λ_ j4=>J.k 3 O<|J.f ((qIA O O O xB).as (v':=I (count/2:Nat)) (congrArg I (Int.ofNat_tdiv _ _).symm)) O<|J.f (qAH (places:= [(0,1),(1,1),(2,1),(3,4),(7,1)]) (r:= [Ptr gd,I (first:Nat),I ((count/2):Nat),I 0,W64 0,I 0,.slice none 0 0,.bool false]) O O O qFR zeroValue218 (λ_=>xI) O) O<|J.p (qAZ O O O) O ?_
  rintro g41 _
  refine J.b O<|J.c j4<|J.q λ_ j5=>J.g λ_ j6=>J.b O<|J.c j6<|J.V<|J.b6 (X:=Nat) (λk=> [(1,I (first:Nat)),(8,Ptr g41),(42,I k)]) (λk=> [F,blk g41 [Ptr gd,I (first:Nat),I ((count/2):Nat),I (hatk first k),W64 0,I 0,.slice none 0 0,.bool false] 218]) (λk=>k≤2) (λk=>2-k) 0 (jG _) ⟨O,O,O,trivial⟩ (λ_ h=>h) ?_
  intro k hk I0 hI0
  refine J.g λ_ j7=>J.f (qAS O O O) O<|J.c j7<|J.q λ_ j8=>J.a0 O (λh43=>?_) (λh43=>?_)
  ·
    refine J.T j8<|J.q λ_ j9=>J.V<|J.g λ_ j10=>J.k 2 O<|J.c j10<|J.q λ_ j11=>?_
    obtain ⟨km,hkm⟩: ∃km,km=k*(count/2):=⟨_,rfl⟩
    have hk2:k<2:=xB
    have hkm2:km+(count/2)≤count:=by
      have:k=0∨k=1:=xB
      rcases this with e|e<;>rw [hkm,e]<;>omega
    refine J.H<|J.k 4 O<|J.f (qAB O O) O<|J.M 2 qFR z3_ O O O O O<|J.a7 1 b3_ O O O O O<|J.f ((qDe O O O (by rw [←yP,←hkm];omega)).as (v':=I (km:Nat)) (congrArg I (by rw [hkm,yP]))) O<|J.f ((qAQ O O O xB).nat (first+km) xB) O<|J.p (qAa O O (λF' hF=>qSX F' (hK.mo hF) g41 gd (first:Nat) (count/2) (hatk first k) 0 0 none 0 0 false (qAM.blk0.mono (hF (blk g41 [Ptr gd,I (first:Nat),I ((count/2):Nat),I (hatk first k),W64 0,I 0,.slice none 0 0,.bool false] 218) xD)) d A c B e C f (hc.mono (Fa hF)) (hL.mono (Fa hF)) (hW.mono (Fa hF)) xB hn2 (first+km) xB xB (λi hi=>hz (first+km+i) xB))) O λg55 _=>J.k 3 O<|J.p (qAJ O zeroValue216 O) O λg10 _=>J.a6 (qAD (l:= [I 0,W64 0,I 0,.slice none 0 0]) (i:=2) (vs:= [I (first+km:Nat),W64 0,I 0,.slice none 0 0]) O O O O O qDm O O) O O λ_ _=>J.b O<|J.c j11<|J.q λ_ j12=>J.g λ_ j13=>J.b O<|J.f ((qAe O O O).no xC) O<|J.c j13<|J.a2 ?_
    refine J.T j12<|J.q λ_ j14=>J.b1 [F,blk g41 [Ptr gd,I (first:Nat),I ((count/2):Nat),I (hatk first k),W64 0,I 0,.slice none 0 0,.bool false] 218,blk g10 [I (first+km:Nat),W64 0,I 0,.slice none 0 0] 216] [] (.y 0 (.y 1 (.y 2 (.y 3 (.y 4 (.y 5 (.y 6 (.y 7 (.y 8 (.y 9 (.y 10 (.y 11 (.y 12 (.y 13 (.y 14 (.y 15 (.y 16 (.y 17 (.y 18 (.y 19 (.y 20 (.y 21 (.y 22 (.y 23 (.y 24 (.y 25 (.y 26 .nil))))))))))))))))))))))))))) Tryz.wide xF xD ?_
    refine J.L ?_
    refine J.j O (qAX O O O) O O<|J.L ?_
    refine J.b9 (d:=63) O (λh63=>?_) (λh63=>?_)
    ·
      iterate 5 refine J.b2 ?_
      refine J.c4 O (Wan.un O O O O) O O ?_
      refine J.c4 O (Wan.un O O O O) O O ?_
      refine J.c4 O (Wan.un O O O O) O O ?_
      refine J.c4 O (Wan.un O O O O) O O ?_
      refine J.c4 O (Wan.un O O O O) O O ?_
      refine J.c4 O (Wan.un O O O O) O O ?_
      refine J.c4 O (Wan.un O O O O) O O ?_
      refine J.c4 O (Wan.un O O O O) O O ?_
      refine J.c4 O (Wan.un O O O O) O O ?_
      refine J.c4 O (Wan.un O O O O) O O ?_
      refine J.c4 O (Wan.un O O O O) O O ?_
      refine J.c4 O (Wan.un O O O O) O O ?_
      refine J.c4 O (Wan.un O O O O) O O ?_
      refine J.c4 O (Wan.un O O O O) O O ?_
      refine J.c4 O (Wan.un O O O O) O O ?_
      refine J.c4 O (Wan.un O O O O) O O ?_
      refine J.c4 O (Wan.un O O O O) O O ?_
      refine J.b2 ?_
      refine J.d7 ?_
      refine J.a9<|J.u (J.G j14 ?_)
      refine J.c3 ?_
      refine J.H<|J.b O<|J.b8 2 isAgg216 qDm O O O O O<|J.f (qAB O O) O<|J.M 3 qFR qDm O O O O O<|J.a6 (qAT (i:=1) O O O O O qDm O xD) O O λ_ _=>J.a4<|J.a3<|J.u (J.G j9 ?_)
      refine J.H<|J.f ((qAQ O O O xB).nat (k+1) xB) O<|J.b O<|J.a4<|J.u ?_
      have hk0:k=0:=xB
      subst hk0
      have hk0m:km=0:=xB
      subst hk0m
      exact J.a5 1 (λy (hy:_∧2-y<2-0)=>hI0 y hy.1 hy.2) ⟨xB,xB⟩ ⟨O,O,O,trivial⟩ (λ_ h=>h.pick [0,1] xC)
    refine J.c0 O (qAA O O qEe O qB1 O) O O<|J.c0 O (qAC 2 O O O qCC O) O O<|J.c0 O (qAR qAk O O) O O<|J.c0 O ((qAz O O O).no xC) O O<|J.c0 O (qA2 O O) O O<|J.b2 ?_
    iterate 7 refine J.b2 ?_
    refine J.c4 O (Wan.un O O O O) O O ?_
    refine J.c4 O (Wan.un O O O O) O O ?_
    refine J.c4 O (Wan.un O O O O) O O ?_
    refine J.c4 O (Wan.un O O O O) O O ?_
    refine J.c4 O (Wan.un O O O O) O O ?_
    refine J.c4 O (Wan.un O O O O) O O ?_
    refine J.c4 O (Wan.un O O O O) O O ?_
    refine J.c4 O (Wan.un O O O O) O O ?_
    refine J.b2 ?_
    refine J.c0 O (qCc O O O) O O<|J.e2 ?_
    refine J.a9<|J.u (J.G j14 ?_)
    refine J.a2 ?_
    refine J.b5<|J.a3<|J.u (J.G j9 ?_)
    refine J.H<|J.f ((qAQ O O O xB).nat (k+1) xB) O<|J.b O<|J.a4<|J.u ?_
    have hk1:k=1:=xB
    subst hk1
    exact J.a5 2 (λy (hy:_∧2-y<2-1)=>hI0 y hy.1 hy.2) ⟨xB,xB⟩ ⟨O,O,O,trivial⟩ (λ_ h=>h.pick [0,1] xC)
  refine J.b3<|J.a1<|J.a1<|J.b4 ?_
  refine J.u (J.G j5 ?_)
  refine J.q λ_ j15=>?_
  have hk2:k=2:=xB
  subst hk2
  exact J.H<|J.k 3 O<|J.c j15<|J.A<|J.b0 hw0 (λ_ _ h=>h) (qCK O O O) (qAn g41 O trivial [0,1] O xC)
theorem qZR(F:Hp)(gb gd:Nat)(first:Int)(size:Nat)(hat:Int)(hturn:UInt64)(hend:Int)(Ar:Option Addr)(nr cr:Nat)(bad:Bool)(hB:qAM F ⟨gb,0,none⟩ [Ptr gd,I first,I (size:Nat),I hat,W64 hturn,I hend,.slice Ar nr cr,.bool bad])(s:xA):
    Cz prog 137 [Ptr gb,Str s] F (I (if 900<s.length then 2 else if bad=true then 21 else 0)):=by
  refine Ct.walk func137 O ntmps137 O (λw0 hw0=>?_)
  refine J.g λ_ j1=>J.b O<|J.c j1<|J.q λ_ j2=>J.V<|J.g λ_ j3=>J.b O<|J.f ((qA4 underlying91 O O O).as (v':= .bool false) O) O<|J.b O<|J.c j3<|J.a2 ?_
  refine J.g λ_ j4=>J.b O<|J.f (qAs u9_ O O) O<|J.f (qAz O O O) O<|J.b O<|J.c j4<|J.a0 O (λh8=>?_) (λh8=>?_)
  ·
    exact J.g λ_ j5=>J.b O<|J.c j5<|J.A<|J.a8<|J.W<|J.E hw0 O () (congrArg I (by rw [if_pos xB])) trivial [0] O xC
  refine J.g λ_ j6=>J.b O<|J.f (qAB O O) O<|J.M 7 qFR z4_ O O O O O<|J.f ((qAI O O b4_ (m:=F) xD (hB.at (i:=7) O)).as (v':= .bool (decide (bad=true))) (by rw [Bool.decide_eq_true])) O<|J.b O<|J.c j6<|J.a0 O (λh12=>?_) (λh12=>?_)
  ·
    exact J.g λ_ j7=>J.b O<|J.c j7<|J.A<|J.a8<|J.W<|J.E hw0 O () (congrArg I (by rw [if_neg xB,if_pos xG])) trivial [0] O xC
  refine J.b5<|J.a3<|J.u (J.G j2 ?_)
  exact J.g λ_ j8=>J.b O<|J.c j8<|J.A<|J.E hw0 O () (congrArg I (by rw [if_neg xB,if_neg xG])) trivial [0] O xC
theorem qRU(F:Hp)(gb gd:Nat)(first:Int)(size:Nat)(hat:Int)(hturn:UInt64)(hend:Int)(Ar:Option Addr)(nr cr:Nat)(bad:Bool)(hB:qAM F ⟨gb,0,none⟩ [Ptr gd,I first,I (size:Nat),I hat,W64 hturn,I hend,.slice Ar nr cr,.bool bad])(hs:size≤1048576)(he:0≤hend∧hend≤1048576):
    Cz prog 70 [Ptr gb] F (I ((size:Int)-hend)):=by
  refine Ct.walk func70 O ntmps70 O (λw0 hw0=>?_)
  refine J.g λ_ j1=>J.b O<|J.c j1<|J.q λ_ j2=>J.g λ_ j3=>J.b O<|J.f ((qA4 underlying91 O O O).as (v':= .bool false) O) O<|J.c j3<|J.a2 ?_
  refine J.T j2<|J.q λ_ j4=>J.b1 [F] [] (.y 0 (.y 1 (.y 2 (.y 3 (.y 4 (.y 5 (.y 6 (.y 7 (.y 8 (.y 9 (.y 10 .nil))))))))))) Tryz.wide xF xD ?_
  refine J.L ?_
  refine J.j O (qAB O O) O O<|J.j O (qAA O O qFR O z3_ O) O O<|J.j O (qAI O O b3_ (m:=F) xD (hB.at (i:=2) O)) O O<|J.L ?_
  refine J.j O (qAB O O) O O<|J.j O (qAA O O qFR O qDm O) O O<|J.j O (qAA O O qEe O z3_ O) O O<|J.j O (qAI O O b3_ (m:=F) xD (hB.at (i:=5) O)) O O<|J.j O (qA3 O O O xB) O O<|J.b7 ?_
  refine J.a9<|J.u (J.G j4 ?_)
  exact J.A<|J.E hw0 O () O trivial [0] O xC
theorem qOo(F:Hp)(gb gd:Nat)(first:Int)(size:Nat)(hat:Int)(hturn:UInt64)(hend:Int)(Ar:Option Addr)(nr cr:Nat)(bad:Bool)(hB:qAM F ⟨gb,0,none⟩ [Ptr gd,I first,I (size:Nat),I hat,W64 hturn,I hend,.slice Ar nr cr,.bool bad])(L:List xA)(hLn:L.length=nr)(hL:Sl F 1 Ar nr cr (qAG L))(hn:nr≤1073741824):
    Ct prog 60 [Ptr gb] [F] (λx:Option Addr×Nat×Hp=> .slice x.1 L.length x.2.1) (λx=>Row x.2.2 9 1 x.1 L.length x.2.1 (qAG L)) (λx=> [F,x.2.2]):=by
  subst hLn
  refine Ct.walk func60 O ntmps60 O (λw0 hw0=>?_)
  refine J.g λ_ j1=>J.b O<|J.c j1<|J.q λ_ j2=>J.g λ_ j3=>J.b O<|J.f ((qA4 underlying91 O O O).as (v':= .bool false) O) O<|J.c j3<|J.a2 ?_
  refine J.T j2<|J.g λ_ j4=>J.b O<|J.f (qAB O O) O<|J.M 3 qFR qDm O O O O O<|J.M 6 qEe qB1 O O O O O<|J.f (qAI O O qCC (m:=F) xD (hB.at (i:=6) O)) O<|J.p (qBr O O (λF' hF=>qK3 F' L Ar cr (hL.mono (Fa hF)) hn)) O ?_
  rintro⟨A10,c10,m10⟩ h10
  try dsimp only at h10
  exact J.b O<|J.c j4<|J.A<|J.E hw0 O (A10,c10,m10) O h10 [0,1] O xC
theorem qLK(s:xA)(n:Nat):(s.take (min s.length n)).drop 0=s.take n:=by
 rw [zn]
 by_cases h:s.length≤n
 · rw [je h,jf (jK _),jf h]
 · rw [Nat.min_eq_right xB]
theorem qUw(s:xA)(n:Nat):s.drop (min s.length n)=s.drop n:=by
 by_cases h:s.length≤n
 · rw [je h,jr (jK _),jr h]
 · rw [Nat.min_eq_right xB]
def qGt(l:List Prt):List (List Value):=l.map Prt.cells
theorem qQi(a b:List Prt):qGt (a++b)=qGt a++qGt b:=by simp [qGt]
def prt(turn num:UInt64)(s:xA)(n i:Nat):Prt:=⟨turn,num,i,n,qLC turn num s,(s.drop (39*i)).take 39⟩
def qXK(turn num:UInt64)(s:xA)(n k:Nat):List Prt:=(List.range k).map (prt turn num s n)
theorem qQg(turn num:UInt64)(s:xA)(n k:Nat):qXK turn num s n (k+1)=qXK turn num s n k++ [prt turn num s n k]:=by unfold qXK;rw [jx,jM];rfl
theorem qQh{turn num:UInt64}{s:xA}{n k i:Nat}(h:i<k):(qGt (qXK turn num s n k))[i]?=some (prt turn num s n i).cells:=by
 unfold qGt qXK
 rw [List.map_map,jN,zC h];rfl
theorem qFY(n:Nat):1≤qBg n:=by unfold qBg;split<;>omega
theorem qE1{n:Nat}(h:n≤900):qBg n≤24:=by unfold qBg;split<;>omega
theorem qT5(F:Hp)(hK:KF F)(turn num:UInt64)(s:xA)(ht:turn.toNat<2^(8*4))(hnm:num.toNat<2^(8*2))(hs:s.length≤900)(n:Nat)(hn:n=qBg s.length):
    Ct prog 183 [W64 turn,W64 num,Str s] [F] (λx:Option Addr×Nat×Hp=> .slice x.1 n x.2.1) (λx=>Row x.2.2 281 6 x.1 n x.2.1 (qGt (qXK turn num s n n))) (λx=> [F,x.2.2]):=by
  have hn24:n≤24:=hn▸qE1 hs
  refine Ct.walk func183 O ntmps183 O (λw0 hw0=>?_)
  refine J.g λ_ j1=>J.b O<|J.c j1<|J.g λ_ j2=>J.b O<|J.f (qAs u9_ O O) O<|J.p (qAa O O (λF' hF=>by have:=qGy F' s.length xB;rw [←hn] at this;exact this)) O λg13 _=>J.k 3 O<|J.p (qAa O O (λF' hF=>qU8 F' (hK.mono (Fa hF)) turn num s ht hnm xB)) O λg17 _=>J.k 2 O<|J.c j2<|J.g λ_ j3=>J.b O<|J.c j3<|J.q λ_ j4=>J.q λ_ j5=>J.d0 [0,1] [F,(λ_=>none)] O xC<|J.H<|J.k 2 O<|J.c j5<|J.V<|J.b6 (X:=Nat×Hp×Option Addr×Nat) (λx=> [(0,W64 turn),(1,W64 num),(2,Str (s.drop (39*x.1))),(7,I n),(8,Str (qLC turn num s)),(9,.slice x.2.2.1 x.1 x.2.2.2),(18,I n),(19,I x.1)]) (λx=> [F,x.2.1]) (λx=>x.1≤n∧Row x.2.1 281 6 x.2.2.1 x.1 x.2.2.2 (qGt (qXK turn num s n x.1))) (λx=>n-x.1) (0,(λ_=>none),none,0) (⟨jG _,qBh.nil⟩) ⟨O,O,O,O,O,O,O,O,trivial⟩ (λ_ h=>h) ?_
  rintro⟨k,m,A7,c7⟩ ⟨hk,hr⟩ I0 hI0
  dsimp only at hk hr⊢
  refine J.g λ_ j6=>J.f (qAS O O O) O<|J.c j6<|J.q λ_ j7=>J.a0 O (λh20=>?_) (λh20=>?_)
  ·
    refine J.T j7<|J.q λ_ j8=>J.V<|J.g λ_ j9=>J.k 2 O<|J.c j9<|J.g λ_ j10=>J.k 8 O<|J.f (qAs u9_ O O) O<|J.f ((qFr O O O).as (v':=I (min (s.drop (39*k)).length 39:Nat)) (congrArg I xB)) O<|J.f ((qBD u9_ O O O O ⟨xB,xB⟩).as (v':=Str ((s.drop (39*k)).take 39)) (congrArg Str (qLK _ _))) O<|J.f (qAH (places:= [(0,1),(1,1),(2,1),(3,1),(4,1),(5,1)]) (r:= [W64 turn,W64 num,I k,I n,Str (qLC turn num s),Str ((s.drop (39*k)).take 39)]) O O O qEu qMU (λ_=>xI) O) O<|J.p (qAE (l:= [.tmp 33]) (xs:= [(prt turn num s n k).cells]) O O O O qOY el281 O xC xC (by simp [Prt.cells,prt])) O λg34 _=>J.p (qAU (i:=1) (m2:=blk g34 (prt turn num s n k).cells 281) O O O qOY qOY el281 O hr xD ((qAl (q:=True) (xs:=qGt [(prt turn num s n k)]) O (by simp [qGt,Prt.cells])).sl) (by simp [qGt,Prt.cells,Value.oneCell']) xB xB) O ?_
    rintro⟨A8,c8,m8⟩ h8
    try dsimp only at h8
    rw [←qQi,←qQg] at h8
    refine J.b O<|J.c j10<|J.H<|J.k 2 O<|J.f (qAs u9_ O O) O<|J.f ((qFr O O O).as (v':=I (min (s.drop (39*k)).length 39:Nat)) (congrArg I xB)) O<|J.f ((qBD u9_ O O O O ⟨xB,xB⟩).as (v':=Str (s.drop (39*(k+1)))) (congrArg Str (by rw [jp,qUw,zx,Nat.mul_add,Nat.mul_one]))) O<|J.b O<|J.a4<|J.a3<|J.u (J.G j8 ?_)
    exact J.H<|J.f ((qAQ O O O xB).nat (k+1) xB) O<|J.b O<|J.a4<|J.u<|J.a5 (k+1,m8,A8,c8) (λy (hy:_∧n-y.1<n-k)=>hI0 y hy.1 hy.2) ⟨⟨by dsimp only;omega,h8⟩,by dsimp only;omega⟩ ⟨O,O,O,O,O,O,O,O,trivial⟩ (λ_ h=>h.pick [0,1] xC)
  refine J.b3<|J.a1<|J.a1<|J.b4 ?_
  refine J.u (J.G j4 ?_)
  refine J.q λ_ j11=>?_
  have hkn:k=n:=xB
  subst hkn
  exact J.H<|J.k 2 O<|J.c j11<|J.A<|J.E hw0 O (A7,c7,m) O hr [0,1] O xC
def qCW(d:Dk)(p:Nat)(t:Nat→xA):Nat→Dk×Int
 |0=>(d,0)
 |k+1=>if(qCW d p t k).2=0 then((qCW d p t k).1.write ((p+k:Nat):Int) (t k),(qCW d p t k).1.wErr ((p+k:Nat):Int) (t k)) else qCW d p t k
theorem qGW{d:Dk}{p:Nat}{t:Nat→xA}{k:Nat}(h:(qCW d p t k).2=0):qCW d p t (k+1)=((qCW d p t k).1.write ((p+k:Nat):Int) (t k),(qCW d p t k).1.wErr ((p+k:Nat):Int) (t k)):=if_pos h
theorem qGX{d:Dk}{p:Nat}{t:Nat→xA}{k:Nat}(h: ¬(qCW d p t k).2=0): ∀n,qCW d p t (k+n)=qCW d p t k
 |0=>rfl
 |n+1=>by
  have e:=qGX h n
  show(if(qCW d p t (k+n)).2=0 then _ else qCW d p t (k+n))=_
  rw [e,if_neg h]
def qLP(d:Dk)(p:Nat)(t:Nat→xA)(n:Nat):Dk×Int:=if(qCW d p t n).2=0 then((qCW d p t n).1.sync,(qCW d p t n).1.sErr) else qCW d p t n
theorem qST(d:Dk):d.burn.keep=d.keep∧d.burn.wait.length≤d.wait.length:=by
  unfold Dk.burn Dk.cut
  split
  · split
    · exact⟨O,jG _⟩
    · exact⟨O,jK _⟩
  · exact⟨O,jK _⟩
theorem qOP(d:Dk)(i:Int)(s:xA):(d.write i s).keep=d.keep∧(d.write i s).wait.length≤d.wait.length+1:=by
  have hb:=qST d
  unfold Dk.write
  split
  · exact⟨O,Nat.le_succ _⟩
  · split
    · exact⟨O,Nat.le_succ _⟩
    · split
      · exact⟨hb.1,Nat.le_succ_of_le hb.2⟩
      · refine⟨hb.1,?_⟩
        show(d.burn.wait++ [_]).length≤_
        rw [jA];exact Nat.succ_le_succ hb.2
theorem qId{d:Dk}(h:d.ok)(p:Nat)(t:Nat→xA): ∀k,(qCW d p t k).1.ok∧(qCW d p t k).1.wait.length≤d.wait.length+k∧(qCW d p t k).1.keep=d.keep
  |0=>⟨h,jK _,rfl⟩
  |k+1=>by
    obtain ⟨h1,h2,h3⟩:=qId h p t k
    by_cases he:(qCW d p t k).2=0
    · rw [qGW he]
      have hw:=qOP (qCW d p t k).1 ((p+k:Nat):Int) (t k)
      exact⟨h1.write _ _,jZ hw.2 xB,hw.1.trans h3⟩
    · rw [show k+1=k+1 from rfl,qGX he 1]
      exact⟨h1,xB,h3⟩
theorem qQk{turn num:UInt64}{s:xA}{n i:Nat}(ht:turn.toNat<2^(8*4))(hn:num.toNat<2^(8*2))(h:n≤24)(hi:i<n):(prt turn num s n i).ok:=
 ⟨ht,hn,by show i<256;omega,by show n<256;omega,by show(qLC _ _ _).length≤8;rw [qSZ];exact jK _,by show((s.drop _).take 39).length≤39;rw [jF];exact Nat.min_le_left _ _⟩
theorem qHm(F mm:Hp)(hK:KF F)(gb gd:Nat)(first size hat0:Int)(ht0:UInt64)(he0:Int)(Ar0:Option Addr)(nr0 cr0:Nat)(bad:Bool)(d:Dk)(C:Option Addr)(f:Nat)(hb:Dsk mm gd d C f)(hok:d.ok)(hn2:d.wait.length≤1048576)(hKp:Sl F 1 C d.keep.length f (qAg d.keep))(hn3:d.keep.length≤9223372036854775807)(hat:Nat)(hturn:UInt64)(hend:Nat)(Ar:Option Addr)(nr cr:Nat)(R:List xA)(hR:R.length=nr)(hRs:Sl F 1 Ar nr cr (qAG R))(s:xA)(hs:s.length≤900)(n:Nat)(hn:n=qBg s.length)(ht:hturn.toNat<2^(8*4))(hnr:nr<65536)(hp:hat+hend≤1048576)(he:(qLP d (hat+hend) (λi=>(prt hturn (UInt64.ofNat nr) s n i).text) n).2=0):
    Ct prog 138 [Ptr gb,.agg #[I hat,W64 hturn,I hend,.slice Ar nr cr],Str s] [blk gb [Ptr gd,I first,I size,I hat0,W64 ht0,I he0,.slice Ar0 nr0 cr0,.bool bad] 218,mm,F] (λ_:Hp×Option Addr×Nat×Hp=>I 0) (λx=>Dsk x.1 gd (qLP d (hat+hend) (λi=>(prt hturn (UInt64.ofNat nr) s n i).text) n).1 C f∧Row x.2.2.2 9 1 x.2.1 (nr+1) x.2.2.1 (qAG (R++ [s]))) (λx=> [blk gb [Ptr gd,I first,I size,I hat,W64 hturn,I (hend+n:Nat),.slice x.2.1 (nr+1) x.2.2.1,.bool bad] 218,x.1,F,x.2.2.2]):=by
  have hn24:n≤24:=hn▸qE1 hs
  have hnum:(UInt64.ofNat nr).toNat<2^(8*2):=by rw [qBF xB];exact hnr
  refine Ct.walk func138 O ntmps138 O (λw0 hw0=>?_)
  refine J.g λ_ j1=>J.p (qAZ O O O) O ?_
  rintro g4 _
  refine J.b O<|J.c j1 ?_
  refine J.g λ_ j2=>J.M 1 qEe qEW O O O O O<|J.a7 3 qFM O O O O O<|J.M 3 qEe qB1 O O O O O<|J.a7 3 qCC O O O O O<|J.f (qAR qAk O O) O<|J.f (qAx O O u3_ qEd xB) O<|J.b O<|J.p (qBr O O (λF' hF=>qT5 F' (hK.mo hF) hturn (UInt64.ofNat nr) s ht hnum hs n hn)) O ?_
  rintro⟨Ap,cp,mp⟩ hr
  try dsimp only at hr
  refine J.b O<|J.c j2 ?_
  refine J.g λ_ j3=>J.b O<|J.c j3 ?_
  refine J.d4 (λx:Hp=> [(0,Ptr gb),(2,Str s),(4,Ptr g4),(7,.slice Ap n cp),(8,I (qCW d (hat+hend) (λi=>(prt hturn (UInt64.ofNat nr) s n i).text) n).2)]) (λx=> [blk gb [Ptr gd,I first,I size,I hat0,W64 ht0,I he0,.slice Ar0 nr0 cr0,.bool bad] 218,x,F,blk g4 [I hat,W64 hturn,I hend,.slice Ar nr cr] 216,mp]) (λx=>Dsk x gd (qCW d (hat+hend) (λi=>(prt hturn (UInt64.ofNat nr) s n i).text) n).1 C f) (λ_ j4=>?_) ?_
  ·
    refine J.g λ_ j5=>J.b O<|J.c j5 ?_
    refine J.V<|J.b6 (X:=Nat×Hp) (λx=> [(0,Ptr gb),(2,Str s),(4,Ptr g4),(7,.slice Ap n cp),(8,I (qCW d (hat+hend) (λi=>(prt hturn (UInt64.ofNat nr) s n i).text) x.1).2),(9,I x.1)]) (λx=> [blk gb [Ptr gd,I first,I size,I hat0,W64 ht0,I he0,.slice Ar0 nr0 cr0,.bool bad] 218,x.2,F,blk g4 [I hat,W64 hturn,I hend,.slice Ar nr cr] 216,mp]) (λx=>x.1≤n∧Dsk x.2 gd (qCW d (hat+hend) (λi=>(prt hturn (UInt64.ofNat nr) s n i).text) x.1).1 C f) (λx=>n-x.1) (0,mm) (⟨jG _,hb⟩) ⟨O,O,O,O,O,O,trivial⟩ (λ_ h=>h) ?_
    rintro⟨k,m⟩ ⟨hk,hd⟩ I0 hI0
    dsimp only at hk hd⊢
    refine J.q λ_ j6=>J.g λ_ j7=>J.k 2 O<|J.f (qAR qOY O O) O<|J.f (qAS O O O) O<|J.b O<|J.b9 (d:=22) O (λh22=>?_) (λh22=>?_)
    ·
      refine J.b O<|J.D (qAX O O O) O<|J.b O<|J.c j7 ?_
      refine J.a0 O (λh25=>?_) (λh25=>?_)
      ·
        refine J.T j6 ?_
        refine J.q λ_ j8=>J.V ?_
        have hkn:k<n:=xB
        have hw:=qId hok (hat+hend) (λi=>(prt hturn (UInt64.ofNat nr) s n i).text) k
        refine J.b1 [blk gb [Ptr gd,I first,I size,I hat0,W64 ht0,I he0,.slice Ar0 nr0 cr0,.bool bad] 218,blk g4 [I hat,W64 hturn,I hend,.slice Ar nr cr] 216,F,mp] [] (.y 0 (.y 1 (.y 2 (.y 3 (.y 4 (.y 5 (.y 6 (.y 7 (.y 8 (.y 9 (.y 10 (.y 11 (.y 12 (.y 13 (.y 14 (.e 15 (.e 16 (.y 17 .nil)))))))))))))))))) Tryz.wide xF xD ?_
        refine J.L ?_
        refine J.j O (qAB O O) O O<|J.j O (qAA O O qFR O sizeOf82 O) O O<|J.j O (qAC 0 O O O isAgg82 O) O O<|J.j O (qAA O O qEe O z3_ O) O O<|J.j O (qAC 1 O O O b3_ O) O O<|J.j O (qAA O O qEe O z3_ O) O O<|J.j O (qAC 1 O O O b3_ O) O O<|J.j O ((qAQ O O O xB).nat (hat+hend) xB) O O<|J.L ?_
        refine J.j O ((qAQ O O O xB).nat (hat+hend+k) xB) O O<|J.L ?_
        refine J.L ?_
        refine J.j O (qAF O O O qOY qGU hr.sl xB) O O<|J.j O (qAV O O isAgg281 qGU (m:=mp) xD (hr.sl.elem (qQh hkn)) O) O O<|J.Z O (qAa O O (λF' hF=>qNF F' (hK.mo hF) (prt hturn (UInt64.ofNat nr) s n k) (qQk ht hnum hn24 hkn))) O xD λg43 _=>J.Z O (qAK O O ent (Ct.use1 1 O (λF' hF=>qS8 F' m gd (qCW d (hat+hend) (λi=>(prt hturn (UInt64.ofNat nr) s n i).text) k).1 C f hd hw.1 (by have:=hw.2.1;omega) (by rw [hw.2.2];exact hKp.mono (Fa hF)) (by rw [hw.2.2];exact hn3) ((hat+hend+k:Nat):Int) (prt hturn (UInt64.ofNat nr) s n k).text (by rw [Prt.text_len (qQk ht hnum hn24 hkn)];decide)))) O xD ?_
        rintro m44 hd44
        refine J.b7 ?_
        refine J.a9<|J.a3<|J.u (J.G j8 ?_)
        refine J.H<|J.b O<|J.f ((qAQ O O O xB).nat (k+1) xB) O<|J.b O<|J.a4<|J.u ?_
        have hsu:=qGW (show(qCW d (hat+hend) (λi=>(prt hturn (UInt64.ofNat nr) s n i).text) k).2=0 from by omega)
        exact J.a5 (k+1,m44) (λy (hy:_∧n-y.1<n-k)=>hI0 y hy.1 hy.2) ⟨⟨by dsimp only;omega,by dsimp only;rw [hsu];exact hd44⟩,by dsimp only;omega⟩ ⟨O,O,O,O,by dsimp only;rw [hsu];rfl,O,trivial⟩ (λ_ h=>h)
      refine J.b3<|J.a1<|J.a1<|J.b4 ?_
      refine J.u ?_
      have hst:=qGX (d:=d) (p:=hat+hend) (t:=(λi=>(prt hturn (UInt64.ofNat nr) s n i).text)) (k:=k) xB (n-k)
      rw [show k+(n-k)=n by omega] at hst
      exact J.a5 m j4 (by rw [hst];exact hd) ⟨O,O,O,O,by rw [hst];rfl,trivial⟩ (λ_ h=>h)
    refine J.k 3 O<|J.c j7 ?_
    refine J.a2 ?_
    refine J.b3<|J.a1<|J.a1<|J.b4 ?_
    refine J.u ?_
    have hkk:k=n:=xB
    subst hkk
    exact J.a5 m j4 hd ⟨O,O,O,O,O,trivial⟩ (λ_ h=>h)
  intro m hd
  refine J.d4 (λx:Hp=> [(0,Ptr gb),(2,Str s),(4,Ptr g4),(7,.slice Ap n cp),(8,I (qLP d (hat+hend) (λi=>(prt hturn (UInt64.ofNat nr) s n i).text) n).2)]) (λx=> [blk gb [Ptr gd,I first,I size,I hat0,W64 ht0,I he0,.slice Ar0 nr0 cr0,.bool bad] 218,x,F,blk g4 [I hat,W64 hturn,I hend,.slice Ar nr cr] 216,mp]) (λx=>Dsk x gd (qLP d (hat+hend) (λi=>(prt hturn (UInt64.ofNat nr) s n i).text) n).1 C f) (λ_ j9=>?_) ?_
  ·
    refine J.q λ_ j10=>?_
    have hw:=qId hok (hat+hend) (λi=>(prt hturn (UInt64.ofNat nr) s n i).text) n
    refine J.H<|J.b O<|J.f (qAX O O O) O<|J.c j10 ?_
    refine J.a0 O (λh46=>?_) (λh46=>?_)
    ·
      refine J.H<|J.b O<|J.f (qAB O O) O<|J.M 0 qFR sizeOf82 O O O O O<|J.a7 0 isAgg82 O O O O O<|J.p (qAK O O ent (Ct.use1 1 O (λF' hF=>qWf F' m gd (qCW d (hat+hend) (λi=>(prt hturn (UInt64.ofNat nr) s n i).text) n).1 C f hd hw.1 (by have:=hw.2.1;omega) (by rw [hw.2.2];exact hKp.mono (Fa hF)) (by rw [hw.2.2];exact hn3)))) O ?_
      rintro m51 hd51
      refine J.b O<|J.a4<|J.u ?_
      have hst:(qLP d (hat+hend) (λi=>(prt hturn (UInt64.ofNat nr) s n i).text) n)=((qCW d (hat+hend) (λi=>(prt hturn (UInt64.ofNat nr) s n i).text) n).1.sync,(qCW d (hat+hend) (λi=>(prt hturn (UInt64.ofNat nr) s n i).text) n).1.sErr):=if_pos xB
      exact J.a5 m51 j9 (by rw [hst];exact hd51) ⟨O,O,O,O,by rw [hst];rfl,trivial⟩ (λ_ h=>h)
    refine J.b5<|J.u ?_
    have hst:(qLP d (hat+hend) (λi=>(prt hturn (UInt64.ofNat nr) s n i).text) n)=(qCW d (hat+hend) (λi=>(prt hturn (UInt64.ofNat nr) s n i).text) n):=if_neg xB
    exact J.a5 m j9 (by rw [hst];exact hd) ⟨O,O,O,O,by rw [hst];rfl,trivial⟩ (λ_ h=>h)
  intro m hd
  refine J.q λ_ j11=>J.g λ_ j12=>J.b O<|J.f ((qAe O O O).no xB) O<|J.c j12 ?_
  refine J.a2 ?_
  refine J.T j11 ?_
  refine J.g λ_ j13=>J.M 2 qEe z3_ O O O O O<|J.a7 3 b3_ O O O O O<|J.b O<|J.f (qAR qOY O O) O<|J.f ((qAQ O O O xB).nat (hend+n) xB) O<|J.M 2 qEe z3_ O O O O O<|J.a6 (qAT (i:=3) O O O O O z3_ O xD) O O λ_ _=>?_
  change J _ _ _ [blk gb [Ptr gd,I first,I size,I hat0,W64 ht0,I he0,.slice Ar0 nr0 cr0,.bool bad] 218,m,F,blk g4 [I hat,W64 hturn,I (hend+n:Nat),.slice Ar nr cr] 216,mp] _
  refine J.c j13 ?_
  refine J.g λ_ j14=>J.M 3 qEe qB1 O O O O O<|J.a7 3 qCC O O O O O<|J.p (qAK O O ent (Ct.use (new:=λx:Option Addr×Nat×Hp=> [x.2.2]) (λF' hF=>by have:=qK3 F' R Ar cr (by rw [hR];exact hRs.mono (Fa hF)) xB;rw [hR] at this;exact this))) O ?_
  rintro⟨A6,c6,m6⟩ h6
  try dsimp only at h6
  change J _ _ _ [_,_,_,_,_,m6] _
  refine J.b O<|J.p (qAE (l:= [.tmp 67]) (xs:= [[Str s]]) O O O O qAk el9 O xC xC xD) O λg68 _=>?_
  change J _ _ _ [_,_,_,_,_,_,blk g68 [Str s] 9] _
  refine J.p (qAU (i:=5) (m2:=blk g68 [Str s] 9) (xs:=qAG R) (ys:=qAG [s]) O O O qAk qAk el9 O h6 xD ((qAl (q:=True) (xs:=qAG [s]) O (by simp [qAG])).sl) (by simp [qAG,Value.oneCell']) xB xB) O ?_
  rintro⟨A8,c8,m8⟩ h8
  try dsimp only at h8
  change J _ ((69,.slice A8 (nr+1) c8)::_) _ [_,_,_,_,_,m8,_] _
  rw [←qH0] at h8
  refine J.M 3 qEe qB1 O O O O O<|J.a6 (qAT (i:=3) (vs:= [.slice A8 (nr+1) c8]) O O O O O qB1 O xD) O O λ_ _=>J.c j14 ?_
  refine J.g λ_ j15=>J.b O<|J.b8 3 isAgg216 qDm O O O O O<|J.f (qAB O O) O<|J.M 3 qFR qDm O O O O O<|J.a6 (qAT (i:=0) (vs:= [I hat,W64 hturn,I (hend+n:Nat),.slice A8 (nr+1) c8]) O O O O O qDm O xD) O O λ_ _=>J.c j15 ?_
  refine J.g λ_ j16=>J.b O<|J.c j16 ?_
  exact J.A<|J.E hw0 O (m,A8,c8,m8) O ⟨hd,h8⟩ [0,1,2,5] O xC
theorem qSM{m:Hp}{g k:Nat}{l vs:List Value}(h:qAM m ⟨g,0,none⟩ l)(hs: ∀j u,vs[j]?=some u→l[k+j]?=some u):qAM m ⟨g,k,none⟩ vs:=by
 obtain ⟨h1,cs,e,fz,h2,h3⟩:=h
 refine⟨O,cs,e,fz,h2,λj u hj=>?_⟩
 have:=h3 _ _ (hs j u hj)
 rwa [jX] at this
theorem qLB(F mm:Hp)(hK:KF F)(gb gd:Nat)(first:Int)(size hat:Nat)(hturn:UInt64)(hend:Nat)(Ar:Option Addr)(nr cr:Nat)(d:Dk)(C:Option Addr)(f:Nat)(hb:Dsk mm gd d C f)(hok:d.ok)(hn2:d.wait.length≤1048576)(hKp:Sl F 1 C d.keep.length f (qAg d.keep))(hn3:d.keep.length≤9223372036854775807)(R:List xA)(hR:R.length=nr)(hRs:Sl F 1 Ar nr cr (qAG R))(s:xA)(hs:s.length≤900)(n:Nat)(hn:n=qBg s.length)(t':UInt64)(ht':(t'.toNat:Int)=max (hturn.toNat:Int) 1)(ht:t'.toNat<2^(8*4))(hnr:nr<65536)(hp:hat+size≤1048576)(hfit:hend+n≤size)(he:(qLP d (hat+hend) (λi=>(prt t' (UInt64.ofNat nr) s n i).text) n).2=0):
    Ct prog 71 [Ptr gb,Str s] [blk gb [Ptr gd,I first,I (size:Nat),I (hat:Nat),W64 hturn,I (hend:Nat),.slice Ar nr cr,.bool false] 218,mm,F] (λ_:Hp×Option Addr×Nat×Hp=>I 0) (λx=>Dsk x.1 gd (qLP d (hat+hend) (λi=>(prt t' (UInt64.ofNat nr) s n i).text) n).1 C f∧Row x.2.2.2 9 1 x.2.1 (nr+1) x.2.2.1 (qAG (R++ [s]))) (λx=> [blk gb [Ptr gd,I first,I (size:Nat),I (hat:Nat),W64 t',I (hend+n:Nat),.slice x.2.1 (nr+1) x.2.2.1,.bool false] 218,x.1,F,x.2.2.2]):=by
  have hn1:=qFY s.length
  refine Ct.walk func71 O ntmps71 O (λw0 hw0=>?_)
  refine J.g λ_ j1=>J.b O<|J.c j1 ?_
  refine J.q λ_ j2=>J.g λ_ j3=>J.k 2 O<|J.p ((qAa O O (λF' hF=>qZR F' gb gd first size hat hturn hend Ar nr cr false (qAM.blk0.mono (hF (blk gb [Ptr gd,I first,I (size:Nat),I (hat:Nat),W64 hturn,I (hend:Nat),.slice Ar nr cr,.bool false] 218) xD)) s))) O λg9 _=>J.b O<|J.c j3 ?_
  refine J.g λ_ j4=>J.b O<|J.f ((qAe O O O).no (λh=>h (by rw [if_neg xB,if_neg xC]))) O<|J.c j4 ?_
  refine J.a2 ?_
  refine J.T j2 ?_
  refine J.g λ_ j5=>J.b O<|J.f (qAB O O) O<|J.M 3 qFR qDm O O O O O<|J.f (qAV O O isAgg216 qDm (m:=blk gb [Ptr gd,I first,I (size:Nat),I (hat:Nat),W64 hturn,I (hend:Nat),.slice Ar nr cr,.bool false] 218) xD (vs:= [I (hat:Nat),W64 hturn,I (hend:Nat),.slice Ar nr cr]) (qSM qAM.blk0 (λj u hj=>by match j,hj with|0,hj=>exact hj|1,hj=>exact hj|2,hj=>exact hj|3,hj=>exact hj)) O) O<|J.p (qAJ O zeroValue216 O) O λg6 _=>J.a6 (qAD (l:= [I 0,W64 0,I 0,.slice none 0 0]) (i:=3) (vs:= [I (hat:Nat),W64 hturn,I (hend:Nat),.slice Ar nr cr]) O O O O O qDm O O) O O λ_ _=>J.c j5 ?_
  refine J.q λ_ j6=>J.g λ_ j7=>J.b O<|J.p (qAa O O (λF' hF=>qRU F' gb gd first size hat hturn hend Ar nr cr false (qAM.blk0.mono (hF (blk gb [Ptr gd,I first,I (size:Nat),I (hat:Nat),W64 hturn,I (hend:Nat),.slice Ar nr cr,.bool false] 218) xD)) xB xB)) O λg18 _=>J.b O<|J.f (qAs u9_ O O) O<|J.p (qAa O O (λF' hF=>by have:=qGy F' s.length xB;rw [←hn] at this;exact this)) O λg21 _=>J.f ((qAS O O O).no xB) O<|J.b O<|J.D (qAA O O qEe O qB1 O) O<|J.D (qAC 3 O O O qCC O) O<|J.D (qAR qAk O O) O<|J.D ((qBL O O O).no xB) O<|J.b O<|J.c j7 ?_
  refine J.a2 ?_
  refine J.T j6 ?_
  refine J.g λ_ j8=>J.M 1 qEe qEW O O O O O<|J.a7 3 qFM O O O O O<|J.f ((qIB O O O).as (v':=W64 t') (congrArg (Value.int .u64) ht'.symm)) O<|J.M 1 qEe qEW O O O O O<|J.a6 (qAT (i:=3) O O O O O qEW O xD) O O λ_ _=>J.c j8 ?_
  refine J.g λ_ j9=>J.b O<|J.b8 3 isAgg216 qDm O O O O O<|J.b O<|J.p (qAK O O ent (Ct.useA [blk gb [Ptr gd,I first,I (size:Nat),I (hat:Nat),W64 hturn,I (hend:Nat),.slice Ar nr cr,.bool false] 218,mm] [F,blk g6 [I (hat:Nat),W64 t',I (hend:Nat),.slice Ar nr cr] 216] (A':=λx:Hp×Option Addr×Nat×Hp=> [blk gb [Ptr gd,I first,I (size:Nat),I (hat:Nat),W64 t',I (hend+n:Nat),.slice x.2.1 (nr+1) x.2.2.1,.bool false] 218,x.1]) (new:=λx=> [x.2.2.2]) (λF' hF=>qHm F' mm (hK.mo hF) gb gd first size hat hturn hend Ar nr cr false d C f hb hok hn2 (hKp.mono (Fa hF)) hn3 hat t' hend Ar nr cr R hR (hRs.mono (Fa hF)) s hs n hn ht hnr xB he))) O ?_
  rintro⟨m36,A36,c36,m37⟩ ⟨hd36,h36⟩
  refine J.b O<|J.c j9 ?_
  exact J.A<|J.E hw0 O (m36,A36,c36,m37) O ⟨hd36,h36⟩ [0,1,2,4] O xC
theorem qD5{d:Dk}(h:d.armed=false):d.burn=d∧ ¬d.burns:=⟨by unfold Dk.burn;rw [if_neg (by rw [h];decide)],λe=>by have:=e.1;rw [h] at this;exact absurd this xC⟩
theorem qIV{d:Dk}(h:d.off=false){i:Nat}(hi:i<d.last.length):d.ready (i:Int)=0:=by unfold Dk.ready;rw [h,if_neg xC,if_neg xB]
theorem qJr{d:Dk}(ho:d.off=false)(ha:d.armed=false){p n:Nat}(hp:p+n≤d.last.length){t:Nat→xA}(ht: ∀i,i<n→(t i).length≤64): ∀k,k≤n→(qCW d p t k).2=0∧(qCW d p t k).1.off=false∧(qCW d p t k).1.armed=false∧(qCW d p t k).1.last=d.last
 |0,_=>⟨rfl,ho,ha,rfl⟩
 |k+1,hk=>by
  obtain ⟨h1,h2,h3,h4⟩:=qJr ho ha hp ht k xB
  have hw:=qS7 (qIV h2 (i:=p+k) (by rw [h4];omega)) (ht k xB) (qD5 h3).2
  rw [(qD5 h3).1] at hw
  rw [qGW h1]
  dsimp only
  rw [hw.1]
  exact⟨hw.2,h2,h3,h4⟩
theorem qPn{d:Dk}(hok:d.ok)(ho:d.off=false)(ha:d.armed=false){p n:Nat}(hp:p+n≤d.last.length){t:Nat→xA}(ht: ∀i,i<n→(t i).length≤64):
    (qLP d p t n).2=0∧(qLP d p t n).1.off=false∧(qLP d p t n).1.armed=false∧(qLP d p t n).1.last.length=d.last.length∧(qLP d p t n).1.wait= []∧(qLP d p t n).1.keep=d.keep∧(qLP d p t n).1.ok:=by
  obtain ⟨h1,h2,h3,h4⟩:=qJr ho ha hp ht n (jK _)
  have hw:=qId hok p t n
  have hs:=hw.1.sync
  have h0:(qCW d p t n).1.ready 0=0:=qIV h2 (i:=0) (by rw [h4];exact hok.n0)
  have e:qLP d p t n=((qCW d p t n).1.sync,(qCW d p t n).1.sErr):=if_pos h1
  have e2:(qCW d p t n).1.sync={(qCW d p t n).1 with last:=qDQ (qCW d p t n).1.last (qCW d p t n).1.wait (qCW d p t n).1.wait.length,wait:= []}:=by
    unfold Dk.sync
    rw [if_neg xB,if_neg (qD5 h3).2,(qD5 h3).1]
  have e3:(qCW d p t n).1.sErr=0:=by
    unfold Dk.sErr
    rw [if_neg xB,if_neg (qD5 h3).2]
  rw [e]
  refine⟨e3,?_,?_,?_,?_,?_,hs⟩
  · show(qCW d p t n).1.sync.off=_;rw [e2];exact h2
  · show(qCW d p t n).1.sync.armed=_;rw [e2];exact h3
  · show(qCW d p t n).1.sync.last.length=_;rw [e2];show(qDQ _ _ _).length=_;rw [qBO,h4]
  · show(qCW d p t n).1.sync.wait=_;rw [e2]
  · show(qCW d p t n).1.sync.keep=_;rw [e2];exact hw.2.2
theorem qUI{n:Nat}(i:Nat)(h:i<(Dk.new n).last.length):(Dk.new n).ready (i:Int)=0∧(Dk.new n).read (i:Int)=zS:=by
 have hi:i<n:=by have:=h;unfold Dk.new at this;dsimp only at this;rwa [jJ] at this
 have h0:=qRI (n:=n) (i:=(i:Int)) xB xB
 exact⟨h0,by rw [qXB h0];exact qXj hi⟩
theorem qQj{turn num:UInt64}{s:xA}{n:Nat}(ht:turn.toNat<2^(8*4))(hn:num.toNat<2^(8*2))(h:n≤24): ∀i,i<n→((prt turn num s n i).text).length≤64:=λi hi=>by rw [Prt.text_len (qQk ht hn h hi)];exact jK _
end Go.Proofs.YtcgcjaflllmlpaaGreatDoor