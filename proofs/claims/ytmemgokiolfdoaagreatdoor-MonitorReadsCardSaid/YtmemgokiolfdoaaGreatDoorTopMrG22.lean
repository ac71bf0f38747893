/- A part of the proof. -/
import Derived.Test.YtmemgokiolfdoaaGreatDoorTopMrG21
set_option maxRecDepth 100000
set_option maxHeartbeats 1000000
set_option linter.unusedSimpArgs false
set_option linter.unusedVariables false
namespace Go.Proofs.YtmemgokiolfdoaaGreatDoor
open Go Go.Fw Go.Proofs.Tryz
theorem el371:qCR prog 371 [.int .u64 0,.int .u64 0,.int .i64 0,.int .i64 0,Str [],Str []] 64:=qCR.of xH O
theorem qRW(g:Nat):Wtr (blk g [.pointer none,.slice none 0 0,I 0] 148) g [] 0:=
 ⟨[.pointer none,.slice none 0 0,I 0],λ_=>none,none,0,none,by funext k;simp only [U];cases blk g [.pointer none,.slice none 0 0,I 0] 148 k<;>rfl,λ_=> .inr O,O,⟨O,.inl O,O,qBS.nil,.inl O⟩,O⟩
theorem qOa{n:UInt64}{size:Nat}(h:n.toNat<2^(8*size))(bs:xA):qKx n size bs 0=bs++Sha.numB n size∧qCC (okN n size) 10 0=0:=by
 have e:okN n size=true:=decide_eq_true h
 have f:qCC (okN n size) 10 0=0:=by unfold qCC;rw [e,if_neg xD]
 exact⟨by unfold qKx;rw [if_pos f],f⟩
def qUF(s:xA):xA:=(Sha.tagged 8 [s]).take 8
def qKc(turn num:UInt64)(s:xA):xA:=(Sha.tagged 7 [Sha.numB turn 4,Sha.numB num 2,s]).take 8
theorem qCb(F:Hp)(n:UInt64)(size:Nat)(h1:1≤size)(h8:size<8)(hn:n.toNat<2^(8*size)):
    Cz prog 287 [W64 n,I size] F (Str (Sha.numB n size)):=by
  refine Ct.walk func287 O ntmps287 O (λw0 hw0=>?_)
  refine J.f λ_ j1=>J.b O<|J.c j1<|J.f λ_ j2=>J.q (qAJ O qKP O) O λg5 _=>J.c j2<|J.f λ_ j3=>J.j 2 O<|J.q (qAK O O ent (Ct.use1 1 O (λF' _=>qDe F' (blk g5 [.pointer none,.slice none 0 0,I 0] 148) g5 [] 0 (qRW g5) xC n size h1 h8))) O ?_
  rintro m11 hw11
  rw [(qOa hn []).1,(qOa hn []).2,jq] at hw11
  refine J.q (qAK O O ent (Ct.use1 1 O (λF' _=>qDJ F' m11 g5 (Sha.numB n size) 0 hw11 (by rw [Sha.numB_length];omega)))) O ?_
  rintro m12 _
  exact J.j 5 O<|J.c j3<|J.f λ_ j4=>J.j 2 O<|J.c j4<|J.A<|J.E hw0 O () O trivial [0] O xC
theorem qQ0(F:Hp)(hK:qAG F ⟨3,0,none⟩ (Sha.K.map W32))(s:xA)(hs:s.length≤1048576):Cz prog 286 [Str s] F (Str (qUF s)):=by
 refine Ct.walk func286 O ntmps286 O (λw0 hw0=>?_)
 exact J.f λ_ j1=>J.b O<|J.c j1<|J.f λ_ j2=>J.b O<|J.q (qAE (l:= [.tmp 3]) (xs:= [[Str (s)]]) O O O O qAj el9 O xC xC xD) O λg4 _=>J.q (qAa O O (λF' hF=>qAy F' (hK.mono (Fa hF)) 8 (some ⟨g4,0,none⟩) 1 1 [s] ((slS [s] O).mono (hF (blk g4 (([s]:List xA).map λs=>Str s) 9) xD)) xJ xC)) O λg5 _=>J.g ((qA3 u9_ O O O O (by rw [Sha.tagged_length];decide)).as (v':=Str (qUF s)) (congrArg Str zj)) O<|J.b O<|J.c j2<|J.A<|J.E hw0 O () O trivial [0] O xC
theorem qTQ(F:Hp)(hK:qAG F ⟨3,0,none⟩ (Sha.K.map W32))(turn num:UInt64)(s:xA)(ht:turn.toNat<2^(8*4))(hn:num.toNat<2^(8*2))(hs:s.length≤1048576):Cz prog 256 [W64 turn,W64 num,Str s] F (Str (qKc turn num s)):=by
 refine Ct.walk func256 O ntmps256 O (λw0 hw0=>?_)
 exact J.f λ_ j1=>J.b O<|J.c j1<|J.f λ_ j2=>J.b O<|J.q (qAa O O (λF' hF=>qCb F' turn 4 xC xC ht)) O λg8 _=>J.b O<|J.q (qAa O O (λF' hF=>qCb F' num 2 xC xC hn)) O λg10 _=>J.b O<|J.q (qAE (l:= [.tmp 8,.tmp 10,.tmp 11]) (xs:= [[Str (Sha.numB turn 4)],[Str (Sha.numB num 2)],[Str (s)]]) O O O O qAj el9 O xC xC xD) O λg12 _=>J.q (qAa O O (λF' hF=>qAy F' (hK.mono (Fa hF)) 7 (some ⟨g12,0,none⟩) 3 3 [Sha.numB turn 4,Sha.numB num 2,s] ((slS [Sha.numB turn 4,Sha.numB num 2,s] O).mono (hF (blk g12 (([Sha.numB turn 4,Sha.numB num 2,s]:List xA).map λs=>Str s) 9) xD)) (by simp only [ji,zO,jU,jA,Sha.numB_length];omega) xC)) O λg13 _=>J.g ((qA3 u9_ O O O O (by rw [Sha.tagged_length];decide)).as (v':=Str (qKc turn num s)) (congrArg Str zj)) O<|J.b O<|J.c j2<|J.A<|J.E hw0 O () O trivial [0] O xC
def qBX(n:Nat):Nat:=if n<1 then 1 else(n-1)/39+1
theorem qGe(F:Hp)(n:Nat)(hn:n≤1048576):Cz prog 135 [I n] F (I (qBX n:Nat)):=by
 refine Ct.walk func135 O ntmps135 O (λw0 hw0=>?_)
 refine J.f λ_ j1=>J.b O<|J.c j1<|J.p λ_ j2=>J.f λ_ j3=>J.b O<|J.g (qAQ O O O) O<|J.c j3<|J.Z O (λh4=>?_) (λh4=>?_)
 ·
  exact J.f λ_ j4=>J.b O<|J.c j4<|J.A<|J.V<|J.E hw0 O () (by unfold qBX;rw [if_pos xB];rfl) trivial [0] O xC
 exact J.M j2<|J.f λ_ j5=>J.b O<|J.g ((qA1 O O O xB).nat (n-1) xB) O<|J.g ((qHl O O O xB).as (v':=I ((n-1)/39:Nat)) (congrArg I (Int.ofNat_tdiv _ _).symm)) O<|J.g (qAR O O O xB) O<|J.b O<|J.c j5<|J.A<|J.E hw0 O () (by unfold qBX;rw [if_neg xB];rfl) trivial [0] O xC
structure Prt where
 turn:UInt64
 num:UInt64
 at_:Nat
 all:Nat
 name:xA
 con:xA
def Prt.cells(p:Prt):List Value:= [W64 p.turn,W64 p.num,I p.at_,I p.all,Str p.name,Str p.con]
structure Prt.ok (p:Prt):Prop where
 t:p.turn.toNat<2^(8*4)
 n:p.num.toNat<2^(8*2)
 a:p.at_<256
 l:p.all<256
 m:p.name.length≤8
 c:p.con.length≤39
def Prt.b1(p:Prt):xA:=Sha.numB p.turn 4++Sha.numB p.num 2
def Prt.b2(p:Prt):xA:=p.b1++Sha.numB (UInt64.ofNat p.at_) 1
def Prt.b3(p:Prt):xA:=p.b2++Sha.numB (UInt64.ofNat p.all) 1
def Prt.b4(p:Prt):xA:=p.b3++Sha.numB (UInt64.ofNat p.con.length) 1
def Prt.b5(p:Prt):xA:=p.b4++p.name
def Prt.body(p:Prt):xA:=p.b5++p.con
def Prt.pad(p:Prt):xA:=p.body++List.replicate (56-p.body.length) 0
def Prt.text(p:Prt):xA:=p.pad++qUF p.pad
theorem qNB(s:xA):(qUF s).length=8:=by unfold qUF;rw [jE,Sha.tagged_length];rfl
theorem qQ4(t n:UInt64)(s:xA):(qKc t n s).length=8:=by unfold qKc;rw [jE,Sha.tagged_length];rfl
theorem Prt.b4_len(p:Prt):p.b4.length=9:=by unfold Prt.b4 Prt.b3 Prt.b2 Prt.b1;simp only [jA,Sha.numB_length]
theorem Prt.body_len(p:Prt):p.body.length=9+p.name.length+p.con.length:=by unfold Prt.body Prt.b5;rw [jA,jA,p.b4_len]
theorem Prt.pad_len{p:Prt}(h:p.ok):p.pad.length=56:=by
 have:=p.body_len
 have:=h.m
 have:=h.c
 unfold Prt.pad;rw [jA,jJ];omega
theorem Prt.text_len{p:Prt}(h:p.ok):p.text.length=64:=by unfold Prt.text;rw [jA,p.pad_len h,qNB]
theorem n1ok{n:Nat}(h:n<256):(UInt64.ofNat n).toNat<2^(8*1):=by rw [qA8 xB];exact h
theorem qMR(F:Hp)(hK:qAG F ⟨3,0,none⟩ (Sha.K.map W32))(p:Prt)(hp:p.ok):Cz prog 261 [.agg p.cells.toArray] F (Str p.text):=by
 obtain ⟨h1,h2,h3,h4,h5,h6⟩:=hp
 have hbl:=p.body_len
 have hpl:=Prt.pad_len ⟨h1,h2,h3,h4,h5,h6⟩
 refine Ct.walk func261 O ntmps261 O (λw0 hw0=>?_)
 refine J.f λ_ j1=>J.q (qAd O O O) O λg1 _=>J.b O<|J.c j1<|J.p λ_ j2=>J.b1 [blk g1 p.cells 371] [] (.y 0 (.y 1 (.y 3 (.y 4 (.y 7 (.y 8 (.y 9 (.y 12 (.y 13 (.y 14 (.y 17 (.y 18 (.y 19 (.y 20 (.y 23 (.y 24 (.y 26 (.y 27 (.e 2 (.e 5 (.y 6 (.e 10 (.y 11 (.e 15 (.y 16 (.e 21 (.y 22 (.y 25 (.y 28 (.y 29 .nil)))))))))))))))))))))))))))))) Tryz.wide xF xD ?_
 refine J.k O (qAA O O qEX O qD8 O) O O<|J.k O (qAC 0 O O O qFC O) O O<|J.k O (qAA O O qEX O qD8 O) O O<|J.k O (qAC 0 O O O qFC O) O O<|J.k O (qAA O O qEX O z3_ O) O O<|J.k O (qAC 0 O O O b3_ O) O O<|J.k O (qAt O O u3_ qEF xB) O O<|J.k O (qAA O O qEX O z3_ O) O O<|J.k O (qAC 0 O O O b3_ O) O O<|J.k O (qAt O O u3_ qEF xB) O O<|J.k O (qAA O O qEX O z9_ O) O O<|J.k O (qAC 0 O O O b9_ O) O O<|J.k O (qAp u9_ O O) O O<|J.k O (qAt O O u3_ qEF xB) O O<|J.k O (qAA O O qEX O z9_ O) O O<|J.k O (qAC 0 O O O b9_ O) O O<|J.k O (qAA O O qEX O z9_ O) O O<|J.k O (qAC 0 O O O b9_ O) O O<|J.a2 O (qAa O O (λF' hF=>qCb F' p.turn 4 xC xC h1)) O xD λg6 _=>J.a2 O (qAa O O (λF' hF=>qCb F' p.num 2 xC xC h2)) O xD λg9 _=>J.k O ((qBR O O O (by first|(have hb4:=p.b4_len;have hbl:=p.body_len;simp only [jA,jJ,Prt.b4,Prt.b3,Prt.b2,Prt.b1,Prt.b5,Prt.body,Sha.numB_length] at hb4 hbl⊢;omega)|omega)).as (v':=Str (p.b1)) O) O O<|J.a2 O (qAa O O (λF' hF=>qCb F' (UInt64.ofNat p.at_) 1 xC xC (n1ok h3))) O xD λg14 _=>J.k O ((qBR O O O (by first|(have hb4:=p.b4_len;have hbl:=p.body_len;simp only [jA,jJ,Prt.b4,Prt.b3,Prt.b2,Prt.b1,Prt.b5,Prt.body,Sha.numB_length] at hb4 hbl⊢;omega)|omega)).as (v':=Str (p.b2)) O) O O<|J.a2 O (qAa O O (λF' hF=>qCb F' (UInt64.ofNat p.all) 1 xC xC (n1ok h4))) O xD λg19 _=>J.k O ((qBR O O O (by first|(have hb4:=p.b4_len;have hbl:=p.body_len;simp only [jA,jJ,Prt.b4,Prt.b3,Prt.b2,Prt.b1,Prt.b5,Prt.body,Sha.numB_length] at hb4 hbl⊢;omega)|omega)).as (v':=Str (p.b3)) O) O O<|J.a2 O (qAa O O (λF' hF=>qCb F' (UInt64.ofNat p.con.length) 1 xC xC (n1ok xB))) O xD λg25 _=>J.k O ((qBR O O O (by first|(have hb4:=p.b4_len;have hbl:=p.body_len;simp only [jA,jJ,Prt.b4,Prt.b3,Prt.b2,Prt.b1,Prt.b5,Prt.body,Sha.numB_length] at hb4 hbl⊢;omega)|omega)).as (v':=Str (p.b4)) O) O O ?_
 refine J.k O ((qBR O O O (by first|(have hb4:=p.b4_len;have hbl:=p.body_len;simp only [jA,jJ,Prt.b4,Prt.b3,Prt.b2,Prt.b1,Prt.b5,Prt.body,Sha.numB_length] at hb4 hbl⊢;omega)|omega)).as (v':=Str (p.b5)) O) O O<|J.k O ((qBR O O O (by first|(have hb4:=p.b4_len;have hbl:=p.body_len;simp only [jA,jJ,Prt.b4,Prt.b3,Prt.b2,Prt.b1,Prt.b5,Prt.body,Sha.numB_length] at hb4 hbl⊢;omega)|omega)).as (v':=Str (p.body)) O) O O<|J.b7 ?_
 refine J.b0<|J.u (J.D j2 ?_)
 exact J.f λ_ j3=>J.j 2 O<|J.g (qAp u9_ O O) O<|J.g ((qA1 O O O xB).nat (56-p.body.length) xB) O<|J.q (qAa O O (λF' hF=>qFJ F' (56-p.body.length) xB)) O λg37 _=>J.g ((qBR O O O (by rw [jJ];omega)).as (v':=Str p.pad) O) O<|J.b O<|J.c j3<|J.f λ_ j4=>J.j 2 O<|J.q (qAa O O (λF' hF=>qQ0 F' (hK.mono (Fa hF)) p.pad xB)) O λg41 _=>J.g ((qBR O O O (by rw [qNB];omega)).as (v':=Str p.text) O) O<|J.b O<|J.c j4<|J.A<|J.E hw0 O () O trivial [0] O xC
def R0(s:xA):RS:=⟨s.take 56,0⟩
def R1(s:xA):RS:=(R0 s).take 4
def R2(s:xA):RS:=(R1 s).take 2
def R3(s:xA):RS:=(R2 s).take 1
def R4(s:xA):RS:=(R3 s).take 1
def R5(s:xA):RS:=(R4 s).take 1
def R6(s:xA):RS:=(R5 s).take 8
def qWj(s:xA):Nat:=min (qFR ((R4 s).out 1)) 39
def rdp(s:xA):Prt:=⟨UInt64.ofNat (qFR ((R0 s).out 4)),UInt64.ofNat (qFR ((R1 s).out 2)),qFR ((R2 s).out 1),qFR ((R3 s).out 1),(R5 s).out 8,(R6 s).out (qWj s)⟩
def qJ0:Prt:=⟨0,0,0,0,[],[]⟩
theorem qCN(st:RS)(n k:Nat)(h:256^n≤k):qFR (st.out n)<k:=
 zZ (qLT _) (jg (jm xC (st.out_len n)) h)
theorem qWz(s:xA):(rdp s).ok:=by
  have h4:=qCN (R0 s) 4 4294967296 xC
  have h2:=qCN (R1 s) 2 65536 xC
  refine⟨?_,?_,qCN _ 1 256 xC,qCN _ 1 256 xC,RS.out_len _ _,jg (RS.out_len _ _) (Nat.min_le_right _ _)⟩
  · show(UInt64.ofNat (qFR ((R0 s).out 4))).toNat<_
    rw [qA8 xB];exact h4
  · show(UInt64.ofNat (qFR ((R1 s).out 2))).toNat<_
    rw [qA8 xB];exact h2
def qCn(s:xA):Prt×Bool:=if qUF (s.take 56)=s.drop 56 then(rdp s,decide ((rdp s).text=s)) else(qJ0,false)
theorem qMV(F:Hp)(hK:qAG F ⟨3,0,none⟩ (Sha.K.map W32))(s:xA)(hs:s.length=64):Cz prog 255 [Str s] F (.tuple #[.agg (qCn s).1.cells.toArray,.bool (qCn s).2]):=by
 have hn4:=qCN (R4 s) 1 256 xC
 refine Ct.walk func255 O ntmps255 O (λw0 hw0=>?_)
 change J _ [(0,_)] _ _ _
 refine J.f λ_ j1=>J.q (qAJ O qLk O) O λg2 _=>?_
 change J _ _ _ [F,blk g2 _ 371] _
 refine J.b O<|J.c j1<|J.p λ_ j2=>J.p λ_ j3=>J.b1 [F] [] (.y 0 (.y 1 (.y 3 (.y 4 (.e 2 (.y 5 .nil)))))) Tryz.wide xF xD ?_
 refine J.L ?_
 refine J.k O ((qA3 (l:=0) (h:=56) u9_ O O O O ⟨xB,xB⟩).as (v':=Str (s.take 56)) (congrArg Str zj)) O O<|J.L ?_
 refine J.k O ((qA3 (l:=56) (h:=s.length) u9_ O O O O ⟨xB,xB⟩).as (v':=Str (s.drop 56)) (by rw [jn])) O O<|J.a2 O (qAa O O (λF' hF=>qQ0 F' (hK.mono (Fa hF)) (s.take 56) (by rw [jE];omega))) O xD λg9 _=>J.k O (qCy O O O) O O<|J.b0<|J.u (J.D j3 ?_)
 refine J.Z O (λh12=>?_) (λh12=>?_)
 ·
  refine J.f λ_ j4=>J.g (qAL (l:= []) (vs:= []) (places:= [(0,1),(1,1),(2,1),(3,1),(4,1),(5,1)]) (r:= [W64 0,W64 0,I 0,I 0,Str [],Str []]) O O O qEX qLk (λ_=>xH) O) O<|J.a8 (qAD (l:=qJ0.cells) (i:=1) (vs:=qJ0.cells) O O O O O qGD O O) O O λ_ _=>?_
  change J _ _ _ [_,blk g2 qJ0.cells 371] _
  exact J.b O<|J.c j4<|J.A<|J.V<|J.a9 hw0 (λ_ _ h=>h) (rv2 O (RV.blkA 1 O O isAgg371 qGD) O) (qAg () (by unfold qCn;rw [if_neg (show¬qUF (s.take 56)=s.drop 56 from h12)]) trivial [0] O xC)
 refine J.M j2<|J.f λ_ j5=>J.b O<|J.g ((qA3 (l:=0) (h:=56) u9_ O O O O ⟨xB,xB⟩).as (v':=Str (s.take 56)) (congrArg Str zj)) O<|J.q (qAK O O ent (Ct.use (new:=λg=> [RSb g (R0 s)]) (λF' _=>(qU4 F' (s.take 56)).mono (φ2:=λ_=>True) (val2:=Ptr) (ms2:=λg=>F':: [RSb g (R0 s)]) id (λ_ _=>rfl) (λ_ h=>h) (λx w0 w _ h=>h.pick [1,0] xC)))) O ?_
 rintro g16 _
 change J _ _ _ [F,blk g2 _ 371,RSb g16 (R0 s)] _
 refine J.b O<|J.c j5<|J.f λ_ j6=>J.b O<|J.q (qAK O O ent (Ct.use1 2 (m':=λ_:Unit=>RSb g16 (R1 s)) (new:=λ_=> []) O (λF' _=>qGZ F' g16 (R0 s) 4 xB xB))) O λg18 _=>?_
 change J _ _ _ [_,_,RSb g16 (R1 s)] _
 rw [N_W (show qFR ((R0 s).out 4)<18446744073709551616 from zZ (qCN _ 4 (256^4) (jK _)) xC)]
 refine J.b O<|J.q (qAK O O ent (Ct.use1 2 (m':=λ_:Unit=>RSb g16 (R2 s)) (new:=λ_=> []) O (λF' _=>qGZ F' g16 (R1 s) 2 xB xB))) O λg20 _=>?_
 change J _ _ _ [_,_,RSb g16 (R2 s)] _
 rw [N_W (show qFR ((R1 s).out 2)<18446744073709551616 from zZ (qCN _ 2 (256^2) (jK _)) xC)]
 refine J.b O<|J.q (qAK O O ent (Ct.use1 2 (m':=λ_:Unit=>RSb g16 (R3 s)) (new:=λ_=> []) O (λF' _=>qGZ F' g16 (R2 s) 1 xB xB))) O λg22 _=>?_
 change J _ _ _ [_,_,RSb g16 (R3 s)] _
 refine J.g (qDy O O qEF u3_ (by have:=qCN (R2 s) 1 256 xC;omega)) O<|J.b O<|J.q (qAK O O ent (Ct.use1 2 (m':=λ_:Unit=>RSb g16 (R4 s)) (new:=λ_=> []) O (λF' _=>qGZ F' g16 (R3 s) 1 xB xB))) O λg25 _=>?_
 change J _ _ _ [_,_,RSb g16 (R4 s)] _
 refine J.g (qDy O O qEF u3_ (by have:=qCN (R3 s) 1 256 xC;omega)) O<|J.g (qAL (l:= [(0,.tmp 18),(1,.tmp 20),(2,.tmp 23),(3,.tmp 26)]) (vs:= [W64 (rdp s).turn,W64 (rdp s).num,I (rdp s).at_,I (rdp s).all]) (places:= [(0,1),(1,1),(2,1),(3,1),(4,1),(5,1)]) (r:= [W64 (rdp s).turn,W64 (rdp s).num,I (rdp s).at_,I (rdp s).all,Str [],Str []]) O O O qEX qLk (λ_=>xH) O) O<|J.q (qAJ O qLk O) O λg5 _=>?_
 change J _ _ _ [_,_,_,blk g5 _ 371] _
 refine J.a8 (qAD (l:=qJ0.cells) (i:=3) (vs:= [W64 (rdp s).turn,W64 (rdp s).num,I (rdp s).at_,I (rdp s).all,Str [],Str []]) O O O O O qGD O O) O O λ_ _=>?_
 change J _ _ _ [_,_,_,blk g5 [W64 (rdp s).turn,W64 (rdp s).num,I (rdp s).at_,I (rdp s).all,Str [],Str []] 371] _
 refine J.c j6<|J.f λ_ j7=>J.b O<|J.q (qAK O O ent (Ct.use1 2 (m':=λ_:Unit=>RSb g16 (R5 s)) (new:=λ_=> []) O (λF' _=>qGZ F' g16 (R4 s) 1 xB xB))) O λg29 _=>?_
 change J _ _ _ [_,_,RSb g16 (R5 s),_] _
 refine J.g (qDy O O qEF u3_ xB) O<|J.b O<|J.c j7<|J.f λ_ j8=>J.b O<|J.q (qAK O O ent (Ct.use1 2 (m':=λ_:Unit=>RSb g16 (R6 s)) (new:=λ_=> []) O (λF' _=>qJi F' g16 (R5 s) 8))) O λg32 _=>?_
 change J _ _ _ [_,_,RSb g16 (R6 s),_] _
 refine J.W 4 qEX z9_ O O O O O<|J.a8 (qAV (i:=3) (vs:= [Str (rdp s).name]) O O O O O z9_ O xD) O O λ_ _=>?_
 change J _ _ _ [_,_,_,blk g5 [W64 (rdp s).turn,W64 (rdp s).num,I (rdp s).at_,I (rdp s).all,Str (rdp s).name,Str []] 371] _
 refine J.c j8<|J.f λ_ j9=>J.j 2 O<|J.g ((qEB O O O).as (v':=I (qWj s:Nat)) (congrArg I (by unfold qWj;omega))) O<|J.q (qAK O O ent (Ct.use1 2 (m':=λ_:Unit=>RSb g16 ((R6 s).take (qWj s))) (new:=λ_=> []) O (λF' _=>qJi F' g16 (R6 s) (qWj s)))) O λg37 _=>?_
 change J _ _ _ [_,_,RSb g16 ((R6 s).take (qWj s)),_] _
 refine J.W 5 qEX z9_ O O O O O<|J.a8 (qAV (i:=3) (vs:= [Str (rdp s).con]) O O O O O z9_ O xD) O O λ_ _=>?_
 change J _ _ _ [_,_,_,blk g5 (rdp s).cells 371] _
 refine J.c j9<|J.p λ_ j10=>J.b1 [F,blk g5 (rdp s).cells 371] [5,6,100003,100004] (.y 0 (.y 1 (.y 3 (.e 2 (.y 4 (.e 5 (.e 6 .nil))))))) Tryz.wide xF xD ?_
 refine J.k O (qAe 1 O O O isAgg371 qGD O) O O<|J.k O (qAe 1 O O O isAgg371 qGD O) O O<|J.d1 O (qAz O O) O O O ?_
 refine J.a2 O (qAa O O (λF' hF=>qMR F' (hK.mono (Fa hF)) (rdp s) (qWz s))) O xD λg41 _=>J.d1 O (qBF O O O) O O O ?_
 refine J.c1 O (qAD (l:=qJ0.cells) (i:=1) (vs:=(rdp s).cells) O O O O O qGD O O) O O O λ_ _=>?_
 change J _ _ _ [_,blk g2 (rdp s).cells 371,_,_] _
 refine J.d4 O (YOp.eop (qA9 O O)) O O O O ?_
 intro _ _
 refine J.b0<|J.u (J.D j10 ?_)
 exact J.A<|J.a9 hw0 (λ_ _ h=>h) (rv2 O (RV.blkA 1 O O isAgg371 qGD) O) (qAg () (by unfold qCn;rw [if_pos (show qUF (s.take 56)=s.drop 56 from Decidable.not_not.1 h12)]) trivial [0] O xC)
theorem qOV:(qCn (List.replicate 64 0)).2=false∨(qCn (List.replicate 64 0)).1.turn=0:=by
  unfold qCn
  split
  · right
    show UInt64.ofNat (qFR ((R0 (List.replicate 64 0)).out 4))=0
    decide
  · exact .inl O
theorem qLD(F:Hp)(hK:qAG F ⟨3,0,none⟩ (Sha.K.map W32))(gh:Option Addr)(A:Option Addr)(n c:Nat)(ls:List xA)(hl:Sl F 1 A n c (qAH ls))(hn:0<n)(s:xA)(hs:ls[0]?=some s)(h64:s.length=64)(hok:(qCn s).2=true)(ht:(qCn s).1.turn=0):
    Cz prog 199 [.pointer gh,.slice A n c] F (.tuple #[.int .u64 0,Str [],I 0,.bool false]):=by
  refine Ct.walk func199 O ntmps199 O (λw0 hw0=>?_)
  refine J.f λ_ j1=>J.j 4 O<|J.c j1<|J.f λ_ j2=>J.b O<|J.g (qAF (i:=0) O O O qAj z9_ hl hn) O<|J.g (qAI O O b9_ (m:=F) xD (hl.elem (qAb hs))) O<|J.q (qAa O O (λF' hF=>qMV F' (hK.mono (Fa hF)) s h64)) O λg18 _=>J.j 2 O<|J.g ((qAS (v:= .bool (qCn s).2) O O O).as (v':= .bool true) (by rw [hok])) O<|J.q (qAJ O qLk O) O λg8 _=>J.a8 (qAD (l:=qJ0.cells) (i:=1) (vs:=(qCn s).1.cells) O O O O O qGD O O) O O λ_ _=>J.b O<|J.c j2<|J.p λ_ j3=>J.p λ_ j4=>J.b1 [blk g8 (qCn s).1.cells 371] [] (.y 0 (.y 1 (.y 2 (.y 3 (.y 4 (.y 5 (.y 6 (.y 7 (.y 8 (.y 9 (.y 10 (.y 11 (.y 12 (.y 13 (.y 14 (.y 15 (.y 16 (.y 17 (.y 18 (.y 19 (.y 20 (.y 21 (.y 22 (.y 23 (.y 24 (.y 25 (.y 26 (.y 27 (.y 28 (.y 29 (.y 30 (.y 31 (.y 32 (.y 33 (.y 34 (.y 35 (.y 36 (.y 37 (.y 38 (.y 39 (.y 40 (.y 41 (.y 42 (.y 43 (.y 44 (.y 45 (.y 46 .nil))))))))))))))))))))))))))))))))))))))))))))))) Tryz.wide xF xD ?_
  refine J.L ?_
  refine J.k O ((qAu O O).as (v':= .bool false) O) O O<|J.L ?_
  refine J.b8 O (qAA O O qEX O z3_ O) O O<|J.b8 O (qAC 0 O O O b3_ O) O O<|J.b8 O (qAY O O O) O O<|J.e5 ?_
  refine J.L ?_
  refine J.b9 (d:=28) O (λh28=>?_) (λh28=>?_)
  ·
    iterate 3 refine J.b3 ?_
    refine J.d2 ?_
    refine J.L ?_
    iterate 9 refine J.b3 ?_
    refine J.d2 ?_
    refine J.L ?_
    iterate 5 refine J.b3 ?_
    refine J.d2 ?_
    refine J.L ?_
    iterate 7 refine J.b3 ?_
    refine J.c2 O (Wan.un O O O O) O O ?_
    refine J.c2 O (Wan.un O O O O) O O ?_
    refine J.c2 O (Wan.un O O O O) O O ?_
    refine J.c2 O (Wan.un O O O O) O O ?_
    refine J.c2 O (Wan.un O O O O) O O ?_
    refine J.c2 O (Wan.un O O O O) O O ?_
    refine J.c2 O (Wan.un O O O O) O O ?_
    refine J.b3 ?_
    refine J.d2 ?_
    refine J.b0<|J.u (J.D j4 ?_)
    refine J.c4 ?_
    exact J.f λ_ j5=>J.j 4 O<|J.c j5<|J.A<|J.V<|J.a9 hw0 (λ_ _ h=>h) (qSE O O O O O) (qAg () O trivial [0] O xC)
  refine J.b8 O (qAA O O qEX O qD8 O) O O<|J.b8 O (qAC 0 O O O qFC O) O O<|J.b8 O ((qAZ O O O).as (v':= .bool true) (by rw [ht];rfl)) O O<|J.e5 ?_
  refine J.L ?_
  iterate 9 refine J.b3 ?_
  refine J.d2 ?_
  refine J.L ?_
  iterate 5 refine J.b3 ?_
  refine J.d2 ?_
  refine J.L ?_
  iterate 7 refine J.b3 ?_
  refine J.c2 O (Wan.un O O O O) O O ?_
  refine J.c2 O (Wan.un O O O O) O O ?_
  refine J.c2 O (Wan.un O O O O) O O ?_
  refine J.c2 O (Wan.un O O O O) O O ?_
  refine J.c2 O (Wan.un O O O O) O O ?_
  refine J.c2 O (Wan.un O O O O) O O ?_
  refine J.c2 O (Wan.un O O O O) O O ?_
  refine J.b3 ?_
  refine J.d2 ?_
  refine J.b0<|J.u (J.D j4 ?_)
  refine J.c4 ?_
  exact J.f λ_ j6=>J.j 4 O<|J.c j6<|J.A<|J.V<|J.a9 hw0 (λ_ _ h=>h) (qSE O O O O O) (qAg () O trivial [0] O xC)
theorem qLE(F:Hp)(hK:qAG F ⟨3,0,none⟩ (Sha.K.map W32))(gh:Option Addr)(A:Option Addr)(n c:Nat)(ls:List xA)(hl:Sl F 1 A n c (qAH ls))(hn:0<n)(s:xA)(hs:ls[0]?=some s)(h64:s.length=64)(hok:(qCn s).2=false):
    Cz prog 199 [.pointer gh,.slice A n c] F (.tuple #[.int .u64 0,Str [],I 0,.bool false]):=by
  refine Ct.walk func199 O ntmps199 O (λw0 hw0=>?_)
  refine J.f λ_ j1=>J.j 4 O<|J.c j1<|J.f λ_ j2=>J.b O<|J.g (qAF (i:=0) O O O qAj z9_ hl hn) O<|J.g (qAI O O b9_ (m:=F) xD (hl.elem (qAb hs))) O<|J.q (qAa O O (λF' hF=>qMV F' (hK.mono (Fa hF)) s h64)) O λg18 _=>J.j 2 O<|J.g ((qAS (v:= .bool (qCn s).2) O O O).as (v':= .bool false) (by rw [hok])) O<|J.q (qAJ O qLk O) O λg8 _=>J.a8 (qAD (l:=qJ0.cells) (i:=1) (vs:=(qCn s).1.cells) O O O O O qGD O O) O O λ_ _=>J.b O<|J.c j2<|J.p λ_ j3=>J.p λ_ j4=>J.b1 [blk g8 (qCn s).1.cells 371] [] (.y 0 (.y 1 (.y 2 (.y 3 (.y 4 (.y 5 (.y 6 (.y 7 (.y 8 (.y 9 (.y 10 (.y 11 (.y 12 (.y 13 (.y 14 (.y 15 (.y 16 (.y 17 (.y 18 (.y 19 (.y 20 (.y 21 (.y 22 (.y 23 (.y 24 (.y 25 (.y 26 (.y 27 (.y 28 (.y 29 (.y 30 (.y 31 (.y 32 (.y 33 (.y 34 (.y 35 (.y 36 (.y 37 (.y 38 (.y 39 (.y 40 (.y 41 (.y 42 (.y 43 (.y 44 (.y 45 (.y 46 .nil))))))))))))))))))))))))))))))))))))))))))))))) Tryz.wide xF xD ?_
  refine J.L ?_
  refine J.k O ((qAu O O).as (v':= .bool true) O) O O<|J.L ?_
  iterate 3 refine J.b3 ?_
  refine J.d2 ?_
  refine J.L ?_
  iterate 3 refine J.b3 ?_
  refine J.d2 ?_
  refine J.L ?_
  iterate 9 refine J.b3 ?_
  refine J.d2 ?_
  refine J.L ?_
  iterate 5 refine J.b3 ?_
  refine J.d2 ?_
  refine J.L ?_
  iterate 7 refine J.b3 ?_
  refine J.c2 O (Wan.un O O O O) O O ?_
  refine J.c2 O (Wan.un O O O O) O O ?_
  refine J.c2 O (Wan.un O O O O) O O ?_
  refine J.c2 O (Wan.un O O O O) O O ?_
  refine J.c2 O (Wan.un O O O O) O O ?_
  refine J.c2 O (Wan.un O O O O) O O ?_
  refine J.c2 O (Wan.un O O O O) O O ?_
  refine J.b3 ?_
  refine J.d2 ?_
  refine J.b0<|J.u (J.D j4 ?_)
  refine J.c4 ?_
  exact J.f λ_ j5=>J.j 4 O<|J.c j5<|J.A<|J.V<|J.a9 hw0 (λ_ _ h=>h) (qSE O O O O O) (qAg () O trivial [0] O xC)
theorem qNi(F:Hp)(hK:qAG F ⟨3,0,none⟩ (Sha.K.map W32))(gh:Option Addr)(A:Option Addr)(n c:Nat)(ls:List xA)(hl:Sl F 1 A n c (qAH ls))(hn:0<n)(s:xA)(hs:ls[0]?=some s)(h64:s.length=64)(hz:(qCn s).2=false∨(qCn s).1.turn=0):
    Cz prog 199 [.pointer gh,.slice A n c] F (.tuple #[.int .u64 0,Str [],I 0,.bool false]):=by
  cases h:(qCn s).2 with
  |false=>exact qLE F hK gh A n c ls hl hn s hs h64 h
  |true=>exact qLD F hK gh A n c ls hl hn s hs h64 h (hz.resolve_left (by rw [h];decide))
def zS:xA:=List.replicate 64 0
theorem qWk:zS.length=64:=jJ
theorem qUK:(qCn zS).2=false∨(qCn zS).1.turn=0:=qOV
theorem qNY(n:Nat)(z:xA):qAH (List.replicate n z)++qAH [z]=qAH (List.replicate (n+1) z):=by
 rw [List.replicate_succ',←qHc]
theorem qQ2(F:Hp)(hK:qAG F ⟨3,0,none⟩ (Sha.K.map W32))(gb gd:Nat)(first:Int)(size:Nat)(hat:Int)(hturn:UInt64)(hend:Int)(Ar:Option Addr)(nr cr:Nat)(bad:Bool)(hB:qAG F ⟨gb,0,none⟩ [Ptr gd,I first,I (size:Nat),I hat,W64 hturn,I hend,.slice Ar nr cr,.bool bad])(d:Dk)(A:Option Addr)(c:Nat)(B:Option Addr)(e:Nat)(C:Option Addr)(f:Nat)(hc:qAG F ⟨gd,0,none⟩ (d.cells A c B e C f))(hL:Sl F 1 A d.last.length c (qAH d.last))(hW:Sl F 2 B d.wait.length e (qDQ d.wait))(hn1:d.last.length≤1073741824)(hn2:d.wait.length≤1073741824)
    (at_:Nat) (hs0:0<size) (hs:at_+size≤1048576) (hz: ∀i:Nat,i<size→d.ready ((at_+i:Nat):Int)=0∧d.read ((at_+i:Nat):Int)=zS):
    Cz prog 121 [Ptr gb,I (at_:Nat)] F (.tuple #[.agg #[I at_,W64 0,I 0,.slice none 0 0],I 0]):=by
  refine Ct.walk func121 O ntmps121 O (λw0 hw0=>?_)
  refine J.f λ_ j1=>J.q (qAJ O zeroValue242 O) O λg4 _=>J.b O<|J.c j1<|J.f λ_ j2=>J.b O<|J.g (qAL (places:= [(0,1),(1,1),(2,1),(3,1)]) (r:= [I at_,W64 0,I 0,.slice none 0 0]) O O O qEG zeroValue242 (λ_=>xH) O) O<|J.q (qAJ O zeroValue242 O) O λg6 _=>J.a8 (qAD (l:= [I 0,W64 0,I 0,.slice none 0 0]) (i:=2) (vs:= [I at_,W64 0,I 0,.slice none 0 0]) O O O O O qDX O O) O O λ_ _=>J.c j2<|J.f λ_ j3=>J.b O<|J.c j3<|J.p λ_ j4=>J.p λ_ j5=>J.c5 [0,1,2,3] [F,blk g4 _ 242,blk g6 [I at_,W64 0,I 0,.slice none 0 0] 242,(λ_=>none)] O xC<|J.H<|J.b O<|J.g (qAB O O) O<|J.W 2 qFF z3_ O O O O O<|J.g (qAI O O b3_ (m:=F) xD (hB.at (i:=2) O)) O<|J.b O<|J.c j5<|J.T<|J.b6 (X:=Nat×Hp×Option Addr×Nat) (λx=> [(0,Ptr gb),(1,I (at_:Nat)),(4,Ptr g4),(6,Ptr g6),(7,.slice x.2.2.1 x.1 x.2.2.2),(20,I (size:Nat)),(21,I x.1)]) (λx=> [F,blk g4 [I 0,W64 0,I 0,.slice none 0 0] 242,blk g6 [I at_,W64 0,I 0,.slice none 0 0] 242,x.2.1]) (λx=>x.1≤size∧Row x.2.1 9 1 x.2.2.1 x.1 x.2.2.2 (qAH (List.replicate x.1 zS))) (λx=>size-x.1) (0,(λ_=>none),none,0) (⟨jF _,qBS.nil⟩) ⟨O,O,O,O,O,O,O,trivial⟩ (λ_ h=>h) ?_
  rintro⟨k,m,A7,c7⟩ ⟨hk,hr⟩ I0 hI0
  dsimp only at hk hr⊢
  refine J.f λ_ j6=>J.g (qAQ O O O) O<|J.c j6<|J.p λ_ j7=>J.Z O (λh22=>?_) (λh22=>?_)
  ·
    refine J.M j7<|J.p λ_ j8=>J.T<|J.f λ_ j9=>J.j 2 O<|J.c j9<|J.f λ_ j10=>J.b O<|J.g (qAB O O) O<|J.W 0 qFF sizeOf24 O O O O O<|J.g (qAI O O isAgg24 (m:=F) xD (hB.at (i:=0) O)) O<|J.j 2 O<|J.g ((qAR O O O xB).nat (at_+k) xB) O<|J.q (qAa O O (λF' hF=>qRt F' gd d A c B e C f (hc.mono (Fa hF)) (hL.mono (Fa hF)) (hW.mono (Fa hF)) ((at_+k:Nat):Int) hn1 hn2)) O λg32 _=>J.b O<|J.g ((qAS (v:=Str (d.read ((at_+k:Nat):Int))) O O O).as (v':=Str zS) (by rw [(hz k xB).2])) O<|J.g ((qAS (v:=I (d.ready ((at_+k:Nat):Int))) O O O).as (v':=I 0) (by rw [(hz k xB).1])) O<|J.j 2 O<|J.c j10<|J.p λ_ j11=>J.f λ_ j12=>J.b O<|J.g ((qAY O O O).no xC) O<|J.c j12<|J.a3 ?_
    refine J.M j11<|J.H<|J.j 2 O<|J.q (qAE (l:= [.tmp 40]) (xs:= [[Str zS]]) O O O O qAj el9 O xC xC xD) O λg41 _=>J.q (qAW (i:=3) (m2:=blk g41 [Str zS] 9) O O O qAj qAj el9 O hr xD ((qAm (q:=True) (xs:=qAH [zS]) O (by simp [qAH])).sl) (by simp [qAH,Value.oneCell']) xB xB) O ?_
    rintro⟨A8,c8,m8⟩ h8
    try dsimp only at h8
    rw [qNY] at h8
    refine J.b O<|J.a4<|J.a1<|J.u (J.D j8 ?_)
    exact J.H<|J.g ((qAR O O O xB).nat (k+1) xB) O<|J.b O<|J.a4<|J.u<|J.a7 (k+1,m8,A8,c8) (λy (hy:_∧size-y.1<size-k)=>hI0 y hy.1 hy.2) ⟨⟨by dsimp only;omega,h8⟩,by dsimp only;omega⟩ ⟨O,O,O,O,O,O,O,trivial⟩ (λ_ h=>h.pick [0,1,2,3] xC)
  refine J.b4<|J.a0<|J.a0<|J.b5 ?_
  refine J.u (J.D j4 ?_)
  refine J.p λ_ j13=>J.T<|J.b6 (X:=Unit) (λ_=> [(4,Ptr g4),(6,Ptr g6),(7,.slice A7 k c7)]) (λ_=> [F,blk g4 [I 0,W64 0,I 0,.slice none 0 0] 242,blk g6 [I at_,W64 0,I 0,.slice none 0 0] 242,m]) (λ_=>True) (λ_=>0) () (trivial) ⟨O,O,O,trivial⟩ (λ_ h=>h) ?_
  rintro _ _ I2 hI2
  refine J.p λ_ j14=>J.f λ_ j15=>J.b O<|J.g (qAP qAj O O) O<|J.g ((qA0 O O O).yes xB) O<|J.c j15<|J.c4 ?_
  refine J.M j14<|J.T<|J.f λ_ j16=>J.b O<|J.q (qAa O O (λF' hF=>qNi F' (hK.mo hF) (some ⟨g6,0,none⟩) A7 k c7 (List.replicate k zS) (hr.sl.mono (Fa hF)) xB zS (by rw [List.getElem?_replicate,if_pos xB]) qWk qUK)) O ?_
  intro g49 _
  refine J.j 9 O<|J.c j16<|J.p λ_ j17=>J.f λ_ j18=>J.b O<|J.g ((qAu O O).as (v':= .bool true) O) O<|J.c j18<|J.c4 ?_
  refine J.b4<|J.a0<|J.h1 O ?_
  refine J.a0<|J.b5 ?_
  refine J.u (J.D j13 ?_)
  exact J.f λ_ j19=>J.c0 2 isAgg242 qDX O O O O O<|J.a8 (qAD (l:= [I 0,W64 0,I 0,.slice none 0 0]) (i:=1) (vs:= [I at_,W64 0,I 0,.slice none 0 0]) O O O O O qDX O O) O O λ_ _=>J.b O<|J.c j19<|J.A<|J.a9 hw0 (λ_ _ h=>h) (rv2 O (RV.blkA 1 O O isAgg242 qDX) O) (qAg () O trivial [0] O xC)
def hatk(first:Nat):Nat→Int
 |0=>0
 |_+1=>first
theorem qNr(F:Hp)(hK:qAG F ⟨3,0,none⟩ (Sha.K.map W32))(gd:Nat)(d:Dk)(A:Option Addr)(c:Nat)(B:Option Addr)(e:Nat)(C:Option Addr)(f:Nat)(hc:qAG F ⟨gd,0,none⟩ (d.cells A c B e C f))(hL:Sl F 1 A d.last.length c (qAH d.last))(hW:Sl F 2 B d.wait.length e (qDQ d.wait))(hn1:d.last.length≤1024)(hn2:d.wait.length≤1073741824)(first count:Nat)(h8:8≤count)(hfc:first+count≤d.last.length)(hz: ∀i:Nat,i<d.last.length→d.ready (i:Int)=0∧d.read (i:Int)=zS):
    Ct prog 51 [Ptr gd,I (first:Nat),I (count:Nat)] [F] (λg:Nat=> .tuple #[Ptr g,I 0]) (λ_=>True) (λg41=> [F,blk g41 [Ptr gd,I (first:Nat),I ((count/2):Nat),I (first:Nat),W64 0,I 0,.slice none 0 0,.bool false] 244]):=by
  refine Ct.walk func51 O ntmps51 O (λw0 hw0=>?_)
  refine J.f λ_ j1=>J.j 2 O<|J.c j1<|J.p λ_ j2=>J.f λ_ j3=>J.b O<|J.g ((qA2 underlying24 O O O).as (v':= .bool false) O) O<|J.j 2 O<|J.G ((qAQ O O O).no xB) O<|J.j 3 O<|J.G ((qAQ O O O).no xB) O<|J.j 4 O<|J.d0 (qAa O O (λF' hF=>qM8 F' gd d A c B e C f (hc.mono (Fa hF)))) O λg25 _=>J.G ((qA0 O O O).no xB) O<|J.j 4 O<|J.d0 (qAa O O (λF' hF=>qM8 F' gd d A c B e C f (hc.mono (Fa hF)))) O λg31 _=>J.b O<|J.G (qA1 O O O xB) O<|J.G ((qA0 O O O).no xB) O<|J.b O<|J.c j3<|J.a3 ?_
  refine J.M j2<|J.f λ_ j4=>J.j 3 O<|J.g ((qHl O O O xB).as (v':=I (count/2:Nat)) (congrArg I (Int.ofNat_tdiv _ _).symm)) O<|J.g (qAL (places:= [(0,1),(1,1),(2,1),(3,4),(7,1)]) (r:= [Ptr gd,I (first:Nat),I ((count/2):Nat),I 0,W64 0,I 0,.slice none 0 0,.bool false]) O O O qFF zeroValue244 (λ_=>xH) O) O<|J.q (qAd O O O) O ?_
  rintro g41 _
  refine J.b O<|J.c j4<|J.p λ_ j5=>J.f λ_ j6=>J.b O<|J.c j6<|J.T<|J.b6 (X:=Nat) (λk=> [(1,I (first:Nat)),(8,Ptr g41),(42,I k)]) (λk=> [F,blk g41 [Ptr gd,I (first:Nat),I ((count/2):Nat),I (hatk first k),W64 0,I 0,.slice none 0 0,.bool false] 244]) (λk=>k≤2) (λk=>2-k) 0 (jF _) ⟨O,O,O,trivial⟩ (λ_ h=>h) ?_
  intro k hk I0 hI0
  refine J.f λ_ j7=>J.g (qAQ O O O) O<|J.c j7<|J.p λ_ j8=>J.Z O (λh43=>?_) (λh43=>?_)
  ·
    refine J.M j8<|J.p λ_ j9=>J.T<|J.f λ_ j10=>J.j 2 O<|J.c j10<|J.p λ_ j11=>?_
    obtain ⟨km,hkm⟩: ∃km,km=k*(count/2):=⟨_,rfl⟩
    have hk2:k<2:=xB
    have hkm2:km+(count/2)≤count:=by
      have:k=0∨k=1:=xB
      rcases this with e|e<;>rw [hkm,e]<;>omega
    refine J.H<|J.j 4 O<|J.g (qAB O O) O<|J.W 2 qFF z3_ O O O O O<|J.a5 1 b3_ O O O O O<|J.g ((qDP O O O (by rw [←yF,←hkm];omega)).as (v':=I (km:Nat)) (congrArg I (by rw [hkm,yF]))) O<|J.g ((qAR O O O xB).nat (first+km) xB) O<|J.q (qAa O O (λF' hF=>qQ2 F' (hK.mo hF) g41 gd (first:Nat) (count/2) (hatk first k) 0 0 none 0 0 false (qAG.blk0.mono (hF (blk g41 [Ptr gd,I (first:Nat),I ((count/2):Nat),I (hatk first k),W64 0,I 0,.slice none 0 0,.bool false] 244) xD)) d A c B e C f (hc.mono (Fa hF)) (hL.mono (Fa hF)) (hW.mono (Fa hF)) xB hn2 (first+km) xB xB (λi hi=>hz (first+km+i) xB))) O λg55 _=>J.j 3 O<|J.q (qAJ O zeroValue242 O) O λg10 _=>J.a8 (qAD (l:= [I 0,W64 0,I 0,.slice none 0 0]) (i:=2) (vs:= [I (first+km:Nat),W64 0,I 0,.slice none 0 0]) O O O O O qDX O O) O O λ_ _=>J.b O<|J.c j11<|J.p λ_ j12=>J.f λ_ j13=>J.b O<|J.g ((qAY O O O).no xC) O<|J.c j13<|J.a3 ?_
    refine J.M j12<|J.p λ_ j14=>J.b1 [F,blk g41 [Ptr gd,I (first:Nat),I ((count/2):Nat),I (hatk first k),W64 0,I 0,.slice none 0 0,.bool false] 244,blk g10 [I (first+km:Nat),W64 0,I 0,.slice none 0 0] 242] [] (.y 0 (.y 1 (.y 2 (.y 3 (.y 4 (.y 5 (.y 6 (.y 7 (.y 8 (.y 9 (.y 10 (.y 11 (.y 12 (.y 13 (.y 14 (.y 15 (.y 16 (.y 17 (.y 18 (.y 19 (.y 20 (.y 21 (.y 22 (.y 23 (.y 24 (.y 25 (.y 26 .nil))))))))))))))))))))))))))) Tryz.wide xF xD ?_
    refine J.L ?_
    refine J.k O (qAZ O O O) O O<|J.L ?_
    refine J.b9 (d:=63) O (λh63=>?_) (λh63=>?_)
    ·
      iterate 5 refine J.b3 ?_
      refine J.c2 O (Wan.un O O O O) O O ?_
      refine J.c2 O (Wan.un O O O O) O O ?_
      refine J.c2 O (Wan.un O O O O) O O ?_
      refine J.c2 O (Wan.un O O O O) O O ?_
      refine J.c2 O (Wan.un O O O O) O O ?_
      refine J.c2 O (Wan.un O O O O) O O ?_
      refine J.c2 O (Wan.un O O O O) O O ?_
      refine J.c2 O (Wan.un O O O O) O O ?_
      refine J.c2 O (Wan.un O O O O) O O ?_
      refine J.c2 O (Wan.un O O O O) O O ?_
      refine J.c2 O (Wan.un O O O O) O O ?_
      refine J.c2 O (Wan.un O O O O) O O ?_
      refine J.c2 O (Wan.un O O O O) O O ?_
      refine J.c2 O (Wan.un O O O O) O O ?_
      refine J.c2 O (Wan.un O O O O) O O ?_
      refine J.c2 O (Wan.un O O O O) O O ?_
      refine J.c2 O (Wan.un O O O O) O O ?_
      refine J.b3 ?_
      refine J.d2 ?_
      refine J.b0<|J.u (J.D j14 ?_)
      refine J.c4 ?_
      refine J.H<|J.b O<|J.c0 2 isAgg242 qDX O O O O O<|J.g (qAB O O) O<|J.W 3 qFF qDX O O O O O<|J.a8 (qAV (i:=1) O O O O O qDX O xD) O O λ_ _=>J.a4<|J.a1<|J.u (J.D j9 ?_)
      refine J.H<|J.g ((qAR O O O xB).nat (k+1) xB) O<|J.b O<|J.a4<|J.u ?_
      have hk0:k=0:=xB
      subst hk0
      have hk0m:km=0:=xB
      subst hk0m
      exact J.a7 1 (λy (hy:_∧2-y<2-0)=>hI0 y hy.1 hy.2) ⟨xB,xB⟩ ⟨O,O,O,trivial⟩ (λ_ h=>h.pick [0,1] xC)
    refine J.b8 O (qAA O O qEG O qBt O) O O<|J.b8 O (qAC 2 O O O qCA O) O O<|J.b8 O (qAP qAj O O) O O<|J.b8 O ((qA0 O O O).no xC) O O<|J.b8 O (qAz O O) O O<|J.b3 ?_
    iterate 7 refine J.b3 ?_
    refine J.c2 O (Wan.un O O O O) O O ?_
    refine J.c2 O (Wan.un O O O O) O O ?_
    refine J.c2 O (Wan.un O O O O) O O ?_
    refine J.c2 O (Wan.un O O O O) O O ?_
    refine J.c2 O (Wan.un O O O O) O O ?_
    refine J.c2 O (Wan.un O O O O) O O ?_
    refine J.c2 O (Wan.un O O O O) O O ?_
    refine J.c2 O (Wan.un O O O O) O O ?_
    refine J.b3 ?_
    refine J.b8 O (qCL O O O) O O<|J.e5 ?_
    refine J.b0<|J.u (J.D j14 ?_)
    refine J.a3 ?_
    refine J.b2<|J.a1<|J.u (J.D j9 ?_)
    refine J.H<|J.g ((qAR O O O xB).nat (k+1) xB) O<|J.b O<|J.a4<|J.u ?_
    have hk1:k=1:=xB
    subst hk1
    exact J.a7 2 (λy (hy:_∧2-y<2-1)=>hI0 y hy.1 hy.2) ⟨xB,xB⟩ ⟨O,O,O,trivial⟩ (λ_ h=>h.pick [0,1] xC)
  refine J.b4<|J.a0<|J.a0<|J.b5 ?_
  refine J.u (J.D j5 ?_)
  refine J.p λ_ j15=>?_
  have hk2:k=2:=xB
  subst hk2
  exact J.H<|J.j 3 O<|J.c j15<|J.A<|J.a9 hw0 (λ_ _ h=>h) (qBk O O O) (qAg g41 O trivial [0,1] O xC)
theorem qXG(F:Hp)(gb gd:Nat)(first:Int)(size:Nat)(hat:Int)(hturn:UInt64)(hend:Int)(Ar:Option Addr)(nr cr:Nat)(bad:Bool)(hB:qAG F ⟨gb,0,none⟩ [Ptr gd,I first,I (size:Nat),I hat,W64 hturn,I hend,.slice Ar nr cr,.bool bad])(s:xA):
    Cz prog 209 [Ptr gb,Str s] F (I (if 900<s.length then 2 else if bad=true then 21 else 0)):=by
  refine Ct.walk func209 O ntmps209 O (λw0 hw0=>?_)
  refine J.f λ_ j1=>J.b O<|J.c j1<|J.p λ_ j2=>J.T<|J.f λ_ j3=>J.b O<|J.g ((qA2 underlying125 O O O).as (v':= .bool false) O) O<|J.b O<|J.c j3<|J.a3 ?_
  refine J.f λ_ j4=>J.b O<|J.g (qAp u9_ O O) O<|J.g (qA0 O O O) O<|J.b O<|J.c j4<|J.Z O (λh8=>?_) (λh8=>?_)
  ·
    exact J.f λ_ j5=>J.b O<|J.c j5<|J.A<|J.a6<|J.V<|J.E hw0 O () (congrArg I (by rw [if_pos xB])) trivial [0] O xC
  refine J.f λ_ j6=>J.b O<|J.g (qAB O O) O<|J.W 7 qFF z4_ O O O O O<|J.g ((qAI O O b4_ (m:=F) xD (hB.at (i:=7) O)).as (v':= .bool (decide (bad=true))) (by rw [Bool.decide_eq_true])) O<|J.b O<|J.c j6<|J.Z O (λh12=>?_) (λh12=>?_)
  ·
    exact J.f λ_ j7=>J.b O<|J.c j7<|J.A<|J.a6<|J.V<|J.E hw0 O () (congrArg I (by rw [if_neg xB,if_pos xG])) trivial [0] O xC
  refine J.b2<|J.a1<|J.u (J.D j2 ?_)
  exact J.f λ_ j8=>J.b O<|J.c j8<|J.A<|J.E hw0 O () (congrArg I (by rw [if_neg xB,if_neg xG])) trivial [0] O xC
theorem qP8(F:Hp)(gb gd:Nat)(first:Int)(size:Nat)(hat:Int)(hturn:UInt64)(hend:Int)(Ar:Option Addr)(nr cr:Nat)(bad:Bool)(hB:qAG F ⟨gb,0,none⟩ [Ptr gd,I first,I (size:Nat),I hat,W64 hturn,I hend,.slice Ar nr cr,.bool bad])(hs:size≤1048576)(he:0≤hend∧hend≤1048576):
    Cz prog 136 [Ptr gb] F (I ((size:Int)-hend)):=by
  refine Ct.walk func136 O ntmps136 O (λw0 hw0=>?_)
  refine J.f λ_ j1=>J.b O<|J.c j1<|J.p λ_ j2=>J.f λ_ j3=>J.b O<|J.g ((qA2 underlying125 O O O).as (v':= .bool false) O) O<|J.c j3<|J.a3 ?_
  refine J.M j2<|J.p λ_ j4=>J.b1 [F] [] (.y 0 (.y 1 (.y 2 (.y 3 (.y 4 (.y 5 (.y 6 (.y 7 (.y 8 (.y 9 (.y 10 .nil))))))))))) Tryz.wide xF xD ?_
  refine J.L ?_
  refine J.k O (qAB O O) O O<|J.k O (qAA O O qFF O z3_ O) O O<|J.k O (qAI O O b3_ (m:=F) xD (hB.at (i:=2) O)) O O<|J.L ?_
  refine J.k O (qAB O O) O O<|J.k O (qAA O O qFF O qDX O) O O<|J.k O (qAA O O qEG O z3_ O) O O<|J.k O (qAI O O b3_ (m:=F) xD (hB.at (i:=5) O)) O O<|J.k O (qA1 O O O xB) O O<|J.b7 ?_
  refine J.b0<|J.u (J.D j4 ?_)
  exact J.A<|J.E hw0 O () O trivial [0] O xC
theorem qNh(F:Hp)(gb gd:Nat)(first:Int)(size:Nat)(hat:Int)(hturn:UInt64)(hend:Int)(Ar:Option Addr)(nr cr:Nat)(bad:Bool)(hB:qAG F ⟨gb,0,none⟩ [Ptr gd,I first,I (size:Nat),I hat,W64 hturn,I hend,.slice Ar nr cr,.bool bad])(L:List xA)(hLn:L.length=nr)(hL:Sl F 1 Ar nr cr (qAH L))(hn:nr≤1073741824):
    Ct prog 53 [Ptr gb] [F] (λx:Option Addr×Nat×Hp=> .slice x.1 L.length x.2.1) (λx=>Row x.2.2 9 1 x.1 L.length x.2.1 (qAH L)) (λx=> [F,x.2.2]):=by
  subst hLn
  refine Ct.walk func53 O ntmps53 O (λw0 hw0=>?_)
  refine J.f λ_ j1=>J.b O<|J.c j1<|J.p λ_ j2=>J.f λ_ j3=>J.b O<|J.g ((qA2 underlying125 O O O).as (v':= .bool false) O) O<|J.c j3<|J.a3 ?_
  refine J.M j2<|J.f λ_ j4=>J.b O<|J.g (qAB O O) O<|J.W 3 qFF qDX O O O O O<|J.W 6 qEG qBt O O O O O<|J.g (qAI O O qCA (m:=F) xD (hB.at (i:=6) O)) O<|J.q (qBV O O (λF' hF=>qKV F' L Ar cr (hL.mono (Fa hF)) hn)) O ?_
  rintro⟨A10,c10,m10⟩ h10
  try dsimp only at h10
  exact J.b O<|J.c j4<|J.A<|J.E hw0 O (A10,c10,m10) O h10 [0,1] O xC
theorem qKl(s:xA)(n:Nat):(s.take (min s.length n)).drop 0=s.take n:=by
 rw [zj]
 by_cases h:s.length≤n
 · rw [jo h,jY (jK _),jY h]
 · rw [Nat.min_eq_right xB]
theorem qTG(s:xA)(n:Nat):s.drop (min s.length n)=s.drop n:=by
 by_cases h:s.length≤n
 · rw [jo h,js (jK _),js h]
 · rw [Nat.min_eq_right xB]
def qGc(l:List Prt):List (List Value):=l.map Prt.cells
theorem qPP(a b:List Prt):qGc (a++b)=qGc a++qGc b:=by simp [qGc]
def prt(turn num:UInt64)(s:xA)(n i:Nat):Prt:=⟨turn,num,i,n,qKc turn num s,(s.drop (39*i)).take 39⟩
def qVD(turn num:UInt64)(s:xA)(n k:Nat):List Prt:=(List.range k).map (prt turn num s n)
theorem qPN(turn num:UInt64)(s:xA)(n k:Nat):qVD turn num s n (k+1)=qVD turn num s n k++ [prt turn num s n k]:=by unfold qVD;rw [jz,jO];rfl
theorem qPO{turn num:UInt64}{s:xA}{n k i:Nat}(h:i<k):(qGc (qVD turn num s n k))[i]?=some (prt turn num s n i).cells:=by
 unfold qGc qVD
 rw [List.map_map,jN,zA h];rfl
theorem qFM(n:Nat):1≤qBX n:=by unfold qBX;split<;>omega
theorem qEf{n:Nat}(h:n≤900):qBX n≤24:=by unfold qBX;split<;>omega
theorem qSQ(F:Hp)(hK:qAG F ⟨3,0,none⟩ (Sha.K.map W32))(turn num:UInt64)(s:xA)(ht:turn.toNat<2^(8*4))(hnm:num.toNat<2^(8*2))(hs:s.length≤900)(n:Nat)(hn:n=qBX s.length):
    Ct prog 259 [W64 turn,W64 num,Str s] [F] (λx:Option Addr×Nat×Hp=> .slice x.1 n x.2.1) (λx=>Row x.2.2 371 6 x.1 n x.2.1 (qGc (qVD turn num s n n))) (λx=> [F,x.2.2]):=by
  have hn24:n≤24:=hn▸qEf hs
  refine Ct.walk func259 O ntmps259 O (λw0 hw0=>?_)
  refine J.f λ_ j1=>J.b O<|J.c j1<|J.f λ_ j2=>J.b O<|J.g (qAp u9_ O O) O<|J.q (qAa O O (λF' hF=>by have:=qGe F' s.length xB;rw [←hn] at this;exact this)) O λg13 _=>J.j 3 O<|J.q (qAa O O (λF' hF=>qTQ F' (hK.mono (Fa hF)) turn num s ht hnm xB)) O λg17 _=>J.j 2 O<|J.c j2<|J.f λ_ j3=>J.b O<|J.c j3<|J.p λ_ j4=>J.p λ_ j5=>J.c5 [0,1] [F,(λ_=>none)] O xC<|J.H<|J.j 2 O<|J.c j5<|J.T<|J.b6 (X:=Nat×Hp×Option Addr×Nat) (λx=> [(0,W64 turn),(1,W64 num),(2,Str (s.drop (39*x.1))),(7,I n),(8,Str (qKc turn num s)),(9,.slice x.2.2.1 x.1 x.2.2.2),(18,I n),(19,I x.1)]) (λx=> [F,x.2.1]) (λx=>x.1≤n∧Row x.2.1 371 6 x.2.2.1 x.1 x.2.2.2 (qGc (qVD turn num s n x.1))) (λx=>n-x.1) (0,(λ_=>none),none,0) (⟨jF _,qBS.nil⟩) ⟨O,O,O,O,O,O,O,O,trivial⟩ (λ_ h=>h) ?_
  rintro⟨k,m,A7,c7⟩ ⟨hk,hr⟩ I0 hI0
  dsimp only at hk hr⊢
  refine J.f λ_ j6=>J.g (qAQ O O O) O<|J.c j6<|J.p λ_ j7=>J.Z O (λh20=>?_) (λh20=>?_)
  ·
    refine J.M j7<|J.p λ_ j8=>J.T<|J.f λ_ j9=>J.j 2 O<|J.c j9<|J.f λ_ j10=>J.j 8 O<|J.g (qAp u9_ O O) O<|J.g ((qEB O O O).as (v':=I (min (s.drop (39*k)).length 39:Nat)) (congrArg I xB)) O<|J.g ((qA3 u9_ O O O O ⟨xB,xB⟩).as (v':=Str ((s.drop (39*k)).take 39)) (congrArg Str (qKl _ _))) O<|J.g (qAL (places:= [(0,1),(1,1),(2,1),(3,1),(4,1),(5,1)]) (r:= [W64 turn,W64 num,I k,I n,Str (qKc turn num s),Str ((s.drop (39*k)).take 39)]) O O O qEX qLk (λ_=>xH) O) O<|J.q (qAE (l:= [.tmp 33]) (xs:= [(prt turn num s n k).cells]) O O O O qNS el371 O xC xC (by simp [Prt.cells,prt])) O λg34 _=>J.q (qAW (i:=1) (m2:=blk g34 (prt turn num s n k).cells 371) O O O qNS qNS el371 O hr xD ((qAm (q:=True) (xs:=qGc [(prt turn num s n k)]) O (by simp [qGc,Prt.cells])).sl) (by simp [qGc,Prt.cells,Value.oneCell']) xB xB) O ?_
    rintro⟨A8,c8,m8⟩ h8
    try dsimp only at h8
    rw [←qPP,←qPN] at h8
    refine J.b O<|J.c j10<|J.H<|J.j 2 O<|J.g (qAp u9_ O O) O<|J.g ((qEB O O O).as (v':=I (min (s.drop (39*k)).length 39:Nat)) (congrArg I xB)) O<|J.g ((qA3 u9_ O O O O ⟨xB,xB⟩).as (v':=Str (s.drop (39*(k+1)))) (congrArg Str (by rw [jn,qTG,zh,Nat.mul_add,Nat.mul_one]))) O<|J.b O<|J.a4<|J.a1<|J.u (J.D j8 ?_)
    exact J.H<|J.g ((qAR O O O xB).nat (k+1) xB) O<|J.b O<|J.a4<|J.u<|J.a7 (k+1,m8,A8,c8) (λy (hy:_∧n-y.1<n-k)=>hI0 y hy.1 hy.2) ⟨⟨by dsimp only;omega,h8⟩,by dsimp only;omega⟩ ⟨O,O,O,O,O,O,O,O,trivial⟩ (λ_ h=>h.pick [0,1] xC)
  refine J.b4<|J.a0<|J.a0<|J.b5 ?_
  refine J.u (J.D j4 ?_)
  refine J.p λ_ j11=>?_
  have hkn:k=n:=xB
  subst hkn
  exact J.H<|J.j 2 O<|J.c j11<|J.A<|J.E hw0 O (A7,c7,m) O hr [0,1] O xC
def qCF(d:Dk)(p:Nat)(t:Nat→xA):Nat→Dk×Int
 |0=>(d,0)
 |k+1=>if(qCF d p t k).2=0 then((qCF d p t k).1.write ((p+k:Nat):Int) (t k),(qCF d p t k).1.wErr ((p+k:Nat):Int) (t k)) else qCF d p t k
theorem qGG{d:Dk}{p:Nat}{t:Nat→xA}{k:Nat}(h:(qCF d p t k).2=0):qCF d p t (k+1)=((qCF d p t k).1.write ((p+k:Nat):Int) (t k),(qCF d p t k).1.wErr ((p+k:Nat):Int) (t k)):=if_pos h
theorem qGH{d:Dk}{p:Nat}{t:Nat→xA}{k:Nat}(h: ¬(qCF d p t k).2=0): ∀n,qCF d p t (k+n)=qCF d p t k
 |0=>rfl
 |n+1=>by
  have e:=qGH h n
  show(if(qCF d p t (k+n)).2=0 then _ else qCF d p t (k+n))=_
  rw [e,if_neg h]
def qKr(d:Dk)(p:Nat)(t:Nat→xA)(n:Nat):Dk×Int:=if(qCF d p t n).2=0 then((qCF d p t n).1.sync,(qCF d p t n).1.sErr) else qCF d p t n
theorem qQy(d:Dk):d.burn.keep=d.keep∧d.burn.wait.length≤d.wait.length:=by
  unfold Dk.burn Dk.cut
  split
  · split
    · exact⟨O,jF _⟩
    · exact⟨O,jK _⟩
  · exact⟨O,jK _⟩
theorem qNM(d:Dk)(i:Int)(s:xA):(d.write i s).keep=d.keep∧(d.write i s).wait.length≤d.wait.length+1:=by
  have hb:=qQy d
  unfold Dk.write
  split
  · exact⟨O,Nat.le_succ _⟩
  · split
    · exact⟨O,Nat.le_succ _⟩
    · split
      · exact⟨hb.1,Nat.le_succ_of_le hb.2⟩
      · refine⟨hb.1,?_⟩
        show(d.burn.wait++ [_]).length≤_
        rw [jA];exact Nat.succ_le_succ hb.2
theorem qIF{d:Dk}(h:d.ok)(p:Nat)(t:Nat→xA): ∀k,(qCF d p t k).1.ok∧(qCF d p t k).1.wait.length≤d.wait.length+k∧(qCF d p t k).1.keep=d.keep
  |0=>⟨h,jK _,rfl⟩
  |k+1=>by
    obtain ⟨h1,h2,h3⟩:=qIF h p t k
    by_cases he:(qCF d p t k).2=0
    · rw [qGG he]
      have hw:=qNM (qCF d p t k).1 ((p+k:Nat):Int) (t k)
      exact⟨h1.write _ _,jg hw.2 xB,hw.1.trans h3⟩
    · rw [show k+1=k+1 from rfl,qGH he 1]
      exact⟨h1,xB,h3⟩
theorem qPR{turn num:UInt64}{s:xA}{n i:Nat}(ht:turn.toNat<2^(8*4))(hn:num.toNat<2^(8*2))(h:n≤24)(hi:i<n):(prt turn num s n i).ok:=
 ⟨ht,hn,by show i<256;omega,by show n<256;omega,by show(qKc _ _ _).length≤8;rw [qQ4];exact jK _,by show((s.drop _).take 39).length≤39;rw [jE];exact Nat.min_le_left _ _⟩
theorem qHP(F mm:Hp)(hK:qAG F ⟨3,0,none⟩ (Sha.K.map W32))(gb gd:Nat)(first size hat0:Int)(ht0:UInt64)(he0:Int)(Ar0:Option Addr)(nr0 cr0:Nat)(bad:Bool)(d:Dk)(C:Option Addr)(f:Nat)(hb:Dsk mm gd d C f)(hok:d.ok)(hn2:d.wait.length≤1048576)(hKp:Sl F 1 C d.keep.length f (qAf d.keep))(hn3:d.keep.length≤9223372036854775807)(hat:Nat)(hturn:UInt64)(hend:Nat)(Ar:Option Addr)(nr cr:Nat)(R:List xA)(hR:R.length=nr)(hRs:Sl F 1 Ar nr cr (qAH R))(s:xA)(hs:s.length≤900)(n:Nat)(hn:n=qBX s.length)(ht:hturn.toNat<2^(8*4))(hnr:nr<65536)(hp:hat+hend≤1048576)(he:(qKr d (hat+hend) (λi=>(prt hturn (UInt64.ofNat nr) s n i).text) n).2=0):
    Ct prog 210 [Ptr gb,.agg #[I hat,W64 hturn,I hend,.slice Ar nr cr],Str s] [blk gb [Ptr gd,I first,I size,I hat0,W64 ht0,I he0,.slice Ar0 nr0 cr0,.bool bad] 244,mm,F] (λ_:Hp×Option Addr×Nat×Hp=>I 0) (λx=>Dsk x.1 gd (qKr d (hat+hend) (λi=>(prt hturn (UInt64.ofNat nr) s n i).text) n).1 C f∧Row x.2.2.2 9 1 x.2.1 (nr+1) x.2.2.1 (qAH (R++ [s]))) (λx=> [blk gb [Ptr gd,I first,I size,I hat,W64 hturn,I (hend+n:Nat),.slice x.2.1 (nr+1) x.2.2.1,.bool bad] 244,x.1,F,x.2.2.2]):=by
  have hn24:n≤24:=hn▸qEf hs
  have hnum:(UInt64.ofNat nr).toNat<2^(8*2):=by rw [qA8 xB];exact hnr
  refine Ct.walk func210 O ntmps210 O (λw0 hw0=>?_)
  refine J.f λ_ j1=>J.q (qAd O O O) O ?_
  rintro g4 _
  refine J.b O<|J.c j1 ?_
  refine J.f λ_ j2=>J.W 1 qEG qD8 O O O O O<|J.a5 3 qFC O O O O O<|J.W 3 qEG qBt O O O O O<|J.a5 3 qCA O O O O O<|J.g (qAP qAj O O) O<|J.g (qAt O O u3_ qEF xB) O<|J.b O<|J.q (qBV O O (λF' hF=>qSQ F' (hK.mo hF) hturn (UInt64.ofNat nr) s ht hnum hs n hn)) O ?_
  rintro⟨Ap,cp,mp⟩ hr
  try dsimp only at hr
  refine J.b O<|J.c j2 ?_
  refine J.f λ_ j3=>J.b O<|J.c j3 ?_
  refine J.d6 (λx:Hp=> [(0,Ptr gb),(2,Str s),(4,Ptr g4),(7,.slice Ap n cp),(8,I (qCF d (hat+hend) (λi=>(prt hturn (UInt64.ofNat nr) s n i).text) n).2)]) (λx=> [blk gb [Ptr gd,I first,I size,I hat0,W64 ht0,I he0,.slice Ar0 nr0 cr0,.bool bad] 244,x,F,blk g4 [I hat,W64 hturn,I hend,.slice Ar nr cr] 242,mp]) (λx=>Dsk x gd (qCF d (hat+hend) (λi=>(prt hturn (UInt64.ofNat nr) s n i).text) n).1 C f) (λ_ j4=>?_) ?_
  ·
    refine J.f λ_ j5=>J.b O<|J.c j5 ?_
    refine J.T<|J.b6 (X:=Nat×Hp) (λx=> [(0,Ptr gb),(2,Str s),(4,Ptr g4),(7,.slice Ap n cp),(8,I (qCF d (hat+hend) (λi=>(prt hturn (UInt64.ofNat nr) s n i).text) x.1).2),(9,I x.1)]) (λx=> [blk gb [Ptr gd,I first,I size,I hat0,W64 ht0,I he0,.slice Ar0 nr0 cr0,.bool bad] 244,x.2,F,blk g4 [I hat,W64 hturn,I hend,.slice Ar nr cr] 242,mp]) (λx=>x.1≤n∧Dsk x.2 gd (qCF d (hat+hend) (λi=>(prt hturn (UInt64.ofNat nr) s n i).text) x.1).1 C f) (λx=>n-x.1) (0,mm) (⟨jF _,hb⟩) ⟨O,O,O,O,O,O,trivial⟩ (λ_ h=>h) ?_
    rintro⟨k,m⟩ ⟨hk,hd⟩ I0 hI0
    dsimp only at hk hd⊢
    refine J.p λ_ j6=>J.f λ_ j7=>J.j 2 O<|J.g (qAP qNS O O) O<|J.g (qAQ O O O) O<|J.b O<|J.b9 (d:=22) O (λh22=>?_) (λh22=>?_)
    ·
      refine J.b O<|J.G (qAZ O O O) O<|J.b O<|J.c j7 ?_
      refine J.Z O (λh25=>?_) (λh25=>?_)
      ·
        refine J.M j6 ?_
        refine J.p λ_ j8=>J.T ?_
        have hkn:k<n:=xB
        have hw:=qIF hok (hat+hend) (λi=>(prt hturn (UInt64.ofNat nr) s n i).text) k
        refine J.b1 [blk gb [Ptr gd,I first,I size,I hat0,W64 ht0,I he0,.slice Ar0 nr0 cr0,.bool bad] 244,blk g4 [I hat,W64 hturn,I hend,.slice Ar nr cr] 242,F,mp] [] (.y 0 (.y 1 (.y 2 (.y 3 (.y 4 (.y 5 (.y 6 (.y 7 (.y 8 (.y 9 (.y 10 (.y 11 (.y 12 (.y 13 (.y 14 (.e 15 (.e 16 (.y 17 .nil)))))))))))))))))) Tryz.wide xF xD ?_
        refine J.L ?_
        refine J.k O (qAB O O) O O<|J.k O (qAA O O qFF O sizeOf24 O) O O<|J.k O (qAC 0 O O O isAgg24 O) O O<|J.k O (qAA O O qEG O z3_ O) O O<|J.k O (qAC 1 O O O b3_ O) O O<|J.k O (qAA O O qEG O z3_ O) O O<|J.k O (qAC 1 O O O b3_ O) O O<|J.k O ((qAR O O O xB).nat (hat+hend) xB) O O<|J.L ?_
        refine J.k O ((qAR O O O xB).nat (hat+hend+k) xB) O O<|J.L ?_
        refine J.L ?_
        refine J.k O (qAF O O O qNS qGD hr.sl xB) O O<|J.k O (qAT O O isAgg371 qGD (m:=mp) xD (hr.sl.elem (qPO hkn)) O) O O<|J.a2 O (qAa O O (λF' hF=>qMR F' (hK.mo hF) (prt hturn (UInt64.ofNat nr) s n k) (qPR ht hnum hn24 hkn))) O xD λg43 _=>J.a2 O (qAK O O ent (Ct.use1 1 O (λF' hF=>qRY F' m gd (qCF d (hat+hend) (λi=>(prt hturn (UInt64.ofNat nr) s n i).text) k).1 C f hd hw.1 (by have:=hw.2.1;omega) (by rw [hw.2.2];exact hKp.mono (Fa hF)) (by rw [hw.2.2];exact hn3) ((hat+hend+k:Nat):Int) (prt hturn (UInt64.ofNat nr) s n k).text (by rw [Prt.text_len (qPR ht hnum hn24 hkn)];decide)))) O xD ?_
        rintro m44 hd44
        refine J.b7 ?_
        refine J.b0<|J.a1<|J.u (J.D j8 ?_)
        refine J.H<|J.b O<|J.g ((qAR O O O xB).nat (k+1) xB) O<|J.b O<|J.a4<|J.u ?_
        have hsu:=qGG (show(qCF d (hat+hend) (λi=>(prt hturn (UInt64.ofNat nr) s n i).text) k).2=0 from by omega)
        exact J.a7 (k+1,m44) (λy (hy:_∧n-y.1<n-k)=>hI0 y hy.1 hy.2) ⟨⟨by dsimp only;omega,by dsimp only;rw [hsu];exact hd44⟩,by dsimp only;omega⟩ ⟨O,O,O,O,by dsimp only;rw [hsu];rfl,O,trivial⟩ (λ_ h=>h)
      refine J.b4<|J.a0<|J.a0<|J.b5 ?_
      refine J.u ?_
      have hst:=qGH (d:=d) (p:=hat+hend) (t:=(λi=>(prt hturn (UInt64.ofNat nr) s n i).text)) (k:=k) xB (n-k)
      rw [show k+(n-k)=n by omega] at hst
      exact J.a7 m j4 (by rw [hst];exact hd) ⟨O,O,O,O,by rw [hst];rfl,trivial⟩ (λ_ h=>h)
    refine J.j 3 O<|J.c j7 ?_
    refine J.a3 ?_
    refine J.b4<|J.a0<|J.a0<|J.b5 ?_
    refine J.u ?_
    have hkk:k=n:=xB
    subst hkk
    exact J.a7 m j4 hd ⟨O,O,O,O,O,trivial⟩ (λ_ h=>h)
  intro m hd
  refine J.d6 (λx:Hp=> [(0,Ptr gb),(2,Str s),(4,Ptr g4),(7,.slice Ap n cp),(8,I (qKr d (hat+hend) (λi=>(prt hturn (UInt64.ofNat nr) s n i).text) n).2)]) (λx=> [blk gb [Ptr gd,I first,I size,I hat0,W64 ht0,I he0,.slice Ar0 nr0 cr0,.bool bad] 244,x,F,blk g4 [I hat,W64 hturn,I hend,.slice Ar nr cr] 242,mp]) (λx=>Dsk x gd (qKr d (hat+hend) (λi=>(prt hturn (UInt64.ofNat nr) s n i).text) n).1 C f) (λ_ j9=>?_) ?_
  ·
    refine J.p λ_ j10=>?_
    have hw:=qIF hok (hat+hend) (λi=>(prt hturn (UInt64.ofNat nr) s n i).text) n
    refine J.H<|J.b O<|J.g (qAZ O O O) O<|J.c j10 ?_
    refine J.Z O (λh46=>?_) (λh46=>?_)
    ·
      refine J.H<|J.b O<|J.g (qAB O O) O<|J.W 0 qFF sizeOf24 O O O O O<|J.a5 0 isAgg24 O O O O O<|J.q (qAK O O ent (Ct.use1 1 O (λF' hF=>qUX F' m gd (qCF d (hat+hend) (λi=>(prt hturn (UInt64.ofNat nr) s n i).text) n).1 C f hd hw.1 (by have:=hw.2.1;omega) (by rw [hw.2.2];exact hKp.mono (Fa hF)) (by rw [hw.2.2];exact hn3)))) O ?_
      rintro m51 hd51
      refine J.b O<|J.a4<|J.u ?_
      have hst:(qKr d (hat+hend) (λi=>(prt hturn (UInt64.ofNat nr) s n i).text) n)=((qCF d (hat+hend) (λi=>(prt hturn (UInt64.ofNat nr) s n i).text) n).1.sync,(qCF d (hat+hend) (λi=>(prt hturn (UInt64.ofNat nr) s n i).text) n).1.sErr):=if_pos xB
      exact J.a7 m51 j9 (by rw [hst];exact hd51) ⟨O,O,O,O,by rw [hst];rfl,trivial⟩ (λ_ h=>h)
    refine J.b2<|J.u ?_
    have hst:(qKr d (hat+hend) (λi=>(prt hturn (UInt64.ofNat nr) s n i).text) n)=(qCF d (hat+hend) (λi=>(prt hturn (UInt64.ofNat nr) s n i).text) n):=if_neg xB
    exact J.a7 m j9 (by rw [hst];exact hd) ⟨O,O,O,O,by rw [hst];rfl,trivial⟩ (λ_ h=>h)
  intro m hd
  refine J.p λ_ j11=>J.f λ_ j12=>J.b O<|J.g ((qAY O O O).no xB) O<|J.c j12 ?_
  refine J.a3 ?_
  refine J.M j11 ?_
  refine J.f λ_ j13=>J.W 2 qEG z3_ O O O O O<|J.a5 3 b3_ O O O O O<|J.b O<|J.g (qAP qNS O O) O<|J.g ((qAR O O O xB).nat (hend+n) xB) O<|J.W 2 qEG z3_ O O O O O<|J.a8 (qAV (i:=3) O O O O O z3_ O xD) O O λ_ _=>?_
  change J _ _ _ [blk gb [Ptr gd,I first,I size,I hat0,W64 ht0,I he0,.slice Ar0 nr0 cr0,.bool bad] 244,m,F,blk g4 [I hat,W64 hturn,I (hend+n:Nat),.slice Ar nr cr] 242,mp] _
  refine J.c j13 ?_
  refine J.f λ_ j14=>J.W 3 qEG qBt O O O O O<|J.a5 3 qCA O O O O O<|J.q (qAK O O ent (Ct.use (new:=λx:Option Addr×Nat×Hp=> [x.2.2]) (λF' hF=>by have:=qKV F' R Ar cr (by rw [hR];exact hRs.mono (Fa hF)) xB;rw [hR] at this;exact this))) O ?_
  rintro⟨A6,c6,m6⟩ h6
  try dsimp only at h6
  change J _ _ _ [_,_,_,_,_,m6] _
  refine J.b O<|J.q (qAE (l:= [.tmp 67]) (xs:= [[Str s]]) O O O O qAj el9 O xC xC xD) O λg68 _=>?_
  change J _ _ _ [_,_,_,_,_,_,blk g68 [Str s] 9] _
  refine J.q (qAW (i:=5) (m2:=blk g68 [Str s] 9) (xs:=qAH R) (ys:=qAH [s]) O O O qAj qAj el9 O h6 xD ((qAm (q:=True) (xs:=qAH [s]) O (by simp [qAH])).sl) (by simp [qAH,Value.oneCell']) xB xB) O ?_
  rintro⟨A8,c8,m8⟩ h8
  try dsimp only at h8
  change J _ ((69,.slice A8 (nr+1) c8)::_) _ [_,_,_,_,_,m8,_] _
  rw [←qHc] at h8
  refine J.W 3 qEG qBt O O O O O<|J.a8 (qAV (i:=3) (vs:= [.slice A8 (nr+1) c8]) O O O O O qBt O xD) O O λ_ _=>J.c j14 ?_
  refine J.f λ_ j15=>J.b O<|J.c0 3 isAgg242 qDX O O O O O<|J.g (qAB O O) O<|J.W 3 qFF qDX O O O O O<|J.a8 (qAV (i:=0) (vs:= [I hat,W64 hturn,I (hend+n:Nat),.slice A8 (nr+1) c8]) O O O O O qDX O xD) O O λ_ _=>J.c j15 ?_
  refine J.f λ_ j16=>J.b O<|J.c j16 ?_
  exact J.A<|J.E hw0 O (m,A8,c8,m8) O ⟨hd,h8⟩ [0,1,2,5] O xC
theorem qQs{m:Hp}{g k:Nat}{l vs:List Value}(h:qAG m ⟨g,0,none⟩ l)(hs: ∀j u,vs[j]?=some u→l[k+j]?=some u):qAG m ⟨g,k,none⟩ vs:=by
 obtain ⟨h1,cs,e,fz,h2,h3⟩:=h
 refine⟨O,cs,e,fz,h2,λj u hj=>?_⟩
 have:=h3 _ _ (hs j u hj)
 rwa [jj] at this
theorem qKb(F mm:Hp)(hK:qAG F ⟨3,0,none⟩ (Sha.K.map W32))(gb gd:Nat)(first:Int)(size hat:Nat)(hturn:UInt64)(hend:Nat)(Ar:Option Addr)(nr cr:Nat)(d:Dk)(C:Option Addr)(f:Nat)(hb:Dsk mm gd d C f)(hok:d.ok)(hn2:d.wait.length≤1048576)(hKp:Sl F 1 C d.keep.length f (qAf d.keep))(hn3:d.keep.length≤9223372036854775807)(R:List xA)(hR:R.length=nr)(hRs:Sl F 1 Ar nr cr (qAH R))(s:xA)(hs:s.length≤900)(n:Nat)(hn:n=qBX s.length)(t':UInt64)(ht':(t'.toNat:Int)=max (hturn.toNat:Int) 1)(ht:t'.toNat<2^(8*4))(hnr:nr<65536)(hp:hat+size≤1048576)(hfit:hend+n≤size)(he:(qKr d (hat+hend) (λi=>(prt t' (UInt64.ofNat nr) s n i).text) n).2=0):
    Ct prog 137 [Ptr gb,Str s] [blk gb [Ptr gd,I first,I (size:Nat),I (hat:Nat),W64 hturn,I (hend:Nat),.slice Ar nr cr,.bool false] 244,mm,F] (λ_:Hp×Option Addr×Nat×Hp=>I 0) (λx=>Dsk x.1 gd (qKr d (hat+hend) (λi=>(prt t' (UInt64.ofNat nr) s n i).text) n).1 C f∧Row x.2.2.2 9 1 x.2.1 (nr+1) x.2.2.1 (qAH (R++ [s]))) (λx=> [blk gb [Ptr gd,I first,I (size:Nat),I (hat:Nat),W64 t',I (hend+n:Nat),.slice x.2.1 (nr+1) x.2.2.1,.bool false] 244,x.1,F,x.2.2.2]):=by
  have hn1:=qFM s.length
  refine Ct.walk func137 O ntmps137 O (λw0 hw0=>?_)
  refine J.f λ_ j1=>J.b O<|J.c j1 ?_
  refine J.p λ_ j2=>J.f λ_ j3=>J.j 2 O<|J.q ((qAa O O (λF' hF=>qXG F' gb gd first size hat hturn hend Ar nr cr false (qAG.blk0.mono (hF (blk gb [Ptr gd,I first,I (size:Nat),I (hat:Nat),W64 hturn,I (hend:Nat),.slice Ar nr cr,.bool false] 244) xD)) s))) O λg9 _=>J.b O<|J.c j3 ?_
  refine J.f λ_ j4=>J.b O<|J.g ((qAY O O O).no (λh=>h (by rw [if_neg xB,if_neg xC]))) O<|J.c j4 ?_
  refine J.a3 ?_
  refine J.M j2 ?_
  refine J.f λ_ j5=>J.b O<|J.g (qAB O O) O<|J.W 3 qFF qDX O O O O O<|J.g (qAT O O isAgg242 qDX (m:=blk gb [Ptr gd,I first,I (size:Nat),I (hat:Nat),W64 hturn,I (hend:Nat),.slice Ar nr cr,.bool false] 244) xD (vs:= [I (hat:Nat),W64 hturn,I (hend:Nat),.slice Ar nr cr]) (qQs qAG.blk0 (λj u hj=>by match j,hj with|0,hj=>exact hj|1,hj=>exact hj|2,hj=>exact hj|3,hj=>exact hj)) O) O<|J.q (qAJ O zeroValue242 O) O λg6 _=>J.a8 (qAD (l:= [I 0,W64 0,I 0,.slice none 0 0]) (i:=3) (vs:= [I (hat:Nat),W64 hturn,I (hend:Nat),.slice Ar nr cr]) O O O O O qDX O O) O O λ_ _=>J.c j5 ?_
  refine J.p λ_ j6=>J.f λ_ j7=>J.b O<|J.q (qAa O O (λF' hF=>qP8 F' gb gd first size hat hturn hend Ar nr cr false (qAG.blk0.mono (hF (blk gb [Ptr gd,I first,I (size:Nat),I (hat:Nat),W64 hturn,I (hend:Nat),.slice Ar nr cr,.bool false] 244) xD)) xB xB)) O λg18 _=>J.b O<|J.g (qAp u9_ O O) O<|J.q (qAa O O (λF' hF=>by have:=qGe F' s.length xB;rw [←hn] at this;exact this)) O λg21 _=>J.g ((qAQ O O O).no xB) O<|J.b O<|J.G (qAA O O qEG O qBt O) O<|J.G (qAC 3 O O O qCA O) O<|J.G (qAP qAj O O) O<|J.G ((qBA O O O).no xB) O<|J.b O<|J.c j7 ?_
  refine J.a3 ?_
  refine J.M j6 ?_
  refine J.f λ_ j8=>J.W 1 qEG qD8 O O O O O<|J.a5 3 qFC O O O O O<|J.g ((qHm O O O).as (v':=W64 t') (congrArg (Value.int .u64) ht'.symm)) O<|J.W 1 qEG qD8 O O O O O<|J.a8 (qAV (i:=3) O O O O O qD8 O xD) O O λ_ _=>J.c j8 ?_
  refine J.f λ_ j9=>J.b O<|J.c0 3 isAgg242 qDX O O O O O<|J.b O<|J.q (qAK O O ent (Ct.useA [blk gb [Ptr gd,I first,I (size:Nat),I (hat:Nat),W64 hturn,I (hend:Nat),.slice Ar nr cr,.bool false] 244,mm] [F,blk g6 [I (hat:Nat),W64 t',I (hend:Nat),.slice Ar nr cr] 242] (A':=λx:Hp×Option Addr×Nat×Hp=> [blk gb [Ptr gd,I first,I (size:Nat),I (hat:Nat),W64 t',I (hend+n:Nat),.slice x.2.1 (nr+1) x.2.2.1,.bool false] 244,x.1]) (new:=λx=> [x.2.2.2]) (λF' hF=>qHP F' mm (hK.mo hF) gb gd first size hat hturn hend Ar nr cr false d C f hb hok hn2 (hKp.mono (Fa hF)) hn3 hat t' hend Ar nr cr R hR (hRs.mono (Fa hF)) s hs n hn ht hnr xB he))) O ?_
  rintro⟨m36,A36,c36,m37⟩ ⟨hd36,h36⟩
  refine J.b O<|J.c j9 ?_
  exact J.A<|J.E hw0 O (m36,A36,c36,m37) O ⟨hd36,h36⟩ [0,1,2,4] O xC
theorem qDm{d:Dk}(h:d.armed=false):d.burn=d∧ ¬d.burns:=⟨by unfold Dk.burn;rw [if_neg (by rw [h];decide)],λe=>by have:=e.1;rw [h] at this;exact absurd this xC⟩
theorem qH8{d:Dk}(h:d.off=false){i:Nat}(hi:i<d.last.length):d.ready (i:Int)=0:=by unfold Dk.ready;rw [h,if_neg xC,if_neg xB]
theorem qJG{d:Dk}(ho:d.off=false)(ha:d.armed=false){p n:Nat}(hp:p+n≤d.last.length){t:Nat→xA}(ht: ∀i,i<n→(t i).length≤64): ∀k,k≤n→(qCF d p t k).2=0∧(qCF d p t k).1.off=false∧(qCF d p t k).1.armed=false∧(qCF d p t k).1.last=d.last
 |0,_=>⟨rfl,ho,ha,rfl⟩
 |k+1,hk=>by
  obtain ⟨h1,h2,h3,h4⟩:=qJG ho ha hp ht k xB
  have hw:=qRX (qH8 h2 (i:=p+k) (by rw [h4];omega)) (ht k xB) (qDm h3).2
  rw [(qDm h3).1] at hw
  rw [qGG h1]
  dsimp only
  rw [hw.1]
  exact⟨hw.2,h2,h3,h4⟩
theorem qOc{d:Dk}(hok:d.ok)(ho:d.off=false)(ha:d.armed=false){p n:Nat}(hp:p+n≤d.last.length){t:Nat→xA}(ht: ∀i,i<n→(t i).length≤64):
    (qKr d p t n).2=0∧(qKr d p t n).1.off=false∧(qKr d p t n).1.armed=false∧(qKr d p t n).1.last.length=d.last.length∧(qKr d p t n).1.wait= []∧(qKr d p t n).1.keep=d.keep∧(qKr d p t n).1.ok:=by
  obtain ⟨h1,h2,h3,h4⟩:=qJG ho ha hp ht n (jK _)
  have hw:=qIF hok p t n
  have hs:=hw.1.sync
  have h0:(qCF d p t n).1.ready 0=0:=qH8 h2 (i:=0) (by rw [h4];exact hok.n0)
  have e:qKr d p t n=((qCF d p t n).1.sync,(qCF d p t n).1.sErr):=if_pos h1
  have e2:(qCF d p t n).1.sync={(qCF d p t n).1 with last:=qDB (qCF d p t n).1.last (qCF d p t n).1.wait (qCF d p t n).1.wait.length,wait:= []}:=by
    unfold Dk.sync
    rw [if_neg xB,if_neg (qDm h3).2,(qDm h3).1]
  have e3:(qCF d p t n).1.sErr=0:=by
    unfold Dk.sErr
    rw [if_neg xB,if_neg (qDm h3).2]
  rw [e]
  refine⟨e3,?_,?_,?_,?_,?_,hs⟩
  · show(qCF d p t n).1.sync.off=_;rw [e2];exact h2
  · show(qCF d p t n).1.sync.armed=_;rw [e2];exact h3
  · show(qCF d p t n).1.sync.last.length=_;rw [e2];show(qDB _ _ _).length=_;rw [qBH,h4]
  · show(qCF d p t n).1.sync.wait=_;rw [e2]
  · show(qCF d p t n).1.sync.keep=_;rw [e2];exact hw.2.2
theorem qSd{n:Nat}(i:Nat)(h:i<(Dk.new n).last.length):(Dk.new n).ready (i:Int)=0∧(Dk.new n).read (i:Int)=zS:=by
 have hi:i<n:=by have:=h;unfold Dk.new at this;dsimp only at this;rwa [jJ] at this
 have h0:=qPw (n:=n) (i:=(i:Int)) xB xB
 exact⟨h0,by rw [qU3 h0];exact qVc hi⟩
theorem qPQ{turn num:UInt64}{s:xA}{n:Nat}(ht:turn.toNat<2^(8*4))(hn:num.toNat<2^(8*2))(h:n≤24): ∀i,i<n→((prt turn num s n i).text).length≤64:=λi hi=>by rw [Prt.text_len (qPR ht hn h hi)];exact jK _
end Go.Proofs.YtmemgokiolfdoaaGreatDoor