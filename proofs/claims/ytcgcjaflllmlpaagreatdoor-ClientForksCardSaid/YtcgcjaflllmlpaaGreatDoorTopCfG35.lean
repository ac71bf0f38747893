/- A part of the proof. -/
import Derived.Test.YtcgcjaflllmlpaaGreatDoorTopCfG8
import Derived.Test.YtcgcjaflllmlpaaGreatDoorTopCfG34
import Derived.Test.YtcgcjaflllmlpaaGreatDoorTopCfG7
set_option linter.unusedSimpArgs false
set_option linter.unusedVariables false
namespace Go.Proofs.YtcgcjaflllmlpaaGreatDoor
open Go Go.Fw Go.Proofs.Tryz
set_option maxRecDepth 100000
set_option maxHeartbeats 1000000
theorem ent69:qAD prog 69:=qAD.of func69 rfl (by kernel_rfl)
theorem ent123:qAD prog 123:=qAD.of func123 rfl (by kernel_rfl)
theorem ent124:qAD prog 124:=qAD.of func124 rfl (by kernel_rfl)
theorem ent137:qAD prog 137:=qAD.of func137 rfl (by kernel_rfl)
theorem ent172:qAD prog 172:=qAD.of func172 rfl (by kernel_rfl)
theorem ent173:qAD prog 173:=qAD.of func173 rfl (by kernel_rfl)
theorem ent185:qAD prog 185:=qAD.of func185 rfl (by kernel_rfl)
theorem ent206:qAD prog 206:=qAD.of func206 rfl (by kernel_rfl)
theorem ent207:qAD prog 207:=qAD.of func207 rfl (by kernel_rfl)
theorem ent212:qAD prog 212:=qAD.of func212 rfl (by kernel_rfl)
theorem ent213:qAD prog 213:=qAD.of func213 rfl (by kernel_rfl)
theorem el281:qCe prog 281 [.int .u64 0,.int .u64 0,.int .i64 0,.int .i64 0,Str [],Str []] 64:=qCe.of (by kernel_rfl) rfl
theorem qST(g:Nat):Wtr (blk g [.pointer none,.slice none 0 0,I 0] 158) g [] 0:=
 ⟨[.pointer none,.slice none 0 0,I 0],λ_=>none,none,0,none,by funext k;simp only [U];cases blk g [.pointer none,.slice none 0 0,I 0] 158 k<;>rfl,λ_=> .inr rfl,rfl,⟨rfl,.inl rfl,rfl,qBb.nil,.inl rfl⟩,rfl⟩
theorem qPA{n:UInt64}{size:Nat}(h:n.toNat<2^(8*size))(bs:List UInt8):qK9 n size bs 0=bs++Sha.numB n size∧qCH (okN n size) 10 0=0:=by
 have e:okN n size=true:=decide_eq_true h
 have f:qCH (okN n size) 10 0=0:=by unfold qCH;rw [e,if_neg (by simp)]
 exact⟨by unfold qK9;rw [if_pos f],f⟩
def qVS(s:List UInt8):List UInt8:=(Sha.tagged 8 [s]).take 8
def qKo(turn num:UInt64)(s:List UInt8):List UInt8:=(Sha.tagged 7 [Sha.numB turn 4,Sha.numB num 2,s]).take 8
theorem qCd(F:Hp)(n:UInt64)(size:Nat)(h1:1≤size)(h8:size<8)(hn:n.toNat<2^(8*size)):
    Cz prog 212 [W64 n,I size] F (Str (Sha.numB n size)):=by
  refine Ct.walk func212 rfl ntmps212 rfl (λw0 hw0=>?_)
  refine J.f λ_ j1=>J.b O<|J.c j1<|J.f λ_ j2=>J.p (qAL O qKb O) O λg5 _=>J.c j2<|J.f λ_ j3=>J.q 2 O<|J.p (qAB O O ent67 (Ct.use1 1 O (λF' _=>qDg F' (blk g5 [.pointer none,.slice none 0 0,I 0] 158) g5 [] 0 (qST g5) (by decide) n size h1 h8))) O ?_
  rintro m11 hw11
  rw [(qPA hn []).1,(qPA hn []).2,jq] at hw11
  refine J.p (qAB O O ent68 (Ct.use1 1 O (λF' _=>qDJ F' m11 g5 (Sha.numB n size) 0 hw11 (by rw [Sha.numB_length];omega)))) rfl ?_
  rintro m12 _
  exact J.q 5 O<|J.c j3<|J.f λ_ j4=>J.q 2 O<|J.c j4<|J.A<|J.E hw0 O () O trivial [0] O (by decide)
theorem qRr(F:Hp)(hK:KF F)(s:List UInt8)(hs:s.length≤1048576):Cz prog 213 [Str s] F (Str (qVS s)):=by
 refine Ct.walk func213 rfl ntmps213 rfl (λw0 hw0=>?_)
 exact J.f λ_ j1=>J.b O<|J.c j1<|J.f λ_ j2=>J.b O<|J.p (qAG (l:= [.tmp 3]) (xs:= [[Str (s)]]) O O O O qAk el9 O (by decide) (by decide) (by simp)) rfl λg4 _=>J.p (qAB rfl rfl ent46 (Ct.use0 (λF' hF=>qA3 F' (hK.mono (Fa hF)) 8 (some ⟨g4,0,none⟩) 1 1 [s] ((slS [s] rfl).mono (hF (blk g4 (([s]:List (List UInt8)).map λs=>Str s) 9) (by simp))) (by simp;omega) (by decide)))) rfl λg5 _=>J.g ((qA9 u9_ rfl rfl rfl rfl (by rw [Sha.tagged_length];decide)).as (v':=Str (qVS s)) (congrArg Str zm)) rfl<|J.b rfl<|J.c j2<|J.A<|J.E hw0 rfl () rfl trivial [0] rfl (by decide)
theorem qUU(F:Hp)(hK:KF F)(turn num:UInt64)(s:List UInt8)(ht:turn.toNat<2^(8*4))(hn:num.toNat<2^(8*2))(hs:s.length≤1048576):Cz prog 207 [W64 turn,W64 num,Str s] F (Str (qKo turn num s)):=by
 refine Ct.walk func207 rfl ntmps207 rfl (λw0 hw0=>?_)
 exact J.f λ_ j1=>J.b O<|J.c j1<|J.f λ_ j2=>J.b O<|J.p (qAB O O ent212 (Ct.use0 (λF' hF=>qCd F' turn 4 (by decide) (by decide) ht))) O λg8 _=>J.b O<|J.p (qAB O O ent212 (Ct.use0 (λF' hF=>qCd F' num 2 (by decide) (by decide) hn))) O λg10 _=>J.b O<|J.p (qAG (l:= [.tmp 8,.tmp 10,.tmp 11]) (xs:= [[Str (Sha.numB turn 4)],[Str (Sha.numB num 2)],[Str (s)]]) O O O O qAk el9 O (by decide) (by decide) (by simp)) rfl λg12 _=>J.p (qAB rfl rfl ent46 (Ct.use0 (λF' hF=>qA3 F' (hK.mono (Fa hF)) 7 (some ⟨g12,0,none⟩) 3 3 [Sha.numB turn 4,Sha.numB num 2,s] ((slS [Sha.numB turn 4,Sha.numB num 2,s] rfl).mono (hF (blk g12 (([Sha.numB turn 4,Sha.numB num 2,s]:List (List UInt8)).map λs=>Str s) 9) (by simp))) (by simp only [ja,jx,jQ,jA,Sha.numB_length];omega) (by decide)))) rfl λg13 _=>J.g ((qA9 u9_ rfl rfl rfl rfl (by rw [Sha.tagged_length];decide)).as (v':=Str (qKo turn num s)) (congrArg Str zm)) rfl<|J.b rfl<|J.c j2<|J.A<|J.E hw0 rfl () rfl trivial [0] rfl (by decide)
def qBc(n:Nat):Nat:=if n<1 then 1 else(n-1)/39+1
theorem qGX(F:Hp)(n:Nat)(hn:n≤1048576):Cz prog 69 [I n] F (I (qBc n:Nat)):=by
 refine Ct.walk func69 rfl ntmps69 rfl (λw0 hw0=>?_)
 refine J.f λ_ j1=>J.b O<|J.c j1<|J.k λ_ j2=>J.f λ_ j3=>J.b O<|J.g (qAT O O O) O<|J.c j3<|J.W O (λh4=>?_) (λh4=>?_)
 ·
  exact J.f λ_ j4=>J.b O<|J.c j4<|J.A<|J.V<|J.E hw0 O () (by unfold qBc;rw [if_pos (by omega)];rfl) trivial [0] rfl (by decide)
 exact J.M j2<|J.f λ_ j5=>J.b O<|J.g ((qA4 O O O (by omega)).nat (n-1) (by omega)) O<|J.g ((qHh O O O (by omega)).as (v':=I (((n-1)/39:Nat):Int)) (congrArg I (Int.ofNat_tdiv _ _).symm)) O<|J.g (qAS O O O (by omega)) O<|J.b O<|J.c j5<|J.A<|J.E hw0 O () (by unfold qBc;rw [if_neg (by omega)];rfl) trivial [0] rfl (by decide)
structure Prt where
 turn:UInt64
 num:UInt64
 at_:Nat
 all:Nat
 name:List UInt8
 con:List UInt8
def Prt.cells(p:Prt):List Value:= [W64 p.turn,W64 p.num,I p.at_,I p.all,Str p.name,Str p.con]
structure Prt.ok (p:Prt):Prop where
 t:p.turn.toNat<2^(8*4)
 n:p.num.toNat<2^(8*2)
 a:p.at_<256
 l:p.all<256
 m:p.name.length≤8
 c:p.con.length≤39
def Prt.b1(p:Prt):List UInt8:=Sha.numB p.turn 4++Sha.numB p.num 2
def Prt.b2(p:Prt):List UInt8:=p.b1++Sha.numB (UInt64.ofNat p.at_) 1
def Prt.b3(p:Prt):List UInt8:=p.b2++Sha.numB (UInt64.ofNat p.all) 1
def Prt.b4(p:Prt):List UInt8:=p.b3++Sha.numB (UInt64.ofNat p.con.length) 1
def Prt.b5(p:Prt):List UInt8:=p.b4++p.name
def Prt.body(p:Prt):List UInt8:=p.b5++p.con
def Prt.pad(p:Prt):List UInt8:=p.body++List.replicate (56-p.body.length) 0
def Prt.text(p:Prt):List UInt8:=p.pad++qVS p.pad
theorem qNc(s:List UInt8):(qVS s).length=8:=by unfold qVS;rw [jF,Sha.tagged_length];rfl
theorem qRv(t n:UInt64)(s:List UInt8):(qKo t n s).length=8:=by unfold qKo;rw [jF,Sha.tagged_length];rfl
theorem Prt.b4_len(p:Prt):p.b4.length=9:=by unfold Prt.b4 Prt.b3 Prt.b2 Prt.b1;simp only [jA,Sha.numB_length]
theorem Prt.body_len(p:Prt):p.body.length=9+p.name.length+p.con.length:=by unfold Prt.body Prt.b5;rw [jA,jA,p.b4_len]
theorem Prt.pad_len{p:Prt}(h:p.ok):p.pad.length=56:=by
 have:=p.body_len
 have:=h.m
 have:=h.c
 unfold Prt.pad;rw [jA,jJ];omega
theorem Prt.text_len{p:Prt}(h:p.ok):p.text.length=64:=by unfold Prt.text;rw [jA,p.pad_len h,qNc]
theorem n1ok{n:Nat}(h:n<256):(UInt64.ofNat n).toNat<2^(8*1):=by rw [qBE (by omega)];exact h
theorem qMp(F:Hp)(hK:KF F)(p:Prt)(hp:p.ok):Cz prog 185 [.agg p.cells.toArray] F (Str p.text):=by
 obtain ⟨h1,h2,h3,h4,h5,h6⟩:=hp
 have hbl:=p.body_len
 have hpl:=Prt.pad_len ⟨h1,h2,h3,h4,h5,h6⟩
 refine Ct.walk func185 rfl ntmps185 rfl (λw0 hw0=>?_)
 refine J.f λ_ j1=>J.p (qAd O O O) O λg1 _=>J.b O<|J.c j1<|J.k λ_ j2=>J.b0 [blk g1 p.cells 281] [] (.y 0 (.y 1 (.y 3 (.y 4 (.y 7 (.y 8 (.y 9 (.y 12 (.y 13 (.y 14 (.y 17 (.y 18 (.y 19 (.y 20 (.y 23 (.y 24 (.y 26 (.y 27 (.e 2 (.e 5 (.y 6 (.e 10 (.y 11 (.e 15 (.y 16 (.e 21 (.y 22 (.y 25 (.y 28 (.y 29 .nil)))))))))))))))))))))))))))))) Tryz.wide (by decide+kernel) (by simp) ?_
 refine J.j O (qAA O O qEX O qD9 O) O O<|J.j O (qAE 0 O O O qEz O) O O<|J.j O (qAA O O qEX O qD9 O) O O<|J.j O (qAE 0 O O O qEz O) O O<|J.j O (qAA O O qEX O z3_ O) O O<|J.j O (qAE 0 O O O b3_ O) O O<|J.j O (qAw O O u3_ qEU (by omega)) O O<|J.j O (qAA O O qEX O z3_ O) O O<|J.j O (qAE 0 O O O b3_ O) O O<|J.j O (qAw O O u3_ qEU (by omega)) O O<|J.j O (qAA O O qEX O z9_ O) O O<|J.j O (qAE 0 O O O b9_ O) O O<|J.j O (qAt u9_ O O) O O<|J.j O (qAw O O u3_ qEU (by omega)) O O<|J.j O (qAA O O qEX O z9_ O) O O<|J.j O (qAE 0 O O O b9_ O) O O<|J.j O (qAA O O qEX O z9_ O) O O<|J.j O (qAE 0 O O O b9_ O) O O<|J.Z O (qAB O O ent212 (Ct.use0 (λF' hF=>qCd F' p.turn 4 (by decide) (by decide) h1))) O (by simp) λg6 _=>J.Z rfl (qAB rfl rfl ent212 (Ct.use0 (λF' hF=>qCd F' p.num 2 (by decide) (by decide) h2))) rfl (by simp) λg9 _=>J.j rfl ((qBI rfl rfl rfl (by first|(have hb4:=p.b4_len;have hbl:=p.body_len;simp only [jA,jJ,Prt.b4,Prt.b3,Prt.b2,Prt.b1,Prt.b5,Prt.body,Sha.numB_length] at hb4 hbl⊢;omega)|omega)).as (v':=Str (p.b1)) rfl) rfl rfl<|J.Z rfl (qAB rfl rfl ent212 (Ct.use0 (λF' hF=>qCd F' (UInt64.ofNat p.at_) 1 (by decide) (by decide) (n1ok h3)))) rfl (by simp) λg14 _=>J.j rfl ((qBI rfl rfl rfl (by first|(have hb4:=p.b4_len;have hbl:=p.body_len;simp only [jA,jJ,Prt.b4,Prt.b3,Prt.b2,Prt.b1,Prt.b5,Prt.body,Sha.numB_length] at hb4 hbl⊢;omega)|omega)).as (v':=Str (p.b2)) rfl) rfl rfl<|J.Z rfl (qAB rfl rfl ent212 (Ct.use0 (λF' hF=>qCd F' (UInt64.ofNat p.all) 1 (by decide) (by decide) (n1ok h4)))) rfl (by simp) λg19 _=>J.j rfl ((qBI rfl rfl rfl (by first|(have hb4:=p.b4_len;have hbl:=p.body_len;simp only [jA,jJ,Prt.b4,Prt.b3,Prt.b2,Prt.b1,Prt.b5,Prt.body,Sha.numB_length] at hb4 hbl⊢;omega)|omega)).as (v':=Str (p.b3)) rfl) rfl rfl<|J.Z rfl (qAB rfl rfl ent212 (Ct.use0 (λF' hF=>qCd F' (UInt64.ofNat p.con.length) 1 (by decide) (by decide) (n1ok (by omega))))) rfl (by simp) λg25 _=>J.j rfl ((qBI rfl rfl rfl (by first|(have hb4:=p.b4_len;have hbl:=p.body_len;simp only [jA,jJ,Prt.b4,Prt.b3,Prt.b2,Prt.b1,Prt.b5,Prt.body,Sha.numB_length] at hb4 hbl⊢;omega)|omega)).as (v':=Str (p.b4)) rfl) rfl rfl ?_
 refine J.j O ((qBI O O O (by first|(have hb4:=p.b4_len;have hbl:=p.body_len;simp only [jA,jJ,Prt.b4,Prt.b3,Prt.b2,Prt.b1,Prt.b5,Prt.body,Sha.numB_length] at hb4 hbl⊢;omega)|omega)).as (v':=Str (p.b5)) rfl) rfl rfl<|J.j rfl ((qBI rfl rfl rfl (by first|(have hb4:=p.b4_len;have hbl:=p.body_len;simp only [jA,jJ,Prt.b4,Prt.b3,Prt.b2,Prt.b1,Prt.b5,Prt.body,Sha.numB_length] at hb4 hbl⊢;omega)|omega)).as (v':=Str (p.body)) rfl) rfl rfl<|J.b6 ?_
 refine J.a8<|J.u (J.D j2 ?_)
 exact J.f λ_ j3=>J.q 2 O<|J.g (qAt u9_ O O) O<|J.g ((qA4 O O O (by omega)).nat (56-p.body.length) (by omega)) O<|J.p (qAB O O ent50 (Ct.use0 (λF' hF=>qE5 F' (56-p.body.length) (by omega)))) O λg37 _=>J.g ((qBI O O O (by rw [jJ];omega)).as (v':=Str p.pad) rfl) rfl<|J.b rfl<|J.c j3<|J.f λ_ j4=>J.q 2 rfl<|J.p (qAB rfl rfl ent213 (Ct.use0 (λF' hF=>qRr F' (hK.mono (Fa hF)) p.pad (by omega)))) rfl λg41 _=>J.g ((qBI rfl rfl rfl (by rw [qNc];omega)).as (v':=Str p.text) rfl) rfl<|J.b rfl<|J.c j4<|J.A<|J.E hw0 rfl () rfl trivial [0] rfl (by decide)
def R0(s:List UInt8):RS:=⟨s.take 56,0⟩
def R1(s:List UInt8):RS:=(R0 s).take 4
def R2(s:List UInt8):RS:=(R1 s).take 2
def R3(s:List UInt8):RS:=(R2 s).take 1
def R4(s:List UInt8):RS:=(R3 s).take 1
def R5(s:List UInt8):RS:=(R4 s).take 1
def R6(s:List UInt8):RS:=(R5 s).take 8
def qXy(s:List UInt8):Nat:=min (qFC ((R4 s).out 1)) 39
def rdp(s:List UInt8):Prt:=⟨UInt64.ofNat (qFC ((R0 s).out 4)),UInt64.ofNat (qFC ((R1 s).out 2)),qFC ((R2 s).out 1),qFC ((R3 s).out 1),(R5 s).out 8,(R6 s).out (qXy s)⟩
def qKE:Prt:=⟨0,0,0,0,[],[]⟩
theorem qCS(st:RS)(n k:Nat)(h:256^n≤k):qFC (st.out n)<k:=
 zK (qLn _) (jb (jf (by decide) (st.out_len n)) h)
theorem qYE(s:List UInt8):(rdp s).ok:=by
  have h4:=qCS (R0 s) 4 4294967296 (by decide)
  have h2:=qCS (R1 s) 2 65536 (by decide)
  refine⟨?_,?_,qCS _ 1 256 (by decide),qCS _ 1 256 (by decide),RS.out_len _ _,jb (RS.out_len _ _) (Nat.min_le_right _ _)⟩
  · show(UInt64.ofNat (qFC ((R0 s).out 4))).toNat<_
    rw [qBE (by omega)];exact h4
  · show(UInt64.ofNat (qFC ((R1 s).out 2))).toNat<_
    rw [qBE (by omega)];exact h2
def qCo(s:List UInt8):Prt×Bool:=if qVS (s.take 56)=s.drop 56 then(rdp s,decide ((rdp s).text=s)) else(qKE,false)
theorem qMv(F:Hp)(hK:KF F)(s:List UInt8)(hs:s.length=64):Cz prog 206 [Str s] F (.tuple #[.agg (qCo s).1.cells.toArray,.bool (qCo s).2]):=by
 have hn4:=qCS (R4 s) 1 256 (by decide)
 refine Ct.walk func206 rfl ntmps206 rfl (λw0 hw0=>?_)
 change J _ [(0,_)] _ _ _
 refine J.f λ_ j1=>J.p (qAL O qL5 O) O λg2 _=>?_
 change J _ _ _ [F,blk g2 _ 281] _
 refine J.b O<|J.c j1<|J.k λ_ j2=>J.k λ_ j3=>J.b0 [F] [] (.y 0 (.y 1 (.y 3 (.y 4 (.e 2 (.y 5 .nil)))))) Tryz.wide (by decide+kernel) (by simp) ?_
 refine J.L ?_
 refine J.j O ((qA9 (l:=0) (h:=56) u9_ O O O O ⟨by omega,by omega⟩).as (v':=Str (s.take 56)) (congrArg Str zm)) O O<|J.L ?_
 refine J.j O ((qA9 (l:=56) (h:=s.length) u9_ O O O O ⟨by omega,by omega⟩).as (v':=Str (s.drop 56)) (by rw [jo])) rfl rfl<|J.Z rfl (qAB rfl rfl ent213 (Ct.use0 (λF' hF=>qRr F' (hK.mono (Fa hF)) (s.take 56) (by rw [jF];omega)))) rfl (by simp) λg9 _=>J.j rfl (qEC rfl rfl rfl) rfl rfl<|J.a8<|J.u (J.D j3 ?_)
 refine J.W O (λh12=>?_) (λh12=>?_)
 ·
  refine J.f λ_ j4=>J.g (qAK (l:= []) (vs:= []) (places:= [(0,1),(1,1),(2,1),(3,1),(4,1),(5,1)]) (r:= [W64 0,W64 0,I 0,I 0,Str [],Str []]) O O O qEX qL5 (λ_=>by kernel_rfl) O) O<|J.a6 (qAF (l:=qKE.cells) (i:=1) (vs:=qKE.cells) O O O O O qF4 O O) O O λ_ _=>?_
  change J _ _ _ [_,blk g2 qKE.cells 281] _
  exact J.b O<|J.c j4<|J.A<|J.V<|J.a9 hw0 (λ_ _ h=>h) (rv2 O (RV.blkA 1 O O isAgg281 qF4) O) (qAq () (by unfold qCo;rw [if_neg (show¬qVS (s.take 56)=s.drop 56 from h12)]) trivial [0] rfl (by decide))
 refine J.M j2<|J.f λ_ j5=>J.b O<|J.g ((qA9 (l:=0) (h:=56) u9_ O O O O ⟨by omega,by omega⟩).as (v':=Str (s.take 56)) (congrArg Str zm)) O<|J.p (qAB O O ent125 (Ct.use (new:=λg=> [RSb g (R0 s)]) (λF' _=>(qWL F' (s.take 56)).mono (φ2:=λ_=>True) (val2:=Ptr) (ms2:=λg=>F':: [RSb g (R0 s)]) id (λ_ _=>rfl) (λ_ h=>h) (λx w0 w _ h=>h.pick [1,0] (by decide))))) O ?_
 rintro g16 _
 change J _ _ _ [F,blk g2 _ 281,RSb g16 (R0 s)] _
 refine J.b O<|J.c j5<|J.f λ_ j6=>J.b O<|J.p (qAB O O ent126 (Ct.use1 2 (m':=λ_:Unit=>RSb g16 (R1 s)) (new:=λ_=> []) O (λF' _=>qGQ F' g16 (R0 s) 4 (by omega) (by omega)))) O λg18 _=>?_
 change J _ _ _ [_,_,RSb g16 (R1 s)] _
 rw [N_W (show qFC ((R0 s).out 4)<18446744073709551616 from zK (qCS _ 4 (256^4) (jK _)) (by decide))]
 refine J.b O<|J.p (qAB O O ent126 (Ct.use1 2 (m':=λ_:Unit=>RSb g16 (R2 s)) (new:=λ_=> []) O (λF' _=>qGQ F' g16 (R1 s) 2 (by omega) (by omega)))) O λg20 _=>?_
 change J _ _ _ [_,_,RSb g16 (R2 s)] _
 rw [N_W (show qFC ((R1 s).out 2)<18446744073709551616 from zK (qCS _ 2 (256^2) (jK _)) (by decide))]
 refine J.b O<|J.p (qAB O O ent126 (Ct.use1 2 (m':=λ_:Unit=>RSb g16 (R3 s)) (new:=λ_=> []) O (λF' _=>qGQ F' g16 (R2 s) 1 (by omega) (by omega)))) O λg22 _=>?_
 change J _ _ _ [_,_,RSb g16 (R3 s)] _
 refine J.g (qD1 O O qEU u3_ (by have:=qCS (R2 s) 1 256 (by decide);omega)) O<|J.b O<|J.p (qAB O O ent126 (Ct.use1 2 (m':=λ_:Unit=>RSb g16 (R4 s)) (new:=λ_=> []) O (λF' _=>qGQ F' g16 (R3 s) 1 (by omega) (by omega)))) O λg25 _=>?_
 change J _ _ _ [_,_,RSb g16 (R4 s)] _
 refine J.g (qD1 O O qEU u3_ (by have:=qCS (R3 s) 1 256 (by decide);omega)) O<|J.g (qAK (l:= [(0,.tmp 18),(1,.tmp 20),(2,.tmp 23),(3,.tmp 26)]) (vs:= [W64 (rdp s).turn,W64 (rdp s).num,I (rdp s).at_,I (rdp s).all]) (places:= [(0,1),(1,1),(2,1),(3,1),(4,1),(5,1)]) (r:= [W64 (rdp s).turn,W64 (rdp s).num,I (rdp s).at_,I (rdp s).all,Str [],Str []]) O O O qEX qL5 (λ_=>by kernel_rfl) O) O<|J.p (qAL O qL5 O) O λg5 _=>?_
 change J _ _ _ [_,_,_,blk g5 _ 281] _
 refine J.a6 (qAF (l:=qKE.cells) (i:=3) (vs:= [W64 (rdp s).turn,W64 (rdp s).num,I (rdp s).at_,I (rdp s).all,Str [],Str []]) O O O O O qF4 O O) O O λ_ _=>?_
 change J _ _ _ [_,_,_,blk g5 [W64 (rdp s).turn,W64 (rdp s).num,I (rdp s).at_,I (rdp s).all,Str [],Str []] 281] _
 refine J.c j6<|J.f λ_ j7=>J.b O<|J.p (qAB O O ent126 (Ct.use1 2 (m':=λ_:Unit=>RSb g16 (R5 s)) (new:=λ_=> []) O (λF' _=>qGQ F' g16 (R4 s) 1 (by omega) (by omega)))) O λg29 _=>?_
 change J _ _ _ [_,_,RSb g16 (R5 s),_] _
 refine J.g (qD1 O O qEU u3_ (by omega)) O<|J.b O<|J.c j7<|J.f λ_ j8=>J.b O<|J.p (qAB O O ent178 (Ct.use1 2 (m':=λ_:Unit=>RSb g16 (R6 s)) (new:=λ_=> []) O (λF' _=>qJu F' g16 (R5 s) 8))) O λg32 _=>?_
 change J _ _ _ [_,_,RSb g16 (R6 s),_] _
 refine J.T 4 qEX z9_ O O O O O<|J.a6 (qAW (i:=3) (vs:= [Str (rdp s).name]) O O O O O z9_ O (by simp)) rfl rfl λ_ _=>?_
 change J _ _ _ [_,_,_,blk g5 [W64 (rdp s).turn,W64 (rdp s).num,I (rdp s).at_,I (rdp s).all,Str (rdp s).name,Str []] 281] _
 refine J.c j8<|J.f λ_ j9=>J.q 2 O<|J.g ((qFT O O O).as (v':=I (qXy s:Nat)) (congrArg I (by unfold qXy;omega))) O<|J.p (qAB O O ent178 (Ct.use1 2 (m':=λ_:Unit=>RSb g16 ((R6 s).take (qXy s))) (new:=λ_=> []) O (λF' _=>qJu F' g16 (R6 s) (qXy s)))) O λg37 _=>?_
 change J _ _ _ [_,_,RSb g16 ((R6 s).take (qXy s)),_] _
 refine J.T 5 qEX z9_ O O O O O<|J.a6 (qAW (i:=3) (vs:= [Str (rdp s).con]) O O O O O z9_ O (by simp)) rfl rfl λ_ _=>?_
 change J _ _ _ [_,_,_,blk g5 (rdp s).cells 281] _
 refine J.c j9<|J.k λ_ j10=>J.b0 [F,blk g5 (rdp s).cells 281] [5,6,100003,100004] (.y 0 (.y 1 (.y 3 (.e 2 (.y 4 (.e 5 (.e 6 .nil))))))) Tryz.wide (by decide+kernel) (by simp) ?_
 refine J.j O (qAY 1 O O O isAgg281 qF4 O) O O<|J.j O (qAY 1 O O O isAgg281 qF4 O) O O<|J.d8 O (qA0 O O) O O O ?_
 refine J.Z O (qAB O O ent185 (Ct.use0 (λF' hF=>qMp F' (hK.mono (Fa hF)) (rdp s) (qYE s)))) O (by simp) λg41 _=>J.d8 rfl (qBS rfl rfl rfl) rfl rfl rfl ?_
 refine J.c2 O (qAF (l:=qKE.cells) (i:=1) (vs:=(rdp s).cells) O O O O O qF4 O O) O O O λ_ _=>?_
 change J _ _ _ [_,blk g2 (rdp s).cells 281,_,_] _
 refine J.d6 O (YOp.eop (qBm O O)) O O O O ?_
 intro _ _
 refine J.a8<|J.u (J.D j10 ?_)
 exact J.A<|J.a9 hw0 (λ_ _ h=>h) (rv2 O (RV.blkA 1 O O isAgg281 qF4) O) (qAq () (by unfold qCo;rw [if_pos (show qVS (s.take 56)=s.drop 56 from Decidable.not_not.1 h12)]) trivial [0] rfl (by decide))
theorem qO3:(qCo (List.replicate 64 0)).2=false∨(qCo (List.replicate 64 0)).1.turn=0:=by
  unfold qCo
  split
  · right
    show UInt64.ofNat (qFC ((R0 (List.replicate 64 0)).out 4))=0
    decide
  · exact .inl rfl
theorem qLS(F:Hp)(hK:KF F)(gh:Option Addr)(A:Option Addr)(n c:Nat)(ls:List (List UInt8))(hl:Sl F 1 A n c (qAI ls))(hn:0<n)(s:List UInt8)(hs:ls[0]?=some s)(h64:s.length=64)(hok:(qCo s).2=true)(ht:(qCo s).1.turn=0):
    Cz prog 173 [.pointer gh,.slice A n c] F (.tuple #[.int .u64 0,Str [],I 0,.bool false]):=by
  refine Ct.walk func173 rfl ntmps173 rfl (λw0 hw0=>?_)
  refine J.f λ_ j1=>J.q 4 O<|J.c j1<|J.f λ_ j2=>J.b O<|J.g (qAH (i:=0) O O O qAk z9_ hl hn) O<|J.g (qAJ O O b9_ (m:=F) (by simp) (hl.elem (qAa hs))) rfl<|J.p (qAB rfl rfl ent206 (Ct.use0 (λF' hF=>qMv F' (hK.mono (Fa hF)) s h64))) rfl λg18 _=>J.q 2 rfl<|J.g ((qAh (v:= .bool (qCo s).2) rfl rfl rfl).as (v':= .bool true) (by rw [hok])) rfl<|J.p (qAL rfl qL5 rfl) rfl λg8 _=>J.a6 (qAF (l:=qKE.cells) (i:=1) (vs:=(qCo s).1.cells) rfl rfl rfl rfl rfl qF4 rfl rfl) rfl rfl λ_ _=>J.b rfl<|J.c j2<|J.k λ_ j3=>J.k λ_ j4=>J.b0 [blk g8 (qCo s).1.cells 281] [] (.y 0 (.y 1 (.y 2 (.y 3 (.y 4 (.y 5 (.y 6 (.y 7 (.y 8 (.y 9 (.y 10 (.y 11 (.y 12 (.y 13 (.y 14 (.y 15 (.y 16 (.y 17 (.y 18 (.y 19 (.y 20 (.y 21 (.y 22 (.y 23 (.y 24 (.y 25 (.y 26 (.y 27 (.y 28 (.y 29 (.y 30 (.y 31 (.y 32 (.y 33 (.y 34 (.y 35 (.y 36 (.y 37 (.y 38 (.y 39 (.y 40 (.y 41 (.y 42 (.y 43 (.y 44 (.y 45 (.y 46 .nil))))))))))))))))))))))))))))))))))))))))))))))) Tryz.wide (by decide+kernel) (by simp) ?_
  refine J.L ?_
  refine J.j O ((qAy O O).as (v':= .bool false) O) O O<|J.L ?_
  refine J.b8 O (qAA O O qEX O z3_ O) O O<|J.b8 O (qAE 0 O O O b3_ O) O O<|J.b8 O (qAe O O O) O O<|J.e1 ?_
  refine J.L ?_
  refine J.b9 (d:=28) O (λh28=>?_) (λh28=>?_)
  ·
    iterate 3 refine J.b1 ?_
    refine J.d2 ?_
    refine J.L ?_
    iterate 9 refine J.b1 ?_
    refine J.d2 ?_
    refine J.L ?_
    iterate 5 refine J.b1 ?_
    refine J.d2 ?_
    refine J.L ?_
    iterate 7 refine J.b1 ?_
    refine J.c0 O (Wan.un O O O O) O O ?_
    refine J.c0 O (Wan.un O O O O) O O ?_
    refine J.c0 O (Wan.un O O O O) O O ?_
    refine J.c0 O (Wan.un O O O O) O O ?_
    refine J.c0 O (Wan.un O O O O) O O ?_
    refine J.c0 O (Wan.un O O O O) O O ?_
    refine J.c0 O (Wan.un O O O O) O O ?_
    refine J.b1 ?_
    refine J.d2 ?_
    refine J.a8<|J.u (J.D j4 ?_)
    refine J.c4 ?_
    exact J.f λ_ j5=>J.q 4 O<|J.c j5<|J.A<|J.V<|J.a9 hw0 (λ_ _ h=>h) (res4 O O O O O) (qAq () O trivial [0] O (by decide))
  refine J.b8 O (qAA O O qEX O qD9 O) O O<|J.b8 O (qAE 0 O O O qEz O) O O<|J.b8 O ((qAg O O O).as (v':= .bool true) (by rw [ht];rfl)) rfl rfl<|J.e1 ?_
  refine J.L ?_
  iterate 9 refine J.b1 ?_
  refine J.d2 ?_
  refine J.L ?_
  iterate 5 refine J.b1 ?_
  refine J.d2 ?_
  refine J.L ?_
  iterate 7 refine J.b1 ?_
  refine J.c0 O (Wan.un O O O O) O O ?_
  refine J.c0 O (Wan.un O O O O) O O ?_
  refine J.c0 O (Wan.un O O O O) O O ?_
  refine J.c0 O (Wan.un O O O O) O O ?_
  refine J.c0 O (Wan.un O O O O) O O ?_
  refine J.c0 O (Wan.un O O O O) O O ?_
  refine J.c0 O (Wan.un O O O O) O O ?_
  refine J.b1 ?_
  refine J.d2 ?_
  refine J.a8<|J.u (J.D j4 ?_)
  refine J.c4 ?_
  exact J.f λ_ j6=>J.q 4 O<|J.c j6<|J.A<|J.V<|J.a9 hw0 (λ_ _ h=>h) (res4 O O O O O) (qAq () O trivial [0] O (by decide))
theorem qLT(F:Hp)(hK:KF F)(gh:Option Addr)(A:Option Addr)(n c:Nat)(ls:List (List UInt8))(hl:Sl F 1 A n c (qAI ls))(hn:0<n)(s:List UInt8)(hs:ls[0]?=some s)(h64:s.length=64)(hok:(qCo s).2=false):
    Cz prog 173 [.pointer gh,.slice A n c] F (.tuple #[.int .u64 0,Str [],I 0,.bool false]):=by
  refine Ct.walk func173 rfl ntmps173 rfl (λw0 hw0=>?_)
  refine J.f λ_ j1=>J.q 4 O<|J.c j1<|J.f λ_ j2=>J.b O<|J.g (qAH (i:=0) O O O qAk z9_ hl hn) O<|J.g (qAJ O O b9_ (m:=F) (by simp) (hl.elem (qAa hs))) rfl<|J.p (qAB rfl rfl ent206 (Ct.use0 (λF' hF=>qMv F' (hK.mono (Fa hF)) s h64))) rfl λg18 _=>J.q 2 rfl<|J.g ((qAh (v:= .bool (qCo s).2) rfl rfl rfl).as (v':= .bool false) (by rw [hok])) rfl<|J.p (qAL rfl qL5 rfl) rfl λg8 _=>J.a6 (qAF (l:=qKE.cells) (i:=1) (vs:=(qCo s).1.cells) rfl rfl rfl rfl rfl qF4 rfl rfl) rfl rfl λ_ _=>J.b rfl<|J.c j2<|J.k λ_ j3=>J.k λ_ j4=>J.b0 [blk g8 (qCo s).1.cells 281] [] (.y 0 (.y 1 (.y 2 (.y 3 (.y 4 (.y 5 (.y 6 (.y 7 (.y 8 (.y 9 (.y 10 (.y 11 (.y 12 (.y 13 (.y 14 (.y 15 (.y 16 (.y 17 (.y 18 (.y 19 (.y 20 (.y 21 (.y 22 (.y 23 (.y 24 (.y 25 (.y 26 (.y 27 (.y 28 (.y 29 (.y 30 (.y 31 (.y 32 (.y 33 (.y 34 (.y 35 (.y 36 (.y 37 (.y 38 (.y 39 (.y 40 (.y 41 (.y 42 (.y 43 (.y 44 (.y 45 (.y 46 .nil))))))))))))))))))))))))))))))))))))))))))))))) Tryz.wide (by decide+kernel) (by simp) ?_
  refine J.L ?_
  refine J.j O ((qAy O O).as (v':= .bool true) O) O O<|J.L ?_
  iterate 3 refine J.b1 ?_
  refine J.d2 ?_
  refine J.L ?_
  iterate 3 refine J.b1 ?_
  refine J.d2 ?_
  refine J.L ?_
  iterate 9 refine J.b1 ?_
  refine J.d2 ?_
  refine J.L ?_
  iterate 5 refine J.b1 ?_
  refine J.d2 ?_
  refine J.L ?_
  iterate 7 refine J.b1 ?_
  refine J.c0 O (Wan.un O O O O) O O ?_
  refine J.c0 O (Wan.un O O O O) O O ?_
  refine J.c0 O (Wan.un O O O O) O O ?_
  refine J.c0 O (Wan.un O O O O) O O ?_
  refine J.c0 O (Wan.un O O O O) O O ?_
  refine J.c0 O (Wan.un O O O O) O O ?_
  refine J.c0 O (Wan.un O O O O) O O ?_
  refine J.b1 ?_
  refine J.d2 ?_
  refine J.a8<|J.u (J.D j4 ?_)
  refine J.c4 ?_
  exact J.f λ_ j5=>J.q 4 O<|J.c j5<|J.A<|J.V<|J.a9 hw0 (λ_ _ h=>h) (res4 O O O O O) (qAq () O trivial [0] O (by decide))
theorem qOF(F:Hp)(hK:KF F)(gh:Option Addr)(A:Option Addr)(n c:Nat)(ls:List (List UInt8))(hl:Sl F 1 A n c (qAI ls))(hn:0<n)(s:List UInt8)(hs:ls[0]?=some s)(h64:s.length=64)(hz:(qCo s).2=false∨(qCo s).1.turn=0):
    Cz prog 173 [.pointer gh,.slice A n c] F (.tuple #[.int .u64 0,Str [],I 0,.bool false]):=by
  cases h:(qCo s).2 with
  |false=>exact qLT F hK gh A n c ls hl hn s hs h64 h
  |true=>exact qLS F hK gh A n c ls hl hn s hs h64 h (hz.resolve_left (by rw [h];decide))
def zS:List UInt8:=List.replicate 64 0
theorem qXz:zS.length=64:=jJ
theorem qVX:(qCo zS).2=false∨(qCo zS).1.turn=0:=qO3
theorem qN0(n:Nat)(z:List UInt8):qAI (List.replicate n z)++qAI [z]=qAI (List.replicate (n+1) z):=by
 rw [zf,←qHX]
theorem qRt(F:Hp)(hK:KF F)(gb gd:Nat)(first:Int)(size:Nat)(hat:Int)(hturn:UInt64)(hend:Int)(Ar:Option Addr)(nr cr:Nat)(bad:Bool)(hB:qAR F ⟨gb,0,none⟩ [Ptr gd,I first,I (size:Nat),I hat,W64 hturn,I hend,.slice Ar nr cr,.bool bad])(d:Dk)(A:Option Addr)(c:Nat)(B:Option Addr)(e:Nat)(C:Option Addr)(f:Nat)(hc:qAR F ⟨gd,0,none⟩ (d.cells A c B e C f))(hL:Sl F 1 A d.last.length c (qAI d.last))(hW:Sl F 2 B d.wait.length e (qDP d.wait))(hn1:d.last.length≤1073741824)(hn2:d.wait.length≤1073741824)
    (at_:Nat) (hs0:0<size) (hs:at_+size≤1048576) (hz: ∀i:Nat,i<size→d.ready ((at_+i:Nat):Int)=0∧d.read ((at_+i:Nat):Int)=zS):
    Cz prog 124 [Ptr gb,I (at_:Nat)] F (.tuple #[.agg #[I at_,W64 0,I 0,.slice none 0 0],I 0]):=by
  refine Ct.walk func124 rfl ntmps124 rfl (λw0 hw0=>?_)
  refine J.f λ_ j1=>J.p (qAL O zeroValue216 O) O λg4 _=>J.b O<|J.c j1<|J.f λ_ j2=>J.b O<|J.g (qAK (places:= [(0,1),(1,1),(2,1),(3,1)]) (r:= [I at_,W64 0,I 0,.slice none 0 0]) O O O qEF zeroValue216 (λ_=>by kernel_rfl) O) O<|J.p (qAL O zeroValue216 O) O λg6 _=>J.a6 (qAF (l:= [I 0,W64 0,I 0,.slice none 0 0]) (i:=2) (vs:= [I at_,W64 0,I 0,.slice none 0 0]) O O O O O qDY O O) O O λ_ _=>J.c j2<|J.f λ_ j3=>J.b O<|J.c j3<|J.k λ_ j4=>J.k λ_ j5=>J.c7 [0,1,2,3] [F,blk g4 _ 216,blk g6 [I at_,W64 0,I 0,.slice none 0 0] 216,(λ_=>none)] O (by decide)<|J.H<|J.b O<|J.g (qAC O O) O<|J.T 2 qE1 z3_ O O O O O<|J.g (qAJ O O b3_ (m:=F) (by simp) (hB.at (i:=2) rfl)) rfl<|J.b rfl<|J.c j5<|J.O<|J.b4 (X:=Nat×Hp×Option Addr×Nat) (λx=> [(0,Ptr gb),(1,I (at_:Nat)),(4,Ptr g4),(6,Ptr g6),(7,.slice x.2.2.1 x.1 x.2.2.2),(20,I (size:Nat)),(21,I x.1)]) (λx=> [F,blk g4 [I 0,W64 0,I 0,.slice none 0 0] 216,blk g6 [I at_,W64 0,I 0,.slice none 0 0] 216,x.2.1]) (λx=>x.1≤size∧Row x.2.1 9 1 x.2.2.1 x.1 x.2.2.2 (qAI (List.replicate x.1 zS))) (λx=>size-x.1) (0,(λ_=>none),none,0) (⟨jG _,qBb.nil⟩) ⟨rfl,rfl,rfl,rfl,rfl,rfl,rfl,trivial⟩ (λ_ h=>h) ?_
  rintro⟨k,m,A7,c7⟩ ⟨hk,hr⟩ I0 hI0
  dsimp only at hk hr⊢
  refine J.f λ_ j6=>J.g (qAT O O O) O<|J.c j6<|J.k λ_ j7=>J.W O (λh22=>?_) (λh22=>?_)
  ·
    refine J.M j7<|J.k λ_ j8=>J.O<|J.f λ_ j9=>J.q 2 O<|J.c j9<|J.f λ_ j10=>J.b O<|J.g (qAC O O) O<|J.T 0 qE1 sizeOf82 O O O O O<|J.g (qAJ O O isAgg82 (m:=F) (by simp) (hB.at (i:=0) rfl)) rfl<|J.q 2 rfl<|J.g ((qAS rfl rfl rfl (by omega)).nat (at_+k) (by omega)) rfl<|J.p (qAB rfl rfl ent172 (Ct.use0 (λF' hF=>qSt F' gd d A c B e C f (hc.mono (Fa hF)) (hL.mono (Fa hF)) (hW.mono (Fa hF)) ((at_+k:Nat):Int) hn1 hn2))) rfl λg32 _=>J.b rfl<|J.g ((qAh (v:=Str (d.read ((at_+k:Nat):Int))) rfl rfl rfl).as (v':=Str zS) (by rw [(hz k (by omega)).2])) rfl<|J.g ((qAh (v:=I (d.ready ((at_+k:Nat):Int))) rfl rfl rfl).as (v':=I 0) (by rw [(hz k (by omega)).1])) rfl<|J.q 2 rfl<|J.c j10<|J.k λ_ j11=>J.f λ_ j12=>J.b rfl<|J.g ((qAe rfl rfl rfl).no (by decide)) rfl<|J.c j12<|J.a1 ?_
    refine J.M j11<|J.H<|J.q 2 O<|J.p (qAG (l:= [.tmp 40]) (xs:= [[Str zS]]) O O O O qAk el9 O (by decide) (by decide) (by simp)) rfl λg41 _=>J.p (qAV (i:=3) (m2:=blk g41 [Str zS] 9) rfl rfl rfl qAk qAk el9 rfl hr (by simp) ((qAl (q:=True) (xs:=qAI [zS]) rfl (by simp [qAI])).sl) (by simp [qAI,Value.oneCell']) (by omega) (by omega)) rfl ?_
    rintro⟨A8,c8,m8⟩ h8
    try dsimp only at h8
    rw [qN0] at h8
    refine J.b O<|J.a3<|J.a2<|J.u (J.D j8 ?_)
    exact J.H<|J.g ((qAS O O O (by omega)).nat (k+1) (by omega)) O<|J.b O<|J.a3<|J.u<|J.a4 (k+1,m8,A8,c8) (λy (hy:_∧size-y.1<size-k)=>hI0 y hy.1 hy.2) ⟨⟨by dsimp only;omega,h8⟩,by dsimp only;omega⟩ ⟨O,O,O,O,O,O,O,trivial⟩ (λ_ h=>h.pick [0,1,2,3] (by decide))
  refine J.b2<|J.a0<|J.a0<|J.b3 ?_
  refine J.u (J.D j4 ?_)
  refine J.k λ_ j13=>J.O<|J.b4 (X:=Unit) (λ_=> [(4,Ptr g4),(6,Ptr g6),(7,.slice A7 k c7)]) (λ_=> [F,blk g4 [I 0,W64 0,I 0,.slice none 0 0] 216,blk g6 [I at_,W64 0,I 0,.slice none 0 0] 216,m]) (λ_=>True) (λ_=>0) () (trivial) ⟨O,O,O,trivial⟩ (λ_ h=>h) ?_
  rintro _ _ I2 hI2
  refine J.k λ_ j14=>J.f λ_ j15=>J.b O<|J.g (qAU qAk O O) O<|J.g ((qA5 O O O).yes (by omega)) O<|J.c j15<|J.c4 ?_
  refine J.M j14<|J.O<|J.f λ_ j16=>J.b O<|J.p (qAB O O ent173 (Ct.use0 (λF' hF=>qOF F' (hK.mo hF) (some ⟨g6,0,none⟩) A7 k c7 (List.replicate k zS) (hr.sl.mono (Fa hF)) (by omega) zS (by rw [yJ,if_pos (by omega)]) qXz qVX))) rfl ?_
  intro g49 _
  refine J.q 9 O<|J.c j16<|J.k λ_ j17=>J.f λ_ j18=>J.b O<|J.g ((qAy O O).as (v':= .bool true) O) O<|J.c j18<|J.c4 ?_
  refine J.b2<|J.a0<|J.g6 O ?_
  refine J.a0<|J.b3 ?_
  refine J.u (J.D j13 ?_)
  exact J.f λ_ j19=>J.b7 2 isAgg216 qDY O O O O O<|J.a6 (qAF (l:= [I 0,W64 0,I 0,.slice none 0 0]) (i:=1) (vs:= [I at_,W64 0,I 0,.slice none 0 0]) O O O O O qDY O O) O O λ_ _=>J.b O<|J.c j19<|J.A<|J.a9 hw0 (λ_ _ h=>h) (rv2 O (RV.blkA 1 O O isAgg216 qDY) O) (qAq () O trivial [0] O (by decide))
def hatk(first:Nat):Nat→Int
 |0=>0
 |_+1=>first
theorem qON(F:Hp)(hK:KF F)(gd:Nat)(d:Dk)(A:Option Addr)(c:Nat)(B:Option Addr)(e:Nat)(C:Option Addr)(f:Nat)(hc:qAR F ⟨gd,0,none⟩ (d.cells A c B e C f))(hL:Sl F 1 A d.last.length c (qAI d.last))(hW:Sl F 2 B d.wait.length e (qDP d.wait))(hn1:d.last.length≤1024)(hn2:d.wait.length≤1073741824)(first count:Nat)(h8:8≤count)(hfc:first+count≤d.last.length)(hz: ∀i:Nat,i<d.last.length→d.ready (i:Int)=0∧d.read (i:Int)=zS):
    Ct prog 58 [Ptr gd,I (first:Nat),I (count:Nat)] [F] (λg:Nat=> .tuple #[Ptr g,I 0]) (λ_=>True) (λg41=> [F,blk g41 [Ptr gd,I (first:Nat),I ((count/2):Nat),I (first:Nat),W64 0,I 0,.slice none 0 0,.bool false] 218]):=by
  refine Ct.walk func58 rfl ntmps58 rfl (λw0 hw0=>?_)
  refine J.f λ_ j1=>J.q 2 O<|J.c j1<|J.k λ_ j2=>J.f λ_ j3=>J.b O<|J.g ((qA6 underlying82 O O O).as (v':= .bool false) O) O<|J.q 2 O<|J.G ((qAT O O O).no (by omega)) O<|J.q 3 O<|J.G ((qAT O O O).no (by omega)) O<|J.q 4 O<|J.c9 (qAB O O ent123 (Ct.use0 (λF' hF=>qNZ F' gd d A c B e C f (hc.mono (Fa hF))))) O λg25 _=>J.G ((qA5 O O O).no (by omega)) O<|J.q 4 O<|J.c9 (qAB O O ent123 (Ct.use0 (λF' hF=>qNZ F' gd d A c B e C f (hc.mono (Fa hF))))) O λg31 _=>J.b O<|J.G (qA4 O O O (by omega)) O<|J.G ((qA5 O O O).no (by omega)) O<|J.b O<|J.c j3<|J.a1 ?_
  refine J.M j2<|J.f λ_ j4=>J.q 3 O<|J.g ((qHh O O O (by omega)).as (v':=I ((count/2:Nat):Int)) (congrArg I (Int.ofNat_tdiv _ _).symm)) O<|J.g (qAK (places:= [(0,1),(1,1),(2,1),(3,4),(7,1)]) (r:= [Ptr gd,I (first:Nat),I ((count/2):Nat),I 0,W64 0,I 0,.slice none 0 0,.bool false]) O O O qE1 zeroValue218 (λ_=>by kernel_rfl) O) O<|J.p (qAd O O O) O ?_
  rintro g41 _
  refine J.b O<|J.c j4<|J.k λ_ j5=>J.f λ_ j6=>J.b O<|J.c j6<|J.O<|J.b4 (X:=Nat) (λk=> [(1,I (first:Nat)),(8,Ptr g41),(42,I k)]) (λk=> [F,blk g41 [Ptr gd,I (first:Nat),I ((count/2):Nat),I (hatk first k),W64 0,I 0,.slice none 0 0,.bool false] 218]) (λk=>k≤2) (λk=>2-k) 0 (jG _) ⟨O,O,O,trivial⟩ (λ_ h=>h) ?_
  intro k hk I0 hI0
  refine J.f λ_ j7=>J.g (qAT O O O) O<|J.c j7<|J.k λ_ j8=>J.W O (λh43=>?_) (λh43=>?_)
  ·
    refine J.M j8<|J.k λ_ j9=>J.O<|J.f λ_ j10=>J.q 2 O<|J.c j10<|J.k λ_ j11=>?_
    obtain ⟨km,hkm⟩: ∃km,km=k*(count/2):=⟨_,rfl⟩
    have hk2:k<2:=by omega
    have hkm2:km+(count/2)≤count:=by
      have:k=0∨k=1:=by omega
      rcases this with e|e<;>rw [hkm,e]<;>omega
    refine J.H<|J.q 4 O<|J.g (qAC O O) O<|J.T 2 qE1 z3_ O O O O O<|J.a5 1 b3_ O O O O O<|J.g ((qDO O O O (by rw [←yM,←hkm];omega)).as (v':=I (km:Nat)) (congrArg I (by rw [hkm,yM]))) rfl<|J.g ((qAS rfl rfl rfl (by omega)).nat (first+km) (by omega)) rfl<|J.p (qAB rfl rfl ent124 (Ct.use0 (λF' hF=>qRt F' (hK.mo hF) g41 gd (first:Nat) (count/2) (hatk first k) 0 0 none 0 0 false (qAR.blk0.mono (hF (blk g41 [Ptr gd,I (first:Nat),I ((count/2):Nat),I (hatk first k),W64 0,I 0,.slice none 0 0,.bool false] 218) (by simp))) d A c B e C f (hc.mono (Fa hF)) (hL.mono (Fa hF)) (hW.mono (Fa hF)) (by omega) hn2 (first+km) (by omega) (by omega) (λi hi=>hz (first+km+i) (by omega))))) rfl λg55 _=>J.q 3 rfl<|J.p (qAL rfl zeroValue216 rfl) rfl λg10 _=>J.a6 (qAF (l:= [I 0,W64 0,I 0,.slice none 0 0]) (i:=2) (vs:= [I ((first+km:Nat):Int),W64 0,I 0,.slice none 0 0]) rfl rfl rfl rfl rfl qDY rfl rfl) rfl rfl λ_ _=>J.b rfl<|J.c j11<|J.k λ_ j12=>J.f λ_ j13=>J.b rfl<|J.g ((qAe rfl rfl rfl).no (by decide)) rfl<|J.c j13<|J.a1 ?_
    refine J.M j12<|J.k λ_ j14=>J.b0 [F,blk g41 [Ptr gd,I (first:Nat),I ((count/2):Nat),I (hatk first k),W64 0,I 0,.slice none 0 0,.bool false] 218,blk g10 [I ((first+km:Nat):Int),W64 0,I 0,.slice none 0 0] 216] [] (.y 0 (.y 1 (.y 2 (.y 3 (.y 4 (.y 5 (.y 6 (.y 7 (.y 8 (.y 9 (.y 10 (.y 11 (.y 12 (.y 13 (.y 14 (.y 15 (.y 16 (.y 17 (.y 18 (.y 19 (.y 20 (.y 21 (.y 22 (.y 23 (.y 24 (.y 25 (.y 26 .nil))))))))))))))))))))))))))) Tryz.wide (by decide+kernel) (by simp) ?_
    refine J.L ?_
    refine J.j O (qAg O O O) O O<|J.L ?_
    refine J.b9 (d:=63) O (λh63=>?_) (λh63=>?_)
    ·
      iterate 5 refine J.b1 ?_
      refine J.c0 O (Wan.un O O O O) O O ?_
      refine J.c0 O (Wan.un O O O O) O O ?_
      refine J.c0 O (Wan.un O O O O) O O ?_
      refine J.c0 O (Wan.un O O O O) O O ?_
      refine J.c0 O (Wan.un O O O O) O O ?_
      refine J.c0 O (Wan.un O O O O) O O ?_
      refine J.c0 O (Wan.un O O O O) O O ?_
      refine J.c0 O (Wan.un O O O O) O O ?_
      refine J.c0 O (Wan.un O O O O) O O ?_
      refine J.c0 O (Wan.un O O O O) O O ?_
      refine J.c0 O (Wan.un O O O O) O O ?_
      refine J.c0 O (Wan.un O O O O) O O ?_
      refine J.c0 O (Wan.un O O O O) O O ?_
      refine J.c0 O (Wan.un O O O O) O O ?_
      refine J.c0 O (Wan.un O O O O) O O ?_
      refine J.c0 O (Wan.un O O O O) O O ?_
      refine J.c0 O (Wan.un O O O O) O O ?_
      refine J.b1 ?_
      refine J.d2 ?_
      refine J.a8<|J.u (J.D j14 ?_)
      refine J.c4 ?_
      refine J.H<|J.b O<|J.b7 2 isAgg216 qDY O O O O O<|J.g (qAC O O) O<|J.T 3 qE1 qDY O O O O O<|J.a6 (qAW (i:=1) O O O O O qDY O (by simp)) rfl rfl λ_ _=>J.a3<|J.a2<|J.u (J.D j9 ?_)
      refine J.H<|J.g ((qAS O O O (by omega)).nat (k+1) (by omega)) O<|J.b O<|J.a3<|J.u ?_
      have hk0:k=0:=by omega
      subst hk0
      have hk0m:km=0:=by omega
      subst hk0m
      exact J.a4 1 (λy (hy:_∧2-y<2-0)=>hI0 y hy.1 hy.2) ⟨by omega,by omega⟩ ⟨O,O,O,trivial⟩ (λ_ h=>h.pick [0,1] (by decide))
    refine J.b8 O (qAA O O qEF O qBs O) O O<|J.b8 O (qAE 2 O O O qB8 O) O O<|J.b8 O (qAU qAk O O) O O<|J.b8 O ((qA5 O O O).no (by decide)) O O<|J.b8 O (qA0 O O) O O<|J.b1 ?_
    iterate 7 refine J.b1 ?_
    refine J.c0 O (Wan.un O O O O) O O ?_
    refine J.c0 O (Wan.un O O O O) O O ?_
    refine J.c0 O (Wan.un O O O O) O O ?_
    refine J.c0 O (Wan.un O O O O) O O ?_
    refine J.c0 O (Wan.un O O O O) O O ?_
    refine J.c0 O (Wan.un O O O O) O O ?_
    refine J.c0 O (Wan.un O O O O) O O ?_
    refine J.c0 O (Wan.un O O O O) O O ?_
    refine J.b1 ?_
    refine J.b8 O (qCQ O O O) O O<|J.e1 ?_
    refine J.a8<|J.u (J.D j14 ?_)
    refine J.a1 ?_
    refine J.b5<|J.a2<|J.u (J.D j9 ?_)
    refine J.H<|J.g ((qAS O O O (by omega)).nat (k+1) (by omega)) O<|J.b O<|J.a3<|J.u ?_
    have hk1:k=1:=by omega
    subst hk1
    exact J.a4 2 (λy (hy:_∧2-y<2-1)=>hI0 y hy.1 hy.2) ⟨by omega,by omega⟩ ⟨O,O,O,trivial⟩ (λ_ h=>h.pick [0,1] (by decide))
  refine J.b2<|J.a0<|J.a0<|J.b3 ?_
  refine J.u (J.D j5 ?_)
  refine J.k λ_ j15=>?_
  have hk2:k=2:=by omega
  subst hk2
  exact J.H<|J.q 3 O<|J.c j15<|J.A<|J.a9 hw0 (λ_ _ h=>h) (qCG O O O) (qAq g41 O trivial [0,1] O (by decide))
theorem qYX(F:Hp)(gb gd:Nat)(first:Int)(size:Nat)(hat:Int)(hturn:UInt64)(hend:Int)(Ar:Option Addr)(nr cr:Nat)(bad:Bool)(hB:qAR F ⟨gb,0,none⟩ [Ptr gd,I first,I (size:Nat),I hat,W64 hturn,I hend,.slice Ar nr cr,.bool bad])(s:List UInt8):
    Cz prog 137 [Ptr gb,Str s] F (I (if 900<s.length then 2 else if bad=true then 21 else 0)):=by
  refine Ct.walk func137 rfl ntmps137 rfl (λw0 hw0=>?_)
  refine J.f λ_ j1=>J.b O<|J.c j1<|J.k λ_ j2=>J.O<|J.f λ_ j3=>J.b O<|J.g ((qA6 underlying91 O O O).as (v':= .bool false) O) O<|J.b O<|J.c j3<|J.a1 ?_
  refine J.f λ_ j4=>J.b O<|J.g (qAt u9_ O O) O<|J.g (qA5 O O O) O<|J.b O<|J.c j4<|J.W O (λh8=>?_) (λh8=>?_)
  ·
    exact J.f λ_ j5=>J.b O<|J.c j5<|J.A<|J.a7<|J.V<|J.E hw0 O () (congrArg I (by rw [if_pos (by omega)])) trivial [0] rfl (by decide)
  refine J.f λ_ j6=>J.b O<|J.g (qAC O O) O<|J.T 7 qE1 z4_ O O O O O<|J.g ((qAJ O O b4_ (m:=F) (by simp) (hB.at (i:=7) rfl)).as (v':= .bool (decide (bad=true))) (by rw [Bool.decide_eq_true])) rfl<|J.b rfl<|J.c j6<|J.W rfl (λh12=>?_) (λh12=>?_)
  ·
    exact J.f λ_ j7=>J.b O<|J.c j7<|J.A<|J.a7<|J.V<|J.E hw0 O () (congrArg I (by rw [if_neg (by omega),if_pos (by assumption)])) trivial [0] rfl (by decide)
  refine J.b5<|J.a2<|J.u (J.D j2 ?_)
  exact J.f λ_ j8=>J.b O<|J.c j8<|J.A<|J.E hw0 O () (congrArg I (by rw [if_neg (by omega),if_neg (by assumption)])) trivial [0] rfl (by decide)
theorem qQw(F:Hp)(gb gd:Nat)(first:Int)(size:Nat)(hat:Int)(hturn:UInt64)(hend:Int)(Ar:Option Addr)(nr cr:Nat)(bad:Bool)(hB:qAR F ⟨gb,0,none⟩ [Ptr gd,I first,I (size:Nat),I hat,W64 hturn,I hend,.slice Ar nr cr,.bool bad])(hs:size≤1048576)(he:0≤hend∧hend≤1048576):
    Cz prog 70 [Ptr gb] F (I ((size:Int)-hend)):=by
  refine Ct.walk func70 rfl ntmps70 rfl (λw0 hw0=>?_)
  refine J.f λ_ j1=>J.b O<|J.c j1<|J.k λ_ j2=>J.f λ_ j3=>J.b O<|J.g ((qA6 underlying91 O O O).as (v':= .bool false) O) O<|J.c j3<|J.a1 ?_
  refine J.M j2<|J.k λ_ j4=>J.b0 [F] [] (.y 0 (.y 1 (.y 2 (.y 3 (.y 4 (.y 5 (.y 6 (.y 7 (.y 8 (.y 9 (.y 10 .nil))))))))))) Tryz.wide (by decide+kernel) (by simp) ?_
  refine J.L ?_
  refine J.j O (qAC O O) O O<|J.j O (qAA O O qE1 O z3_ O) O O<|J.j O (qAJ O O b3_ (m:=F) (by simp) (hB.at (i:=2) rfl)) rfl rfl<|J.L ?_
  refine J.j O (qAC O O) O O<|J.j O (qAA O O qE1 O qDY O) O O<|J.j O (qAA O O qEF O z3_ O) O O<|J.j O (qAJ O O b3_ (m:=F) (by simp) (hB.at (i:=5) rfl)) rfl rfl<|J.j rfl (qA4 rfl rfl rfl (by omega)) rfl rfl<|J.b6 ?_
  refine J.a8<|J.u (J.D j4 ?_)
  exact J.A<|J.E hw0 O () O trivial [0] O (by decide)
theorem qOE(F:Hp)(gb gd:Nat)(first:Int)(size:Nat)(hat:Int)(hturn:UInt64)(hend:Int)(Ar:Option Addr)(nr cr:Nat)(bad:Bool)(hB:qAR F ⟨gb,0,none⟩ [Ptr gd,I first,I (size:Nat),I hat,W64 hturn,I hend,.slice Ar nr cr,.bool bad])(L:List (List UInt8))(hLn:L.length=nr)(hL:Sl F 1 Ar nr cr (qAI L))(hn:nr≤1073741824):
    Ct prog 60 [Ptr gb] [F] (λx:Option Addr×Nat×Hp=> .slice x.1 L.length x.2.1) (λx=>Row x.2.2 9 1 x.1 L.length x.2.1 (qAI L)) (λx=> [F,x.2.2]):=by
  subst hLn
  refine Ct.walk func60 rfl ntmps60 rfl (λw0 hw0=>?_)
  refine J.f λ_ j1=>J.b O<|J.c j1<|J.k λ_ j2=>J.f λ_ j3=>J.b O<|J.g ((qA6 underlying91 O O O).as (v':= .bool false) O) O<|J.c j3<|J.a1 ?_
  refine J.M j2<|J.f λ_ j4=>J.b O<|J.g (qAC O O) O<|J.T 3 qE1 qDY O O O O O<|J.T 6 qEF qBs O O O O O<|J.g (qAJ O O qB8 (m:=F) (by simp) (hB.at (i:=6) rfl)) rfl<|J.p (qAB rfl rfl ent31 (Ct.use (λF' hF=>qKg F' L Ar cr (hL.mono (Fa hF)) hn))) rfl ?_
  rintro⟨A10,c10,m10⟩ h10
  try dsimp only at h10
  exact J.b O<|J.c j4<|J.A<|J.E hw0 O (A10,c10,m10) O h10 [0,1] O (by decide)
theorem qKx(s:List UInt8)(n:Nat):(s.take (min s.length n)).drop 0=s.take n:=by
 rw [zm]
 by_cases h:s.length≤n
 · rw [jn h,jc (jK _),jc h]
 · rw [Nat.min_eq_right (by omega)]
theorem qUH(s:List UInt8)(n:Nat):s.drop (min s.length n)=s.drop n:=by
 by_cases h:s.length≤n
 · rw [jn h,jp (jK _),jp h]
 · rw [Nat.min_eq_right (by omega)]
def qGU(l:List Prt):List (List Value):=l.map Prt.cells
theorem qP9(a b:List Prt):qGU (a++b)=qGU a++qGU b:=by simp [qGU]
def prt(turn num:UInt64)(s:List UInt8)(n i:Nat):Prt:=⟨turn,num,i,n,qKo turn num s,(s.drop (39*i)).take 39⟩
def qWU(turn num:UInt64)(s:List UInt8)(n k:Nat):List Prt:=(List.range k).map (prt turn num s n)
theorem qP7(turn num:UInt64)(s:List UInt8)(n k:Nat):qWU turn num s n (k+1)=qWU turn num s n k++ [prt turn num s n k]:=by unfold qWU;rw [jw,jM];rfl
theorem qP8{turn num:UInt64}{s:List UInt8}{n k i:Nat}(h:i<k):(qGU (qWU turn num s n k))[i]?=some (prt turn num s n i).cells:=by
 unfold qGU qWU
 rw [List.map_map,jO,jv h];rfl
theorem qE8(n:Nat):1≤qBc n:=by unfold qBc;split<;>omega
theorem qEe{n:Nat}(h:n≤900):qBc n≤24:=by unfold qBc;split<;>omega
theorem qTS(F:Hp)(hK:KF F)(turn num:UInt64)(s:List UInt8)(ht:turn.toNat<2^(8*4))(hnm:num.toNat<2^(8*2))(hs:s.length≤900)(n:Nat)(hn:n=qBc s.length):
    Ct prog 183 [W64 turn,W64 num,Str s] [F] (λx:Option Addr×Nat×Hp=> .slice x.1 n x.2.1) (λx=>Row x.2.2 281 6 x.1 n x.2.1 (qGU (qWU turn num s n n))) (λx=> [F,x.2.2]):=by
  have hn24:n≤24:=hn▸qEe hs
  refine Ct.walk func183 rfl ntmps183 rfl (λw0 hw0=>?_)
  refine J.f λ_ j1=>J.b O<|J.c j1<|J.f λ_ j2=>J.b O<|J.g (qAt u9_ O O) O<|J.p (qAB O O ent69 (Ct.use0 (λF' hF=>by have:=qGX F' s.length (by omega);rw [←hn] at this;exact this))) rfl λg13 _=>J.q 3 rfl<|J.p (qAB rfl rfl ent207 (Ct.use0 (λF' hF=>qUU F' (hK.mono (Fa hF)) turn num s ht hnm (by omega)))) rfl λg17 _=>J.q 2 rfl<|J.c j2<|J.f λ_ j3=>J.b rfl<|J.c j3<|J.k λ_ j4=>J.k λ_ j5=>J.c7 [0,1] [F,(λ_=>none)] rfl (by decide)<|J.H<|J.q 2 rfl<|J.c j5<|J.O<|J.b4 (X:=Nat×Hp×Option Addr×Nat) (λx=> [(0,W64 turn),(1,W64 num),(2,Str (s.drop (39*x.1))),(7,I n),(8,Str (qKo turn num s)),(9,.slice x.2.2.1 x.1 x.2.2.2),(18,I n),(19,I x.1)]) (λx=> [F,x.2.1]) (λx=>x.1≤n∧Row x.2.1 281 6 x.2.2.1 x.1 x.2.2.2 (qGU (qWU turn num s n x.1))) (λx=>n-x.1) (0,(λ_=>none),none,0) (⟨jG _,qBb.nil⟩) ⟨rfl,rfl,rfl,rfl,rfl,rfl,rfl,rfl,trivial⟩ (λ_ h=>h) ?_
  rintro⟨k,m,A7,c7⟩ ⟨hk,hr⟩ I0 hI0
  dsimp only at hk hr⊢
  refine J.f λ_ j6=>J.g (qAT O O O) O<|J.c j6<|J.k λ_ j7=>J.W O (λh20=>?_) (λh20=>?_)
  ·
    refine J.M j7<|J.k λ_ j8=>J.O<|J.f λ_ j9=>J.q 2 O<|J.c j9<|J.f λ_ j10=>J.q 8 O<|J.g (qAt u9_ O O) O<|J.g ((qFT O O O).as (v':=I ((min (s.drop (39*k)).length 39:Nat):Int)) (congrArg I (by omega))) O<|J.g ((qA9 u9_ O O O O ⟨by omega,by omega⟩).as (v':=Str ((s.drop (39*k)).take 39)) (congrArg Str (qKx _ _))) O<|J.g (qAK (places:= [(0,1),(1,1),(2,1),(3,1),(4,1),(5,1)]) (r:= [W64 turn,W64 num,I k,I n,Str (qKo turn num s),Str ((s.drop (39*k)).take 39)]) O O O qEX qL5 (λ_=>by kernel_rfl) O) O<|J.p (qAG (l:= [.tmp 33]) (xs:= [(prt turn num s n k).cells]) O O O O qNx el281 O (by decide) (by decide) (by simp [Prt.cells,prt])) rfl λg34 _=>J.p (qAV (i:=1) (m2:=blk g34 (prt turn num s n k).cells 281) rfl rfl rfl qNx qNx el281 rfl hr (by simp) ((qAl (q:=True) (xs:=qGU [(prt turn num s n k)]) rfl (by simp [qGU,Prt.cells])).sl) (by simp [qGU,Prt.cells,Value.oneCell']) (by omega) (by omega)) rfl ?_
    rintro⟨A8,c8,m8⟩ h8
    try dsimp only at h8
    rw [←qP9,←qP7] at h8
    refine J.b O<|J.c j10<|J.H<|J.q 2 O<|J.g (qAt u9_ O O) O<|J.g ((qFT O O O).as (v':=I ((min (s.drop (39*k)).length 39:Nat):Int)) (congrArg I (by omega))) O<|J.g ((qA9 u9_ O O O O ⟨by omega,by omega⟩).as (v':=Str (s.drop (39*(k+1)))) (congrArg Str (by rw [jo,qUH,zt,Nat.mul_add,Nat.mul_one]))) rfl<|J.b rfl<|J.a3<|J.a2<|J.u (J.D j8 ?_)
    exact J.H<|J.g ((qAS O O O (by omega)).nat (k+1) (by omega)) O<|J.b O<|J.a3<|J.u<|J.a4 (k+1,m8,A8,c8) (λy (hy:_∧n-y.1<n-k)=>hI0 y hy.1 hy.2) ⟨⟨by dsimp only;omega,h8⟩,by dsimp only;omega⟩ ⟨O,O,O,O,O,O,O,O,trivial⟩ (λ_ h=>h.pick [0,1] (by decide))
  refine J.b2<|J.a0<|J.a0<|J.b3 ?_
  refine J.u (J.D j4 ?_)
  refine J.k λ_ j11=>?_
  have hkn:k=n:=by omega
  subst hkn
  exact J.H<|J.q 2 O<|J.c j11<|J.A<|J.E hw0 O (A7,c7,m) O hr [0,1] O (by decide)
theorem ent70:qAD prog 70:=qAD.of func70 rfl (by kernel_rfl)
theorem ent138:qAD prog 138:=qAD.of func138 rfl (by kernel_rfl)
theorem ent183:qAD prog 183:=qAD.of func183 rfl (by kernel_rfl)
theorem ent184:qAD prog 184:=qAD.of func184 rfl (by kernel_rfl)
theorem ent186:qAD prog 186:=qAD.of func186 rfl (by kernel_rfl)
def qCK(d:Dk)(p:Nat)(t:Nat→List UInt8):Nat→Dk×Int
 |0=>(d,0)
 |k+1=>if(qCK d p t k).2=0 then((qCK d p t k).1.write ((p+k:Nat):Int) (t k),(qCK d p t k).1.wErr ((p+k:Nat):Int) (t k)) else qCK d p t k
theorem qF6{d:Dk}{p:Nat}{t:Nat→List UInt8}{k:Nat}(h:(qCK d p t k).2=0):qCK d p t (k+1)=((qCK d p t k).1.write ((p+k:Nat):Int) (t k),(qCK d p t k).1.wErr ((p+k:Nat):Int) (t k)):=if_pos h
theorem qF7{d:Dk}{p:Nat}{t:Nat→List UInt8}{k:Nat}(h: ¬(qCK d p t k).2=0): ∀n,qCK d p t (k+n)=qCK d p t k
 |0=>rfl
 |n+1=>by
  have e:=qF7 h n
  show(if(qCK d p t (k+n)).2=0 then _ else qCK d p t (k+n))=_
  rw [e,if_neg h]
def qK3(d:Dk)(p:Nat)(t:Nat→List UInt8)(n:Nat):Dk×Int:=if(qCK d p t n).2=0 then((qCK d p t n).1.sync,(qCK d p t n).1.sErr) else qCK d p t n
theorem qRp(d:Dk):d.burn.keep=d.keep∧d.burn.wait.length≤d.wait.length:=by
  unfold Dk.burn Dk.cut
  split
  · split
    · exact⟨rfl,jG _⟩
    · exact⟨rfl,jK _⟩
  · exact⟨rfl,jK _⟩
theorem qNp(d:Dk)(i:Int)(s:List UInt8):(d.write i s).keep=d.keep∧(d.write i s).wait.length≤d.wait.length+1:=by
  have hb:=qRp d
  unfold Dk.write
  split
  · exact⟨rfl,Nat.le_succ _⟩
  · split
    · exact⟨rfl,Nat.le_succ _⟩
    · split
      · exact⟨hb.1,Nat.le_succ_of_le hb.2⟩
      · refine⟨hb.1,?_⟩
        show(d.burn.wait++ [_]).length≤_
        rw [jA];exact Nat.succ_le_succ hb.2
theorem qIA{d:Dk}(h:d.ok)(p:Nat)(t:Nat→List UInt8): ∀k,(qCK d p t k).1.ok∧(qCK d p t k).1.wait.length≤d.wait.length+k∧(qCK d p t k).1.keep=d.keep
  |0=>⟨h,jK _,rfl⟩
  |k+1=>by
    obtain ⟨h1,h2,h3⟩:=qIA h p t k
    by_cases he:(qCK d p t k).2=0
    · rw [qF6 he]
      have hw:=qNp (qCK d p t k).1 ((p+k:Nat):Int) (t k)
      exact⟨h1.write _ _,jb hw.2 (by omega),hw.1.trans h3⟩
    · rw [show k+1=k+1 from rfl,qF7 he 1]
      exact⟨h1,by omega,h3⟩
theorem qQB{turn num:UInt64}{s:List UInt8}{n i:Nat}(ht:turn.toNat<2^(8*4))(hn:num.toNat<2^(8*2))(h:n≤24)(hi:i<n):(prt turn num s n i).ok:=
 ⟨ht,hn,by show i<256;omega,by show n<256;omega,by show(qKo _ _ _).length≤8;rw [qRv];exact jK _,by show((s.drop _).take 39).length≤39;rw [jF];exact Nat.min_le_left _ _⟩
theorem qHK(F mm:Hp)(hK:KF F)(gb gd:Nat)(first size hat0:Int)(ht0:UInt64)(he0:Int)(Ar0:Option Addr)(nr0 cr0:Nat)(bad:Bool)(d:Dk)(C:Option Addr)(f:Nat)(hb:Dsk mm gd d C f)(hok:d.ok)(hn2:d.wait.length≤1048576)(hKp:Sl F 1 C d.keep.length f (qAf d.keep))(hn3:d.keep.length≤9223372036854775807)(hat:Nat)(hturn:UInt64)(hend:Nat)(Ar:Option Addr)(nr cr:Nat)(R:List (List UInt8))(hR:R.length=nr)(hRs:Sl F 1 Ar nr cr (qAI R))(s:List UInt8)(hs:s.length≤900)(n:Nat)(hn:n=qBc s.length)(ht:hturn.toNat<2^(8*4))(hnr:nr<65536)(hp:hat+hend≤1048576)(he:(qK3 d (hat+hend) (λi=>(prt hturn (UInt64.ofNat nr) s n i).text) n).2=0):
    Ct prog 138 [Ptr gb,.agg #[I hat,W64 hturn,I hend,.slice Ar nr cr],Str s] [blk gb [Ptr gd,I first,I size,I hat0,W64 ht0,I he0,.slice Ar0 nr0 cr0,.bool bad] 218,mm,F] (λ_:Hp×Option Addr×Nat×Hp=>I 0) (λx=>Dsk x.1 gd (qK3 d (hat+hend) (λi=>(prt hturn (UInt64.ofNat nr) s n i).text) n).1 C f∧Row x.2.2.2 9 1 x.2.1 (nr+1) x.2.2.1 (qAI (R++ [s]))) (λx=> [blk gb [Ptr gd,I first,I size,I hat,W64 hturn,I ((hend+n:Nat):Int),.slice x.2.1 (nr+1) x.2.2.1,.bool bad] 218,x.1,F,x.2.2.2]):=by
  have hn24:n≤24:=hn▸qEe hs
  have hnum:(UInt64.ofNat nr).toNat<2^(8*2):=by rw [qBE (by omega)];exact hnr
  refine Ct.walk func138 rfl ntmps138 rfl (λw0 hw0=>?_)
  refine J.f λ_ j1=>J.p (qAd O O O) O ?_
  rintro g4 _
  refine J.b O<|J.c j1 ?_
  refine J.f λ_ j2=>J.T 1 qEF qD9 O O O O O<|J.a5 3 qEz O O O O O<|J.T 3 qEF qBs O O O O O<|J.a5 3 qB8 O O O O O<|J.g (qAU qAk O O) O<|J.g (qAw O O u3_ qEU (by omega)) O<|J.b O<|J.p (qAB O O ent183 (Ct.use (λF' hF=>qTS F' (hK.mo hF) hturn (UInt64.ofNat nr) s ht hnum hs n hn))) O ?_
  rintro⟨Ap,cp,mp⟩ hr
  try dsimp only at hr
  refine J.b O<|J.c j2 ?_
  refine J.f λ_ j3=>J.b O<|J.c j3 ?_
  refine J.d4 (λx:Hp=> [(0,Ptr gb),(2,Str s),(4,Ptr g4),(7,.slice Ap n cp),(8,I (qCK d (hat+hend) (λi=>(prt hturn (UInt64.ofNat nr) s n i).text) n).2)]) (λx=> [blk gb [Ptr gd,I first,I size,I hat0,W64 ht0,I he0,.slice Ar0 nr0 cr0,.bool bad] 218,x,F,blk g4 [I hat,W64 hturn,I hend,.slice Ar nr cr] 216,mp]) (λx=>Dsk x gd (qCK d (hat+hend) (λi=>(prt hturn (UInt64.ofNat nr) s n i).text) n).1 C f) (λ_ j4=>?_) ?_
  ·
    refine J.f λ_ j5=>J.b O<|J.c j5 ?_
    refine J.O<|J.b4 (X:=Nat×Hp) (λx=> [(0,Ptr gb),(2,Str s),(4,Ptr g4),(7,.slice Ap n cp),(8,I (qCK d (hat+hend) (λi=>(prt hturn (UInt64.ofNat nr) s n i).text) x.1).2),(9,I x.1)]) (λx=> [blk gb [Ptr gd,I first,I size,I hat0,W64 ht0,I he0,.slice Ar0 nr0 cr0,.bool bad] 218,x.2,F,blk g4 [I hat,W64 hturn,I hend,.slice Ar nr cr] 216,mp]) (λx=>x.1≤n∧Dsk x.2 gd (qCK d (hat+hend) (λi=>(prt hturn (UInt64.ofNat nr) s n i).text) x.1).1 C f) (λx=>n-x.1) (0,mm) (⟨jG _,hb⟩) ⟨O,O,O,O,O,O,trivial⟩ (λ_ h=>h) ?_
    rintro⟨k,m⟩ ⟨hk,hd⟩ I0 hI0
    dsimp only at hk hd⊢
    refine J.k λ_ j6=>J.f λ_ j7=>J.q 2 O<|J.g (qAU qNx O O) O<|J.g (qAT O O O) O<|J.b O<|J.b9 (d:=22) O (λh22=>?_) (λh22=>?_)
    ·
      refine J.b O<|J.G (qAg O O O) O<|J.b O<|J.c j7 ?_
      refine J.W O (λh25=>?_) (λh25=>?_)
      ·
        refine J.M j6 ?_
        refine J.k λ_ j8=>J.O ?_
        have hkn:k<n:=by omega
        have hw:=qIA hok (hat+hend) (λi=>(prt hturn (UInt64.ofNat nr) s n i).text) k
        refine J.b0 [blk gb [Ptr gd,I first,I size,I hat0,W64 ht0,I he0,.slice Ar0 nr0 cr0,.bool bad] 218,blk g4 [I hat,W64 hturn,I hend,.slice Ar nr cr] 216,F,mp] [] (.y 0 (.y 1 (.y 2 (.y 3 (.y 4 (.y 5 (.y 6 (.y 7 (.y 8 (.y 9 (.y 10 (.y 11 (.y 12 (.y 13 (.y 14 (.e 15 (.e 16 (.y 17 .nil)))))))))))))))))) Tryz.wide (by decide+kernel) (by simp) ?_
        refine J.L ?_
        refine J.j O (qAC O O) O O<|J.j O (qAA O O qE1 O sizeOf82 O) O O<|J.j O (qAE 0 O O O isAgg82 O) O O<|J.j O (qAA O O qEF O z3_ O) O O<|J.j O (qAE 1 O O O b3_ O) O O<|J.j O (qAA O O qEF O z3_ O) O O<|J.j O (qAE 1 O O O b3_ O) O O<|J.j O ((qAS O O O (by omega)).nat (hat+hend) (by omega)) O O<|J.L ?_
        refine J.j O ((qAS O O O (by omega)).nat (hat+hend+k) (by omega)) O O<|J.L ?_
        refine J.L ?_
        refine J.j O (qAH O O O qNx qF4 hr.sl (by omega)) O O<|J.j O (qAX O O isAgg281 qF4 (m:=mp) (by simp) (hr.sl.elem (qP8 hkn)) rfl) rfl rfl<|J.Z rfl (qAB rfl rfl ent185 (Ct.use0 (λF' hF=>qMp F' (hK.mo hF) (prt hturn (UInt64.ofNat nr) s n k) (qQB ht hnum hn24 hkn)))) rfl (by simp) λg43 _=>J.Z rfl (qAB rfl rfl ent184 (Ct.use1 1 rfl (λF' hF=>qSV F' m gd (qCK d (hat+hend) (λi=>(prt hturn (UInt64.ofNat nr) s n i).text) k).1 C f hd hw.1 (by have:=hw.2.1;omega) (by rw [hw.2.2];exact hKp.mono (Fa hF)) (by rw [hw.2.2];exact hn3) ((hat+hend+k:Nat):Int) (prt hturn (UInt64.ofNat nr) s n k).text (by rw [Prt.text_len (qQB ht hnum hn24 hkn)];decide)))) rfl (by simp) ?_
        rintro m44 hd44
        refine J.b6 ?_
        refine J.a8<|J.a2<|J.u (J.D j8 ?_)
        refine J.H<|J.b O<|J.g ((qAS O O O (by omega)).nat (k+1) (by omega)) O<|J.b O<|J.a3<|J.u ?_
        have hsu:=qF6 (show(qCK d (hat+hend) (λi=>(prt hturn (UInt64.ofNat nr) s n i).text) k).2=0 from by omega)
        exact J.a4 (k+1,m44) (λy (hy:_∧n-y.1<n-k)=>hI0 y hy.1 hy.2) ⟨⟨by dsimp only;omega,by dsimp only;rw [hsu];exact hd44⟩,by dsimp only;omega⟩ ⟨rfl,rfl,rfl,rfl,by dsimp only;rw [hsu];rfl,rfl,trivial⟩ (λ_ h=>h)
      refine J.b2<|J.a0<|J.a0<|J.b3 ?_
      refine J.u ?_
      have hst:=qF7 (d:=d) (p:=hat+hend) (t:=(λi=>(prt hturn (UInt64.ofNat nr) s n i).text)) (k:=k) (by omega) (n-k)
      rw [show k+(n-k)=n by omega] at hst
      exact J.a4 m j4 (by rw [hst];exact hd) ⟨rfl,rfl,rfl,rfl,by rw [hst];rfl,trivial⟩ (λ_ h=>h)
    refine J.q 3 O<|J.c j7 ?_
    refine J.a1 ?_
    refine J.b2<|J.a0<|J.a0<|J.b3 ?_
    refine J.u ?_
    have hkk:k=n:=by omega
    subst hkk
    exact J.a4 m j4 hd ⟨O,O,O,O,O,trivial⟩ (λ_ h=>h)
  intro m hd
  refine J.d4 (λx:Hp=> [(0,Ptr gb),(2,Str s),(4,Ptr g4),(7,.slice Ap n cp),(8,I (qK3 d (hat+hend) (λi=>(prt hturn (UInt64.ofNat nr) s n i).text) n).2)]) (λx=> [blk gb [Ptr gd,I first,I size,I hat0,W64 ht0,I he0,.slice Ar0 nr0 cr0,.bool bad] 218,x,F,blk g4 [I hat,W64 hturn,I hend,.slice Ar nr cr] 216,mp]) (λx=>Dsk x gd (qK3 d (hat+hend) (λi=>(prt hturn (UInt64.ofNat nr) s n i).text) n).1 C f) (λ_ j9=>?_) ?_
  ·
    refine J.k λ_ j10=>?_
    have hw:=qIA hok (hat+hend) (λi=>(prt hturn (UInt64.ofNat nr) s n i).text) n
    refine J.H<|J.b O<|J.g (qAg O O O) O<|J.c j10 ?_
    refine J.W O (λh46=>?_) (λh46=>?_)
    ·
      refine J.H<|J.b O<|J.g (qAC O O) O<|J.T 0 qE1 sizeOf82 O O O O O<|J.a5 0 isAgg82 O O O O O<|J.p (qAB O O ent186 (Ct.use1 1 O (λF' hF=>qVo F' m gd (qCK d (hat+hend) (λi=>(prt hturn (UInt64.ofNat nr) s n i).text) n).1 C f hd hw.1 (by have:=hw.2.1;omega) (by rw [hw.2.2];exact hKp.mono (Fa hF)) (by rw [hw.2.2];exact hn3)))) rfl ?_
      rintro m51 hd51
      refine J.b O<|J.a3<|J.u ?_
      have hst:(qK3 d (hat+hend) (λi=>(prt hturn (UInt64.ofNat nr) s n i).text) n)=((qCK d (hat+hend) (λi=>(prt hturn (UInt64.ofNat nr) s n i).text) n).1.sync,(qCK d (hat+hend) (λi=>(prt hturn (UInt64.ofNat nr) s n i).text) n).1.sErr):=if_pos (by omega)
      exact J.a4 m51 j9 (by rw [hst];exact hd51) ⟨rfl,rfl,rfl,rfl,by rw [hst];rfl,trivial⟩ (λ_ h=>h)
    refine J.b5<|J.u ?_
    have hst:(qK3 d (hat+hend) (λi=>(prt hturn (UInt64.ofNat nr) s n i).text) n)=(qCK d (hat+hend) (λi=>(prt hturn (UInt64.ofNat nr) s n i).text) n):=if_neg (by omega)
    exact J.a4 m j9 (by rw [hst];exact hd) ⟨rfl,rfl,rfl,rfl,by rw [hst];rfl,trivial⟩ (λ_ h=>h)
  intro m hd
  refine J.k λ_ j11=>J.f λ_ j12=>J.b O<|J.g ((qAe O O O).no (by omega)) O<|J.c j12 ?_
  refine J.a1 ?_
  refine J.M j11 ?_
  refine J.f λ_ j13=>J.T 2 qEF z3_ O O O O O<|J.a5 3 b3_ O O O O O<|J.b O<|J.g (qAU qNx O O) O<|J.g ((qAS O O O (by omega)).nat (hend+n) (by omega)) O<|J.T 2 qEF z3_ O O O O O<|J.a6 (qAW (i:=3) O O O O O z3_ O (by simp)) rfl rfl λ_ _=>?_
  change J _ _ _ [blk gb [Ptr gd,I first,I size,I hat0,W64 ht0,I he0,.slice Ar0 nr0 cr0,.bool bad] 218,m,F,blk g4 [I hat,W64 hturn,I ((hend+n:Nat):Int),.slice Ar nr cr] 216,mp] _
  refine J.c j13 ?_
  refine J.f λ_ j14=>J.T 3 qEF qBs O O O O O<|J.a5 3 qB8 O O O O O<|J.p (qAB O O ent31 (Ct.use (new:=λx:Option Addr×Nat×Hp=> [x.2.2]) (λF' hF=>by have:=qKg F' R Ar cr (by rw [hR];exact hRs.mono (Fa hF)) (by omega);rw [hR] at this;exact this))) rfl ?_
  rintro⟨A6,c6,m6⟩ h6
  try dsimp only at h6
  change J _ _ _ [_,_,_,_,_,m6] _
  refine J.b O<|J.p (qAG (l:= [.tmp 67]) (xs:= [[Str s]]) O O O O qAk el9 O (by decide) (by decide) (by simp)) rfl λg68 _=>?_
  change J _ _ _ [_,_,_,_,_,_,blk g68 [Str s] 9] _
  refine J.p (qAV (i:=5) (m2:=blk g68 [Str s] 9) (xs:=qAI R) (ys:=qAI [s]) O O O qAk qAk el9 O h6 (by simp) ((qAl (q:=True) (xs:=qAI [s]) rfl (by simp [qAI])).sl) (by simp [qAI,Value.oneCell']) (by omega) (by omega)) rfl ?_
  rintro⟨A8,c8,m8⟩ h8
  try dsimp only at h8
  change J _ ((69,.slice A8 (nr+1) c8)::_) _ [_,_,_,_,_,m8,_] _
  rw [←qHX] at h8
  refine J.T 3 qEF qBs O O O O O<|J.a6 (qAW (i:=3) (vs:= [.slice A8 (nr+1) c8]) O O O O O qBs O (by simp)) rfl rfl λ_ _=>J.c j14 ?_
  refine J.f λ_ j15=>J.b O<|J.b7 3 isAgg216 qDY O O O O O<|J.g (qAC O O) O<|J.T 3 qE1 qDY O O O O O<|J.a6 (qAW (i:=0) (vs:= [I hat,W64 hturn,I ((hend+n:Nat):Int),.slice A8 (nr+1) c8]) O O O O O qDY O (by simp)) rfl rfl λ_ _=>J.c j15 ?_
  refine J.f λ_ j16=>J.b O<|J.c j16 ?_
  exact J.A<|J.E hw0 O (m,A8,c8,m8) O ⟨hd,h8⟩ [0,1,2,5] O (by decide)
theorem qRi{m:Hp}{g k:Nat}{l vs:List Value}(h:qAR m ⟨g,0,none⟩ l)(hs: ∀j u,vs[j]?=some u→l[k+j]?=some u):qAR m ⟨g,k,none⟩ vs:=by
 obtain ⟨h1,cs,e,fz,h2,h3⟩:=h
 refine⟨rfl,cs,e,fz,h2,λj u hj=>?_⟩
 have:=h3 _ _ (hs j u hj)
 rwa [jj] at this
theorem qKn(F mm:Hp)(hK:KF F)(gb gd:Nat)(first:Int)(size hat:Nat)(hturn:UInt64)(hend:Nat)(Ar:Option Addr)(nr cr:Nat)(d:Dk)(C:Option Addr)(f:Nat)(hb:Dsk mm gd d C f)(hok:d.ok)(hn2:d.wait.length≤1048576)(hKp:Sl F 1 C d.keep.length f (qAf d.keep))(hn3:d.keep.length≤9223372036854775807)(R:List (List UInt8))(hR:R.length=nr)(hRs:Sl F 1 Ar nr cr (qAI R))(s:List UInt8)(hs:s.length≤900)(n:Nat)(hn:n=qBc s.length)(t':UInt64)(ht':(t'.toNat:Int)=max (hturn.toNat:Int) 1)(ht:t'.toNat<2^(8*4))(hnr:nr<65536)(hp:hat+size≤1048576)(hfit:hend+n≤size)(he:(qK3 d (hat+hend) (λi=>(prt t' (UInt64.ofNat nr) s n i).text) n).2=0):
    Ct prog 71 [Ptr gb,Str s] [blk gb [Ptr gd,I first,I (size:Nat),I (hat:Nat),W64 hturn,I (hend:Nat),.slice Ar nr cr,.bool false] 218,mm,F] (λ_:Hp×Option Addr×Nat×Hp=>I 0) (λx=>Dsk x.1 gd (qK3 d (hat+hend) (λi=>(prt t' (UInt64.ofNat nr) s n i).text) n).1 C f∧Row x.2.2.2 9 1 x.2.1 (nr+1) x.2.2.1 (qAI (R++ [s]))) (λx=> [blk gb [Ptr gd,I first,I (size:Nat),I (hat:Nat),W64 t',I ((hend+n:Nat):Int),.slice x.2.1 (nr+1) x.2.2.1,.bool false] 218,x.1,F,x.2.2.2]):=by
  have hn1:=qE8 s.length
  refine Ct.walk func71 rfl ntmps71 rfl (λw0 hw0=>?_)
  refine J.f λ_ j1=>J.b O<|J.c j1 ?_
  refine J.k λ_ j2=>J.f λ_ j3=>J.q 2 O<|J.p ((qAB O O ent137 (Ct.use0 (λF' hF=>qYX F' gb gd first size hat hturn hend Ar nr cr false (qAR.blk0.mono (hF (blk gb [Ptr gd,I first,I (size:Nat),I (hat:Nat),W64 hturn,I (hend:Nat),.slice Ar nr cr,.bool false] 218) (by simp))) s)))) rfl λg9 _=>J.b rfl<|J.c j3 ?_
  refine J.f λ_ j4=>J.b O<|J.g ((qAe O O O).no (λh=>h (by rw [if_neg (by omega),if_neg (by decide)]))) rfl<|J.c j4 ?_
  refine J.a1 ?_
  refine J.M j2 ?_
  refine J.f λ_ j5=>J.b O<|J.g (qAC O O) O<|J.T 3 qE1 qDY O O O O O<|J.g (qAX O O isAgg216 qDY (m:=blk gb [Ptr gd,I first,I (size:Nat),I (hat:Nat),W64 hturn,I (hend:Nat),.slice Ar nr cr,.bool false] 218) (by simp) (vs:= [I (hat:Nat),W64 hturn,I (hend:Nat),.slice Ar nr cr]) (qRi qAR.blk0 (λj u hj=>by match j,hj with|0,hj=>exact hj|1,hj=>exact hj|2,hj=>exact hj|3,hj=>exact hj)) rfl) rfl<|J.p (qAL rfl zeroValue216 rfl) rfl λg6 _=>J.a6 (qAF (l:= [I 0,W64 0,I 0,.slice none 0 0]) (i:=3) (vs:= [I (hat:Nat),W64 hturn,I (hend:Nat),.slice Ar nr cr]) rfl rfl rfl rfl rfl qDY rfl rfl) rfl rfl λ_ _=>J.c j5 ?_
  refine J.k λ_ j6=>J.f λ_ j7=>J.b O<|J.p (qAB O O ent70 (Ct.use0 (λF' hF=>qQw F' gb gd first size hat hturn hend Ar nr cr false (qAR.blk0.mono (hF (blk gb [Ptr gd,I first,I (size:Nat),I (hat:Nat),W64 hturn,I (hend:Nat),.slice Ar nr cr,.bool false] 218) (by simp))) (by omega) (by omega)))) rfl λg18 _=>J.b rfl<|J.g (qAt u9_ rfl rfl) rfl<|J.p (qAB rfl rfl ent69 (Ct.use0 (λF' hF=>by have:=qGX F' s.length (by omega);rw [←hn] at this;exact this))) rfl λg21 _=>J.g ((qAT rfl rfl rfl).no (by omega)) rfl<|J.b rfl<|J.G (qAA rfl rfl qEF rfl qBs rfl) rfl<|J.G (qAE 3 rfl rfl rfl qB8 rfl) rfl<|J.G (qAU qAk rfl rfl) rfl<|J.G ((qBA rfl rfl rfl).no (by omega)) rfl<|J.b rfl<|J.c j7 ?_
  refine J.a1 ?_
  refine J.M j6 ?_
  refine J.f λ_ j8=>J.T 1 qEF qD9 O O O O O<|J.a5 3 qEz O O O O O<|J.g ((qHi O O O).as (v':=W64 t') (congrArg (Value.int .u64) ht'.symm)) O<|J.T 1 qEF qD9 O O O O O<|J.a6 (qAW (i:=3) O O O O O qD9 O (by simp)) rfl rfl λ_ _=>J.c j8 ?_
  refine J.f λ_ j9=>J.b O<|J.b7 3 isAgg216 qDY O O O O O<|J.b O<|J.p (qAB O O ent138 (Ct.useA [blk gb [Ptr gd,I first,I (size:Nat),I (hat:Nat),W64 hturn,I (hend:Nat),.slice Ar nr cr,.bool false] 218,mm] [F,blk g6 [I (hat:Nat),W64 t',I (hend:Nat),.slice Ar nr cr] 216] (A':=λx:Hp×Option Addr×Nat×Hp=> [blk gb [Ptr gd,I first,I (size:Nat),I (hat:Nat),W64 t',I ((hend+n:Nat):Int),.slice x.2.1 (nr+1) x.2.2.1,.bool false] 218,x.1]) (new:=λx=> [x.2.2.2]) (λF' hF=>qHK F' mm (hK.mo hF) gb gd first size hat hturn hend Ar nr cr false d C f hb hok hn2 (hKp.mono (Fa hF)) hn3 hat t' hend Ar nr cr R hR (hRs.mono (Fa hF)) s hs n hn ht hnr (by omega) he))) O ?_
  rintro⟨m36,A36,c36,m37⟩ ⟨hd36,h36⟩
  refine J.b O<|J.c j9 ?_
  exact J.A<|J.E hw0 O (m36,A36,c36,m37) O ⟨hd36,h36⟩ [0,1,2,4] O (by decide)
theorem qDn{d:Dk}(h:d.armed=false):d.burn=d∧ ¬d.burns:=⟨by unfold Dk.burn;rw [if_neg (by rw [h];decide)],λe=>by have:=e.1;rw [h] at this;exact absurd this (by decide)⟩
theorem qH3{d:Dk}(h:d.off=false){i:Nat}(hi:i<d.last.length):d.ready (i:Int)=0:=by unfold Dk.ready;rw [h,if_neg (by decide),if_neg (by omega)]
theorem qJU{d:Dk}(ho:d.off=false)(ha:d.armed=false){p n:Nat}(hp:p+n≤d.last.length){t:Nat→List UInt8}(ht: ∀i,i<n→(t i).length≤64): ∀k,k≤n→(qCK d p t k).2=0∧(qCK d p t k).1.off=false∧(qCK d p t k).1.armed=false∧(qCK d p t k).1.last=d.last
 |0,_=>⟨rfl,ho,ha,rfl⟩
 |k+1,hk=>by
  obtain ⟨h1,h2,h3,h4⟩:=qJU ho ha hp ht k (by omega)
  have hw:=qSU (qH3 h2 (i:=p+k) (by rw [h4];omega)) (ht k (by omega)) (qDn h3).2
  rw [(qDn h3).1] at hw
  rw [qF6 h1]
  dsimp only
  rw [hw.1]
  exact⟨hw.2,h2,h3,h4⟩
theorem qPC{d:Dk}(hok:d.ok)(ho:d.off=false)(ha:d.armed=false){p n:Nat}(hp:p+n≤d.last.length){t:Nat→List UInt8}(ht: ∀i,i<n→(t i).length≤64):
    (qK3 d p t n).2=0∧(qK3 d p t n).1.off=false∧(qK3 d p t n).1.armed=false∧(qK3 d p t n).1.last.length=d.last.length∧(qK3 d p t n).1.wait= []∧(qK3 d p t n).1.keep=d.keep∧(qK3 d p t n).1.ok:=by
  obtain ⟨h1,h2,h3,h4⟩:=qJU ho ha hp ht n (jK _)
  have hw:=qIA hok p t n
  have hs:=hw.1.sync
  have h0:(qCK d p t n).1.ready 0=0:=qH3 h2 (i:=0) (by rw [h4];exact hok.n0)
  have e:qK3 d p t n=((qCK d p t n).1.sync,(qCK d p t n).1.sErr):=if_pos h1
  have e2:(qCK d p t n).1.sync={(qCK d p t n).1 with last:=qDB (qCK d p t n).1.last (qCK d p t n).1.wait (qCK d p t n).1.wait.length,wait:= []}:=by
    unfold Dk.sync
    rw [if_neg (by omega),if_neg (qDn h3).2,(qDn h3).1]
  have e3:(qCK d p t n).1.sErr=0:=by
    unfold Dk.sErr
    rw [if_neg (by omega),if_neg (qDn h3).2]
  rw [e]
  refine⟨e3,?_,?_,?_,?_,?_,hs⟩
  · show(qCK d p t n).1.sync.off=_;rw [e2];exact h2
  · show(qCK d p t n).1.sync.armed=_;rw [e2];exact h3
  · show(qCK d p t n).1.sync.last.length=_;rw [e2];show(qDB _ _ _).length=_;rw [qBK,h4]
  · show(qCK d p t n).1.sync.wait=_;rw [e2]
  · show(qCK d p t n).1.sync.keep=_;rw [e2];exact hw.2.2
theorem qTf{n:Nat}(i:Nat)(h:i<(Dk.new n).last.length):(Dk.new n).ready (i:Int)=0∧(Dk.new n).read (i:Int)=zS:=by
 have hi:i<n:=by have:=h;unfold Dk.new at this;dsimp only at this;rwa [jJ] at this
 have h0:=qQk (n:=n) (i:=(i:Int)) (by omega) (by omega)
 exact⟨h0,by rw [qWK h0];exact qWs hi⟩
theorem qQA{turn num:UInt64}{s:List UInt8}{n:Nat}(ht:turn.toNat<2^(8*4))(hn:num.toNat<2^(8*2))(h:n≤24): ∀i,i<n→((prt turn num s n i).text).length≤64:=λi hi=>by rw [Prt.text_len (qQB ht hn h hi)];exact jK _
end Go.Proofs.YtcgcjaflllmlpaaGreatDoor
