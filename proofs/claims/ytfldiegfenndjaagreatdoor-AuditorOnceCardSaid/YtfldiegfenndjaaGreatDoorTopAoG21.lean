/- A part of the proof. -/
import Derived.Test.YtfldiegfenndjaaGreatDoorTopAoG8
import Derived.Test.YtfldiegfenndjaaGreatDoorTopAoG20
import Derived.Test.YtfldiegfenndjaaGreatDoorTopAoG7
set_option linter.unusedSimpArgs false
set_option linter.unusedVariables false
namespace Go.Proofs.YtfldiegfenndjaaGreatDoor
open Go Go.Fw Go.Proofs.Tryz
set_option maxRecDepth 100000
set_option maxHeartbeats 1000000
theorem ent112:qAE prog 112:=qAE.of func112 rfl (by kernel_rfl)
theorem ent113:qAE prog 113:=qAE.of func113 rfl (by kernel_rfl)
theorem ent115:qAE prog 115:=qAE.of func115 rfl (by kernel_rfl)
theorem ent116:qAE prog 116:=qAE.of func116 rfl (by kernel_rfl)
theorem ent117:qAE prog 117:=qAE.of func117 rfl (by kernel_rfl)
theorem ent159:qAE prog 159:=qAE.of func159 rfl (by kernel_rfl)
theorem ent160:qAE prog 160:=qAE.of func160 rfl (by kernel_rfl)
theorem ent164:qAE prog 164:=qAE.of func164 rfl (by kernel_rfl)
theorem ent166:qAE prog 166:=qAE.of func166 rfl (by kernel_rfl)
theorem ent192:qAE prog 192:=qAE.of func192 rfl (by kernel_rfl)
theorem ent193:qAE prog 193:=qAE.of func193 rfl (by kernel_rfl)
theorem ent199:qAE prog 199:=qAE.of func199 rfl (by kernel_rfl)
theorem ent222:qAE prog 222:=qAE.of func222 rfl (by kernel_rfl)
theorem ent223:qAE prog 223:=qAE.of func223 rfl (by kernel_rfl)
theorem el303:qCv prog 303 [.int .u64 0,.int .u64 0,.int .i64 0,.int .i64 0,Str [],Str []] 64:=qCv.of (by kernel_rfl) rfl
theorem qO2(g:Nat):Wtr (blk g [.pointer none,.slice none 0 0,I 0] 188) g [] 0:=
 ⟨[.pointer none,.slice none 0 0,I 0],λ_=>none,none,0,none,by funext k;simp only [U];cases blk g [.pointer none,.slice none 0 0,I 0] 188 k<;>rfl,λ_=> .inr rfl,rfl,⟨rfl,.inl rfl,rfl,qBc.nil,.inl rfl⟩,rfl⟩
theorem qMj{n:UInt64}{size:Nat}(h:n.toNat<2^(8*size))(bs:List UInt8):qQe n size bs 0=bs++Sha.numB n size∧qD5 (okN n size) 10 0=0:=by
 have e:okN n size=true:=decide_eq_true h
 have f:qD5 (okN n size) 10 0=0:=by unfold qD5;rw [e,if_neg (by simp)]
 exact⟨by unfold qQe;rw [if_pos f],f⟩
def qGU(s:List UInt8):List UInt8:=(Sha.tagged 8 [s]).take 8
def qB7(turn num:UInt64)(s:List UInt8):List UInt8:=(Sha.tagged 7 [Sha.numB turn 4,Sha.numB num 2,s]).take 8
theorem qCP(F:Hp)(n:UInt64)(size:Nat)(h1:1≤size)(h8:size<8)(hn:n.toNat<2^(8*size)):
    Ct prog 223 [W64 n,I size] [F] (λ_:Unit=>Str (Sha.numB n size)) (λ_=>True) (λ_=> [F]):=by
  refine Ct.walk func223 rfl ntmps223 rfl (λw0 hw0=>?_)
  change J _ [(0,_),(1,_)] _ _ _
  refine J.g λK1 hK1=>J.b V<|J.c hK1<|J.E 0 1 ?_
  refine J.g λK2 hK2=>J.q (qAO V qKB V) V λg5 _=>?_
  change J _ _ _ [F,blk g5 _ 188] _
  refine J.c hK2<|J.G 0 1 5 ?_
  refine J.g λK3 hK3=>J.j 2 V<|J.q (qAB V V ent83 (Ct.use1 1 (m':=λx:Hp=>x) (new:=λ_=> []) V (λF' _=>qE9 F' (blk g5 [.pointer none,.slice none 0 0,I 0] 188) g5 [] 0 (qO2 g5) (by decide) n size h1 h8))) V ?_
  rintro m11 hw11
  change J _ _ _ [_,m11] _
  rw [(qMj hn []).1,(qMj hn []).2,jp] at hw11
  refine J.q (qAB V V ent86 (Ct.use1 1 (m':=λx:Hp=>x) (new:=λ_=> []) V (λF' _=>qFc F' m11 g5 (Sha.numB n size) 0 hw11 (by rw [Sha.numB_length];omega)))) rfl ?_
  rintro m12 _
  change J _ _ _ [_,m12] _
  refine J.j 5 V<|J.c hK3<|J.A 6 ?_
  refine J.g λK4 hK4=>J.j 2 V<|J.c hK4<|J.A 4 ?_
  exact J.D<|J.Z hw0 V () V trivial [0] V (by decide)
theorem qOa(F:Hp)(hK:KF F)(s:List UInt8)(hs:s.length≤1048576):Ct prog 222 [Str s] [F] (λ_:Unit=>Str (qGU s)) (λ_=>True) (λ_=> [F]):=by
 refine Ct.walk func222 rfl ntmps222 rfl (λw0 hw0=>?_)
 change J _ [(0,_)] _ _ _
 refine J.g λK1 hK1=>J.b V<|J.c hK1<|J.A 0 ?_
 refine J.g λK2 hK2=>J.b V<|J.q (qAJ (l:= [.tmp 3]) (xs:= [[Str (s)]]) V V V V qAh el9 V (by decide) (by decide) (by simp)) rfl λg4 _=>?_
 change J _ _ _ [F,blk g4 [Str (s)] 9] _
 refine J.q (qAB V V ent44 (Ct.use0 (λF' hF=>qA7 F' (hK.mono (hF _ (by simp))) 8 (some ⟨g4,0,none⟩) 1 1 [s] ((slS [s] rfl).mono (hF (blk g4 (([s]:List (List UInt8)).map λs=>Str s) 9) (by simp))) (by simp;omega) (by decide)))) rfl λg5 _=>J.f ((qA3 (l:=0) (h:=8) u9_ rfl rfl rfl rfl (by rw [Sha.tagged_length];decide)).as (v':=Str (qGU s)) (congrArg Str zW)) rfl<|J.b rfl<|J.c hK2<|J.A 2 ?_
 exact J.D<|J.Z hw0 V () V trivial [0] V (by decide)
theorem qLP(F:Hp)(hK:KF F)(turn num:UInt64)(s:List UInt8)(ht:turn.toNat<2^(8*4))(hn:num.toNat<2^(8*2))(hs:s.length≤1048576):Ct prog 193 [W64 turn,W64 num,Str s] [F] (λ_:Unit=>Str (qB7 turn num s)) (λ_=>True) (λ_=> [F]):=by
 refine Ct.walk func193 rfl ntmps193 rfl (λw0 hw0=>?_)
 change J _ [(0,_),(1,_),(2,_)] _ _ _
 refine J.g λK1 hK1=>J.b V<|J.c hK1<|J.G 0 1 2 ?_
 refine J.g λK2 hK2=>J.b V<|J.q (qAB V V ent223 (Ct.use0 (λF' hF=>qCP F' turn 4 (by decide) (by decide) ht))) V λg8 _=>J.b V<|J.q (qAB V V ent223 (Ct.use0 (λF' hF=>qCP F' num 2 (by decide) (by decide) hn))) V λg10 _=>J.b V<|J.q (qAJ (l:= [.tmp 8,.tmp 10,.tmp 11]) (xs:= [[Str (Sha.numB turn 4)],[Str (Sha.numB num 2)],[Str (s)]]) V V V V qAh el9 V (by decide) (by decide) (by simp)) rfl λg12 _=>?_
 change J _ _ _ [F,blk g12 [Str (Sha.numB turn 4),Str (Sha.numB num 2),Str (s)] 9] _
 refine J.q (qAB V V ent44 (Ct.use0 (λF' hF=>qA7 F' (hK.mono (hF _ (by simp))) 7 (some ⟨g12,0,none⟩) 3 3 [Sha.numB turn 4,Sha.numB num 2,s] ((slS [Sha.numB turn 4,Sha.numB num 2,s] rfl).mono (hF (blk g12 (([Sha.numB turn 4,Sha.numB num 2,s]:List (List UInt8)).map λs=>Str s) 9) (by simp))) (by simp only [jW,jw,jS,jA,Sha.numB_length];omega) (by decide)))) rfl λg13 _=>J.f ((qA3 (l:=0) (h:=8) u9_ rfl rfl rfl rfl (by rw [Sha.tagged_length];decide)).as (v':=Str (qB7 turn num s)) (congrArg Str zW)) rfl<|J.b rfl<|J.c hK2<|J.A 6 ?_
 exact J.D<|J.Z hw0 V () V trivial [0] V (by decide)
def qAx(n:Nat):Nat:=if n<1 then 1 else(n-1)/39+1
theorem qCL(F:Hp)(n:Nat)(hn:n≤1048576):Ct prog 166 [I n] [F] (λ_:Unit=>I (qAx n:Nat)) (λ_=>True) (λ_=> [F]):=by
 refine Ct.walk func166 rfl ntmps166 rfl (λw0 hw0=>?_)
 change J _ [(0,_)] _ _ _
 refine J.g λK1 hK1=>J.b V<|J.c hK1<|J.A 0 ?_
 refine J.k λK2 hK2=>J.g λK3 hK3=>J.b V<|J.f (qAT V V V) V<|J.c hK3<|J.E 0 4 ?_
 refine J.a4 V (λh4=>?_) (λh4=>?_)
 ·
  refine J.g λK4 hK4=>J.b V<|J.c hK4<|J.A 2 ?_
  exact J.D<|J.a7<|J.Z hw0 V () (by unfold qAx;rw [if_pos (by omega)];rfl) trivial [0] rfl (by decide)
 refine J.W hK2<|J.A 0 ?_
 refine J.g λK5 hK5=>J.b V<|J.f ((qAn V V V (by omega)).nat (n-1) (by omega)) V<|J.f ((qGv (a:=((n-1:Nat):Int)) (b:=((39:Nat):Int)) V V V (by omega)).as (v':=I (((n-1)/39:Nat):Int)) (congrArg I (Int.ofNat_tdiv _ _).symm)) V<|J.f (qAQ V V V (by omega)) V<|J.b V<|J.c hK5<|J.A 2 ?_
 exact J.D<|J.Z hw0 V () (by unfold qAx;rw [if_neg (by omega)];rfl) trivial [0] rfl (by decide)
structure Prt where
 turn:UInt64
 num:UInt64
 at_:Nat
 all:Nat
 name:List UInt8
 con:List UInt8
def Prt.cells(p:Prt):List Value:= [W64 p.turn,W64 p.num,I p.at_,I p.all,Str p.name,Str p.con]
structure Prt.ok (p:Prt):Prop where
 t:p.turn.toNat<2^(8*4)
 n:p.num.toNat<2^(8*2)
 a:p.at_<256
 l:p.all<256
 m:p.name.length≤8
 c:p.con.length≤39
def Prt.b1(p:Prt):List UInt8:=Sha.numB p.turn 4++Sha.numB p.num 2
def Prt.b2(p:Prt):List UInt8:=p.b1++Sha.numB (UInt64.ofNat p.at_) 1
def Prt.b3(p:Prt):List UInt8:=p.b2++Sha.numB (UInt64.ofNat p.all) 1
def Prt.b4(p:Prt):List UInt8:=p.b3++Sha.numB (UInt64.ofNat p.con.length) 1
def Prt.b5(p:Prt):List UInt8:=p.b4++p.name
def Prt.body(p:Prt):List UInt8:=p.b5++p.con
def Prt.pad(p:Prt):List UInt8:=p.body++List.replicate (56-p.body.length) 0
def Prt.text(p:Prt):List UInt8:=p.pad++qGU p.pad
theorem qH3(s:List UInt8):(qGU s).length=8:=by unfold qGU;rw [jE,Sha.tagged_length];rfl
theorem qBf(t n:UInt64)(s:List UInt8):(qB7 t n s).length=8:=by unfold qB7;rw [jE,Sha.tagged_length];rfl
theorem Prt.b4_len(p:Prt):p.b4.length=9:=by unfold Prt.b4 Prt.b3 Prt.b2 Prt.b1;simp only [jA,Sha.numB_length]
theorem Prt.body_len(p:Prt):p.body.length=9+p.name.length+p.con.length:=by unfold Prt.body Prt.b5;rw [jA,jA,p.b4_len]
theorem Prt.pad_len{p:Prt}(h:p.ok):p.pad.length=56:=by
 have:=p.body_len
 have:=h.m
 have:=h.c
 unfold Prt.pad;rw [jA,jG];omega
theorem Prt.text_len{p:Prt}(h:p.ok):p.text.length=64:=by unfold Prt.text;rw [jA,p.pad_len h,qH3]
theorem n1ok{n:Nat}(h:n<256):(UInt64.ofNat n).toNat<2^(8*1):=by rw [qAu (by omega)];exact h
theorem qHV(F:Hp)(hK:KF F)(p:Prt)(hp:p.ok):Ct prog 199 [.agg p.cells.toArray] [F] (λ_:Unit=>Str p.text) (λ_=>True) (λ_=> [F]):=by
 obtain ⟨h1,h2,h3,h4,h5,h6⟩:=hp
 have hbl:=p.body_len
 have hpl:=Prt.pad_len ⟨h1,h2,h3,h4,h5,h6⟩
 refine Ct.walk func199 rfl ntmps199 rfl (λw0 hw0=>?_)
 change J _ [(0,_)] _ _ _
 refine J.g λK1 hK1=>J.q (qAi V V (l:=p.cells) V) V λg1 _=>?_
 change J _ _ _ [F,blk g1 p.cells 303] _
 refine J.b V<|J.c hK1<|J.A 1 ?_
 refine J.k λK2 hK2=>J.b7 [blk g1 p.cells 303] [] (.y 0 (.y 1 (.y 3 (.y 4 (.y 7 (.y 8 (.y 9 (.y 12 (.y 13 (.y 14 (.y 17 (.y 18 (.y 19 (.y 20 (.y 23 (.y 24 (.y 26 (.y 27 (.e 2 (.e 5 (.y 6 (.e 10 (.y 11 (.e 15 (.y 16 (.e 21 (.y 22 (.y 25 (.y 28 (.y 29 .nil)))))))))))))))))))))))))))))) Tryz.wide (by decide+kernel) (by simp) ?_
 refine J.p V (qAA (j:=0) V V qBW V qCG V) V V<|J.p V (qAD 0 V V V qCZ V) V V<|J.p V (qAA (j:=1) V V qBW V qCG V) V V<|J.p V (qAD 0 V V V qCZ V) V V<|J.p V (qAA (j:=2) V V qBW V z3_ V) V V<|J.p V (qAD 0 V V V b3_ V) V V<|J.p V (qAp V V u3_ qED (m:=p.at_) (by omega)) V V<|J.p V (qAA (j:=3) V V qBW V z3_ V) V V<|J.p V (qAD 0 V V V b3_ V) V V<|J.p V (qAp V V u3_ qED (m:=p.all) (by omega)) V V<|J.p V (qAA (j:=5) V V qBW V z9_ V) V V<|J.p V (qAD 0 V V V b9_ V) V V<|J.p V (qAg u9_ V V) V V<|J.p V (qAp V V u3_ qED (m:=p.con.length) (by omega)) V V<|J.p V (qAA (j:=4) V V qBW V z9_ V) V V<|J.p V (qAD 0 V V V b9_ V) V V<|J.p V (qAA (j:=5) V V qBW V z9_ V) V V<|J.p V (qAD 0 V V V b9_ V) V V<|J.b2 V (qAB V V ent223 (Ct.use0 (λF' hF=>qCP F' p.turn 4 (by decide) (by decide) h1))) V (by simp) λg6 _=>J.b2 rfl (qAB rfl rfl ent223 (Ct.use0 (λF' hF=>qCP F' p.num 2 (by decide) (by decide) h2))) rfl (by simp) λg9 _=>J.p rfl ((qBT rfl rfl rfl (by first|(have hb4:=p.b4_len;have hbl:=p.body_len;simp only [jA,jG,Prt.b4,Prt.b3,Prt.b2,Prt.b1,Prt.b5,Prt.body,Sha.numB_length] at hb4 hbl⊢;omega)|omega)).as (v':=Str (p.b1)) rfl) rfl rfl<|J.b2 rfl (qAB rfl rfl ent223 (Ct.use0 (λF' hF=>qCP F' (UInt64.ofNat p.at_) 1 (by decide) (by decide) (n1ok h3)))) rfl (by simp) λg14 _=>J.p rfl ((qBT rfl rfl rfl (by first|(have hb4:=p.b4_len;have hbl:=p.body_len;simp only [jA,jG,Prt.b4,Prt.b3,Prt.b2,Prt.b1,Prt.b5,Prt.body,Sha.numB_length] at hb4 hbl⊢;omega)|omega)).as (v':=Str (p.b2)) rfl) rfl rfl<|J.b2 rfl (qAB rfl rfl ent223 (Ct.use0 (λF' hF=>qCP F' (UInt64.ofNat p.all) 1 (by decide) (by decide) (n1ok h4)))) rfl (by simp) λg19 _=>J.p rfl ((qBT rfl rfl rfl (by first|(have hb4:=p.b4_len;have hbl:=p.body_len;simp only [jA,jG,Prt.b4,Prt.b3,Prt.b2,Prt.b1,Prt.b5,Prt.body,Sha.numB_length] at hb4 hbl⊢;omega)|omega)).as (v':=Str (p.b3)) rfl) rfl rfl<|J.b2 rfl (qAB rfl rfl ent223 (Ct.use0 (λF' hF=>qCP F' (UInt64.ofNat p.con.length) 1 (by decide) (by decide) (n1ok (by omega))))) rfl (by simp) λg25 _=>?_
 refine J.p V ((qBT V V V (by first|(have hb4:=p.b4_len;have hbl:=p.body_len;simp only [jA,jG,Prt.b4,Prt.b3,Prt.b2,Prt.b1,Prt.b5,Prt.body,Sha.numB_length] at hb4 hbl⊢;omega)|omega)).as (v':=Str (p.b4)) rfl) rfl rfl<|J.p rfl ((qBT rfl rfl rfl (by first|(have hb4:=p.b4_len;have hbl:=p.body_len;simp only [jA,jG,Prt.b4,Prt.b3,Prt.b2,Prt.b1,Prt.b5,Prt.body,Sha.numB_length] at hb4 hbl⊢;omega)|omega)).as (v':=Str (p.b5)) rfl) rfl rfl<|J.p rfl ((qBT rfl rfl rfl (by first|(have hb4:=p.b4_len;have hbl:=p.body_len;simp only [jA,jG,Prt.b4,Prt.b3,Prt.b2,Prt.b1,Prt.b5,Prt.body,Sha.numB_length] at hb4 hbl⊢;omega)|omega)).as (v':=Str (p.body)) rfl) rfl rfl<|J.c3 ?_
 refine J.b3<|J.u (J.M hK2 ?_)
 refine J.A 3 ?_
 refine J.g λK3 hK3=>J.j 2 V<|J.f (qAg u9_ V V) V<|J.f ((qAn V V V (by omega)).nat (56-p.body.length) (by omega)) V<|J.q (qAB V V ent51 (Ct.use0 (λF' hF=>qEn F' (56-p.body.length) (by omega)))) V λg37 _=>J.f ((qBT V V V (by rw [jG];omega)).as (v':=Str p.pad) rfl) rfl<|J.b rfl<|J.c hK3<|J.A 3 ?_
 refine J.g λK4 hK4=>J.j 2 V<|J.q (qAB V V ent222 (Ct.use0 (λF' hF=>qOa F' (hK.mono (hF _ (by simp))) p.pad (by omega)))) rfl λg41 _=>J.f ((qBT rfl rfl rfl (by rw [qH3];omega)).as (v':=Str p.text) rfl) rfl<|J.b rfl<|J.c hK4<|J.A 2 ?_
 exact J.D<|J.Z hw0 V () V trivial [0] V (by decide)
def R0(s:List UInt8):RS:=⟨s.take 56,0⟩
def R1(s:List UInt8):RS:=(R0 s).take 4
def R2(s:List UInt8):RS:=(R1 s).take 2
def R3(s:List UInt8):RS:=(R2 s).take 1
def R4(s:List UInt8):RS:=(R3 s).take 1
def R5(s:List UInt8):RS:=(R4 s).take 1
def R6(s:List UInt8):RS:=(R5 s).take 8
def qRC(s:List UInt8):Nat:=min (qBk ((R4 s).out 1)) 39
def rdp(s:List UInt8):Prt:=⟨UInt64.ofNat (qBk ((R0 s).out 4)),UInt64.ofNat (qBk ((R1 s).out 2)),qBk ((R2 s).out 1),qBk ((R3 s).out 1),(R5 s).out 8,(R6 s).out (qRC s)⟩
def qMC:Prt:=⟨0,0,0,0,[],[]⟩
theorem qCE(st:RS)(n k:Nat)(h:256^n≤k):qBk (st.out n)<k:=
 jx (qF6 _) (jd (jg (by decide) (st.out_len n)) h)
theorem qQn(s:List UInt8):(rdp s).ok:=by
  have h4:=qCE (R0 s) 4 4294967296 (by decide)
  have h2:=qCE (R1 s) 2 65536 (by decide)
  refine⟨?_,?_,qCE _ 1 256 (by decide),qCE _ 1 256 (by decide),RS.out_len _ _,jd (RS.out_len _ _) (Nat.min_le_right _ _)⟩
  · show(UInt64.ofNat (qBk ((R0 s).out 4))).toNat<_
    rw [qAu (by omega)];exact h4
  · show(UInt64.ofNat (qBk ((R1 s).out 2))).toNat<_
    rw [qAu (by omega)];exact h2
def qA8(s:List UInt8):Prt×Bool:=if qGU (s.take 56)=s.drop 56 then(rdp s,decide ((rdp s).text=s)) else(qMC,false)
theorem qKm(F:Hp)(hK:KF F)(s:List UInt8)(hs:s.length=64):Ct prog 192 [Str s] [F] (λ_:Unit=> .tuple #[.agg (qA8 s).1.cells.toArray,.bool (qA8 s).2]) (λ_=>True) (λ_=> [F]):=by
 have hn4:=qCE (R4 s) 1 256 (by decide)
 refine Ct.walk func192 rfl ntmps192 rfl (λw0 hw0=>?_)
 change J _ [(0,_)] _ _ _
 refine J.g λK1 hK1=>J.q (qAO V qKA V) V λg2 _=>?_
 change J _ _ _ [F,blk g2 _ 303] _
 refine J.b V<|J.c hK1<|J.E 0 2 ?_
 refine J.k λK2 hK2=>J.k λK3 hK3=>J.b7 [F] [] (.y 0 (.y 1 (.y 3 (.y 4 (.e 2 (.y 5 .nil)))))) Tryz.wide (by decide+kernel) (by simp) ?_
 refine J.L ?_
 refine J.p V ((qA3 (l:=0) (h:=56) u9_ V V V V ⟨by omega,by omega⟩).as (v':=Str (s.take 56)) (congrArg Str zW)) V V<|J.L ?_
 refine J.p V ((qA3 (l:=56) (h:=s.length) u9_ V V V V ⟨by omega,by omega⟩).as (v':=Str (s.drop 56)) (by rw [jo])) rfl rfl<|J.b2 rfl (qAB rfl rfl ent222 (Ct.use0 (λF' hF=>qOa F' (hK.mono (hF _ (by simp))) (s.take 56) (by rw [jE];omega)))) rfl (by simp) λg9 _=>J.p rfl (qBv rfl rfl rfl) rfl rfl<|J.b3<|J.u (J.M hK3 ?_)
 refine J.G 0 2 12 ?_
 refine J.a4 V (λh12=>?_) (λh12=>?_)
 ·
  refine J.g λK4 hK4=>J.f (qAK (l:= []) (vs:= []) (places:= [(0,1),(1,1),(2,1),(3,1),(4,1),(5,1)]) (r:= [W64 0,W64 0,I 0,I 0,Str [],Str []]) V V V qBW qKA (λ_=>by kernel_rfl) V) V<|J.b1 (qAG (l:=qMC.cells) (i:=1) (vs:=qMC.cells) V V V V V qEg V V) V V λ_ _=>?_
  change J _ _ _ [_,blk g2 qMC.cells 303] _
  refine J.b V<|J.c hK4<|J.E 2 3 ?_
  exact J.D<|J.a7<|J.b4 hw0 (λ_ _ h=>h) (rv2 V (RV.blkA 1 V V isAgg303 qEg) V) (qAj () (by unfold qA8;rw [if_neg (show¬qGU (s.take 56)=s.drop 56 from h12)]) trivial [0] rfl (by decide))
 refine J.W hK2<|J.E 0 2 ?_
 refine J.g λK5 hK5=>J.b V<|J.f ((qA3 (l:=0) (h:=56) u9_ V V V V ⟨by omega,by omega⟩).as (v':=Str (s.take 56)) (congrArg Str zW)) V<|J.q (qAB V V ent112 (Ct.use (new:=λg=> [RSb g (R0 s)]) (λF' _=>(qJl F' (s.take 56)).mono (φ2:=λ_=>True) (val2:=Ptr) (ms2:=λg=>F':: [RSb g (R0 s)]) id (λ_ _=>rfl) (λ_ h=>h) (λx w0 w _ h=>h.pick [1,0] (by decide))))) V ?_
 rintro g16 _
 change J _ _ _ [F,blk g2 _ 303,RSb g16 (R0 s)] _
 refine J.b V<|J.c hK5<|J.G 0 2 4 ?_
 refine J.g λK6 hK6=>J.b V<|J.q (qAB V V ent113 (Ct.use1 2 (m':=λ_:Unit=>RSb g16 (R1 s)) (new:=λ_=> []) V (λF' _=>qDO F' g16 (R0 s) 4 (by omega) (by omega)))) V λg18 _=>?_
 change J _ _ _ [_,_,RSb g16 (R1 s)] _
 rw [N_W (show qBk ((R0 s).out 4)<18446744073709551616 from jx (qCE _ 4 (256^4) (jJ _)) (by decide))]
 refine J.b V<|J.q (qAB V V ent113 (Ct.use1 2 (m':=λ_:Unit=>RSb g16 (R2 s)) (new:=λ_=> []) V (λF' _=>qDO F' g16 (R1 s) 2 (by omega) (by omega)))) V λg20 _=>?_
 change J _ _ _ [_,_,RSb g16 (R2 s)] _
 rw [N_W (show qBk ((R1 s).out 2)<18446744073709551616 from jx (qCE _ 2 (256^2) (jJ _)) (by decide))]
 refine J.b V<|J.q (qAB V V ent113 (Ct.use1 2 (m':=λ_:Unit=>RSb g16 (R3 s)) (new:=λ_=> []) V (λF' _=>qDO F' g16 (R2 s) 1 (by omega) (by omega)))) V λg22 _=>?_
 change J _ _ _ [_,_,RSb g16 (R3 s)] _
 refine J.f (qCI V V qED u3_ (by have:=qCE (R2 s) 1 256 (by decide);omega)) V<|J.b V<|J.q (qAB V V ent113 (Ct.use1 2 (m':=λ_:Unit=>RSb g16 (R4 s)) (new:=λ_=> []) V (λF' _=>qDO F' g16 (R3 s) 1 (by omega) (by omega)))) V λg25 _=>?_
 change J _ _ _ [_,_,RSb g16 (R4 s)] _
 refine J.f (qCI V V qED u3_ (by have:=qCE (R3 s) 1 256 (by decide);omega)) V<|J.f (qAK (l:= [(0,.tmp 18),(1,.tmp 20),(2,.tmp 23),(3,.tmp 26)]) (vs:= [W64 (rdp s).turn,W64 (rdp s).num,I (rdp s).at_,I (rdp s).all]) (places:= [(0,1),(1,1),(2,1),(3,1),(4,1),(5,1)]) (r:= [W64 (rdp s).turn,W64 (rdp s).num,I (rdp s).at_,I (rdp s).all,Str [],Str []]) V V V qBW qKA (λ_=>by kernel_rfl) V) V<|J.q (qAO V qKA V) V λg5 _=>?_
 change J _ _ _ [_,_,_,blk g5 _ 303] _
 refine J.b1 (qAG (l:=qMC.cells) (i:=3) (vs:= [W64 (rdp s).turn,W64 (rdp s).num,I (rdp s).at_,I (rdp s).all,Str [],Str []]) V V V V V qEg V V) V V λ_ _=>?_
 change J _ _ _ [_,_,_,blk g5 [W64 (rdp s).turn,W64 (rdp s).num,I (rdp s).at_,I (rdp s).all,Str [],Str []] 303] _
 refine J.c hK6<|J.O 0 2 4 5 ?_
 refine J.g λK7 hK7=>J.b V<|J.q (qAB V V ent113 (Ct.use1 2 (m':=λ_:Unit=>RSb g16 (R5 s)) (new:=λ_=> []) V (λF' _=>qDO F' g16 (R4 s) 1 (by omega) (by omega)))) V λg29 _=>?_
 change J _ _ _ [_,_,RSb g16 (R5 s),_] _
 refine J.f (qCI V V qED u3_ (by omega)) V<|J.b V<|J.c hK7<|J.a0 0 2 4 5 6 ?_
 refine J.g λK8 hK8=>J.b V<|J.q (qAB V V ent117 (Ct.use1 2 (m':=λ_:Unit=>RSb g16 (R6 s)) (new:=λ_=> []) V (λF' _=>qFq F' g16 (R5 s) 8))) V λg32 _=>?_
 change J _ _ _ [_,_,RSb g16 (R6 s),_] _
 refine J.a2 4 qBW z9_ V V V V V<|J.b1 (qAV (i:=3) (vs:= [Str (rdp s).name]) V V V V V z9_ V (by simp)) rfl rfl λ_ _=>?_
 change J _ _ _ [_,_,_,blk g5 [W64 (rdp s).turn,W64 (rdp s).num,I (rdp s).at_,I (rdp s).all,Str (rdp s).name,Str []] 303] _
 refine J.c hK8<|J.a0 0 2 4 5 6 ?_
 refine J.g λK9 hK9=>J.j 2 V<|J.f ((qDq V V V).as (v':=I (qRC s:Nat)) (congrArg I (by unfold qRC;omega))) V<|J.q (qAB V V ent117 (Ct.use1 2 (m':=λ_:Unit=>RSb g16 ((R6 s).take (qRC s))) (new:=λ_=> []) V (λF' _=>qFq F' g16 (R6 s) (qRC s)))) V λg37 _=>?_
 change J _ _ _ [_,_,RSb g16 ((R6 s).take (qRC s)),_] _
 refine J.a2 5 qBW z9_ V V V V V<|J.b1 (qAV (i:=3) (vs:= [Str (rdp s).con]) V V V V V z9_ V (by simp)) rfl rfl λ_ _=>?_
 change J _ _ _ [_,_,_,blk g5 (rdp s).cells 303] _
 refine J.c hK9<|J.G 0 2 5 ?_
 refine J.k λK10 hK10=>J.b7 [F,blk g5 (rdp s).cells 303] [5,6,100003,100004] (.y 0 (.y 1 (.y 3 (.e 2 (.y 4 (.e 5 (.e 6 .nil))))))) Tryz.wide (by decide+kernel) (by simp) ?_
 refine J.p V (qAm 1 V V V isAgg303 qEg V) V V<|J.p V (qAm 1 V V V isAgg303 qEg V) V V<|J.e6 V (qAb V V) V V V ?_
 refine J.b2 V (qAB V V ent199 (Ct.use0 (λF' hF=>qHV F' (hK.mono (hF _ (by simp))) (rdp s) (qQn s)))) rfl (by simp) λg41 _=>J.e6 rfl (qBb rfl rfl rfl) rfl rfl rfl ?_
 refine J.d2 V (qAG (l:=qMC.cells) (i:=1) (vs:=(rdp s).cells) V V V V V qEg V V) V V V λ_ _=>?_
 change J _ _ _ [_,blk g2 (rdp s).cells 303,_,_] _
 refine J.e5 V (YOp.eop (qAy V V)) V V V V ?_
 intro _ _
 refine J.b3<|J.u (J.M hK10 ?_)
 refine J.E 2 3 ?_
 exact J.D<|J.b4 hw0 (λ_ _ h=>h) (rv2 V (RV.blkA 1 V V isAgg303 qEg) V) (qAj () (by unfold qA8;rw [if_pos (show qGU (s.take 56)=s.drop 56 from Decidable.not_not.1 h12)]) trivial [0] rfl (by decide))
theorem qMc:(qA8 (List.replicate 64 0)).2=false∨(qA8 (List.replicate 64 0)).1.turn=0:=by
  unfold qA8
  split
  · right
    show UInt64.ofNat (qBk ((R0 (List.replicate 64 0)).out 4))=0
    decide
  · exact .inl rfl
def zS:List UInt8:=List.replicate 64 0
theorem qRN:(qA8 zS).2=false∨(qA8 zS).1.turn=0:=qMc
theorem qIs(F:Hp)(gb gd:Nat)(first:Int)(size:Nat)(hat:Int)(hturn:UInt64)(hend:Int)(Ar:Option Addr)(nr cr:Nat)(bad:Bool)(hB:qAP F ⟨gb,0,none⟩ [Ptr gd,I first,I (size:Nat),I hat,W64 hturn,I hend,.slice Ar nr cr,.bool bad])(s:List UInt8):
    Ct prog 164 [Ptr gb,Str s] [F] (λ_:Unit=>I (if 900<s.length then 2 else if bad=true then 21 else 0)) (λ_=>True) (λ_=> [F]):=by
  refine Ct.walk func164 rfl ntmps164 rfl (λw0 hw0=>?_)
  change J _ [(0,_),(1,_)] _ _ _
  refine J.g λK1 hK1=>J.b V<|J.c hK1<|J.E 0 1 ?_
  refine J.k λK2 hK2=>J.a1<|J.g λK3 hK3=>J.b V<|J.f ((qA1 underlying140 V V V).as (v':= .bool false) V) V<|J.b V<|J.c hK3<|J.G 0 1 5 ?_
  refine J.a5 ?_
  refine J.g λK4 hK4=>J.b V<|J.f (qAg u9_ V V) V<|J.f (qA5 V V V) V<|J.b V<|J.c hK4<|J.E 0 8 ?_
  refine J.a4 V (λh8=>?_) (λh8=>?_)
  ·
    refine J.g λK5 hK5=>J.b V<|J.c hK5<|J.A 4 ?_
    exact J.D<|J.b6<|J.a7<|J.Z hw0 V () (congrArg I (by rw [if_pos (by omega)])) trivial [0] rfl (by decide)
  refine J.g λK6 hK6=>J.b V<|J.f (qAC V V) V<|J.a2 7 qBX z4_ V V V V V<|J.f ((qAL V V b4_ (m:=F) (by simp) (hB.at (i:=7) rfl)).as (v':= .bool (decide (bad=true))) (by rw [Bool.decide_eq_true])) rfl<|J.b rfl<|J.c hK6<|J.A 12 ?_
  refine J.a4 V (λh12=>?_) (λh12=>?_)
  ·
    refine J.g λK7 hK7=>J.b V<|J.c hK7<|J.A 4 ?_
    exact J.D<|J.b6<|J.a7<|J.Z hw0 V () (congrArg I (by rw [if_neg (by omega),if_pos (by assumption)])) trivial [0] rfl (by decide)
  refine J.c0<|J.b0<|J.u (J.M hK2 ?_)
  refine J.d0 [] trivial<|J.g λK8 hK8=>J.b V<|J.c hK8<|J.A 4 ?_
  exact J.D<|J.Z hw0 V () (congrArg I (by rw [if_neg (by omega),if_neg (by assumption)])) trivial [0] rfl (by decide)
theorem qJ2(F:Hp)(gb gd:Nat)(first:Int)(size:Nat)(hat:Int)(hturn:UInt64)(hend:Int)(Ar:Option Addr)(nr cr:Nat)(bad:Bool)(hB:qAP F ⟨gb,0,none⟩ [Ptr gd,I first,I (size:Nat),I hat,W64 hturn,I hend,.slice Ar nr cr,.bool bad])(hs:size≤1048576)(he:0≤hend∧hend≤1048576):
    Ct prog 165 [Ptr gb] [F] (λ_:Unit=>I ((size:Int)-hend)) (λ_=>True) (λ_=> [F]):=by
  refine Ct.walk func165 rfl ntmps165 rfl (λw0 hw0=>?_)
  change J _ [(0,_)] _ _ _
  refine J.g λK1 hK1=>J.b V<|J.c hK1<|J.A 0 ?_
  refine J.k λK2 hK2=>J.g λK3 hK3=>J.b V<|J.f ((qA1 underlying140 V V V).as (v':= .bool false) V) V<|J.c hK3<|J.E 0 4 ?_
  refine J.a5 ?_
  refine J.W hK2<|J.A 0 ?_
  refine J.k λK4 hK4=>J.b7 [F] [] (.y 0 (.y 1 (.y 2 (.y 3 (.y 4 (.y 5 (.y 6 (.y 7 (.y 8 (.y 9 (.y 10 .nil))))))))))) Tryz.wide (by decide+kernel) (by simp) ?_
  refine J.L ?_
  refine J.p V (qAC V V) V V<|J.p V (qAA (j:=2) V V qBX V z3_ V) V V<|J.p V (qAL V V b3_ (m:=F) (by simp) (hB.at (i:=2) rfl)) rfl rfl<|J.L ?_
  refine J.p V (qAC V V) V V<|J.p V (qAA (j:=3) V V qBX V qBG V) V V<|J.p V (qAA (j:=5) V V qBH V z3_ V) V V<|J.p V (qAL V V b3_ (m:=F) (by simp) (hB.at (i:=5) rfl)) rfl rfl<|J.p rfl (qAn rfl rfl rfl (by omega)) rfl rfl<|J.c3 ?_
  refine J.b3<|J.u (J.M hK4 ?_)
  refine J.A 2 ?_
  exact J.D<|J.Z hw0 V () V trivial [0] V (by decide)
theorem qDf(F:Hp)(gb gd:Nat)(first:Int)(size:Nat)(hat:Int)(hturn:UInt64)(hend:Int)(Ar:Option Addr)(nr cr:Nat)(bad:Bool)(hB:qAP F ⟨gb,0,none⟩ [Ptr gd,I first,I (size:Nat),I hat,W64 hturn,I hend,.slice Ar nr cr,.bool bad])(L:List (List UInt8))(hLn:L.length=nr)(hL:Sl F 1 Ar nr cr (qAH L))(hn:nr≤1073741824):
    Ct prog 55 [Ptr gb] [F] (λx:Option Addr×Nat×Hp=> .slice x.1 L.length x.2.1) (λx=>Row x.2.2 9 1 x.1 L.length x.2.1 (qAH L)) (λx=> [F,x.2.2]):=by
  subst hLn
  refine Ct.walk func55 rfl ntmps55 rfl (λw0 hw0=>?_)
  change J _ [(0,_)] _ _ _
  refine J.g λK1 hK1=>J.b V<|J.c hK1<|J.A 0 ?_
  refine J.k λK2 hK2=>J.g λK3 hK3=>J.b V<|J.f ((qA1 underlying140 V V V).as (v':= .bool false) V) V<|J.c hK3<|J.E 0 4 ?_
  refine J.a5 ?_
  refine J.W hK2<|J.A 0 ?_
  refine J.g λK4 hK4=>J.b V<|J.f (qAC V V) V<|J.a2 3 qBX qBG V V V V V<|J.a2 6 qBH qCA V V V V V<|J.f (qAL V V qCR (m:=F) (by simp) (hB.at (i:=6) rfl)) rfl<|J.q (qAB rfl rfl ent98 (Ct.use (new:=λx:Option Addr×Nat×Hp=> [x.2.2]) (λF' hF=>qJA F' L Ar cr (hL.mono (hF F (by simp))) hn))) rfl ?_
  rintro⟨A10,c10,m10⟩ h10
  try dsimp only at h10
  change J _ _ _ [F,m10] _
  refine J.b V<|J.c hK4<|J.A 2 ?_
  exact J.D<|J.Z hw0 V (A10,c10,m10) V h10 [0,1] V (by decide)
theorem qJR(s:List UInt8)(n:Nat):(s.take (min s.length n)).drop 0=s.take n:=by
 rw [zW]
 by_cases h:s.length≤n
 · rw [jl h,jV (jJ _),jV h]
 · rw [Nat.min_eq_right (by omega)]
theorem qQF(s:List UInt8)(n:Nat):s.drop (min s.length n)=s.drop n:=by
 by_cases h:s.length≤n
 · rw [jl h,jq (jJ _),jq h]
 · rw [Nat.min_eq_right (by omega)]
def qEp(l:List Prt):List (List Value):=l.map Prt.cells
theorem qNT(a b:List Prt):qEp (a++b)=qEp a++qEp b:=by simp [qEp]
def prt(turn num:UInt64)(s:List UInt8)(n i:Nat):Prt:=⟨turn,num,i,n,qB7 turn num s,(s.drop (39*i)).take 39⟩
def qQo(turn num:UInt64)(s:List UInt8)(n k:Nat):List Prt:=(List.range k).map (prt turn num s n)
theorem qNS(turn num:UInt64)(s:List UInt8)(n k:Nat):qQo turn num s n (k+1)=qQo turn num s n k++ [prt turn num s n k]:=by unfold qQo;rw [zB,jM];rfl
theorem qIb{turn num:UInt64}{s:List UInt8}{n k i:Nat}(h:i<k):(qEp (qQo turn num s n k))[i]?=some (prt turn num s n i).cells:=by
 unfold qEp qQo
 rw [zy,jN,jv h];rfl
theorem qCm(n:Nat):1≤qAx n:=by unfold qAx;split<;>omega
theorem qFu{n:Nat}(h:n≤900):qAx n≤24:=by unfold qAx;split<;>omega
theorem qKl(F:Hp)(hK:KF F)(turn num:UInt64)(s:List UInt8)(ht:turn.toNat<2^(8*4))(hnm:num.toNat<2^(8*2))(hs:s.length≤900)(n:Nat)(hn:n=qAx s.length):
    Ct prog 197 [W64 turn,W64 num,Str s] [F] (λx:Option Addr×Nat×Hp=> .slice x.1 n x.2.1) (λx=>Row x.2.2 303 6 x.1 n x.2.1 (qEp (qQo turn num s n n))) (λx=> [F,x.2.2]):=by
  have hn24:n≤24:=hn▸qFu hs
  refine Ct.walk func197 rfl ntmps197 rfl (λw0 hw0=>?_)
  change J _ [(0,_),(1,_),(2,_)] _ _ _
  refine J.g λK1 hK1=>J.b V<|J.c hK1<|J.G 0 1 2 ?_
  refine J.g λK2 hK2=>J.b V<|J.f (qAg u9_ V V) V<|J.q (qAB V V ent166 (Ct.use0 (λF' hF=>by have:=qCL F' s.length (by omega);rw [←hn] at this;exact this))) rfl λg13 _=>J.j 3 rfl<|J.q (qAB rfl rfl ent193 (Ct.use0 (λF' hF=>qLP F' (hK.mono (hF _ (by simp))) turn num s ht hnm (by omega)))) rfl λg17 _=>J.j 2 rfl<|J.c hK2<|J.a0 0 1 2 7 8 ?_
  refine J.g λK3 hK3=>J.b V<|J.c hK3<|J.b5 0 1 2 7 8 9 ?_
  refine J.k λK4 hK4=>J.k λK5 hK5=>J.d4 [0,1] [F,(λ_=>none)] V (by decide)<|J.H<|J.j 2 V<|J.c hK5<|J.d6 0 1 2 7 8 9 18 19 ?_
  refine J.a1<|J.c1 (X:=Nat×Hp×Option Addr×Nat) (λx=> [(0,W64 turn),(1,W64 num),(2,Str (s.drop (39*x.1))),(7,I n),(8,Str (qB7 turn num s)),(9,.slice x.2.2.1 x.1 x.2.2.2),(18,I n),(19,I x.1)]) (λx=> [F,x.2.1]) (λx=>x.1≤n∧Row x.2.1 303 6 x.2.2.1 x.1 x.2.2.2 (qEp (qQo turn num s n x.1))) (λx=>n-x.1) (0,(λ_=>none),none,0) (⟨jF _,qBc.nil⟩) ⟨V,V,V,V,V,V,V,V,trivial⟩ (λ_ h=>h) ?_
  rintro⟨k,m,A7,c7⟩ ⟨hk,hr⟩ I0 hI0
  dsimp only at hk hr⊢
  refine J.g λK6 hK6=>J.f (qAT V V V) V<|J.c hK6<|J.e4 0 1 2 7 8 9 18 19 20 ?_
  refine J.k λK7 hK7=>J.a4 V (λh20=>?_) (λh20=>?_)
  ·
    refine J.W hK7<|J.d6 0 1 2 7 8 9 18 19 ?_
    refine J.k λK8 hK8=>J.a1<|J.g λK9 hK9=>J.j 2 V<|J.c hK9<|J.e4 0 1 2 7 8 9 10 18 19 ?_
    refine J.g λK10 hK10=>J.j 8 V<|J.f (qAg u9_ V V) V<|J.f ((qDq V V V).as (v':=I ((min (s.drop (39*k)).length 39:Nat):Int)) (congrArg I (by omega))) V<|J.f ((qA3 (l:=0) (h:=min (s.drop (39*k)).length 39) u9_ V V V V ⟨by omega,by omega⟩).as (v':=Str ((s.drop (39*k)).take 39)) (congrArg Str (qJR _ _))) V<|J.f (qAK (l:= [(0,.tmp 23),(1,.tmp 24),(2,.tmp 25),(3,.tmp 26),(4,.tmp 27),(5,.tmp 32)]) (vs:= [W64 turn,W64 num,I k,I n,Str (qB7 turn num s),Str ((s.drop (39*k)).take 39)]) (places:= [(0,1),(1,1),(2,1),(3,1),(4,1),(5,1)]) (r:= [W64 turn,W64 num,I k,I n,Str (qB7 turn num s),Str ((s.drop (39*k)).take 39)]) V V V qBW qKA (λ_=>by kernel_rfl) V) V<|J.q (qAJ (l:= [.tmp 33]) (xs:= [(prt turn num s n k).cells]) V V V V qII el303 V (by decide) (by decide) (by simp [Prt.cells,prt])) rfl λg34 _=>?_
    change J _ _ _ [F,m,blk g34 (prt turn num s n k).cells 303] _
    refine J.q (qAa (i:=1) (m2:=blk g34 (prt turn num s n k).cells 303) (xs:=qEp (qQo turn num s n k)) (ys:=qEp [(prt turn num s n k)]) V V V qII qII el303 V hr (by simp) ((qAs (q:=True) (xs:=qEp [(prt turn num s n k)]) rfl (by simp [qEp,Prt.cells])).sl) (by simp [qEp,Prt.cells,Value.oneCell']) (by omega) (by omega)) rfl ?_
    rintro⟨A8,c8,m8⟩ h8
    try dsimp only at h8
    change J _ ((35,.slice A8 (k+1) c8)::_) _ [_,m8,_] _
    rw [←qNT,←qNS] at h8
    refine J.b V<|J.c hK10<|J.d6 0 1 2 7 8 9 18 19 ?_
    refine J.H<|J.j 2 V<|J.f (qAg u9_ V V) V<|J.f ((qDq V V V).as (v':=I ((min (s.drop (39*k)).length 39:Nat):Int)) (congrArg I (by omega))) V<|J.f ((qA3 (l:=min (s.drop (39*k)).length 39) (h:=(s.drop (39*k)).length) u9_ V V V V ⟨by omega,by omega⟩).as (v':=Str (s.drop (39*(k+1)))) (congrArg Str (by rw [jo,qQF,List.drop_drop,Nat.mul_add,Nat.mul_one]))) rfl<|J.b rfl<|J.a8<|J.b0<|J.u (J.M hK8 ?_)
    refine J.d6 0 1 2 7 8 9 18 19 ?_
    exact J.H<|J.f ((qAQ V V V (by omega)).nat (k+1) (by omega)) V<|J.b V<|J.a8<|J.u<|J.a9 (k+1,m8,A8,c8) (λy (hy:_∧n-y.1<n-k)=>hI0 y hy.1 hy.2) ⟨⟨by dsimp only;omega,h8⟩,by dsimp only;omega⟩ ⟨V,V,V,V,V,V,V,V,trivial⟩ (λ_ h=>h.pick [0,1] (by decide))
  refine J.b8<|J.a6<|J.a6<|J.b9 ?_
  refine J.u (J.M hK4 ?_)
  refine J.A 9 ?_
  refine J.k λK11 hK11=>?_
  have hkn:k=n:=by omega
  subst hkn
  refine J.H<|J.j 2 V<|J.c hK11<|J.A 6 ?_
  exact J.D<|J.Z hw0 V (A7,c7,m) V hr [0,1] V (by decide)
theorem ent165:qAE prog 165:=qAE.of func165 rfl (by kernel_rfl)
theorem ent167:qAE prog 167:=qAE.of func167 rfl (by kernel_rfl)
theorem ent197:qAE prog 197:=qAE.of func197 rfl (by kernel_rfl)
theorem ent198:qAE prog 198:=qAE.of func198 rfl (by kernel_rfl)
theorem ent200:qAE prog 200:=qAE.of func200 rfl (by kernel_rfl)
def qCH(d:Dk)(p:Nat)(t:Nat→List UInt8):Nat→Dk×Int
 |0=>(d,0)
 |k+1=>if(qCH d p t k).2=0 then((qCH d p t k).1.write ((p+k:Nat):Int) (t k),(qCH d p t k).1.wErr ((p+k:Nat):Int) (t k)) else qCH d p t k
theorem qB1{d:Dk}{p:Nat}{t:Nat→List UInt8}{k:Nat}(h:(qCH d p t k).2=0):qCH d p t (k+1)=((qCH d p t k).1.write ((p+k:Nat):Int) (t k),(qCH d p t k).1.wErr ((p+k:Nat):Int) (t k)):=if_pos h
theorem qEB{d:Dk}{p:Nat}{t:Nat→List UInt8}{k:Nat}(h: ¬(qCH d p t k).2=0): ∀n,qCH d p t (k+n)=qCH d p t k
 |0=>rfl
 |n+1=>by
  have e:=qEB h n
  show(if(qCH d p t (k+n)).2=0 then _ else qCH d p t (k+n))=_
  rw [e,if_neg h]
def qBM(d:Dk)(p:Nat)(t:Nat→List UInt8)(n:Nat):Dk×Int:=if(qCH d p t n).2=0 then((qCH d p t n).1.sync,(qCH d p t n).1.sErr) else qCH d p t n
theorem qEa(d:Dk):d.burn.keep=d.keep∧d.burn.wait.length≤d.wait.length:=by
  unfold Dk.burn Dk.cut
  split
  · split
    · exact⟨rfl,jF _⟩
    · exact⟨rfl,jJ _⟩
  · exact⟨rfl,jJ _⟩
theorem qLc(d:Dk)(i:Int)(s:List UInt8):(d.write i s).keep=d.keep∧(d.write i s).wait.length≤d.wait.length+1:=by
  have hb:=qEa d
  unfold Dk.write
  split
  · exact⟨rfl,Nat.le_succ _⟩
  · split
    · exact⟨rfl,Nat.le_succ _⟩
    · split
      · exact⟨hb.1,Nat.le_succ_of_le hb.2⟩
      · refine⟨hb.1,?_⟩
        show(d.burn.wait++ [_]).length≤_
        rw [jA];exact Nat.succ_le_succ hb.2
theorem qEi{d:Dk}(h:d.ok)(p:Nat)(t:Nat→List UInt8): ∀k,(qCH d p t k).1.ok∧(qCH d p t k).1.wait.length≤d.wait.length+k∧(qCH d p t k).1.keep=d.keep
  |0=>⟨h,jJ _,rfl⟩
  |k+1=>by
    obtain ⟨h1,h2,h3⟩:=qEi h p t k
    by_cases he:(qCH d p t k).2=0
    · rw [qB1 he]
      have hw:=qLc (qCH d p t k).1 ((p+k:Nat):Int) (t k)
      exact⟨h1.write _ _,jd hw.2 (by omega),hw.1.trans h3⟩
    · rw [show k+1=k+1 from rfl,qEB he 1]
      exact⟨h1,by omega,h3⟩
theorem qIc{turn num:UInt64}{s:List UInt8}{n i:Nat}(ht:turn.toNat<2^(8*4))(hn:num.toNat<2^(8*2))(h:n≤24)(hi:i<n):(prt turn num s n i).ok:=
 ⟨ht,hn,by show i<256;omega,by show n<256;omega,by show(qB7 _ _ _).length≤8;rw [qBf];exact jJ _,by show((s.drop _).take 39).length≤39;rw [jE];exact Nat.min_le_left _ _⟩
theorem qEZ(F mm:Hp)(hK:KF F)(gb gd:Nat)(first size hat0:Int)(ht0:UInt64)(he0:Int)(Ar0:Option Addr)(nr0 cr0:Nat)(bad:Bool)(d:Dk)(C:Option Addr)(f:Nat)(hb:Dsk mm gd d C f)(hok:d.ok)(hn2:d.wait.length≤1048576)(hKp:Sl F 1 C d.keep.length f (qAR d.keep))(hn3:d.keep.length≤9223372036854775807)(hat:Nat)(hturn:UInt64)(hend:Nat)(Ar:Option Addr)(nr cr:Nat)(R:List (List UInt8))(hR:R.length=nr)(hRs:Sl F 1 Ar nr cr (qAH R))(s:List UInt8)(hs:s.length≤900)(n:Nat)(hn:n=qAx s.length)(ht:hturn.toNat<2^(8*4))(hnr:nr<65536)(hp:hat+hend≤1048576)(he: ¬(qBM d (hat+hend) (λi=>(prt hturn (UInt64.ofNat nr) s n i).text) n).2=0):
    Ct prog 167 [Ptr gb,.agg #[I hat,W64 hturn,I hend,.slice Ar nr cr],Str s] [blk gb [Ptr gd,I first,I size,I hat0,W64 ht0,I he0,.slice Ar0 nr0 cr0,.bool bad] 223,mm,F] (λ_:Hp=>I (qBM d (hat+hend) (λi=>(prt hturn (UInt64.ofNat nr) s n i).text) n).2) (λx=>Dsk x gd (qBM d (hat+hend) (λi=>(prt hturn (UInt64.ofNat nr) s n i).text) n).1 C f) (λx=> [blk gb [Ptr gd,I first,I size,I hat0,W64 ht0,I he0,.slice Ar0 nr0 cr0,.bool true] 223,x,F]):=by
  have hn24:n≤24:=hn▸qFu hs
  have hnum:(UInt64.ofNat nr).toNat<2^(8*2):=by rw [qAu (by omega)];exact hnr
  refine Ct.walk func167 rfl ntmps167 rfl (λw0 hw0=>?_)
  change J _ [(0,_),(1,_),(2,_)] _ _ _
  refine J.g λK1 hK1=>J.q (qAi (l:= [I hat,W64 hturn,I hend,.slice Ar nr cr]) V V V) V ?_
  rintro g4 _
  change J _ _ _ [blk gb [Ptr gd,I first,I size,I hat0,W64 ht0,I he0,.slice Ar0 nr0 cr0,.bool bad] 223,mm,F,blk g4 [I hat,W64 hturn,I hend,.slice Ar nr cr] 221] _
  refine J.b V<|J.c hK1<|J.G 0 2 4 ?_
  refine J.g λK2 hK2=>J.a2 1 qBH qCG V V V V V<|J.c2 3 qCZ V V V V V<|J.a2 3 qBH qCA V V V V V<|J.c2 3 qCR V V V V V<|J.f (qAY qAh V V) V<|J.f (qAp V V u3_ qED (m:=nr) (by omega)) V<|J.b V<|J.q (qAB V V ent197 (Ct.use (new:=λx:Option Addr×Nat×Hp=> [x.2.2]) (λF' hF=>qKl F' (hK.mo hF) hturn (UInt64.ofNat nr) s ht hnum hs n hn))) V ?_
  rintro⟨Ap,cp,mp⟩ hr
  try dsimp only at hr
  change J _ _ _ [_,_,_,_,mp] _
  refine J.b V<|J.c hK2<|J.O 0 2 4 7 ?_
  refine J.g λK3 hK3=>J.b V<|J.c hK3<|J.a0 0 2 4 7 8 ?_
  refine J.d9 (λx:Hp=> [(0,Ptr gb),(2,Str s),(4,Ptr g4),(7,.slice Ap n cp),(8,I (qCH d (hat+hend) (λi=>(prt hturn (UInt64.ofNat nr) s n i).text) n).2)]) (λx=> [blk gb [Ptr gd,I first,I size,I hat0,W64 ht0,I he0,.slice Ar0 nr0 cr0,.bool bad] 223,x,F,blk g4 [I hat,W64 hturn,I hend,.slice Ar nr cr] 221,mp]) (λx=>Dsk x gd (qCH d (hat+hend) (λi=>(prt hturn (UInt64.ofNat nr) s n i).text) n).1 C f) (λK4 hK4=>?_) ?_
  ·
    refine J.g λK5 hK5=>J.b V<|J.c hK5<|J.b5 0 2 4 7 8 9 ?_
    refine J.a1<|J.c1 (X:=Nat×Hp) (λx=> [(0,Ptr gb),(2,Str s),(4,Ptr g4),(7,.slice Ap n cp),(8,I (qCH d (hat+hend) (λi=>(prt hturn (UInt64.ofNat nr) s n i).text) x.1).2),(9,I x.1)]) (λx=> [blk gb [Ptr gd,I first,I size,I hat0,W64 ht0,I he0,.slice Ar0 nr0 cr0,.bool bad] 223,x.2,F,blk g4 [I hat,W64 hturn,I hend,.slice Ar nr cr] 221,mp]) (λx=>x.1≤n∧Dsk x.2 gd (qCH d (hat+hend) (λi=>(prt hturn (UInt64.ofNat nr) s n i).text) x.1).1 C f) (λx=>n-x.1) (0,mm) (⟨jF _,hb⟩) ⟨V,V,V,V,V,V,trivial⟩ (λ_ h=>h) ?_
    rintro⟨k,m⟩ ⟨hk,hd⟩ I0 hI0
    dsimp only at hk hd⊢
    refine J.k λK6 hK6=>J.g λK7 hK7=>J.j 2 V<|J.f (qAY qII V V) V<|J.f (qAT V V V) V<|J.b V<|J.c6 (d:=22) V (λh22=>?_) (λh22=>?_)
    ·
      refine J.b V<|J.T (qAS V V V) V<|J.b V<|J.c hK7<|J.c5 0 2 4 7 8 9 25 ?_
      refine J.a4 V (λh25=>?_) (λh25=>?_)
      ·
        refine J.W hK6<|J.a0 0 2 4 7 9 ?_
        refine J.k λK8 hK8=>J.a1 ?_
        have hkn:k<n:=by omega
        have hw:=qEi hok (hat+hend) (λi=>(prt hturn (UInt64.ofNat nr) s n i).text) k
        refine J.b7 [blk gb [Ptr gd,I first,I size,I hat0,W64 ht0,I he0,.slice Ar0 nr0 cr0,.bool bad] 223,blk g4 [I hat,W64 hturn,I hend,.slice Ar nr cr] 221,F,mp] [] (.y 0 (.y 1 (.y 2 (.y 3 (.y 4 (.y 5 (.y 6 (.y 7 (.y 8 (.y 9 (.y 10 (.y 11 (.y 12 (.y 13 (.y 14 (.e 15 (.e 16 (.y 17 .nil)))))))))))))))))) Tryz.wide (by decide+kernel) (by simp) ?_
        refine J.L ?_
        refine J.p V (qAC V V) V V<|J.p V (qAA (j:=0) V V qBX V sizeOf67 V) V V<|J.p V (qAD 0 V V V isAgg67 V) V V<|J.p V (qAA (j:=0) V V qBH V z3_ V) V V<|J.p V (qAD 1 V V V b3_ V) V V<|J.p V (qAA (j:=2) V V qBH V z3_ V) V V<|J.p V (qAD 1 V V V b3_ V) V V<|J.p V ((qAQ V V V (by omega)).nat (hat+hend) (by omega)) V V<|J.L ?_
        refine J.p V ((qAQ V V V (by omega)).nat (hat+hend+k) (by omega)) V V<|J.L ?_
        refine J.L ?_
        refine J.p V (qAF (i:=k) V V V qII qEg hr.sl (by omega)) V V<|J.p V (qAl V V isAgg303 qEg (m:=mp) (by simp) (vs:=(prt hturn (UInt64.ofNat nr) s n k).cells) (hr.sl.elem (qIb hkn)) rfl) rfl rfl<|J.b2 rfl (qAB rfl rfl ent199 (Ct.use0 (λF' hF=>qHV F' (hK.mo hF) (prt hturn (UInt64.ofNat nr) s n k) (qIc ht hnum hn24 hkn)))) rfl (by simp) λg43 _=>J.b2 rfl (qAB rfl rfl ent198 (Ct.use1 1 (m':=λx:Hp=>x) (new:=λ_=> []) rfl (λF' hF=>qKR F' m gd (qCH d (hat+hend) (λi=>(prt hturn (UInt64.ofNat nr) s n i).text) k).1 C f hd hw.1 (by have:=hw.2.1;omega) (by rw [hw.2.2];exact hKp.mono (hF F (by simp))) (by rw [hw.2.2];exact hn3) ((hat+hend+k:Nat):Int) (prt hturn (UInt64.ofNat nr) s n k).text (by rw [Prt.text_len (qIc ht hnum hn24 hkn)];decide)))) rfl (by simp) ?_
        rintro m44 hd44
        change J _ _ _ [blk gb [Ptr gd,I first,I size,I hat0,W64 ht0,I he0,.slice Ar0 nr0 cr0,.bool bad] 223,m44,F,blk g4 [I hat,W64 hturn,I hend,.slice Ar nr cr] 221,mp] _
        refine J.c3 ?_
        refine J.b3<|J.b0<|J.u (J.M hK8 ?_)
        refine J.b5 0 2 4 7 8 9 ?_
        refine J.H<|J.b V<|J.f ((qAQ V V V (by omega)).nat (k+1) (by omega)) V<|J.b V<|J.a8<|J.u ?_
        have hsu:=qB1 (show(qCH d (hat+hend) (λi=>(prt hturn (UInt64.ofNat nr) s n i).text) k).2=0 from by omega)
        exact J.a9 (k+1,m44) (λy (hy:_∧n-y.1<n-k)=>hI0 y hy.1 hy.2) ⟨⟨by dsimp only;omega,by dsimp only;rw [hsu];exact hd44⟩,by dsimp only;omega⟩ ⟨rfl,rfl,rfl,rfl,by dsimp only;rw [hsu];rfl,rfl,trivial⟩ (λ_ h=>h)
      refine J.b8<|J.a6<|J.a6<|J.b9 ?_
      refine J.u ?_
      have hst:=qEB (d:=d) (p:=hat+hend) (t:=(λi=>(prt hturn (UInt64.ofNat nr) s n i).text)) (k:=k) (by omega) (n-k)
      rw [show k+(n-k)=n by omega] at hst
      exact J.a9 m hK4 (by rw [hst];exact hd) ⟨rfl,rfl,rfl,rfl,by rw [hst];rfl,trivial⟩ (λ_ h=>h)
    refine J.j 3 V<|J.c hK7<|J.c5 0 2 4 7 8 9 25 ?_
    refine J.a5 ?_
    refine J.b8<|J.a6<|J.a6<|J.b9 ?_
    refine J.u ?_
    have hkk:k=n:=by omega
    subst hkk
    exact J.a9 m hK4 hd ⟨V,V,V,V,V,trivial⟩ (λ_ h=>h)
  intro m hd
  refine J.d9 (λx:Hp=> [(0,Ptr gb),(2,Str s),(4,Ptr g4),(7,.slice Ap n cp),(8,I (qBM d (hat+hend) (λi=>(prt hturn (UInt64.ofNat nr) s n i).text) n).2)]) (λx=> [blk gb [Ptr gd,I first,I size,I hat0,W64 ht0,I he0,.slice Ar0 nr0 cr0,.bool bad] 223,x,F,blk g4 [I hat,W64 hturn,I hend,.slice Ar nr cr] 221,mp]) (λx=>Dsk x gd (qBM d (hat+hend) (λi=>(prt hturn (UInt64.ofNat nr) s n i).text) n).1 C f) (λK9 hK9=>?_) ?_
  ·
    refine J.k λK10 hK10=>?_
    have hw:=qEi hok (hat+hend) (λi=>(prt hturn (UInt64.ofNat nr) s n i).text) n
    refine J.H<|J.b V<|J.f (qAS V V V) V<|J.c hK10<|J.b5 0 2 4 7 8 46 ?_
    refine J.a4 V (λh46=>?_) (λh46=>?_)
    ·
      refine J.H<|J.b V<|J.f (qAC V V) V<|J.a2 0 qBX sizeOf67 V V V V V<|J.c2 0 isAgg67 V V V V V<|J.q (qAB V V ent200 (Ct.use1 1 (m':=λx:Hp=>x) (new:=λ_=> []) V (λF' hF=>qM2 F' m gd (qCH d (hat+hend) (λi=>(prt hturn (UInt64.ofNat nr) s n i).text) n).1 C f hd hw.1 (by have:=hw.2.1;omega) (by rw [hw.2.2];exact hKp.mono (hF F (by simp))) (by rw [hw.2.2];exact hn3)))) rfl ?_
      rintro m51 hd51
      change J _ _ _ [blk gb [Ptr gd,I first,I size,I hat0,W64 ht0,I he0,.slice Ar0 nr0 cr0,.bool bad] 223,m51,F,blk g4 [I hat,W64 hturn,I hend,.slice Ar nr cr] 221,mp] _
      refine J.b V<|J.a8<|J.u ?_
      have hst:(qBM d (hat+hend) (λi=>(prt hturn (UInt64.ofNat nr) s n i).text) n)=((qCH d (hat+hend) (λi=>(prt hturn (UInt64.ofNat nr) s n i).text) n).1.sync,(qCH d (hat+hend) (λi=>(prt hturn (UInt64.ofNat nr) s n i).text) n).1.sErr):=if_pos (by omega)
      exact J.a9 m51 hK9 (by rw [hst];exact hd51) ⟨rfl,rfl,rfl,rfl,by rw [hst];rfl,trivial⟩ (λ_ h=>h)
    refine J.c0<|J.u ?_
    have hst:(qBM d (hat+hend) (λi=>(prt hturn (UInt64.ofNat nr) s n i).text) n)=(qCH d (hat+hend) (λi=>(prt hturn (UInt64.ofNat nr) s n i).text) n):=if_neg (by omega)
    exact J.a9 m hK9 (by rw [hst];exact hd) ⟨rfl,rfl,rfl,rfl,by rw [hst];rfl,trivial⟩ (λ_ h=>h)
  intro m hd
  refine J.k λK11 hK11=>J.g λK12 hK12=>J.b V<|J.f ((qAU V V V).yes (by omega)) V<|J.c hK12<|J.b5 0 2 4 7 8 53 ?_
  refine J.c7 ?_
  refine J.g λK13 hK13=>J.b V<|J.f (qAC V V) V<|J.a2 7 qBX z4_ V V V V V<|J.b1 (qAV (i:=0) (vs:= [.bool true]) V V V V V z4_ V (by simp)) rfl rfl λ_ _=>?_
  change J _ _ _ [blk gb [Ptr gd,I first,I size,I hat0,W64 ht0,I he0,.slice Ar0 nr0 cr0,.bool true] 223,m,F,blk g4 [I hat,W64 hturn,I hend,.slice Ar nr cr] 221,mp] _
  refine J.c hK13<|J.A 8 ?_
  refine J.g λK14 hK14=>J.j 2 V<|J.c hK14<|J.A 6 ?_
  exact J.D<|J.a7<|J.Z hw0 V m V hd [0,1,2] V (by decide)
theorem qDu(F mm:Hp)(hK:KF F)(gb gd:Nat)(first size hat0:Int)(ht0:UInt64)(he0:Int)(Ar0:Option Addr)(nr0 cr0:Nat)(bad:Bool)(d:Dk)(C:Option Addr)(f:Nat)(hb:Dsk mm gd d C f)(hok:d.ok)(hn2:d.wait.length≤1048576)(hKp:Sl F 1 C d.keep.length f (qAR d.keep))(hn3:d.keep.length≤9223372036854775807)(hat:Nat)(hturn:UInt64)(hend:Nat)(Ar:Option Addr)(nr cr:Nat)(R:List (List UInt8))(hR:R.length=nr)(hRs:Sl F 1 Ar nr cr (qAH R))(s:List UInt8)(hs:s.length≤900)(n:Nat)(hn:n=qAx s.length)(ht:hturn.toNat<2^(8*4))(hnr:nr<65536)(hp:hat+hend≤1048576)(he:(qBM d (hat+hend) (λi=>(prt hturn (UInt64.ofNat nr) s n i).text) n).2=0):
    Ct prog 167 [Ptr gb,.agg #[I hat,W64 hturn,I hend,.slice Ar nr cr],Str s] [blk gb [Ptr gd,I first,I size,I hat0,W64 ht0,I he0,.slice Ar0 nr0 cr0,.bool bad] 223,mm,F] (λ_:Hp×Option Addr×Nat×Hp=>I 0) (λx=>Dsk x.1 gd (qBM d (hat+hend) (λi=>(prt hturn (UInt64.ofNat nr) s n i).text) n).1 C f∧Row x.2.2.2 9 1 x.2.1 (nr+1) x.2.2.1 (qAH (R++ [s]))) (λx=> [blk gb [Ptr gd,I first,I size,I hat,W64 hturn,I ((hend+n:Nat):Int),.slice x.2.1 (nr+1) x.2.2.1,.bool bad] 223,x.1,F,x.2.2.2]):=by
  have hn24:n≤24:=hn▸qFu hs
  have hnum:(UInt64.ofNat nr).toNat<2^(8*2):=by rw [qAu (by omega)];exact hnr
  refine Ct.walk func167 rfl ntmps167 rfl (λw0 hw0=>?_)
  change J _ [(0,_),(1,_),(2,_)] _ _ _
  refine J.g λK1 hK1=>J.q (qAi (l:= [I hat,W64 hturn,I hend,.slice Ar nr cr]) V V V) V ?_
  rintro g4 _
  change J _ _ _ [blk gb [Ptr gd,I first,I size,I hat0,W64 ht0,I he0,.slice Ar0 nr0 cr0,.bool bad] 223,mm,F,blk g4 [I hat,W64 hturn,I hend,.slice Ar nr cr] 221] _
  refine J.b V<|J.c hK1<|J.G 0 2 4 ?_
  refine J.g λK2 hK2=>J.a2 1 qBH qCG V V V V V<|J.c2 3 qCZ V V V V V<|J.a2 3 qBH qCA V V V V V<|J.c2 3 qCR V V V V V<|J.f (qAY qAh V V) V<|J.f (qAp V V u3_ qED (m:=nr) (by omega)) V<|J.b V<|J.q (qAB V V ent197 (Ct.use (new:=λx:Option Addr×Nat×Hp=> [x.2.2]) (λF' hF=>qKl F' (hK.mo hF) hturn (UInt64.ofNat nr) s ht hnum hs n hn))) V ?_
  rintro⟨Ap,cp,mp⟩ hr
  try dsimp only at hr
  change J _ _ _ [_,_,_,_,mp] _
  refine J.b V<|J.c hK2<|J.O 0 2 4 7 ?_
  refine J.g λK3 hK3=>J.b V<|J.c hK3<|J.a0 0 2 4 7 8 ?_
  refine J.d9 (λx:Hp=> [(0,Ptr gb),(2,Str s),(4,Ptr g4),(7,.slice Ap n cp),(8,I (qCH d (hat+hend) (λi=>(prt hturn (UInt64.ofNat nr) s n i).text) n).2)]) (λx=> [blk gb [Ptr gd,I first,I size,I hat0,W64 ht0,I he0,.slice Ar0 nr0 cr0,.bool bad] 223,x,F,blk g4 [I hat,W64 hturn,I hend,.slice Ar nr cr] 221,mp]) (λx=>Dsk x gd (qCH d (hat+hend) (λi=>(prt hturn (UInt64.ofNat nr) s n i).text) n).1 C f) (λK4 hK4=>?_) ?_
  ·
    refine J.g λK5 hK5=>J.b V<|J.c hK5<|J.b5 0 2 4 7 8 9 ?_
    refine J.a1<|J.c1 (X:=Nat×Hp) (λx=> [(0,Ptr gb),(2,Str s),(4,Ptr g4),(7,.slice Ap n cp),(8,I (qCH d (hat+hend) (λi=>(prt hturn (UInt64.ofNat nr) s n i).text) x.1).2),(9,I x.1)]) (λx=> [blk gb [Ptr gd,I first,I size,I hat0,W64 ht0,I he0,.slice Ar0 nr0 cr0,.bool bad] 223,x.2,F,blk g4 [I hat,W64 hturn,I hend,.slice Ar nr cr] 221,mp]) (λx=>x.1≤n∧Dsk x.2 gd (qCH d (hat+hend) (λi=>(prt hturn (UInt64.ofNat nr) s n i).text) x.1).1 C f) (λx=>n-x.1) (0,mm) (⟨jF _,hb⟩) ⟨V,V,V,V,V,V,trivial⟩ (λ_ h=>h) ?_
    rintro⟨k,m⟩ ⟨hk,hd⟩ I0 hI0
    dsimp only at hk hd⊢
    refine J.k λK6 hK6=>J.g λK7 hK7=>J.j 2 V<|J.f (qAY qII V V) V<|J.f (qAT V V V) V<|J.b V<|J.c6 (d:=22) V (λh22=>?_) (λh22=>?_)
    ·
      refine J.b V<|J.T (qAS V V V) V<|J.b V<|J.c hK7<|J.c5 0 2 4 7 8 9 25 ?_
      refine J.a4 V (λh25=>?_) (λh25=>?_)
      ·
        refine J.W hK6<|J.a0 0 2 4 7 9 ?_
        refine J.k λK8 hK8=>J.a1 ?_
        have hkn:k<n:=by omega
        have hw:=qEi hok (hat+hend) (λi=>(prt hturn (UInt64.ofNat nr) s n i).text) k
        refine J.b7 [blk gb [Ptr gd,I first,I size,I hat0,W64 ht0,I he0,.slice Ar0 nr0 cr0,.bool bad] 223,blk g4 [I hat,W64 hturn,I hend,.slice Ar nr cr] 221,F,mp] [] (.y 0 (.y 1 (.y 2 (.y 3 (.y 4 (.y 5 (.y 6 (.y 7 (.y 8 (.y 9 (.y 10 (.y 11 (.y 12 (.y 13 (.y 14 (.e 15 (.e 16 (.y 17 .nil)))))))))))))))))) Tryz.wide (by decide+kernel) (by simp) ?_
        refine J.L ?_
        refine J.p V (qAC V V) V V<|J.p V (qAA (j:=0) V V qBX V sizeOf67 V) V V<|J.p V (qAD 0 V V V isAgg67 V) V V<|J.p V (qAA (j:=0) V V qBH V z3_ V) V V<|J.p V (qAD 1 V V V b3_ V) V V<|J.p V (qAA (j:=2) V V qBH V z3_ V) V V<|J.p V (qAD 1 V V V b3_ V) V V<|J.p V ((qAQ V V V (by omega)).nat (hat+hend) (by omega)) V V<|J.L ?_
        refine J.p V ((qAQ V V V (by omega)).nat (hat+hend+k) (by omega)) V V<|J.L ?_
        refine J.L ?_
        refine J.p V (qAF (i:=k) V V V qII qEg hr.sl (by omega)) V V<|J.p V (qAl V V isAgg303 qEg (m:=mp) (by simp) (vs:=(prt hturn (UInt64.ofNat nr) s n k).cells) (hr.sl.elem (qIb hkn)) rfl) rfl rfl<|J.b2 rfl (qAB rfl rfl ent199 (Ct.use0 (λF' hF=>qHV F' (hK.mo hF) (prt hturn (UInt64.ofNat nr) s n k) (qIc ht hnum hn24 hkn)))) rfl (by simp) λg43 _=>J.b2 rfl (qAB rfl rfl ent198 (Ct.use1 1 (m':=λx:Hp=>x) (new:=λ_=> []) rfl (λF' hF=>qKR F' m gd (qCH d (hat+hend) (λi=>(prt hturn (UInt64.ofNat nr) s n i).text) k).1 C f hd hw.1 (by have:=hw.2.1;omega) (by rw [hw.2.2];exact hKp.mono (hF F (by simp))) (by rw [hw.2.2];exact hn3) ((hat+hend+k:Nat):Int) (prt hturn (UInt64.ofNat nr) s n k).text (by rw [Prt.text_len (qIc ht hnum hn24 hkn)];decide)))) rfl (by simp) ?_
        rintro m44 hd44
        change J _ _ _ [blk gb [Ptr gd,I first,I size,I hat0,W64 ht0,I he0,.slice Ar0 nr0 cr0,.bool bad] 223,m44,F,blk g4 [I hat,W64 hturn,I hend,.slice Ar nr cr] 221,mp] _
        refine J.c3 ?_
        refine J.b3<|J.b0<|J.u (J.M hK8 ?_)
        refine J.b5 0 2 4 7 8 9 ?_
        refine J.H<|J.b V<|J.f ((qAQ V V V (by omega)).nat (k+1) (by omega)) V<|J.b V<|J.a8<|J.u ?_
        have hsu:=qB1 (show(qCH d (hat+hend) (λi=>(prt hturn (UInt64.ofNat nr) s n i).text) k).2=0 from by omega)
        exact J.a9 (k+1,m44) (λy (hy:_∧n-y.1<n-k)=>hI0 y hy.1 hy.2) ⟨⟨by dsimp only;omega,by dsimp only;rw [hsu];exact hd44⟩,by dsimp only;omega⟩ ⟨rfl,rfl,rfl,rfl,by dsimp only;rw [hsu];rfl,rfl,trivial⟩ (λ_ h=>h)
      refine J.b8<|J.a6<|J.a6<|J.b9 ?_
      refine J.u ?_
      have hst:=qEB (d:=d) (p:=hat+hend) (t:=(λi=>(prt hturn (UInt64.ofNat nr) s n i).text)) (k:=k) (by omega) (n-k)
      rw [show k+(n-k)=n by omega] at hst
      exact J.a9 m hK4 (by rw [hst];exact hd) ⟨rfl,rfl,rfl,rfl,by rw [hst];rfl,trivial⟩ (λ_ h=>h)
    refine J.j 3 V<|J.c hK7<|J.c5 0 2 4 7 8 9 25 ?_
    refine J.a5 ?_
    refine J.b8<|J.a6<|J.a6<|J.b9 ?_
    refine J.u ?_
    have hkk:k=n:=by omega
    subst hkk
    exact J.a9 m hK4 hd ⟨V,V,V,V,V,trivial⟩ (λ_ h=>h)
  intro m hd
  refine J.d9 (λx:Hp=> [(0,Ptr gb),(2,Str s),(4,Ptr g4),(7,.slice Ap n cp),(8,I (qBM d (hat+hend) (λi=>(prt hturn (UInt64.ofNat nr) s n i).text) n).2)]) (λx=> [blk gb [Ptr gd,I first,I size,I hat0,W64 ht0,I he0,.slice Ar0 nr0 cr0,.bool bad] 223,x,F,blk g4 [I hat,W64 hturn,I hend,.slice Ar nr cr] 221,mp]) (λx=>Dsk x gd (qBM d (hat+hend) (λi=>(prt hturn (UInt64.ofNat nr) s n i).text) n).1 C f) (λK9 hK9=>?_) ?_
  ·
    refine J.k λK10 hK10=>?_
    have hw:=qEi hok (hat+hend) (λi=>(prt hturn (UInt64.ofNat nr) s n i).text) n
    refine J.H<|J.b V<|J.f (qAS V V V) V<|J.c hK10<|J.b5 0 2 4 7 8 46 ?_
    refine J.a4 V (λh46=>?_) (λh46=>?_)
    ·
      refine J.H<|J.b V<|J.f (qAC V V) V<|J.a2 0 qBX sizeOf67 V V V V V<|J.c2 0 isAgg67 V V V V V<|J.q (qAB V V ent200 (Ct.use1 1 (m':=λx:Hp=>x) (new:=λ_=> []) V (λF' hF=>qM2 F' m gd (qCH d (hat+hend) (λi=>(prt hturn (UInt64.ofNat nr) s n i).text) n).1 C f hd hw.1 (by have:=hw.2.1;omega) (by rw [hw.2.2];exact hKp.mono (hF F (by simp))) (by rw [hw.2.2];exact hn3)))) rfl ?_
      rintro m51 hd51
      change J _ _ _ [blk gb [Ptr gd,I first,I size,I hat0,W64 ht0,I he0,.slice Ar0 nr0 cr0,.bool bad] 223,m51,F,blk g4 [I hat,W64 hturn,I hend,.slice Ar nr cr] 221,mp] _
      refine J.b V<|J.a8<|J.u ?_
      have hst:(qBM d (hat+hend) (λi=>(prt hturn (UInt64.ofNat nr) s n i).text) n)=((qCH d (hat+hend) (λi=>(prt hturn (UInt64.ofNat nr) s n i).text) n).1.sync,(qCH d (hat+hend) (λi=>(prt hturn (UInt64.ofNat nr) s n i).text) n).1.sErr):=if_pos (by omega)
      exact J.a9 m51 hK9 (by rw [hst];exact hd51) ⟨rfl,rfl,rfl,rfl,by rw [hst];rfl,trivial⟩ (λ_ h=>h)
    refine J.c0<|J.u ?_
    have hst:(qBM d (hat+hend) (λi=>(prt hturn (UInt64.ofNat nr) s n i).text) n)=(qCH d (hat+hend) (λi=>(prt hturn (UInt64.ofNat nr) s n i).text) n):=if_neg (by omega)
    exact J.a9 m hK9 (by rw [hst];exact hd) ⟨rfl,rfl,rfl,rfl,by rw [hst];rfl,trivial⟩ (λ_ h=>h)
  intro m hd
  refine J.k λK11 hK11=>J.g λK12 hK12=>J.b V<|J.f ((qAU V V V).no (by omega)) V<|J.c hK12<|J.b5 0 2 4 7 8 53 ?_
  refine J.a5 ?_
  refine J.W hK11<|J.O 0 2 4 7 ?_
  refine J.g λK13 hK13=>J.a2 2 qBH z3_ V V V V V<|J.c2 3 b3_ V V V V V<|J.b V<|J.f (qAY qII V V) V<|J.f ((qAQ V V V (by omega)).nat (hend+n) (by omega)) V<|J.a2 2 qBH z3_ V V V V V<|J.b1 (qAV (i:=3) (vs:= [I ((hend+n:Nat):Int)]) V V V V V z3_ V (by simp)) rfl rfl λ_ _=>?_
  change J _ _ _ [blk gb [Ptr gd,I first,I size,I hat0,W64 ht0,I he0,.slice Ar0 nr0 cr0,.bool bad] 223,m,F,blk g4 [I hat,W64 hturn,I ((hend+n:Nat):Int),.slice Ar nr cr] 221,mp] _
  refine J.c hK13<|J.G 0 2 4 ?_
  refine J.g λK14 hK14=>J.a2 3 qBH qCA V V V V V<|J.c2 3 qCR V V V V V<|J.q (qAB V V ent98 (Ct.use (new:=λx:Option Addr×Nat×Hp=> [x.2.2]) (λF' hF=>by have:=qJA F' R Ar cr (by rw [hR];exact hRs.mono (hF F (by simp))) (by omega);rw [hR] at this;exact this))) rfl ?_
  rintro⟨A6,c6,m6⟩ h6
  try dsimp only at h6
  change J _ _ _ [_,_,_,_,_,m6] _
  refine J.b V<|J.q (qAJ (l:= [.tmp 67]) (xs:= [[Str s]]) V V V V qAh el9 V (by decide) (by decide) (by simp)) rfl λg68 _=>?_
  change J _ _ _ [_,_,_,_,_,_,blk g68 [Str s] 9] _
  refine J.q (qAa (i:=5) (m2:=blk g68 [Str s] 9) (xs:=qAH R) (ys:=qAH [s]) V V V qAh qAh el9 V h6 (by simp) ((qAs (q:=True) (xs:=qAH [s]) rfl (by simp [qAH])).sl) (by simp [qAH,Value.oneCell']) (by omega) (by omega)) rfl ?_
  rintro⟨A8,c8,m8⟩ h8
  try dsimp only at h8
  change J _ ((69,.slice A8 (nr+1) c8)::_) _ [_,_,_,_,_,m8,_] _
  rw [←qLo] at h8
  refine J.a2 3 qBH qCA V V V V V<|J.b1 (qAV (i:=3) (vs:= [.slice A8 (nr+1) c8]) V V V V V qCA V (by simp)) rfl rfl λ_ _=>?_
  change J _ _ _ [_,_,_,blk g4 [I hat,W64 hturn,I ((hend+n:Nat):Int),.slice A8 (nr+1) c8] 221,_,_,_] _
  refine J.c hK14<|J.E 0 4 ?_
  refine J.g λK15 hK15=>J.b V<|J.c8 3 qE1 qBG V V V V V<|J.f (qAC V V) V<|J.a2 3 qBX qBG V V V V V<|J.b1 (qAV (i:=0) (vs:= [I hat,W64 hturn,I ((hend+n:Nat):Int),.slice A8 (nr+1) c8]) V V V V V qBG V (by simp)) rfl rfl λ_ _=>?_
  change J _ _ _ [blk gb [Ptr gd,I first,I size,I hat,W64 hturn,I ((hend+n:Nat):Int),.slice A8 (nr+1) c8,.bool bad] 223,_,_,_,_,_,_] _
  refine J.c hK15<|J.d0 [] trivial<|J.g λK16 hK16=>J.b V<|J.c hK16<|J.A 6 ?_
  exact J.D<|J.Z hw0 V (m,A8,c8,m8) V ⟨hd,h8⟩ [0,1,2,5] V (by decide)
theorem qGI{m:Hp}{g k:Nat}{l vs:List Value}(h:qAP m ⟨g,0,none⟩ l)(hs: ∀j u,vs[j]?=some u→l[k+j]?=some u):qAP m ⟨g,k,none⟩ vs:=by
 obtain ⟨h1,cs,e,fz,h2,h3⟩:=h
 refine⟨rfl,cs,e,fz,h2,λj u hj=>?_⟩
 have:=h3 _ _ (hs j u hj)
 rwa [jn] at this
theorem qJG(F mm:Hp)(hK:KF F)(gb gd:Nat)(first:Int)(size hat:Nat)(hturn:UInt64)(hend:Nat)(Ar:Option Addr)(nr cr:Nat)(d:Dk)(C:Option Addr)(f:Nat)(hb:Dsk mm gd d C f)(hok:d.ok)(hn2:d.wait.length≤1048576)(hKp:Sl F 1 C d.keep.length f (qAR d.keep))(hn3:d.keep.length≤9223372036854775807)(R:List (List UInt8))(hR:R.length=nr)(hRs:Sl F 1 Ar nr cr (qAH R))(s:List UInt8)(hs:s.length≤900)(n:Nat)(hn:n=qAx s.length)(t':UInt64)(ht':(t'.toNat:Int)=max (hturn.toNat:Int) 1)(ht:t'.toNat<2^(8*4))(hnr:nr<65536)(hp:hat+size≤1048576)(hfit:hend+n≤size)(he:(qBM d (hat+hend) (λi=>(prt t' (UInt64.ofNat nr) s n i).text) n).2=0):
    Ct prog 121 [Ptr gb,Str s] [blk gb [Ptr gd,I first,I (size:Nat),I (hat:Nat),W64 hturn,I (hend:Nat),.slice Ar nr cr,.bool false] 223,mm,F] (λ_:Hp×Option Addr×Nat×Hp=>I 0) (λx=>Dsk x.1 gd (qBM d (hat+hend) (λi=>(prt t' (UInt64.ofNat nr) s n i).text) n).1 C f∧Row x.2.2.2 9 1 x.2.1 (nr+1) x.2.2.1 (qAH (R++ [s]))) (λx=> [blk gb [Ptr gd,I first,I (size:Nat),I (hat:Nat),W64 t',I ((hend+n:Nat):Int),.slice x.2.1 (nr+1) x.2.2.1,.bool false] 223,x.1,F,x.2.2.2]):=by
  have hn1:=qCm s.length
  refine Ct.walk func121 rfl ntmps121 rfl (λw0 hw0=>?_)
  change J _ [(0,_),(1,_)] _ _ _
  refine J.g λK1 hK1=>J.b V<|J.c hK1<|J.E 0 1 ?_
  refine J.k λK2 hK2=>J.g λK3 hK3=>J.j 2 V<|J.q ((qAB V V ent164 (Ct.use0 (λF' hF=>qIs F' gb gd first size hat hturn hend Ar nr cr false (qAP.blk0.mono (hF (blk gb [Ptr gd,I first,I (size:Nat),I (hat:Nat),W64 hturn,I (hend:Nat),.slice Ar nr cr,.bool false] 223) (by simp))) s)))) rfl λg9 _=>J.b rfl<|J.c hK3<|J.G 0 1 5 ?_
  refine J.g λK4 hK4=>J.b V<|J.f ((qAU V V V).no (λh=>h (by rw [if_neg (by omega),if_neg (by decide)]))) rfl<|J.c hK4<|J.O 0 1 5 11 ?_
  refine J.a5 ?_
  refine J.W hK2<|J.E 0 1 ?_
  refine J.g λK5 hK5=>J.b V<|J.f (qAC V V) V<|J.a2 3 qBX qBG V V V V V<|J.f (qAl V V qE1 qBG (m:=blk gb [Ptr gd,I first,I (size:Nat),I (hat:Nat),W64 hturn,I (hend:Nat),.slice Ar nr cr,.bool false] 223) (by simp) (vs:= [I (hat:Nat),W64 hturn,I (hend:Nat),.slice Ar nr cr]) (qGI qAP.blk0 (λj u hj=>by match j,hj with|0,hj=>exact hj|1,hj=>exact hj|2,hj=>exact hj|3,hj=>exact hj)) rfl) rfl<|J.q (qAO rfl qHv rfl) rfl λg6 _=>?_
  change J _ _ _ [blk gb [Ptr gd,I first,I (size:Nat),I (hat:Nat),W64 hturn,I (hend:Nat),.slice Ar nr cr,.bool false] 223,mm,F,blk g6 _ 221] _
  refine J.b1 (qAG (l:= [I 0,W64 0,I 0,.slice none 0 0]) (i:=3) (vs:= [I (hat:Nat),W64 hturn,I (hend:Nat),.slice Ar nr cr]) V V V V V qBG V V) V V λ_ _=>?_
  change J _ _ _ [_,_,_,blk g6 [I (hat:Nat),W64 hturn,I (hend:Nat),.slice Ar nr cr] 221] _
  refine J.c hK5<|J.G 0 1 6 ?_
  refine J.k λK6 hK6=>J.g λK7 hK7=>J.b V<|J.q (qAB V V ent165 (Ct.use0 (λF' hF=>qJ2 F' gb gd first size hat hturn hend Ar nr cr false (qAP.blk0.mono (hF (blk gb [Ptr gd,I first,I (size:Nat),I (hat:Nat),W64 hturn,I (hend:Nat),.slice Ar nr cr,.bool false] 223) (by simp))) (by omega) (by omega)))) rfl λg18 _=>J.b rfl<|J.f (qAg u9_ rfl rfl) rfl<|J.q (qAB rfl rfl ent166 (Ct.use0 (λF' hF=>by have:=qCL F' s.length (by omega);rw [←hn] at this;exact this))) rfl λg21 _=>J.f ((qAT rfl rfl rfl).no (by omega)) rfl<|J.b rfl<|J.T (qAA (j:=3) rfl rfl qBH rfl qCA rfl) rfl<|J.T (qAD 3 rfl rfl rfl qCR rfl) rfl<|J.T (qAY qAh rfl rfl) rfl<|J.T ((qA9 rfl rfl rfl).no (by omega)) rfl<|J.b rfl<|J.c hK7<|J.O 0 1 6 28 ?_
  refine J.a5 ?_
  refine J.W hK6<|J.G 0 1 6 ?_
  refine J.g λK8 hK8=>J.a2 1 qBH qCG V V V V V<|J.c2 3 qCZ V V V V V<|J.f ((qGw V V V).as (v':=W64 t') (congrArg (Value.int .u64) ht'.symm)) V<|J.a2 1 qBH qCG V V V V V<|J.b1 (qAV (i:=3) (vs:= [W64 t']) V V V V V qCG V (by simp)) rfl rfl λ_ _=>?_
  change J _ _ _ [_,_,_,blk g6 [I (hat:Nat),W64 t',I (hend:Nat),.slice Ar nr cr] 221] _
  refine J.c hK8<|J.G 0 1 6 ?_
  refine J.g λK9 hK9=>J.b V<|J.c8 3 qE1 qBG V V V V V<|J.b V<|J.q (qAB V V ent167 (Ct.useA [blk gb [Ptr gd,I first,I (size:Nat),I (hat:Nat),W64 hturn,I (hend:Nat),.slice Ar nr cr,.bool false] 223,mm] [F,blk g6 [I (hat:Nat),W64 t',I (hend:Nat),.slice Ar nr cr] 221] (A':=λx:Hp×Option Addr×Nat×Hp=> [blk gb [Ptr gd,I first,I (size:Nat),I (hat:Nat),W64 t',I ((hend+n:Nat):Int),.slice x.2.1 (nr+1) x.2.2.1,.bool false] 223,x.1]) (new:=λx=> [x.2.2.2]) (λF' hF=>qDu F' mm (hK.mo hF) gb gd first size hat hturn hend Ar nr cr false d C f hb hok hn2 (hKp.mono (hF F (by simp))) hn3 hat t' hend Ar nr cr R hR (hRs.mono (hF F (by simp))) s hs n hn ht hnr (by omega) he))) rfl ?_
  rintro⟨m36,A36,c36,m37⟩ ⟨hd36,h36⟩
  change J _ _ _ [blk gb [Ptr gd,I first,I (size:Nat),I (hat:Nat),W64 t',I ((hend+n:Nat):Int),.slice A36 (nr+1) c36,.bool false] 223,m36,_,_,m37] _
  refine J.b V<|J.c hK9<|J.A 4 ?_
  exact J.D<|J.Z hw0 V (m36,A36,c36,m37) V ⟨hd36,h36⟩ [0,1,2,4] V (by decide)
theorem qKE(F mm:Hp)(hK:KF F)(gb gd:Nat)(first:Int)(size hat:Nat)(hturn:UInt64)(hend:Nat)(Ar:Option Addr)(nr cr:Nat)(d:Dk)(C:Option Addr)(f:Nat)(hb:Dsk mm gd d C f)(hok:d.ok)(hn2:d.wait.length≤1048576)(hKp:Sl F 1 C d.keep.length f (qAR d.keep))(hn3:d.keep.length≤9223372036854775807)(R:List (List UInt8))(hR:R.length=nr)(hRs:Sl F 1 Ar nr cr (qAH R))(s:List UInt8)(hs:s.length≤900)(n:Nat)(hn:n=qAx s.length)(t':UInt64)(ht':(t'.toNat:Int)=max (hturn.toNat:Int) 1)(ht:t'.toNat<2^(8*4))(hnr:nr<65536)(hp:hat+size≤1048576)(hfit:hend+n≤size)(he: ¬(qBM d (hat+hend) (λi=>(prt t' (UInt64.ofNat nr) s n i).text) n).2=0):
    Ct prog 121 [Ptr gb,Str s] [blk gb [Ptr gd,I first,I (size:Nat),I (hat:Nat),W64 hturn,I (hend:Nat),.slice Ar nr cr,.bool false] 223,mm,F] (λ_:Hp=>I (qBM d (hat+hend) (λi=>(prt t' (UInt64.ofNat nr) s n i).text) n).2) (λx=>Dsk x gd (qBM d (hat+hend) (λi=>(prt t' (UInt64.ofNat nr) s n i).text) n).1 C f) (λx=> [blk gb [Ptr gd,I first,I (size:Nat),I (hat:Nat),W64 hturn,I (hend:Nat),.slice Ar nr cr,.bool true] 223,x,F]):=by
  have hn1:=qCm s.length
  refine Ct.walk func121 rfl ntmps121 rfl (λw0 hw0=>?_)
  change J _ [(0,_),(1,_)] _ _ _
  refine J.g λK1 hK1=>J.b V<|J.c hK1<|J.E 0 1 ?_
  refine J.k λK2 hK2=>J.g λK3 hK3=>J.j 2 V<|J.q ((qAB V V ent164 (Ct.use0 (λF' hF=>qIs F' gb gd first size hat hturn hend Ar nr cr false (qAP.blk0.mono (hF (blk gb [Ptr gd,I first,I (size:Nat),I (hat:Nat),W64 hturn,I (hend:Nat),.slice Ar nr cr,.bool false] 223) (by simp))) s)))) rfl λg9 _=>J.b rfl<|J.c hK3<|J.G 0 1 5 ?_
  refine J.g λK4 hK4=>J.b V<|J.f ((qAU V V V).no (λh=>h (by rw [if_neg (by omega),if_neg (by decide)]))) rfl<|J.c hK4<|J.O 0 1 5 11 ?_
  refine J.a5 ?_
  refine J.W hK2<|J.E 0 1 ?_
  refine J.g λK5 hK5=>J.b V<|J.f (qAC V V) V<|J.a2 3 qBX qBG V V V V V<|J.f (qAl V V qE1 qBG (m:=blk gb [Ptr gd,I first,I (size:Nat),I (hat:Nat),W64 hturn,I (hend:Nat),.slice Ar nr cr,.bool false] 223) (by simp) (vs:= [I (hat:Nat),W64 hturn,I (hend:Nat),.slice Ar nr cr]) (qGI qAP.blk0 (λj u hj=>by match j,hj with|0,hj=>exact hj|1,hj=>exact hj|2,hj=>exact hj|3,hj=>exact hj)) rfl) rfl<|J.q (qAO rfl qHv rfl) rfl λg6 _=>?_
  change J _ _ _ [blk gb [Ptr gd,I first,I (size:Nat),I (hat:Nat),W64 hturn,I (hend:Nat),.slice Ar nr cr,.bool false] 223,mm,F,blk g6 _ 221] _
  refine J.b1 (qAG (l:= [I 0,W64 0,I 0,.slice none 0 0]) (i:=3) (vs:= [I (hat:Nat),W64 hturn,I (hend:Nat),.slice Ar nr cr]) V V V V V qBG V V) V V λ_ _=>?_
  change J _ _ _ [_,_,_,blk g6 [I (hat:Nat),W64 hturn,I (hend:Nat),.slice Ar nr cr] 221] _
  refine J.c hK5<|J.G 0 1 6 ?_
  refine J.k λK6 hK6=>J.g λK7 hK7=>J.b V<|J.q (qAB V V ent165 (Ct.use0 (λF' hF=>qJ2 F' gb gd first size hat hturn hend Ar nr cr false (qAP.blk0.mono (hF (blk gb [Ptr gd,I first,I (size:Nat),I (hat:Nat),W64 hturn,I (hend:Nat),.slice Ar nr cr,.bool false] 223) (by simp))) (by omega) (by omega)))) rfl λg18 _=>J.b rfl<|J.f (qAg u9_ rfl rfl) rfl<|J.q (qAB rfl rfl ent166 (Ct.use0 (λF' hF=>by have:=qCL F' s.length (by omega);rw [←hn] at this;exact this))) rfl λg21 _=>J.f ((qAT rfl rfl rfl).no (by omega)) rfl<|J.b rfl<|J.T (qAA (j:=3) rfl rfl qBH rfl qCA rfl) rfl<|J.T (qAD 3 rfl rfl rfl qCR rfl) rfl<|J.T (qAY qAh rfl rfl) rfl<|J.T ((qA9 rfl rfl rfl).no (by omega)) rfl<|J.b rfl<|J.c hK7<|J.O 0 1 6 28 ?_
  refine J.a5 ?_
  refine J.W hK6<|J.G 0 1 6 ?_
  refine J.g λK8 hK8=>J.a2 1 qBH qCG V V V V V<|J.c2 3 qCZ V V V V V<|J.f ((qGw V V V).as (v':=W64 t') (congrArg (Value.int .u64) ht'.symm)) V<|J.a2 1 qBH qCG V V V V V<|J.b1 (qAV (i:=3) (vs:= [W64 t']) V V V V V qCG V (by simp)) rfl rfl λ_ _=>?_
  change J _ _ _ [_,_,_,blk g6 [I (hat:Nat),W64 t',I (hend:Nat),.slice Ar nr cr] 221] _
  refine J.c hK8<|J.G 0 1 6 ?_
  refine J.g λK9 hK9=>J.b V<|J.c8 3 qE1 qBG V V V V V<|J.b V<|J.q (qAB V V ent167 (Ct.useA [blk gb [Ptr gd,I first,I (size:Nat),I (hat:Nat),W64 hturn,I (hend:Nat),.slice Ar nr cr,.bool false] 223,mm] [F,blk g6 [I (hat:Nat),W64 t',I (hend:Nat),.slice Ar nr cr] 221] (A':=λx:Hp=> [blk gb [Ptr gd,I first,I (size:Nat),I (hat:Nat),W64 hturn,I (hend:Nat),.slice Ar nr cr,.bool true] 223,x]) (new:=λ_=> []) (λF' hF=>qEZ F' mm (hK.mo hF) gb gd first size hat hturn hend Ar nr cr false d C f hb hok hn2 (hKp.mono (hF F (by simp))) hn3 hat t' hend Ar nr cr R hR (hRs.mono (hF F (by simp))) s hs n hn ht hnr (by omega) he))) rfl ?_
  rintro m36 hd36
  change J _ _ _ [blk gb [Ptr gd,I first,I (size:Nat),I (hat:Nat),W64 hturn,I (hend:Nat),.slice Ar nr cr,.bool true] 223,m36,_,_] _
  refine J.b V<|J.c hK9<|J.A 4 ?_
  exact J.D<|J.Z hw0 V m36 V hd36 [0,1,2] V (by decide)
theorem qGK{d:Dk}(h:d.armed=false):d.burn=d∧ ¬d.burns:=⟨by unfold Dk.burn;rw [if_neg (by rw [h];decide)],λe=>by have:=e.1;rw [h] at this;exact absurd this (by decide)⟩
theorem qBR{d:Dk}(h:d.off=false){i:Nat}(hi:i<d.last.length):d.ready (i:Int)=0:=by unfold Dk.ready;rw [h,if_neg (by decide),if_neg (by omega)]
end Go.Proofs.YtfldiegfenndjaaGreatDoor
