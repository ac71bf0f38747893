/- A part of the proof. -/
import Derived.Test.YtllnfioplpipiaaGreatDoorTopOrG8
import Derived.Test.YtllnfioplpipiaaGreatDoorTopOrG23
import Derived.Test.YtllnfioplpipiaaGreatDoorTopOrG7
set_option linter.unusedSimpArgs false
set_option linter.unusedVariables false
namespace Go.Proofs.YtllnfioplpipiaaGreatDoor
open Go Go.Fw Go.Proofs.Tryz
set_option maxRecDepth 100000
set_option maxHeartbeats 1000000
theorem ent89:qAD prog 89:=qAD.of func89 rfl (by kernel_rfl)
theorem ent90:qAD prog 90:=qAD.of func90 rfl (by kernel_rfl)
theorem ent109:qAD prog 109:=qAD.of func109 rfl (by kernel_rfl)
theorem ent151:qAD prog 151:=qAD.of func151 rfl (by kernel_rfl)
theorem ent152:qAD prog 152:=qAD.of func152 rfl (by kernel_rfl)
theorem ent168:qAD prog 168:=qAD.of func168 rfl (by kernel_rfl)
theorem ent199:qAD prog 199:=qAD.of func199 rfl (by kernel_rfl)
theorem ent200:qAD prog 200:=qAD.of func200 rfl (by kernel_rfl)
theorem ent207:qAD prog 207:=qAD.of func207 rfl (by kernel_rfl)
theorem ent236:qAD prog 236:=qAD.of func236 rfl (by kernel_rfl)
theorem ent237:qAD prog 237:=qAD.of func237 rfl (by kernel_rfl)
theorem el289:qCQ prog 289 [.int .u64 0,.int .u64 0,.int .i64 0,.int .i64 0,Str [],Str []] 64:=qCQ.of (by kernel_rfl) rfl
theorem qO8(g:Nat):Wtr (blk g [.pointer none,.slice none 0 0,I 0] 133) g [] 0:=
 ⟨[.pointer none,.slice none 0 0,I 0],λ_=>none,none,0,none,by funext k;simp only [U];cases blk g [.pointer none,.slice none 0 0,I 0] 133 k<;>rfl,λ_=> .inr rfl,rfl,⟨rfl,.inl rfl,rfl,qBU.nil,.inl rfl⟩,rfl⟩
theorem qMV{n:UInt64}{size:Nat}(h:n.toNat<2^(8*size))(bs:List UInt8):qJO n size bs 0=bs++Sha.numB n size∧qBp (okN n size) 10 0=0:=by
 have e:okN n size=true:=decide_eq_true h
 have f:qBp (okN n size) 10 0=0:=by unfold qBp;rw [e,if_neg (by simp)]
 exact⟨by unfold qJO;rw [if_pos f],f⟩
def qRg(s:List UInt8):List UInt8:=(Sha.tagged 8 [s]).take 8
def qHl(turn num:UInt64)(s:List UInt8):List UInt8:=(Sha.tagged 7 [Sha.numB turn 4,Sha.numB num 2,s]).take 8
theorem qCD(F:Hp)(n:UInt64)(size:Nat)(h1:1≤size)(h8:size<8)(hn:n.toNat<2^(8*size)):
    Ct prog 237 [W64 n,I size] [F] (λ_:Unit=>Str (Sha.numB n size)) (λ_=>True) (λ_=> [F]):=by
  refine Ct.walk func237 rfl ntmps237 rfl (λw0 hw0=>?_)
  change J _ [(0,_),(1,_)] _ _ _
  refine J.g λK1 hK1=>J.b O<|J.c hK1<|J.E 0 1 ?_
  refine J.g λK2 hK2=>J.k (qAN O qJ8 O) O λg5 _=>?_
  change J _ _ _ [F,blk g5 _ 133] _
  refine J.c hK2<|J.G 0 1 5 ?_
  refine J.g λK3 hK3=>J.p 2 O<|J.k (qAA O O ent108 (Ct.use1 1 (m':=λx:Hp=>x) (new:=λ_=> []) O (λF' _=>qDu F' (blk g5 [.pointer none,.slice none 0 0,I 0] 133) g5 [] 0 (qO8 g5) (by decide) n size h1 h8))) O ?_
  rintro m11 hw11
  change J _ _ _ [_,m11] _
  rw [(qMV hn []).1,(qMV hn []).2,List.nil_append] at hw11
  refine J.k (qAA O O ent54 (Ct.use1 1 (m':=λx:Hp=>x) (new:=λ_=> []) O (λF' _=>qDK F' m11 g5 (Sha.numB n size) 0 hw11 (by rw [Sha.numB_length];omega)))) rfl ?_
  rintro m12 _
  change J _ _ _ [_,m12] _
  refine J.p 5 O<|J.c hK3<|J.u 6 ?_
  refine J.g λK4 hK4=>J.p 2 O<|J.c hK4<|J.u 4 ?_
  exact J.D<|J.M hw0 O () O trivial [0] O (by decide)
theorem qOf(F:Hp)(hK:KF F)(s:List UInt8)(hs:s.length≤1048576):Ct prog 236 [Str s] [F] (λ_:Unit=>Str (qRg s)) (λ_=>True) (λ_=> [F]):=by
 refine Ct.walk func236 rfl ntmps236 rfl (λw0 hw0=>?_)
 change J _ [(0,_)] _ _ _
 refine J.g λK1 hK1=>J.b O<|J.c hK1<|J.u 0 ?_
 refine J.g λK2 hK2=>J.b O<|J.k (qAF (l:= [.tmp 3]) (xs:= [[Str (s)]]) O O O O qAe el9 O (by decide) (by decide) (by simp)) rfl λg4 _=>?_
 change J _ _ _ [F,blk g4 [Str (s)] 9] _
 refine J.k (qAA O O ent75 (Ct.use0 (λF' hF=>qAv F' (hK.mono (hF _ (by simp))) 8 (some ⟨g4,0,none⟩) 1 1 [s] ((slS [s] rfl).mono (hF (blk g4 (([s]:List (List UInt8)).map λs=>Str s) 9) (by simp))) (by simp;omega) (by decide)))) rfl λg5 _=>J.f ((qA1 (l:=0) (h:=8) u9_ rfl rfl rfl rfl (by rw [Sha.tagged_length];decide)).as (v':=Str (qRg s)) (congrArg Str List.drop_zero)) rfl<|J.b rfl<|J.c hK2<|J.u 2 ?_
 exact J.D<|J.M hw0 O () O trivial [0] O (by decide)
theorem qQx(F:Hp)(hK:KF F)(turn num:UInt64)(s:List UInt8)(ht:turn.toNat<2^(8*4))(hn:num.toNat<2^(8*2))(hs:s.length≤1048576):Ct prog 200 [W64 turn,W64 num,Str s] [F] (λ_:Unit=>Str (qHl turn num s)) (λ_=>True) (λ_=> [F]):=by
 refine Ct.walk func200 rfl ntmps200 rfl (λw0 hw0=>?_)
 change J _ [(0,_),(1,_),(2,_)] _ _ _
 refine J.g λK1 hK1=>J.b O<|J.c hK1<|J.G 0 1 2 ?_
 refine J.g λK2 hK2=>J.b O<|J.k (qAA O O ent237 (Ct.use0 (λF' hF=>qCD F' turn 4 (by decide) (by decide) ht))) O λg8 _=>J.b O<|J.k (qAA O O ent237 (Ct.use0 (λF' hF=>qCD F' num 2 (by decide) (by decide) hn))) O λg10 _=>J.b O<|J.k (qAF (l:= [.tmp 8,.tmp 10,.tmp 11]) (xs:= [[Str (Sha.numB turn 4)],[Str (Sha.numB num 2)],[Str (s)]]) O O O O qAe el9 O (by decide) (by decide) (by simp)) rfl λg12 _=>?_
 change J _ _ _ [F,blk g12 [Str (Sha.numB turn 4),Str (Sha.numB num 2),Str (s)] 9] _
 refine J.k (qAA O O ent75 (Ct.use0 (λF' hF=>qAv F' (hK.mono (hF _ (by simp))) 7 (some ⟨g12,0,none⟩) 3 3 [Sha.numB turn 4,Sha.numB num 2,s] ((slS [Sha.numB turn 4,Sha.numB num 2,s] rfl).mono (hF (blk g12 (([Sha.numB turn 4,Sha.numB num 2,s]:List (List UInt8)).map λs=>Str s) 9) (by simp))) (by simp only [List.flatten_cons,List.flatten_nil,List.append_nil,List.length_append,Sha.numB_length];omega) (by decide)))) rfl λg13 _=>J.f ((qA1 (l:=0) (h:=8) u9_ rfl rfl rfl rfl (by rw [Sha.tagged_length];decide)).as (v':=Str (qHl turn num s)) (congrArg Str List.drop_zero)) rfl<|J.b rfl<|J.c hK2<|J.u 6 ?_
 exact J.D<|J.M hw0 O () O trivial [0] O (by decide)
def qBM(n:Nat):Nat:=if n<1 then 1 else(n-1)/39+1
theorem qFM(F:Hp)(n:Nat)(hn:n≤1048576):Ct prog 109 [I n] [F] (λ_:Unit=>I (qBM n:Nat)) (λ_=>True) (λ_=> [F]):=by
 refine Ct.walk func109 rfl ntmps109 rfl (λw0 hw0=>?_)
 change J _ [(0,_)] _ _ _
 refine J.g λK1 hK1=>J.b O<|J.c hK1<|J.u 0 ?_
 refine J.j λK2 hK2=>J.g λK3 hK3=>J.b O<|J.f (qAT O O O) O<|J.c hK3<|J.E 0 4 ?_
 refine J.a2 O (λh4=>?_) (λh4=>?_)
 ·
  refine J.g λK4 hK4=>J.b O<|J.c hK4<|J.u 2 ?_
  exact J.D<|J.a4<|J.M hw0 O () (by unfold qBM;rw [if_pos (by omega)];rfl) trivial [0] rfl (by decide)
 refine J.W hK2<|J.u 0 ?_
 refine J.g λK5 hK5=>J.b O<|J.f ((qAw O O O (by omega)).nat (n-1) (by omega)) O<|J.f ((qGS (a:=((n-1:Nat):Int)) (b:=((39:Nat):Int)) O O O (by omega)).as (v':=I (((n-1)/39:Nat):Int)) (congrArg I (Int.ofNat_tdiv _ _).symm)) O<|J.f (qAO O O O (by omega)) O<|J.b O<|J.c hK5<|J.u 2 ?_
 exact J.D<|J.M hw0 O () (by unfold qBM;rw [if_neg (by omega)];rfl) trivial [0] rfl (by decide)
structure Prt where
 turn:UInt64
 num:UInt64
 at_:Nat
 all:Nat
 name:List UInt8
 con:List UInt8
def Prt.cells(p:Prt):List Value:= [W64 p.turn,W64 p.num,I p.at_,I p.all,Str p.name,Str p.con]
structure Prt.ok (p:Prt):Prop where
 t:p.turn.toNat<2^(8*4)
 n:p.num.toNat<2^(8*2)
 a:p.at_<256
 l:p.all<256
 m:p.name.length≤8
 c:p.con.length≤39
def Prt.b1(p:Prt):List UInt8:=Sha.numB p.turn 4++Sha.numB p.num 2
def Prt.b2(p:Prt):List UInt8:=p.b1++Sha.numB (UInt64.ofNat p.at_) 1
def Prt.b3(p:Prt):List UInt8:=p.b2++Sha.numB (UInt64.ofNat p.all) 1
def Prt.b4(p:Prt):List UInt8:=p.b3++Sha.numB (UInt64.ofNat p.con.length) 1
def Prt.b5(p:Prt):List UInt8:=p.b4++p.name
def Prt.body(p:Prt):List UInt8:=p.b5++p.con
def Prt.pad(p:Prt):List UInt8:=p.body++List.replicate (56-p.body.length) 0
def Prt.text(p:Prt):List UInt8:=p.pad++qRg p.pad
theorem qLM(s:List UInt8):(qRg s).length=8:=by unfold qRg;rw [List.length_take,Sha.tagged_length];rfl
theorem qOj(t n:UInt64)(s:List UInt8):(qHl t n s).length=8:=by unfold qHl;rw [List.length_take,Sha.tagged_length];rfl
theorem Prt.b4_len(p:Prt):p.b4.length=9:=by unfold Prt.b4 Prt.b3 Prt.b2 Prt.b1;simp only [List.length_append,Sha.numB_length]
theorem Prt.body_len(p:Prt):p.body.length=9+p.name.length+p.con.length:=by unfold Prt.body Prt.b5;rw [List.length_append,List.length_append,p.b4_len]
theorem Prt.pad_len{p:Prt}(h:p.ok):p.pad.length=56:=by
 have:=p.body_len
 have:=h.m
 have:=h.c
 unfold Prt.pad;rw [List.length_append,List.length_replicate];omega
theorem Prt.text_len{p:Prt}(h:p.ok):p.text.length=64:=by unfold Prt.text;rw [List.length_append,p.pad_len h,qLM]
theorem n1ok{n:Nat}(h:n<256):(UInt64.ofNat n).toNat<2^(8*1):=by rw [qBD (by omega)];exact h
theorem qKk(F:Hp)(hK:KF F)(p:Prt)(hp:p.ok):Ct prog 207 [.agg p.cells.toArray] [F] (λ_:Unit=>Str p.text) (λ_=>True) (λ_=> [F]):=by
 obtain ⟨h1,h2,h3,h4,h5,h6⟩:=hp
 have hbl:=p.body_len
 have hpl:=Prt.pad_len ⟨h1,h2,h3,h4,h5,h6⟩
 refine Ct.walk func207 rfl ntmps207 rfl (λw0 hw0=>?_)
 change J _ [(0,_)] _ _ _
 refine J.g λK1 hK1=>J.k (qAi O O (l:=p.cells) O) O λg1 _=>?_
 change J _ _ _ [F,blk g1 p.cells 289] _
 refine J.b O<|J.c hK1<|J.u 1 ?_
 refine J.j λK2 hK2=>J.c1 [blk g1 p.cells 289] [] (.y 0 (.y 1 (.y 3 (.y 4 (.y 7 (.y 8 (.y 9 (.y 12 (.y 13 (.y 14 (.y 17 (.y 18 (.y 19 (.y 20 (.y 23 (.y 24 (.y 26 (.y 27 (.e 2 (.e 5 (.y 6 (.e 10 (.y 11 (.e 15 (.y 16 (.e 21 (.y 22 (.y 25 (.y 28 (.y 29 .nil)))))))))))))))))))))))))))))) Tryz.wide (by decide+kernel) (by simp) ?_
 refine J.q O (qAB (j:=0) O O qDh O qF9 O) O O<|J.q O (qAE 0 O O O qHt O) O O<|J.q O (qAB (j:=1) O O qDh O qF9 O) O O<|J.q O (qAE 0 O O O qHt O) O O<|J.q O (qAB (j:=2) O O qDh O z3_ O) O O<|J.q O (qAE 0 O O O b3_ O) O O<|J.q O (qAs O O u3_ qEi (m:=p.at_) (by omega)) O O<|J.q O (qAB (j:=3) O O qDh O z3_ O) O O<|J.q O (qAE 0 O O O b3_ O) O O<|J.q O (qAs O O u3_ qEi (m:=p.all) (by omega)) O O<|J.q O (qAB (j:=5) O O qDh O z9_ O) O O<|J.q O (qAE 0 O O O b9_ O) O O<|J.q O (qAl u9_ O O) O O<|J.q O (qAs O O u3_ qEi (m:=p.con.length) (by omega)) O O<|J.q O (qAB (j:=4) O O qDh O z9_ O) O O<|J.q O (qAE 0 O O O b9_ O) O O<|J.q O (qAB (j:=5) O O qDh O z9_ O) O O<|J.q O (qAE 0 O O O b9_ O) O O<|J.a9 O (qAA O O ent237 (Ct.use0 (λF' hF=>qCD F' p.turn 4 (by decide) (by decide) h1))) O (by simp) λg6 _=>J.a9 rfl (qAA rfl rfl ent237 (Ct.use0 (λF' hF=>qCD F' p.num 2 (by decide) (by decide) h2))) rfl (by simp) λg9 _=>J.q rfl ((qA5 rfl rfl rfl (by first|(have hb4:=p.b4_len;have hbl:=p.body_len;simp only [List.length_append,List.length_replicate,Prt.b4,Prt.b3,Prt.b2,Prt.b1,Prt.b5,Prt.body,Sha.numB_length] at hb4 hbl⊢;omega)|omega)).as (v':=Str (p.b1)) rfl) rfl rfl<|J.a9 rfl (qAA rfl rfl ent237 (Ct.use0 (λF' hF=>qCD F' (UInt64.ofNat p.at_) 1 (by decide) (by decide) (n1ok h3)))) rfl (by simp) λg14 _=>J.q rfl ((qA5 rfl rfl rfl (by first|(have hb4:=p.b4_len;have hbl:=p.body_len;simp only [List.length_append,List.length_replicate,Prt.b4,Prt.b3,Prt.b2,Prt.b1,Prt.b5,Prt.body,Sha.numB_length] at hb4 hbl⊢;omega)|omega)).as (v':=Str (p.b2)) rfl) rfl rfl<|J.a9 rfl (qAA rfl rfl ent237 (Ct.use0 (λF' hF=>qCD F' (UInt64.ofNat p.all) 1 (by decide) (by decide) (n1ok h4)))) rfl (by simp) λg19 _=>J.q rfl ((qA5 rfl rfl rfl (by first|(have hb4:=p.b4_len;have hbl:=p.body_len;simp only [List.length_append,List.length_replicate,Prt.b4,Prt.b3,Prt.b2,Prt.b1,Prt.b5,Prt.body,Sha.numB_length] at hb4 hbl⊢;omega)|omega)).as (v':=Str (p.b3)) rfl) rfl rfl<|J.a9 rfl (qAA rfl rfl ent237 (Ct.use0 (λF' hF=>qCD F' (UInt64.ofNat p.con.length) 1 (by decide) (by decide) (n1ok (by omega))))) rfl (by simp) λg25 _=>?_
 refine J.q O ((qA5 O O O (by first|(have hb4:=p.b4_len;have hbl:=p.body_len;simp only [List.length_append,List.length_replicate,Prt.b4,Prt.b3,Prt.b2,Prt.b1,Prt.b5,Prt.body,Sha.numB_length] at hb4 hbl⊢;omega)|omega)).as (v':=Str (p.b4)) rfl) rfl rfl<|J.q rfl ((qA5 rfl rfl rfl (by first|(have hb4:=p.b4_len;have hbl:=p.body_len;simp only [List.length_append,List.length_replicate,Prt.b4,Prt.b3,Prt.b2,Prt.b1,Prt.b5,Prt.body,Sha.numB_length] at hb4 hbl⊢;omega)|omega)).as (v':=Str (p.b5)) rfl) rfl rfl<|J.q rfl ((qA5 rfl rfl rfl (by first|(have hb4:=p.b4_len;have hbl:=p.body_len;simp only [List.length_append,List.length_replicate,Prt.b4,Prt.b3,Prt.b2,Prt.b1,Prt.b5,Prt.body,Sha.numB_length] at hb4 hbl⊢;omega)|omega)).as (v':=Str (p.body)) rfl) rfl rfl<|J.c6 ?_
 refine J.b9<|J.A (J.H hK2 ?_)
 refine J.u 3 ?_
 refine J.g λK3 hK3=>J.p 2 O<|J.f (qAl u9_ O O) O<|J.f ((qAw O O O (by omega)).nat (56-p.body.length) (by omega)) O<|J.k (qAA O O ent26 (Ct.use0 (λF' hF=>qEA F' (56-p.body.length) (by omega)))) O λg37 _=>J.f ((qA5 O O O (by rw [List.length_replicate];omega)).as (v':=Str p.pad) rfl) rfl<|J.b rfl<|J.c hK3<|J.u 3 ?_
 refine J.g λK4 hK4=>J.p 2 O<|J.k (qAA O O ent236 (Ct.use0 (λF' hF=>qOf F' (hK.mono (hF _ (by simp))) p.pad (by omega)))) rfl λg41 _=>J.f ((qA5 rfl rfl rfl (by rw [qLM];omega)).as (v':=Str p.text) rfl) rfl<|J.b rfl<|J.c hK4<|J.u 2 ?_
 exact J.D<|J.M hw0 O () O trivial [0] O (by decide)
def R0(s:List UInt8):RS:=⟨s.take 56,0⟩
def R1(s:List UInt8):RS:=(R0 s).take 4
def R2(s:List UInt8):RS:=(R1 s).take 2
def R3(s:List UInt8):RS:=(R2 s).take 1
def R4(s:List UInt8):RS:=(R3 s).take 1
def R5(s:List UInt8):RS:=(R4 s).take 1
def R6(s:List UInt8):RS:=(R5 s).take 8
def qTv(s:List UInt8):Nat:=min (qEL ((R4 s).out 1)) 39
def rdp(s:List UInt8):Prt:=⟨UInt64.ofNat (qEL ((R0 s).out 4)),UInt64.ofNat (qEL ((R1 s).out 2)),qEL ((R2 s).out 1),qEL ((R3 s).out 1),(R5 s).out 8,(R6 s).out (qTv s)⟩
def qIa:Prt:=⟨0,0,0,0,[],[]⟩
theorem qBv(st:RS)(n k:Nat)(h:256^n≤k):qEL (st.out n)<k:=
 Nat.lt_of_lt_of_le (qJu _) (Nat.le_trans (Nat.pow_le_pow_right (by decide) (st.out_len n)) h)
theorem qT9(s:List UInt8):(rdp s).ok:=by
  have h4:=qBv (R0 s) 4 4294967296 (by decide)
  have h2:=qBv (R1 s) 2 65536 (by decide)
  refine⟨?_,?_,qBv _ 1 256 (by decide),qBv _ 1 256 (by decide),RS.out_len _ _,Nat.le_trans (RS.out_len _ _) (Nat.min_le_right _ _)⟩
  · show(UInt64.ofNat (qEL ((R0 s).out 4))).toNat<_
    rw [qBD (by omega)];exact h4
  · show(UInt64.ofNat (qEL ((R1 s).out 2))).toNat<_
    rw [qBD (by omega)];exact h2
def qB4(s:List UInt8):Prt×Bool:=if qRg (s.take 56)=s.drop 56 then(rdp s,decide ((rdp s).text=s)) else(qIa,false)
theorem qKn(F:Hp)(hK:KF F)(s:List UInt8)(hs:s.length=64):Ct prog 199 [Str s] [F] (λ_:Unit=> .tuple #[.agg (qB4 s).1.cells.toArray,.bool (qB4 s).2]) (λ_=>True) (λ_=> [F]):=by
 have hn4:=qBv (R4 s) 1 256 (by decide)
 refine Ct.walk func199 rfl ntmps199 rfl (λw0 hw0=>?_)
 change J _ [(0,_)] _ _ _
 refine J.g λK1 hK1=>J.k (qAN O qJ7 O) O λg2 _=>?_
 change J _ _ _ [F,blk g2 _ 289] _
 refine J.b O<|J.c hK1<|J.E 0 2 ?_
 refine J.j λK2 hK2=>J.j λK3 hK3=>J.c1 [F] [] (.y 0 (.y 1 (.y 3 (.y 4 (.e 2 (.y 5 .nil)))))) Tryz.wide (by decide+kernel) (by simp) ?_
 refine J.T ?_
 refine J.q O ((qA1 (l:=0) (h:=56) u9_ O O O O ⟨by omega,by omega⟩).as (v':=Str (s.take 56)) (congrArg Str List.drop_zero)) O O<|J.T ?_
 refine J.q O ((qA1 (l:=56) (h:=s.length) u9_ O O O O ⟨by omega,by omega⟩).as (v':=Str (s.drop 56)) (by rw [List.take_length])) rfl rfl<|J.a9 rfl (qAA rfl rfl ent236 (Ct.use0 (λF' hF=>qOf F' (hK.mono (hF _ (by simp))) (s.take 56) (by rw [List.length_take];omega)))) rfl (by simp) λg9 _=>J.q rfl (qGQ rfl rfl rfl) rfl rfl<|J.b9<|J.A (J.H hK3 ?_)
 refine J.G 0 2 12 ?_
 refine J.a2 O (λh12=>?_) (λh12=>?_)
 ·
  refine J.g λK4 hK4=>J.f (qAM (l:= []) (vs:= []) (places:= [(0,1),(1,1),(2,1),(3,1),(4,1),(5,1)]) (r:= [W64 0,W64 0,I 0,I 0,Str [],Str []]) O O O qDh qJ7 (λ_=>by kernel_rfl) O) O<|J.b0 (qAI (l:=qIa.cells) (i:=1) (vs:=qIa.cells) O O O O O qE3 O O) O O λ_ _=>?_
  change J _ _ _ [_,blk g2 qIa.cells 289] _
  refine J.b O<|J.c hK4<|J.E 2 3 ?_
  exact J.D<|J.a4<|J.b2 hw0 (λ_ _ h=>h) (rv2 O (RV.blkA 1 O O isAgg289 qE3) O) (qAn () (by unfold qB4;rw [if_neg (show¬qRg (s.take 56)=s.drop 56 from h12)]) trivial [0] rfl (by decide))
 refine J.W hK2<|J.E 0 2 ?_
 refine J.g λK5 hK5=>J.b O<|J.f ((qA1 (l:=0) (h:=56) u9_ O O O O ⟨by omega,by omega⟩).as (v':=Str (s.take 56)) (congrArg Str List.drop_zero)) O<|J.k (qAA O O ent91 (Ct.use (new:=λg=> [RSb g (R0 s)]) (λF' _=>(qSR F' (s.take 56)).mono (φ2:=λ_=>True) (val2:=Ptr) (ms2:=λg=>F':: [RSb g (R0 s)]) id (λ_ _=>rfl) (λ_ h=>h) (λx w0 w _ h=>h.pick [1,0] (by decide))))) O ?_
 rintro g16 _
 change J _ _ _ [F,blk g2 _ 289,RSb g16 (R0 s)] _
 refine J.b O<|J.c hK5<|J.G 0 2 4 ?_
 refine J.g λK6 hK6=>J.b O<|J.k (qAA O O ent92 (Ct.use1 2 (m':=λ_:Unit=>RSb g16 (R1 s)) (new:=λ_=> []) O (λF' _=>qFK F' g16 (R0 s) 4 (by omega) (by omega)))) O λg18 _=>?_
 change J _ _ _ [_,_,RSb g16 (R1 s)] _
 rw [N_W (show qEL ((R0 s).out 4)<18446744073709551616 from Nat.lt_of_lt_of_le (qBv _ 4 (256^4) (Nat.le_refl _)) (by decide))]
 refine J.b O<|J.k (qAA O O ent92 (Ct.use1 2 (m':=λ_:Unit=>RSb g16 (R2 s)) (new:=λ_=> []) O (λF' _=>qFK F' g16 (R1 s) 2 (by omega) (by omega)))) O λg20 _=>?_
 change J _ _ _ [_,_,RSb g16 (R2 s)] _
 rw [N_W (show qEL ((R1 s).out 2)<18446744073709551616 from Nat.lt_of_lt_of_le (qBv _ 2 (256^2) (Nat.le_refl _)) (by decide))]
 refine J.b O<|J.k (qAA O O ent92 (Ct.use1 2 (m':=λ_:Unit=>RSb g16 (R3 s)) (new:=λ_=> []) O (λF' _=>qFK F' g16 (R2 s) 1 (by omega) (by omega)))) O λg22 _=>?_
 change J _ _ _ [_,_,RSb g16 (R3 s)] _
 refine J.f (qDG O O qEi u3_ (by have:=qBv (R2 s) 1 256 (by decide);omega)) O<|J.b O<|J.k (qAA O O ent92 (Ct.use1 2 (m':=λ_:Unit=>RSb g16 (R4 s)) (new:=λ_=> []) O (λF' _=>qFK F' g16 (R3 s) 1 (by omega) (by omega)))) O λg25 _=>?_
 change J _ _ _ [_,_,RSb g16 (R4 s)] _
 refine J.f (qDG O O qEi u3_ (by have:=qBv (R3 s) 1 256 (by decide);omega)) O<|J.f (qAM (l:= [(0,.tmp 18),(1,.tmp 20),(2,.tmp 23),(3,.tmp 26)]) (vs:= [W64 (rdp s).turn,W64 (rdp s).num,I (rdp s).at_,I (rdp s).all]) (places:= [(0,1),(1,1),(2,1),(3,1),(4,1),(5,1)]) (r:= [W64 (rdp s).turn,W64 (rdp s).num,I (rdp s).at_,I (rdp s).all,Str [],Str []]) O O O qDh qJ7 (λ_=>by kernel_rfl) O) O<|J.k (qAN O qJ7 O) O λg5 _=>?_
 change J _ _ _ [_,_,_,blk g5 _ 289] _
 refine J.b0 (qAI (l:=qIa.cells) (i:=3) (vs:= [W64 (rdp s).turn,W64 (rdp s).num,I (rdp s).at_,I (rdp s).all,Str [],Str []]) O O O O O qE3 O O) O O λ_ _=>?_
 change J _ _ _ [_,_,_,blk g5 [W64 (rdp s).turn,W64 (rdp s).num,I (rdp s).at_,I (rdp s).all,Str [],Str []] 289] _
 refine J.c hK6<|J.O 0 2 4 5 ?_
 refine J.g λK7 hK7=>J.b O<|J.k (qAA O O ent92 (Ct.use1 2 (m':=λ_:Unit=>RSb g16 (R5 s)) (new:=λ_=> []) O (λF' _=>qFK F' g16 (R4 s) 1 (by omega) (by omega)))) O λg29 _=>?_
 change J _ _ _ [_,_,RSb g16 (R5 s),_] _
 refine J.f (qDG O O qEi u3_ (by omega)) O<|J.b O<|J.c hK7<|J.a0 0 2 4 5 6 ?_
 refine J.g λK8 hK8=>J.b O<|J.k (qAA O O ent157 (Ct.use1 2 (m':=λ_:Unit=>RSb g16 (R6 s)) (new:=λ_=> []) O (λF' _=>qII F' g16 (R5 s) 8))) O λg32 _=>?_
 change J _ _ _ [_,_,RSb g16 (R6 s),_] _
 refine J.a3 4 qDh z9_ O O O O O<|J.b0 (qAZ (i:=3) (vs:= [Str (rdp s).name]) O O O O O z9_ O (by simp)) rfl rfl λ_ _=>?_
 change J _ _ _ [_,_,_,blk g5 [W64 (rdp s).turn,W64 (rdp s).num,I (rdp s).at_,I (rdp s).all,Str (rdp s).name,Str []] 289] _
 refine J.c hK8<|J.a0 0 2 4 5 6 ?_
 refine J.g λK9 hK9=>J.p 2 O<|J.f ((qEU O O O).as (v':=I (qTv s:Nat)) (congrArg I (by unfold qTv;omega))) O<|J.k (qAA O O ent157 (Ct.use1 2 (m':=λ_:Unit=>RSb g16 ((R6 s).take (qTv s))) (new:=λ_=> []) O (λF' _=>qII F' g16 (R6 s) (qTv s)))) O λg37 _=>?_
 change J _ _ _ [_,_,RSb g16 ((R6 s).take (qTv s)),_] _
 refine J.a3 5 qDh z9_ O O O O O<|J.b0 (qAZ (i:=3) (vs:= [Str (rdp s).con]) O O O O O z9_ O (by simp)) rfl rfl λ_ _=>?_
 change J _ _ _ [_,_,_,blk g5 (rdp s).cells 289] _
 refine J.c hK9<|J.G 0 2 5 ?_
 refine J.j λK10 hK10=>J.c1 [F,blk g5 (rdp s).cells 289] [5,6,100003,100004] (.y 0 (.y 1 (.y 3 (.e 2 (.y 4 (.e 5 (.e 6 .nil))))))) Tryz.wide (by decide+kernel) (by simp) ?_
 refine J.q O (qAy 1 O O O isAgg289 qE3 O) O O<|J.q O (qAy 1 O O O isAgg289 qE3 O) O O<|J.f4 O (qAx O O) O O O ?_
 refine J.a9 O (qAA O O ent207 (Ct.use0 (λF' hF=>qKk F' (hK.mono (hF _ (by simp))) (rdp s) (qT9 s)))) rfl (by simp) λg41 _=>J.f4 rfl (qBQ rfl rfl rfl) rfl rfl rfl ?_
 refine J.d3 O (qAI (l:=qIa.cells) (i:=1) (vs:=(rdp s).cells) O O O O O qE3 O O) O O O λ_ _=>?_
 change J _ _ _ [_,blk g2 (rdp s).cells 289,_,_] _
 refine J.g2 O (YOp.eop (qB6 O O)) O O O O ?_
 intro _ _
 refine J.b9<|J.A (J.H hK10 ?_)
 refine J.E 2 3 ?_
 exact J.D<|J.b2 hw0 (λ_ _ h=>h) (rv2 O (RV.blkA 1 O O isAgg289 qE3) O) (qAn () (by unfold qB4;rw [if_pos (show qRg (s.take 56)=s.drop 56 from Decidable.not_not.1 h12)]) trivial [0] rfl (by decide))
theorem qMP:(qB4 (List.replicate 64 0)).2=false∨(qB4 (List.replicate 64 0)).1.turn=0:=by
  unfold qB4
  split
  · right
    show UInt64.ofNat (qEL ((R0 (List.replicate 64 0)).out 4))=0
    decide
  · exact .inl rfl
theorem qJd(F:Hp)(hK:KF F)(gh:Option Addr)(A:Option Addr)(n c:Nat)(ls:List (List UInt8))(hl:Sl F 1 A n c (qAG ls))(hn:0<n)(s:List UInt8)(hs:ls[0]?=some s)(h64:s.length=64)(hok:(qB4 s).2=true)(ht:(qB4 s).1.turn=0):
    Ct prog 152 [.pointer gh,.slice A n c] [F] (λ_:Unit=> .tuple #[.int .u64 0,Str [],I 0,.bool false]) (λ_=>True) (λ_=> [F]):=by
  refine Ct.walk func152 rfl ntmps152 rfl (λw0 hw0=>?_)
  change J _ [(0,_),(1,_)] _ _ _
  refine J.g λK1 hK1=>J.p 4 O<|J.c hK1<|J.E 0 1 ?_
  refine J.g λK2 hK2=>J.b O<|J.f (qAH (i:=0) O O O qAe z9_ hl hn) O<|J.f (qAJ O O b9_ (m:=F) (by simp) (hl.elem (qAQ hs))) rfl<|J.k (qAA rfl rfl ent199 (Ct.use0 (λF' hF=>qKn F' (hK.mono (hF _ (by simp))) s h64))) rfl λg18 _=>J.p 2 rfl<|J.f ((qAa (v:= .bool (qB4 s).2) rfl rfl rfl).as (v':= .bool true) (by rw [hok])) rfl<|J.k (qAN rfl qJ7 rfl) rfl λg8 _=>?_
  change J _ _ _ [F,blk g8 _ 289] _
  refine J.b0 (qAI (l:=qIa.cells) (i:=1) (vs:=(qB4 s).1.cells) O O O O O qE3 O O) O O λ_ _=>?_
  change J _ _ _ [_,blk g8 (qB4 s).1.cells 289] _
  refine J.b O<|J.c hK2<|J.O 0 1 8 9 ?_
  refine J.j λK3 hK3=>J.j λK4 hK4=>J.c1 [blk g8 (qB4 s).1.cells 289] [] (.y 0 (.y 1 (.y 2 (.y 3 (.y 4 (.y 5 (.y 6 (.y 7 (.y 8 (.y 9 (.y 10 (.y 11 (.y 12 (.y 13 (.y 14 (.y 15 (.y 16 (.y 17 (.y 18 (.y 19 (.y 20 (.y 21 (.y 22 (.y 23 (.y 24 (.y 25 (.y 26 (.y 27 (.y 28 (.y 29 (.y 30 (.y 31 (.y 32 (.y 33 (.y 34 (.y 35 (.y 36 (.y 37 (.y 38 (.y 39 (.y 40 (.y 41 (.y 42 (.y 43 (.y 44 (.y 45 (.y 46 .nil))))))))))))))))))))))))))))))))))))))))))))))) Tryz.wide (by decide+kernel) (by simp) ?_
  refine J.T ?_
  refine J.q O ((qAt O O).as (v':= .bool false) O) O O<|J.T ?_
  refine J.c0 O (qAB (j:=2) O O qDh O z3_ O) O O<|J.c0 O (qAE 0 O O O b3_ O) O O<|J.c0 O (qAb O O O) O O<|J.f0 ?_
  refine J.T ?_
  refine J.c4 (d:=28) O (λh28=>?_) (λh28=>?_)
  ·
    iterate 3 refine J.b3 ?_
    refine J.d8 ?_
    refine J.T ?_
    iterate 9 refine J.b3 ?_
    refine J.d8 ?_
    refine J.T ?_
    iterate 5 refine J.b3 ?_
    refine J.d8 ?_
    refine J.T ?_
    iterate 7 refine J.b3 ?_
    refine J.c5 O (Wan.un O O O O) O O ?_
    refine J.c5 O (Wan.un O O O O) O O ?_
    refine J.c5 O (Wan.un O O O O) O O ?_
    refine J.c5 O (Wan.un O O O O) O O ?_
    refine J.c5 O (Wan.un O O O O) O O ?_
    refine J.c5 O (Wan.un O O O O) O O ?_
    refine J.c5 O (Wan.un O O O O) O O ?_
    refine J.b3 ?_
    refine J.d8 ?_
    refine J.b9<|J.A (J.H hK4 ?_)
    refine J.G 1 8 67 ?_
    refine J.d0 ?_
    refine J.g λK5 hK5=>J.p 4 O<|J.c hK5<|J.O 4 5 6 7 ?_
    exact J.D<|J.a4<|J.b2 hw0 (λ_ _ h=>h) (res4 O O O O O) (qAn () O trivial [0] O (by decide))
  refine J.c0 O (qAB (j:=0) O O qDh O qF9 O) O O<|J.c0 O (qAE 0 O O O qHt O) O O<|J.c0 O ((qAY O O O).as (v':= .bool true) (by rw [ht];rfl)) rfl rfl<|J.f0 ?_
  refine J.T ?_
  iterate 9 refine J.b3 ?_
  refine J.d8 ?_
  refine J.T ?_
  iterate 5 refine J.b3 ?_
  refine J.d8 ?_
  refine J.T ?_
  iterate 7 refine J.b3 ?_
  refine J.c5 O (Wan.un O O O O) O O ?_
  refine J.c5 O (Wan.un O O O O) O O ?_
  refine J.c5 O (Wan.un O O O O) O O ?_
  refine J.c5 O (Wan.un O O O O) O O ?_
  refine J.c5 O (Wan.un O O O O) O O ?_
  refine J.c5 O (Wan.un O O O O) O O ?_
  refine J.c5 O (Wan.un O O O O) O O ?_
  refine J.b3 ?_
  refine J.d8 ?_
  refine J.b9<|J.A (J.H hK4 ?_)
  refine J.G 1 8 67 ?_
  refine J.d0 ?_
  refine J.g λK6 hK6=>J.p 4 O<|J.c hK6<|J.O 4 5 6 7 ?_
  exact J.D<|J.a4<|J.b2 hw0 (λ_ _ h=>h) (res4 O O O O O) (qAn () O trivial [0] O (by decide))
theorem qJe(F:Hp)(hK:KF F)(gh:Option Addr)(A:Option Addr)(n c:Nat)(ls:List (List UInt8))(hl:Sl F 1 A n c (qAG ls))(hn:0<n)(s:List UInt8)(hs:ls[0]?=some s)(h64:s.length=64)(hok:(qB4 s).2=false):
    Ct prog 152 [.pointer gh,.slice A n c] [F] (λ_:Unit=> .tuple #[.int .u64 0,Str [],I 0,.bool false]) (λ_=>True) (λ_=> [F]):=by
  refine Ct.walk func152 rfl ntmps152 rfl (λw0 hw0=>?_)
  change J _ [(0,_),(1,_)] _ _ _
  refine J.g λK1 hK1=>J.p 4 O<|J.c hK1<|J.E 0 1 ?_
  refine J.g λK2 hK2=>J.b O<|J.f (qAH (i:=0) O O O qAe z9_ hl hn) O<|J.f (qAJ O O b9_ (m:=F) (by simp) (hl.elem (qAQ hs))) rfl<|J.k (qAA rfl rfl ent199 (Ct.use0 (λF' hF=>qKn F' (hK.mono (hF _ (by simp))) s h64))) rfl λg18 _=>J.p 2 rfl<|J.f ((qAa (v:= .bool (qB4 s).2) rfl rfl rfl).as (v':= .bool false) (by rw [hok])) rfl<|J.k (qAN rfl qJ7 rfl) rfl λg8 _=>?_
  change J _ _ _ [F,blk g8 _ 289] _
  refine J.b0 (qAI (l:=qIa.cells) (i:=1) (vs:=(qB4 s).1.cells) O O O O O qE3 O O) O O λ_ _=>?_
  change J _ _ _ [_,blk g8 (qB4 s).1.cells 289] _
  refine J.b O<|J.c hK2<|J.O 0 1 8 9 ?_
  refine J.j λK3 hK3=>J.j λK4 hK4=>J.c1 [blk g8 (qB4 s).1.cells 289] [] (.y 0 (.y 1 (.y 2 (.y 3 (.y 4 (.y 5 (.y 6 (.y 7 (.y 8 (.y 9 (.y 10 (.y 11 (.y 12 (.y 13 (.y 14 (.y 15 (.y 16 (.y 17 (.y 18 (.y 19 (.y 20 (.y 21 (.y 22 (.y 23 (.y 24 (.y 25 (.y 26 (.y 27 (.y 28 (.y 29 (.y 30 (.y 31 (.y 32 (.y 33 (.y 34 (.y 35 (.y 36 (.y 37 (.y 38 (.y 39 (.y 40 (.y 41 (.y 42 (.y 43 (.y 44 (.y 45 (.y 46 .nil))))))))))))))))))))))))))))))))))))))))))))))) Tryz.wide (by decide+kernel) (by simp) ?_
  refine J.T ?_
  refine J.q O ((qAt O O).as (v':= .bool true) O) O O<|J.T ?_
  iterate 3 refine J.b3 ?_
  refine J.d8 ?_
  refine J.T ?_
  iterate 3 refine J.b3 ?_
  refine J.d8 ?_
  refine J.T ?_
  iterate 9 refine J.b3 ?_
  refine J.d8 ?_
  refine J.T ?_
  iterate 5 refine J.b3 ?_
  refine J.d8 ?_
  refine J.T ?_
  iterate 7 refine J.b3 ?_
  refine J.c5 O (Wan.un O O O O) O O ?_
  refine J.c5 O (Wan.un O O O O) O O ?_
  refine J.c5 O (Wan.un O O O O) O O ?_
  refine J.c5 O (Wan.un O O O O) O O ?_
  refine J.c5 O (Wan.un O O O O) O O ?_
  refine J.c5 O (Wan.un O O O O) O O ?_
  refine J.c5 O (Wan.un O O O O) O O ?_
  refine J.b3 ?_
  refine J.d8 ?_
  refine J.b9<|J.A (J.H hK4 ?_)
  refine J.G 1 8 67 ?_
  refine J.d0 ?_
  refine J.g λK5 hK5=>J.p 4 O<|J.c hK5<|J.O 4 5 6 7 ?_
  exact J.D<|J.a4<|J.b2 hw0 (λ_ _ h=>h) (res4 O O O O O) (qAn () O trivial [0] O (by decide))
theorem qLk(F:Hp)(hK:KF F)(gh:Option Addr)(A:Option Addr)(n c:Nat)(ls:List (List UInt8))(hl:Sl F 1 A n c (qAG ls))(hn:0<n)(s:List UInt8)(hs:ls[0]?=some s)(h64:s.length=64)(hz:(qB4 s).2=false∨(qB4 s).1.turn=0):
    Ct prog 152 [.pointer gh,.slice A n c] [F] (λ_:Unit=> .tuple #[.int .u64 0,Str [],I 0,.bool false]) (λ_=>True) (λ_=> [F]):=by
  cases h:(qB4 s).2 with
  |false=>exact qJe F hK gh A n c ls hl hn s hs h64 h
  |true=>exact qJd F hK gh A n c ls hl hn s hs h64 h (hz.resolve_left (by rw [h];decide))
def zS:List UInt8:=List.replicate 64 0
theorem qTx:zS.length=64:=List.length_replicate
theorem qRn:(qB4 zS).2=false∨(qB4 zS).1.turn=0:=qMP
theorem qLd(n:Nat)(z:List UInt8):qAG (List.replicate n z)++qAG [z]=qAG (List.replicate (n+1) z):=by
 rw [List.replicate_succ',←qGH]
theorem qOh(F:Hp)(hK:KF F)(gb gd:Nat)(first:Int)(size:Nat)(hat:Int)(hturn:UInt64)(hend:Int)(Ar:Option Addr)(nr cr:Nat)(bad:Bool)(hB:qAL F ⟨gb,0,none⟩ [Ptr gd,I first,I (size:Nat),I hat,W64 hturn,I hend,.slice Ar nr cr,.bool bad])(d:Dk)(A:Option Addr)(c:Nat)(B:Option Addr)(e:Nat)(C:Option Addr)(f:Nat)(hc:qAL F ⟨gd,0,none⟩ (d.cells A c B e C f))(hL:Sl F 1 A d.last.length c (qAG d.last))(hW:Sl F 2 B d.wait.length e (qCZ d.wait))(hn1:d.last.length≤1073741824)(hn2:d.wait.length≤1073741824)
    (at_:Nat) (hs0:0<size) (hs:at_+size≤1048576) (hz: ∀i:Nat,i<size→d.ready ((at_+i:Nat):Int)=0∧d.read ((at_+i:Nat):Int)=zS):
    Ct prog 90 [Ptr gb,I (at_:Nat)] [F] (λ_:Unit=> .tuple #[.agg #[I at_,W64 0,I 0,.slice none 0 0],I 0]) (λ_=>True) (λ_=> [F]):=by
  refine Ct.walk func90 rfl ntmps90 rfl (λw0 hw0=>?_)
  change J _ [(0,_),(1,_)] _ _ _
  refine J.g λK1 hK1=>J.k (qAN O zeroValue181 O) O λg4 _=>?_
  change J _ _ _ [F,blk g4 _ 181] _
  refine J.b O<|J.c hK1<|J.G 0 1 4 ?_
  refine J.g λK2 hK2=>J.b O<|J.f (qAM (l:= [(0,.tmp 15)]) (vs:= [I (at_:Nat)]) (places:= [(0,1),(1,1),(2,1),(3,1)]) (r:= [I at_,W64 0,I 0,.slice none 0 0]) O O O qDU zeroValue181 (λ_=>by kernel_rfl) O) O<|J.k (qAN O zeroValue181 O) O λg6 _=>?_
  change J _ _ _ [_,_,blk g6 _ 181] _
  refine J.b0 (qAI (l:= [I 0,W64 0,I 0,.slice none 0 0]) (i:=2) (vs:= [I at_,W64 0,I 0,.slice none 0 0]) O O O O O qCw O O) O O λ_ _=>?_
  change J _ _ _ [_,_,blk g6 [I at_,W64 0,I 0,.slice none 0 0] 181] _
  refine J.c hK2<|J.O 0 1 4 6 ?_
  refine J.g λK3 hK3=>J.b O<|J.c hK3<|J.a0 0 1 4 6 7 ?_
  refine J.j λK4 hK4=>J.j λK5 hK5=>J.d5 [0,1,2,3] [F,blk g4 _ 181,blk g6 [I at_,W64 0,I 0,.slice none 0 0] 181,(λ_=>none)] O (by decide)<|J.L<|J.b O<|J.f (qAC O O) O<|J.a3 2 qD5 z3_ O O O O O<|J.f (qAJ O O b3_ (m:=F) (by simp) (hB.at (i:=2) rfl)) rfl<|J.b rfl<|J.c hK5<|J.c2 0 1 4 6 7 20 21 ?_
  refine J.V<|J.b6 (X:=Nat×Hp×Option Addr×Nat) (λx=> [(0,Ptr gb),(1,I (at_:Nat)),(4,Ptr g4),(6,Ptr g6),(7,.slice x.2.2.1 x.1 x.2.2.2),(20,I (size:Nat)),(21,I x.1)]) (λx=> [F,blk g4 [I 0,W64 0,I 0,.slice none 0 0] 181,blk g6 [I at_,W64 0,I 0,.slice none 0 0] 181,x.2.1]) (λx=>x.1≤size∧Row x.2.1 9 1 x.2.2.1 x.1 x.2.2.2 (qAG (List.replicate x.1 zS))) (λx=>size-x.1) (0,(λ_=>none),none,0) (⟨Nat.zero_le _,qBU.nil⟩) ⟨O,O,O,O,O,O,O,trivial⟩ (λ_ h=>h) ?_
  rintro⟨k,m,A7,c7⟩ ⟨hk,hr⟩ I0 hI0
  dsimp only at hk hr⊢
  refine J.g λK6 hK6=>J.f (qAT O O O) O<|J.c hK6<|J.d1 0 1 4 6 7 20 21 22 ?_
  refine J.j λK7 hK7=>J.a2 O (λh22=>?_) (λh22=>?_)
  ·
    refine J.W hK7<|J.c2 0 1 4 6 7 20 21 ?_
    refine J.j λK8 hK8=>J.V<|J.g λK9 hK9=>J.p 2 O<|J.c hK9<|J.d1 0 1 4 6 7 8 20 21 ?_
    refine J.g λK10 hK10=>J.b O<|J.f (qAC O O) O<|J.a3 0 qD5 sizeOf24 O O O O O<|J.f (qAJ O O isAgg24 (m:=F) (by simp) (hB.at (i:=0) rfl)) rfl<|J.p 2 rfl<|J.f ((qAO rfl rfl rfl (by omega)).nat (at_+k) (by omega)) rfl<|J.k (qAA rfl rfl ent151 (Ct.use0 (λF' hF=>qPQ F' gd d A c B e C f (hc.mono (hF F (by simp))) (hL.mono (hF F (by simp))) (hW.mono (hF F (by simp))) ((at_+k:Nat):Int) hn1 hn2))) rfl λg32 _=>J.b rfl<|J.f ((qAa (v:=Str (d.read ((at_+k:Nat):Int))) rfl rfl rfl).as (v':=Str zS) (by rw [(hz k (by omega)).2])) rfl<|J.f ((qAa (v:=I (d.ready ((at_+k:Nat):Int))) rfl rfl rfl).as (v':=I 0) (by rw [(hz k (by omega)).1])) rfl<|J.p 2 rfl<|J.c hK10<|J.e1 0 1 4 6 7 9 10 20 21 ?_
    refine J.j λK11 hK11=>J.g λK12 hK12=>J.b O<|J.f ((qAb O O O).no (by decide)) O<|J.c hK12<|J.e5 0 1 4 6 7 9 10 20 21 36 ?_
    refine J.a5 ?_
    refine J.W hK11<|J.d1 0 1 4 6 7 9 20 21 ?_
    refine J.L<|J.p 2 O<|J.k (qAF (l:= [.tmp 40]) (xs:= [[Str zS]]) O O O O qAe el9 O (by decide) (by decide) (by simp)) rfl λg41 _=>?_
    change J _ _ _ [F,blk g4 [I 0,W64 0,I 0,.slice none 0 0] 181,blk g6 [I at_,W64 0,I 0,.slice none 0 0] 181,m,blk g41 [Str zS] 9] _
    refine J.k (qAW (i:=3) (m2:=blk g41 [Str zS] 9) (xs:=qAG (List.replicate k zS)) (ys:=qAG [zS]) O O O qAe qAe el9 O hr (by simp) ((qAk (q:=True) (xs:=qAG [zS]) rfl (by simp [qAG])).sl) (by simp [qAG,Value.oneCell']) (by omega) (by omega)) rfl ?_
    rintro⟨A8,c8,m8⟩ h8
    try dsimp only at h8
    change J _ ((42,.slice A8 (k+1) c8)::_) _ [_,_,_,m8,_] _
    rw [qLd] at h8
    refine J.b O<|J.a7<|J.a6<|J.A (J.H hK8 ?_)
    refine J.c2 0 1 4 6 7 20 21 ?_
    exact J.L<|J.f ((qAO O O O (by omega)).nat (k+1) (by omega)) O<|J.b O<|J.a7<|J.A<|J.a8 (k+1,m8,A8,c8) (λy (hy:_∧size-y.1<size-k)=>hI0 y hy.1 hy.2) ⟨⟨by dsimp only;omega,h8⟩,by dsimp only;omega⟩ ⟨O,O,O,O,O,O,O,trivial⟩ (λ_ h=>h.pick [0,1,2,3] (by decide))
  refine J.b4<|J.a1<|J.a1<|J.b5 ?_
  refine J.A (J.H hK4 ?_)
  refine J.G 4 6 7 ?_
  refine J.j λK13 hK13=>J.V<|J.b6 (X:=Unit) (λ_=> [(4,Ptr g4),(6,Ptr g6),(7,.slice A7 k c7)]) (λ_=> [F,blk g4 [I 0,W64 0,I 0,.slice none 0 0] 181,blk g6 [I at_,W64 0,I 0,.slice none 0 0] 181,m]) (λ_=>True) (λ_=>0) () (trivial) ⟨O,O,O,trivial⟩ (λ_ h=>h) ?_
  rintro _ _ I2 hI2
  refine J.j λK14 hK14=>J.g λK15 hK15=>J.b O<|J.f (qAP qAe O O) O<|J.f ((qAz O O O).yes (by omega)) O<|J.c hK15<|J.O 4 6 7 46 ?_
  refine J.d0 ?_
  refine J.W hK14<|J.G 4 6 7 ?_
  refine J.V<|J.g λK16 hK16=>J.b O<|J.k (qAA O O ent152 (Ct.use0 (λF' hF=>qLk F' (hK.mo hF) (some ⟨g6,0,none⟩) A7 k c7 (List.replicate k zS) (hr.sl.mono (hF m (by simp))) (by omega) zS (by rw [List.getElem?_replicate,if_pos (by omega)]) qTx qRn))) rfl ?_
  intro g49 _
  refine J.p 9 O<|J.c hK16<|J.c2 4 6 7 11 12 13 14 ?_
  refine J.j λK17 hK17=>J.g λK18 hK18=>J.b O<|J.f ((qAt O O).as (v':= .bool true) O) O<|J.c hK18<|J.c2 4 6 7 11 12 13 55 ?_
  refine J.d0 ?_
  refine J.b4<|J.a1<|J.h8 O ?_
  refine J.a1<|J.b5 ?_
  refine J.A (J.H hK13 ?_)
  refine J.E 4 6 ?_
  refine J.g λK19 hK19=>J.c9 2 isAgg181 qCw O O O O O<|J.b0 (qAI (l:= [I 0,W64 0,I 0,.slice none 0 0]) (i:=1) (vs:= [I at_,W64 0,I 0,.slice none 0 0]) O O O O O qCw O O) O O λ_ _=>?_
  change J _ _ _ [F,blk g4 [I at_,W64 0,I 0,.slice none 0 0] 181,blk g6 [I at_,W64 0,I 0,.slice none 0 0] 181,m] _
  refine J.b O<|J.c hK19<|J.E 4 5 ?_
  exact J.D<|J.b2 hw0 (λ_ _ h=>h) (rv2 O (RV.blkA 1 O O isAgg181 qCw) O) (qAn () O trivial [0] O (by decide))
def qUU(first:Nat):Nat→Int
 |0=>0
 |_+1=>first
theorem qLu(F:Hp)(hK:KF F)(gd:Nat)(d:Dk)(A:Option Addr)(c:Nat)(B:Option Addr)(e:Nat)(C:Option Addr)(f:Nat)(hc:qAL F ⟨gd,0,none⟩ (d.cells A c B e C f))(hL:Sl F 1 A d.last.length c (qAG d.last))(hW:Sl F 2 B d.wait.length e (qCZ d.wait))(hn1:d.last.length≤1024)(hn2:d.wait.length≤1073741824)(first count:Nat)(h8:8≤count)(hfc:first+count≤d.last.length)(hz: ∀i:Nat,i<d.last.length→d.ready (i:Int)=0∧d.read (i:Int)=zS):
    Ct prog 34 [Ptr gd,I (first:Nat),I (count:Nat)] [F] (λg:Nat=> .tuple #[Ptr g,I 0]) (λ_=>True) (λg41=> [F,blk g41 [Ptr gd,I (first:Nat),I ((count/2):Nat),I (first:Nat),W64 0,I 0,.slice none 0 0,.bool false] 183]):=by
  refine Ct.walk func34 rfl ntmps34 rfl (λw0 hw0=>?_)
  change J _ [(0,_),(1,_),(2,_)] _ _ _
  refine J.g λK1 hK1=>J.p 2 O<|J.c hK1<|J.G 0 1 2 ?_
  refine J.j λK2 hK2=>J.g λK3 hK3=>J.b O<|J.f ((qA6 underlying24 O O O).as (v':= .bool false) O) O<|J.p 2 O<|J.Z ((qAT O O O).no (by omega)) O<|J.p 3 O<|J.Z ((qAT O O O).no (by omega)) O<|J.p 4 O<|J.d7 (qAA O O ent89 (Ct.use0 (λF' hF=>qLI F' gd d A c B e C f (hc.mono (hF F (by simp)))))) rfl λg25 _=>J.Z ((qAz rfl rfl rfl).no (by omega)) rfl<|J.p 4 rfl<|J.d7 (qAA rfl rfl ent89 (Ct.use0 (λF' hF=>qLI F' gd d A c B e C f (hc.mono (hF F (by simp)))))) rfl λg31 _=>J.b rfl<|J.Z (qAw rfl rfl rfl (by omega)) rfl<|J.Z ((qAz rfl rfl rfl).no (by omega)) rfl<|J.b rfl<|J.c hK3<|J.O 0 1 2 35 ?_
  refine J.a5 ?_
  refine J.W hK2<|J.G 0 1 2 ?_
  refine J.g λK4 hK4=>J.p 3 O<|J.f ((qGS (a:=((count:Nat):Int)) (b:=((2:Nat):Int)) O O O (by omega)).as (v':=I ((count/2:Nat):Int)) (congrArg I (Int.ofNat_tdiv _ _).symm)) O<|J.f (qAM (l:= [(0,.tmp 36),(1,.tmp 37),(2,.tmp 39)]) (vs:= [Ptr gd,I (first:Nat),I ((count/2):Nat)]) (places:= [(0,1),(1,1),(2,1),(3,4),(7,1)]) (r:= [Ptr gd,I (first:Nat),I ((count/2):Nat),I 0,W64 0,I 0,.slice none 0 0,.bool false]) O O O qD5 zeroValue183 (λ_=>by kernel_rfl) O) O<|J.k (qAi (l:= [Ptr gd,I (first:Nat),I ((count/2):Nat),I 0,W64 0,I 0,.slice none 0 0,.bool false]) O O O) O ?_
  rintro g41 _
  change J _ _ _ [F,blk g41 [Ptr gd,I (first:Nat),I ((count/2):Nat),I 0,W64 0,I 0,.slice none 0 0,.bool false] 183] _
  refine J.b O<|J.c hK4<|J.E 1 8 ?_
  refine J.j λK5 hK5=>J.g λK6 hK6=>J.b O<|J.c hK6<|J.G 1 8 42 ?_
  refine J.V<|J.b6 (X:=Nat) (λk=> [(1,I (first:Nat)),(8,Ptr g41),(42,I k)]) (λk=> [F,blk g41 [Ptr gd,I (first:Nat),I ((count/2):Nat),I (qUU first k),W64 0,I 0,.slice none 0 0,.bool false] 183]) (λk=>k≤2) (λk=>2-k) 0 (Nat.zero_le _) ⟨O,O,O,trivial⟩ (λ_ h=>h) ?_
  intro k hk I0 hI0
  refine J.g λK7 hK7=>J.f (qAT O O O) O<|J.c hK7<|J.O 1 8 42 43 ?_
  refine J.j λK8 hK8=>J.a2 O (λh43=>?_) (λh43=>?_)
  ·
    refine J.W hK8<|J.G 1 8 42 ?_
    refine J.j λK9 hK9=>J.V<|J.g λK10 hK10=>J.p 2 O<|J.c hK10<|J.O 1 8 9 42 ?_
    refine J.j λK11 hK11=>?_
    obtain ⟨km,hkm⟩: ∃km,km=k*(count/2):=⟨_,rfl⟩
    have hk2:k<2:=by omega
    have hkm2:km+(count/2)≤count:=by
      have:k=0∨k=1:=by omega
      rcases this with e|e<;>rw [hkm,e]<;>omega
    refine J.L<|J.p 4 O<|J.f (qAC O O) O<|J.a3 2 qD5 z3_ O O O O O<|J.c7 1 b3_ O O O O O<|J.f ((qCr O O O (by rw [←Int.natCast_mul,←hkm];omega)).as (v':=I (km:Nat)) (congrArg I (by rw [hkm,Int.natCast_mul]))) rfl<|J.f ((qAO rfl rfl rfl (by omega)).nat (first+km) (by omega)) rfl<|J.k (qAA rfl rfl ent90 (Ct.use0 (λF' hF=>qOh F' (hK.mo hF) g41 gd (first:Nat) (count/2) (qUU first k) 0 0 none 0 0 false (qAL.blk0.mono (hF (blk g41 [Ptr gd,I (first:Nat),I ((count/2):Nat),I (qUU first k),W64 0,I 0,.slice none 0 0,.bool false] 183) (by simp))) d A c B e C f (hc.mono (hF F (by simp))) (hL.mono (hF F (by simp))) (hW.mono (hF F (by simp))) (by omega) hn2 (first+km) (by omega) (by omega) (λi hi=>hz (first+km+i) (by omega))))) rfl λg55 _=>J.p 3 rfl<|J.k (qAN rfl zeroValue181 rfl) rfl λg10 _=>?_
    change J _ _ _ [F,blk g41 [Ptr gd,I (first:Nat),I ((count/2):Nat),I (qUU first k),W64 0,I 0,.slice none 0 0,.bool false] 183,blk g10 _ 181] _
    refine J.b0 (qAI (l:= [I 0,W64 0,I 0,.slice none 0 0]) (i:=2) (vs:= [I ((first+km:Nat):Int),W64 0,I 0,.slice none 0 0]) O O O O O qCw O O) O O λ_ _=>?_
    change J _ _ _ [_,_,blk g10 [I ((first+km:Nat):Int),W64 0,I 0,.slice none 0 0] 181] _
    refine J.b O<|J.c hK11<|J.b8 1 8 9 10 11 42 ?_
    refine J.j λK12 hK12=>J.g λK13 hK13=>J.b O<|J.f ((qAb O O O).no (by decide)) O<|J.c hK13<|J.c2 1 8 9 10 11 42 59 ?_
    refine J.a5 ?_
    refine J.W hK12<|J.a0 1 8 9 10 42 ?_
    refine J.j λK14 hK14=>J.c1 [F,blk g41 [Ptr gd,I (first:Nat),I ((count/2):Nat),I (qUU first k),W64 0,I 0,.slice none 0 0,.bool false] 183,blk g10 [I ((first+km:Nat):Int),W64 0,I 0,.slice none 0 0] 181] [] (.y 0 (.y 1 (.y 2 (.y 3 (.y 4 (.y 5 (.y 6 (.y 7 (.y 8 (.y 9 (.y 10 (.y 11 (.y 12 (.y 13 (.y 14 (.y 15 (.y 16 (.y 17 (.y 18 (.y 19 (.y 20 (.y 21 (.y 22 (.y 23 (.y 24 (.y 25 (.y 26 .nil))))))))))))))))))))))))))) Tryz.wide (by decide+kernel) (by simp) ?_
    refine J.T ?_
    refine J.q O (qAY O O O) O O<|J.T ?_
    refine J.c4 (d:=63) O (λh63=>?_) (λh63=>?_)
    ·
      iterate 5 refine J.b3 ?_
      refine J.c5 O (Wan.un O O O O) O O ?_
      refine J.c5 O (Wan.un O O O O) O O ?_
      refine J.c5 O (Wan.un O O O O) O O ?_
      refine J.c5 O (Wan.un O O O O) O O ?_
      refine J.c5 O (Wan.un O O O O) O O ?_
      refine J.c5 O (Wan.un O O O O) O O ?_
      refine J.c5 O (Wan.un O O O O) O O ?_
      refine J.c5 O (Wan.un O O O O) O O ?_
      refine J.c5 O (Wan.un O O O O) O O ?_
      refine J.c5 O (Wan.un O O O O) O O ?_
      refine J.c5 O (Wan.un O O O O) O O ?_
      refine J.c5 O (Wan.un O O O O) O O ?_
      refine J.c5 O (Wan.un O O O O) O O ?_
      refine J.c5 O (Wan.un O O O O) O O ?_
      refine J.c5 O (Wan.un O O O O) O O ?_
      refine J.c5 O (Wan.un O O O O) O O ?_
      refine J.c5 O (Wan.un O O O O) O O ?_
      refine J.b3 ?_
      refine J.d8 ?_
      refine J.b9<|J.A (J.H hK14 ?_)
      refine J.a0 1 8 10 42 87 ?_
      refine J.d0 ?_
      refine J.L<|J.b O<|J.c9 2 isAgg181 qCw O O O O O<|J.f (qAC O O) O<|J.a3 3 qD5 qCw O O O O O<|J.b0 (qAZ (i:=1) (vs:= [I ((first+km:Nat):Int),W64 0,I 0,.slice none 0 0]) O O O O O qCw O (by simp)) rfl rfl λ_ _=>?_
      change J _ _ _ [_,blk g41 [Ptr gd,I (first:Nat),I ((count/2):Nat),I ((first+km:Nat):Int),W64 0,I 0,.slice none 0 0,.bool false] 183,_] _
      refine J.a7<|J.a6<|J.A (J.H hK9 ?_)
      refine J.G 1 8 42 ?_
      refine J.L<|J.f ((qAO O O O (by omega)).nat (k+1) (by omega)) O<|J.b O<|J.a7<|J.A ?_
      have hk0:k=0:=by omega
      subst hk0
      have hk0m:km=0:=by omega
      subst hk0m
      exact J.a8 1 (λy (hy:_∧2-y<2-0)=>hI0 y hy.1 hy.2) ⟨by omega,by omega⟩ ⟨O,O,O,trivial⟩ (λ_ h=>h.pick [0,1] (by decide))
    refine J.c0 O (qAB (j:=3) O O qDU O qBf O) O O<|J.c0 O (qAE 2 O O O qBo O) O O<|J.c0 O (qAP qAe O O) O O<|J.c0 O ((qAz O O O).no (by decide)) O O<|J.c0 O (qAx O O) O O<|J.b3 ?_
    iterate 7 refine J.b3 ?_
    refine J.c5 O (Wan.un O O O O) O O ?_
    refine J.c5 O (Wan.un O O O O) O O ?_
    refine J.c5 O (Wan.un O O O O) O O ?_
    refine J.c5 O (Wan.un O O O O) O O ?_
    refine J.c5 O (Wan.un O O O O) O O ?_
    refine J.c5 O (Wan.un O O O O) O O ?_
    refine J.c5 O (Wan.un O O O O) O O ?_
    refine J.c5 O (Wan.un O O O O) O O ?_
    refine J.b3 ?_
    refine J.c0 O (qHK O O O) O O<|J.f0 ?_
    refine J.b9<|J.A (J.H hK14 ?_)
    refine J.a0 1 8 10 42 87 ?_
    refine J.a5 ?_
    refine J.b7<|J.a6<|J.A (J.H hK9 ?_)
    refine J.G 1 8 42 ?_
    refine J.L<|J.f ((qAO O O O (by omega)).nat (k+1) (by omega)) O<|J.b O<|J.a7<|J.A ?_
    have hk1:k=1:=by omega
    subst hk1
    exact J.a8 2 (λy (hy:_∧2-y<2-1)=>hI0 y hy.1 hy.2) ⟨by omega,by omega⟩ ⟨O,O,O,trivial⟩ (λ_ h=>h.pick [0,1] (by decide))
  refine J.b4<|J.a1<|J.a1<|J.b5 ?_
  refine J.A (J.H hK5 ?_)
  refine J.u 8 ?_
  refine J.j λK15 hK15=>?_
  have hk2:k=2:=by omega
  subst hk2
  refine J.L<|J.p 3 O<|J.c hK15<|J.E 6 7 ?_
  exact J.D<|J.b2 hw0 (λ_ _ h=>h) (qB2 O O O) (qAn g41 O trivial [0,1] O (by decide))
theorem qUM(F:Hp)(gb gd:Nat)(first:Int)(size:Nat)(hat:Int)(hturn:UInt64)(hend:Int)(Ar:Option Addr)(nr cr:Nat)(bad:Bool)(hB:qAL F ⟨gb,0,none⟩ [Ptr gd,I first,I (size:Nat),I hat,W64 hturn,I hend,.slice Ar nr cr,.bool bad])(s:List UInt8):
    Ct prog 168 [Ptr gb,Str s] [F] (λ_:Unit=>I (if 900<s.length then 2 else if bad=true then 21 else 0)) (λ_=>True) (λ_=> [F]):=by
  refine Ct.walk func168 rfl ntmps168 rfl (λw0 hw0=>?_)
  change J _ [(0,_),(1,_)] _ _ _
  refine J.g λK1 hK1=>J.b O<|J.c hK1<|J.E 0 1 ?_
  refine J.j λK2 hK2=>J.V<|J.g λK3 hK3=>J.b O<|J.f ((qA6 underlying98 O O O).as (v':= .bool false) O) O<|J.b O<|J.c hK3<|J.G 0 1 5 ?_
  refine J.a5 ?_
  refine J.g λK4 hK4=>J.b O<|J.f (qAl u9_ O O) O<|J.f (qAz O O O) O<|J.b O<|J.c hK4<|J.E 0 8 ?_
  refine J.a2 O (λh8=>?_) (λh8=>?_)
  ·
    refine J.g λK5 hK5=>J.b O<|J.c hK5<|J.u 4 ?_
    exact J.D<|J.b1<|J.a4<|J.M hw0 O () (congrArg I (by rw [if_pos (by omega)])) trivial [0] rfl (by decide)
  refine J.g λK6 hK6=>J.b O<|J.f (qAC O O) O<|J.a3 7 qD5 z4_ O O O O O<|J.f ((qAJ O O b4_ (m:=F) (by simp) (hB.at (i:=7) rfl)).as (v':= .bool (decide (bad=true))) (by rw [Bool.decide_eq_true])) rfl<|J.b rfl<|J.c hK6<|J.u 12 ?_
  refine J.a2 O (λh12=>?_) (λh12=>?_)
  ·
    refine J.g λK7 hK7=>J.b O<|J.c hK7<|J.u 4 ?_
    exact J.D<|J.b1<|J.a4<|J.M hw0 O () (congrArg I (by rw [if_neg (by omega),if_pos (by assumption)])) trivial [0] rfl (by decide)
  refine J.b7<|J.a6<|J.A (J.H hK2 ?_)
  refine J.c3 [] trivial<|J.g λK8 hK8=>J.b O<|J.c hK8<|J.u 4 ?_
  exact J.D<|J.M hw0 O () (congrArg I (by rw [if_neg (by omega),if_neg (by assumption)])) trivial [0] rfl (by decide)
theorem qNu(F:Hp)(gb gd:Nat)(first:Int)(size:Nat)(hat:Int)(hturn:UInt64)(hend:Int)(Ar:Option Addr)(nr cr:Nat)(bad:Bool)(hB:qAL F ⟨gb,0,none⟩ [Ptr gd,I first,I (size:Nat),I hat,W64 hturn,I hend,.slice Ar nr cr,.bool bad])(hs:size≤1048576)(he:0≤hend∧hend≤1048576):
    Ct prog 110 [Ptr gb] [F] (λ_:Unit=>I ((size:Int)-hend)) (λ_=>True) (λ_=> [F]):=by
  refine Ct.walk func110 rfl ntmps110 rfl (λw0 hw0=>?_)
  change J _ [(0,_)] _ _ _
  refine J.g λK1 hK1=>J.b O<|J.c hK1<|J.u 0 ?_
  refine J.j λK2 hK2=>J.g λK3 hK3=>J.b O<|J.f ((qA6 underlying98 O O O).as (v':= .bool false) O) O<|J.c hK3<|J.E 0 4 ?_
  refine J.a5 ?_
  refine J.W hK2<|J.u 0 ?_
  refine J.j λK4 hK4=>J.c1 [F] [] (.y 0 (.y 1 (.y 2 (.y 3 (.y 4 (.y 5 (.y 6 (.y 7 (.y 8 (.y 9 (.y 10 .nil))))))))))) Tryz.wide (by decide+kernel) (by simp) ?_
  refine J.T ?_
  refine J.q O (qAC O O) O O<|J.q O (qAB (j:=2) O O qD5 O z3_ O) O O<|J.q O (qAJ O O b3_ (m:=F) (by simp) (hB.at (i:=2) rfl)) rfl rfl<|J.T ?_
  refine J.q O (qAC O O) O O<|J.q O (qAB (j:=3) O O qD5 O qCw O) O O<|J.q O (qAB (j:=5) O O qDU O z3_ O) O O<|J.q O (qAJ O O b3_ (m:=F) (by simp) (hB.at (i:=5) rfl)) rfl rfl<|J.q rfl (qAw rfl rfl rfl (by omega)) rfl rfl<|J.c6 ?_
  refine J.b9<|J.A (J.H hK4 ?_)
  refine J.u 2 ?_
  exact J.D<|J.M hw0 O () O trivial [0] O (by decide)
theorem qLj(F:Hp)(gb gd:Nat)(first:Int)(size:Nat)(hat:Int)(hturn:UInt64)(hend:Int)(Ar:Option Addr)(nr cr:Nat)(bad:Bool)(hB:qAL F ⟨gb,0,none⟩ [Ptr gd,I first,I (size:Nat),I hat,W64 hturn,I hend,.slice Ar nr cr,.bool bad])(L:List (List UInt8))(hLn:L.length=nr)(hL:Sl F 1 Ar nr cr (qAG L))(hn:nr≤1073741824):
    Ct prog 36 [Ptr gb] [F] (λx:Option Addr×Nat×Hp=> .slice x.1 L.length x.2.1) (λx=>Row x.2.2 9 1 x.1 L.length x.2.1 (qAG L)) (λx=> [F,x.2.2]):=by
  subst hLn
  refine Ct.walk func36 rfl ntmps36 rfl (λw0 hw0=>?_)
  change J _ [(0,_)] _ _ _
  refine J.g λK1 hK1=>J.b O<|J.c hK1<|J.u 0 ?_
  refine J.j λK2 hK2=>J.g λK3 hK3=>J.b O<|J.f ((qA6 underlying98 O O O).as (v':= .bool false) O) O<|J.c hK3<|J.E 0 4 ?_
  refine J.a5 ?_
  refine J.W hK2<|J.u 0 ?_
  refine J.g λK4 hK4=>J.b O<|J.f (qAC O O) O<|J.a3 3 qD5 qCw O O O O O<|J.a3 6 qDU qBf O O O O O<|J.f (qAJ O O qBo (m:=F) (by simp) (hB.at (i:=6) rfl)) rfl<|J.k (qAA rfl rfl ent95 (Ct.use (new:=λx:Option Addr×Nat×Hp=> [x.2.2]) (λF' hF=>qI0 F' L Ar cr (hL.mono (hF F (by simp))) hn))) rfl ?_
  rintro⟨A10,c10,m10⟩ h10
  try dsimp only at h10
  change J _ _ _ [F,m10] _
  refine J.b O<|J.c hK4<|J.u 2 ?_
  exact J.D<|J.M hw0 O (A10,c10,m10) O h10 [0,1] O (by decide)
theorem qJG(s:List UInt8)(n:Nat):(s.take (min s.length n)).drop 0=s.take n:=by
 rw [List.drop_zero]
 by_cases h:s.length≤n
 · rw [Nat.min_eq_left h,List.take_of_length_le (Nat.le_refl _),List.take_of_length_le h]
 · rw [Nat.min_eq_right (by omega)]
theorem qQo(s:List UInt8)(n:Nat):s.drop (min s.length n)=s.drop n:=by
 by_cases h:s.length≤n
 · rw [Nat.min_eq_left h,List.drop_of_length_le (Nat.le_refl _),List.drop_of_length_le h]
 · rw [Nat.min_eq_right (by omega)]
def qEC(l:List Prt):List (List Value):=l.map Prt.cells
theorem qNG(a b:List Prt):qEC (a++b)=qEC a++qEC b:=by simp [qEC]
def prt(turn num:UInt64)(s:List UInt8)(n i:Nat):Prt:=⟨turn,num,i,n,qHl turn num s,(s.drop (39*i)).take 39⟩
def qRN(turn num:UInt64)(s:List UInt8)(n k:Nat):List Prt:=(List.range k).map (prt turn num s n)
theorem qNE(turn num:UInt64)(s:List UInt8)(n k:Nat):qRN turn num s n (k+1)=qRN turn num s n k++ [prt turn num s n k]:=by unfold qRN;rw [List.range_succ,List.map_append];rfl
theorem qNF{turn num:UInt64}{s:List UInt8}{n k i:Nat}(h:i<k):(qEC (qRN turn num s n k))[i]?=some (prt turn num s n i).cells:=by
 unfold qEC qRN
 rw [List.map_map,List.getElem?_map,List.getElem?_range h];rfl
theorem qEG(n:Nat):1≤qBM n:=by unfold qBM;split<;>omega
theorem qDo{n:Nat}(h:n≤900):qBM n≤24:=by unfold qBM;split<;>omega
theorem qPy(F:Hp)(hK:KF F)(turn num:UInt64)(s:List UInt8)(ht:turn.toNat<2^(8*4))(hnm:num.toNat<2^(8*2))(hs:s.length≤900)(n:Nat)(hn:n=qBM s.length):
    Ct prog 205 [W64 turn,W64 num,Str s] [F] (λx:Option Addr×Nat×Hp=> .slice x.1 n x.2.1) (λx=>Row x.2.2 289 6 x.1 n x.2.1 (qEC (qRN turn num s n n))) (λx=> [F,x.2.2]):=by
  have hn24:n≤24:=hn▸qDo hs
  refine Ct.walk func205 rfl ntmps205 rfl (λw0 hw0=>?_)
  change J _ [(0,_),(1,_),(2,_)] _ _ _
  refine J.g λK1 hK1=>J.b O<|J.c hK1<|J.G 0 1 2 ?_
  refine J.g λK2 hK2=>J.b O<|J.f (qAl u9_ O O) O<|J.k (qAA O O ent109 (Ct.use0 (λF' hF=>by have:=qFM F' s.length (by omega);rw [←hn] at this;exact this))) rfl λg13 _=>J.p 3 rfl<|J.k (qAA rfl rfl ent200 (Ct.use0 (λF' hF=>qQx F' (hK.mono (hF _ (by simp))) turn num s ht hnm (by omega)))) rfl λg17 _=>J.p 2 rfl<|J.c hK2<|J.a0 0 1 2 7 8 ?_
  refine J.g λK3 hK3=>J.b O<|J.c hK3<|J.b8 0 1 2 7 8 9 ?_
  refine J.j λK4 hK4=>J.j λK5 hK5=>J.d5 [0,1] [F,(λ_=>none)] O (by decide)<|J.L<|J.p 2 O<|J.c hK5<|J.d1 0 1 2 7 8 9 18 19 ?_
  refine J.V<|J.b6 (X:=Nat×Hp×Option Addr×Nat) (λx=> [(0,W64 turn),(1,W64 num),(2,Str (s.drop (39*x.1))),(7,I n),(8,Str (qHl turn num s)),(9,.slice x.2.2.1 x.1 x.2.2.2),(18,I n),(19,I x.1)]) (λx=> [F,x.2.1]) (λx=>x.1≤n∧Row x.2.1 289 6 x.2.2.1 x.1 x.2.2.2 (qEC (qRN turn num s n x.1))) (λx=>n-x.1) (0,(λ_=>none),none,0) (⟨Nat.zero_le _,qBU.nil⟩) ⟨O,O,O,O,O,O,O,O,trivial⟩ (λ_ h=>h) ?_
  rintro⟨k,m,A7,c7⟩ ⟨hk,hr⟩ I0 hI0
  dsimp only at hk hr⊢
  refine J.g λK6 hK6=>J.f (qAT O O O) O<|J.c hK6<|J.e1 0 1 2 7 8 9 18 19 20 ?_
  refine J.j λK7 hK7=>J.a2 O (λh20=>?_) (λh20=>?_)
  ·
    refine J.W hK7<|J.d1 0 1 2 7 8 9 18 19 ?_
    refine J.j λK8 hK8=>J.V<|J.g λK9 hK9=>J.p 2 O<|J.c hK9<|J.e1 0 1 2 7 8 9 10 18 19 ?_
    refine J.g λK10 hK10=>J.p 8 O<|J.f (qAl u9_ O O) O<|J.f ((qEU O O O).as (v':=I ((min (s.drop (39*k)).length 39:Nat):Int)) (congrArg I (by omega))) O<|J.f ((qA1 (l:=0) (h:=min (s.drop (39*k)).length 39) u9_ O O O O ⟨by omega,by omega⟩).as (v':=Str ((s.drop (39*k)).take 39)) (congrArg Str (qJG _ _))) O<|J.f (qAM (l:= [(0,.tmp 23),(1,.tmp 24),(2,.tmp 25),(3,.tmp 26),(4,.tmp 27),(5,.tmp 32)]) (vs:= [W64 turn,W64 num,I k,I n,Str (qHl turn num s),Str ((s.drop (39*k)).take 39)]) (places:= [(0,1),(1,1),(2,1),(3,1),(4,1),(5,1)]) (r:= [W64 turn,W64 num,I k,I n,Str (qHl turn num s),Str ((s.drop (39*k)).take 39)]) O O O qDh qJ7 (λ_=>by kernel_rfl) O) O<|J.k (qAF (l:= [.tmp 33]) (xs:= [(prt turn num s n k).cells]) O O O O qLZ el289 O (by decide) (by decide) (by simp [Prt.cells,prt])) rfl λg34 _=>?_
    change J _ _ _ [F,m,blk g34 (prt turn num s n k).cells 289] _
    refine J.k (qAW (i:=1) (m2:=blk g34 (prt turn num s n k).cells 289) (xs:=qEC (qRN turn num s n k)) (ys:=qEC [(prt turn num s n k)]) O O O qLZ qLZ el289 O hr (by simp) ((qAk (q:=True) (xs:=qEC [(prt turn num s n k)]) rfl (by simp [qEC,Prt.cells])).sl) (by simp [qEC,Prt.cells,Value.oneCell']) (by omega) (by omega)) rfl ?_
    rintro⟨A8,c8,m8⟩ h8
    try dsimp only at h8
    change J _ ((35,.slice A8 (k+1) c8)::_) _ [_,m8,_] _
    rw [←qNG,←qNE] at h8
    refine J.b O<|J.c hK10<|J.d1 0 1 2 7 8 9 18 19 ?_
    refine J.L<|J.p 2 O<|J.f (qAl u9_ O O) O<|J.f ((qEU O O O).as (v':=I ((min (s.drop (39*k)).length 39:Nat):Int)) (congrArg I (by omega))) O<|J.f ((qA1 (l:=min (s.drop (39*k)).length 39) (h:=(s.drop (39*k)).length) u9_ O O O O ⟨by omega,by omega⟩).as (v':=Str (s.drop (39*(k+1)))) (congrArg Str (by rw [List.take_length,qQo,List.drop_drop,Nat.mul_add,Nat.mul_one]))) rfl<|J.b rfl<|J.a7<|J.a6<|J.A (J.H hK8 ?_)
    refine J.d1 0 1 2 7 8 9 18 19 ?_
    exact J.L<|J.f ((qAO O O O (by omega)).nat (k+1) (by omega)) O<|J.b O<|J.a7<|J.A<|J.a8 (k+1,m8,A8,c8) (λy (hy:_∧n-y.1<n-k)=>hI0 y hy.1 hy.2) ⟨⟨by dsimp only;omega,h8⟩,by dsimp only;omega⟩ ⟨O,O,O,O,O,O,O,O,trivial⟩ (λ_ h=>h.pick [0,1] (by decide))
  refine J.b4<|J.a1<|J.a1<|J.b5 ?_
  refine J.A (J.H hK4 ?_)
  refine J.u 9 ?_
  refine J.j λK11 hK11=>?_
  have hkn:k=n:=by omega
  subst hkn
  refine J.L<|J.p 2 O<|J.c hK11<|J.u 6 ?_
  exact J.D<|J.M hw0 O (A7,c7,m) O hr [0,1] O (by decide)
end Go.Proofs.YtllnfioplpipiaaGreatDoor
