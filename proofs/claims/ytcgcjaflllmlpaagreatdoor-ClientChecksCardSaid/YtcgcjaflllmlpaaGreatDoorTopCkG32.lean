/- A part of the proof. -/
import Derived.Test.YtcgcjaflllmlpaaGreatDoorTopCkG21
set_option maxRecDepth 100000
set_option maxHeartbeats 1000000
set_option linter.unusedSimpArgs false
set_option linter.unusedVariables false
namespace Go.Proofs.YtcgcjaflllmlpaaGreatDoor
open Go Go.Fw Go.Proofs.Tryz
theorem qG4{P:Program}{env:Env}{rs:List Hp}{o:Oper}{t t':TypeId}{x y:Operand}{a m:Nat}{yk:IntKind}(ho:o.op= .binOp .shr t x y t')(hx:ev env x=some (N64 a))(hy:ev env y=some (.int yk (m:Nat)))(hr:m≤64∧a<18446744073709551616):YOp P env rs o (N64 (a/2^m)):=by
 rw [N_W hr.2] at hx
 exact(qGA ho hx hy).as (by show Value.int .u64 _=Value.int .u64 _;rw [qBF hr.2,je hr.1,qBF (zR (zt _ _) hr.2)])
theorem qXZ{P:Program}{env:Env}{rs:List Hp}{o:Oper}{t u v x y z k a b c}(ho:o.op= .call {callee:= .builtin .min,args:= #[x,y,z],argTypes:= #[t,u,v]})(hx:ev env x=some (.int k a))(hy:ev env y=some (.int k b))(hz:ev env z=some (.int k c)):YOp P env rs o (.int k (min (min a b) c)):=λn ac w hk _=>by
 by_cases h:b<a<;>by_cases h2:c<(if b<a then b else a)<;>simp [execOp,ho,hk.ev hx,hk.ev hy,hk.ev hz,resolve,invoke,builtin,Builtin.min_,Builtin.min2,h] at h2⊢
 all_goals first|rw [if_pos xB]|rw [if_neg xB]
 all_goals omega
theorem and32{n:Nat}(h:n<4294967296):n&&&4294967295=n:=by
 have:=Nat.and_two_pow_sub_one_eq_mod n 32
 rw [show(2^32-1:Nat)=4294967295 from rfl] at this
 rw [this];exact jb h
theorem qUN(F:Hp)(n:Nat)(hn:n<4294967296):
    Cz prog 165 [N64 1,N64 n] F (.tuple #[N64 0,N64 n]):=by
  refine Ct.walk func165 O ntmps165 O (λw0 hw0=>?_)
  exact J.g λ_ j1=>J.k 2 O<|J.c j1<|J.g λ_ j2=>J.b O<|J.f ((qL1 (a:=1) (b:=4294967295) O O O xB).as (v':=N64 1) O) O<|J.b O<|J.c j2<|J.g λ_ j3=>J.b O<|J.f ((qG4 (a:=1) (m:=32) O O O xB).as (v':=N64 0) O) O<|J.b O<|J.c j3<|J.g λ_ j4=>J.b O<|J.f ((qL1 O O O xB).as (v':=N64 n) (congrArg N64 (and32 hn))) O<|J.b O<|J.c j4<|J.g λ_ j5=>J.b O<|J.f ((qG4 (a:=n) (m:=32) O O O xB).as (v':=N64 0) (congrArg N64 (zL xB))) O<|J.b O<|J.c j5<|J.g λ_ j6=>J.k 2 O<|J.f ((qG7 O O O xB).as (v':=N64 n) (congrArg N64 (Nat.one_mul n))) O<|J.b O<|J.c j6<|J.g λ_ j7=>J.k 2 O<|J.f ((qG7 O O O xB).as (v':=N64 0) (congrArg N64 (yJ n))) O<|J.b O<|J.f ((qG4 (a:=n) (m:=32) O O O xB).as (v':=N64 0) (congrArg N64 (zL xB))) O<|J.f ((qG8 O O O xB).as (v':=N64 0) O) O<|J.b O<|J.c j7<|J.g λ_ j8=>J.b O<|J.f ((qL1 (a:=0) (b:=4294967295) O O O xB).as (v':=N64 0) O) O<|J.b O<|J.c j8<|J.g λ_ j9=>J.b O<|J.f ((qG4 (a:=0) (m:=32) O O O xB).as (v':=N64 0) O) O<|J.b O<|J.c j9<|J.g λ_ j10=>J.k 3 O<|J.f ((qG7 O O O xB).as (v':=N64 0) O) O<|J.f ((qG8 O O O xB).as (v':=N64 0) O) O<|J.b O<|J.c j10<|J.g λ_ j11=>J.k 2 O<|J.f ((qG7 O O O xB).as (v':=N64 0) O) O<|J.b O<|J.f ((qG8 O O O xB).as (v':=N64 0) O) O<|J.b O<|J.f ((qG4 (a:=0) (m:=32) O O O xB).as (v':=N64 0) O) O<|J.f ((qG8 O O O xB).as (v':=N64 0) O) O<|J.b O<|J.c j11<|J.g λ_ j12=>J.k 2 O<|J.f ((qG7 O O O xB).as (v':=N64 n) (congrArg N64 (Nat.one_mul n))) O<|J.b O<|J.c j12<|J.A<|J.b0 hw0 (λ_ _ h=>h) (qCK O O O) (qAn () O trivial [0] O xC)
theorem qYV(F:Hp)(n:Nat)(hn:n<4294967296):
    Cz prog 109 [N64 1,N64 n] F (.tuple #[N64 0,N64 n]):=by
  refine Ct.walk func109 O ntmps109 O (λw0 hw0=>?_)
  refine J.g λ_ j1=>J.k 2 O<|J.c j1<|J.q λ_ j2=>J.a2 ?_
  exact J.T j2<|J.g λ_ j3=>J.k 2 O<|J.p (qAa O O (λF' hF=>qUN F' n hn)) O λg25 _=>J.k 5 O<|J.c j3<|J.g λ_ j4=>J.k 4 O<|J.c j4<|J.A<|J.b0 hw0 (λ_ _ h=>h) (qCK O O O) (qAn () O trivial [0] O xC)
theorem qMd(F mr:Hp)(g:Nat)(l:List Value)(bs:xA)(A:Option Addr)(c:Nat)(p:Option Addr)(hb:Bld g 0 l mr bs A c p):
    Ct prog 113 [Ptr g] [blk g l 156,F] (λ_:Unit=>I bs.length) (λ_=>True) (λ_=> [blk g l 156,F]):=by
  refine Ct.walk func113 O ntmps113 O (λw0 hw0=>?_)
  exact J.g λ_ j1=>J.b O<|J.c j1<|J.g λ_ j2=>J.b O<|J.f (qAB O O) O<|J.M 1 qDh qJj O O O O O<|J.f (qAC 0 O O O qPc hb.a1) O<|J.f (qAR qBt O O) O<|J.b O<|J.c j2<|J.A<|J.E hw0 O () O trivial [0,1] O xC
theorem qGp(F:Hp)(n:Nat)(h2:2≤n)(h3:n≤8192):
    Cz prog 50 [Str [0],I n] F (Str (List.replicate n 0)):=by
  refine Ct.walk func50 O ntmps50 O (λw0 hw0=>?_)
  refine J.g λ_ j1=>J.b O<|J.c j1<|J.q λ_ j2=>J.g λ_ j3=>J.b O<|J.c j3<|J.V<|J.g λ_ j4=>J.f ((qAX O O O).no xB) O<|J.b O<|J.c j4<|J.a2 ?_
  refine J.g λ_ j5=>J.f ((qAX O O O).no xB) O<|J.b O<|J.c j5<|J.a2 ?_
  refine J.b5<|J.a3<|J.u (J.G j2 ?_)
  refine J.q λ_ j6=>J.g λ_ j7=>J.b O<|J.f ((qAS O O O).no xB) O<|J.c j7<|J.a2 ?_
  refine J.T j6<|J.g λ_ j8=>J.b O<|J.f (qAs u9_ O O) O<|J.f ((qAx O O u3_ qIj xB).as (v':=N64 1) (N_W xB).symm) O<|J.b O<|J.f ((qAx O O u3_ qIj xB).as (v':=N64 n) (N_W xB).symm) O<|J.p (qAa O O (λF' hF=>qYV F' n xB)) O λg26 _=>J.k 5 O<|J.c j8<|J.q λ_ j9=>J.g λ_ j10=>J.b O<|J.f ((qAz O O O).no xC) O<|J.k 2 O<|J.D ((qAz O O O).no xB) O<|J.b O<|J.c j10<|J.a2 ?_
  refine J.T j9<|J.g λ_ j11=>J.b O<|J.f (qEN O O qIj u3_ xB) O<|J.b O<|J.c j11<|J.q λ_ j12=>J.g λ_ j13=>J.b O<|J.f (qAs u9_ O O) O<|J.f ((qAX O O O).no xC) O<|J.c j13<|J.a2 ?_
  refine J.T j12<|J.q λ_ j14=>J.g λ_ j15=>J.b O<|J.f (qBb u9_ O O O O) O<|J.c j15<|J.V<|J.q λ_ j16=>J.g λ_ j17=>J.f ((qAX O O O).no xC) O<|J.b O<|J.c j17<|J.a2 ?_
  refine J.g λ_ j18=>J.f ((qAX O O O).no xC) O<|J.b O<|J.c j18<|J.a2 ?_
  refine J.g λ_ j19=>J.f ((qAX O O O).no xC) O<|J.b O<|J.c j19<|J.a2 ?_
  refine J.g λ_ j20=>J.f ((qAX O O O).no xC) O<|J.b O<|J.c j20<|J.a2 ?_
  refine J.H<|J.f ((qAX O O O).no xC) O<|J.b O<|J.c j16<|J.a2 ?_
  refine J.b5<|J.a3<|J.u (J.G j14 ?_)
  refine J.g λ_ j21=>J.k 2 O<|J.c j21<|J.q λ_ j22=>J.g λ_ j23=>J.b O<|J.f ((qAz O O O).no xB) O<|J.c j23<|J.a2 ?_
  refine J.T j22<|J.g λ_ j24=>J.p (qAJ O zeroValue156 O) O λg9 _=>J.d0 [1,2,0] [blk g9 [.pointer none,.slice none 0 0] 156,λ_=>none,F] O xC<|J.c j24<|J.g λ_ j25=>J.b O<|J.p (qAK O O ent (qOH F g9 156 0 [.pointer none,.slice none 0 0] none ⟨O,.inl O,O,qBh.nil,.inl O⟩ qME n xB)) O ?_
  rintro⟨l57,m57⟩ ⟨A57,c57,hb57,hu57⟩
  dsimp only at hb57 hu57
  refine J.c j25<|J.g λ_ j26=>J.b O<|J.p (qAK O O ent (qBS F m57 g9 156 0 l57 [] A57 c57 _ hb57 (by rw [hu57.1];exact qME) [0] xC)) O ?_
  rintro⟨l61,m61⟩ ⟨A61,c61,hb61,hu61⟩
  dsimp only at hb61 hu61
  refine J.c j26<|J.q λ_ j27=>J.V<|J.b6 (X:=Nat×List Value×Hp×Option Addr×Nat) (λx=> [(7,I n),(8,I n),(9,Ptr g9)]) (λx=> [blk g9 x.2.1 156,x.2.2.1,F]) (λx=>1≤x.1∧x.1≤n∧x.2.1.length=2∧Bld g9 0 x.2.1 x.2.2.1 (List.replicate x.1 (0:UInt8)) x.2.2.2.1 x.2.2.2.2 (some ⟨g9,0,none⟩)) (λx=>n-x.1) (1,l61,m61,A61,c61) (⟨xB,xB,by rw [hu61.1,hu57.1];rfl,hb61⟩) ⟨O,O,O,trivial⟩ (λ_ h=>h) ?_
  rintro⟨k,l,m,A1,c1⟩ ⟨hk1,hkn,hll,hb⟩ I3 hI3
  dsimp only at hk1 hkn hll hb⊢
  refine J.q λ_ j28=>J.g λ_ j29=>J.p (qAK O O ent (Ct.use1 0 O (λF' _=>qMd F' m g9 l (List.replicate k (0:UInt8)) A1 c1 _ hb))) O λg111 _=>J.b O<|J.f ((qAS O O O).as (v':= .bool (decide (k<n))) (congrArg Value.bool (decide_eq_decide.2 (by rw [jJ];omega)))) O<|J.c j29<|J.a0 O (λh113=>?_) (λh113=>?_)
  ·
    refine J.T j28<|J.V<|J.g λ_ j30=>J.b O<|J.p (qAK O O ent (Ct.use1 0 O (λF' _=>qMd F' m g9 l (List.replicate k (0:UInt8)) A1 c1 _ hb))) O λg115 _=>J.f ((qA3 O O O (by rw [jJ];omega)).as (v':=I (n-k:Nat)) (congrArg I (by rw [jJ];omega))) O<|J.p (qAK O O ent (Ct.use1 0 O (λF' _=>qMd F' m g9 l (List.replicate k (0:UInt8)) A1 c1 _ hb))) O λg117 _=>J.b O<|J.f ((qXZ O O O O).as (v':=I (min (n-k) k:Nat)) (congrArg I (by rw [jJ];omega))) O<|J.b O<|J.c j30<|J.H<|J.p (qAK O O ent (qET F m g9 156 0 l (List.replicate k (0:UInt8)) A1 c1 _ hb (by rw [jJ];omega))) O ?_
    rintro m20 hb20
    refine J.b O<|J.f ((qBD u9_ O O O O ⟨xB,by rw [jJ];omega⟩).as (v':=Str (List.replicate (min (n-k) k) (0:UInt8))) (by rw [zn,List.take_replicate];congr 2;omega)) O<|J.p (qAK O O ent (qBS F m20 g9 156 0 l (List.replicate k (0:UInt8)) A1 c1 _ hb20 (by rw [hll];exact qME) (List.replicate (min (n-k) k) (0:UInt8)) (by simp only [jJ];omega))) O ?_
    rintro⟨l23,m23⟩ ⟨A23,c23,hb23,hu23⟩
    dsimp only at hb23 hu23
    rw [List.replicate_append_replicate] at hb23
    exact J.a4<|J.a3<|J.u<|J.a5 (k+min (n-k) k,l23,m23,A23,c23) (λx (hx:_∧n-x.1<n-k)=>hI3 x hx.1 hx.2) ⟨⟨by dsimp only;omega,by dsimp only;omega,by rw [hu23.1];exact hll,hb23⟩,by dsimp only;omega⟩ ⟨O,O,O,trivial⟩ (λ_ h=>h)
  refine J.b3<|J.a1<|J.a1<|J.b4 ?_
  refine J.u (J.G j27 ?_)
  refine J.q λ_ j31=>?_
  have hkn2:k=n:=xB
  subst hkn2
  refine J.H<|J.p (qAK O O ent (qET F m g9 156 0 l (List.replicate k (0:UInt8)) A1 c1 _ hb (by rw [jJ];omega))) O ?_
  rintro m24 _
  exact J.b O<|J.c j31<|J.A<|J.E hw0 O () O trivial [2] O xC
theorem qTv(F:Hp):Cz prog 50 [Str [0],I 0] F (Str []):=by
 refine Ct.walk func50 O ntmps50 O (λw0 hw0=>?_)
 refine J.g λ_ j1=>J.b O<|J.c j1<|J.q λ_ j2=>J.g λ_ j3=>J.b O<|J.c j3<|J.V<|J.g λ_ j4=>J.f ((qAX O O O).yes xB) O<|J.b O<|J.c j4<|J.c3 ?_
 exact J.g λ_ j5=>J.b O<|J.c j5<|J.A<|J.a8<|J.W<|J.E hw0 O () O trivial [0] O xC
theorem qTu(F:Hp):Cz prog 50 [Str [0],I 1] F (Str [0]):=by
 refine Ct.walk func50 O ntmps50 O (λw0 hw0=>?_)
 refine J.g λ_ j1=>J.b O<|J.c j1<|J.q λ_ j2=>J.g λ_ j3=>J.b O<|J.c j3<|J.V<|J.g λ_ j4=>J.f ((qAX O O O).no xB) O<|J.b O<|J.c j4<|J.a2 ?_
 refine J.g λ_ j5=>J.f ((qAX O O O).yes xB) O<|J.b O<|J.c j5<|J.c3 ?_
 exact J.g λ_ j6=>J.k 2 O<|J.c j6<|J.A<|J.a8<|J.W<|J.E hw0 O () O trivial [0] O xC
theorem qFV(F:Hp)(n:Nat)(h3:n≤8192):
    Cz prog 50 [Str [0],I n] F (Str (List.replicate n 0)):=by
  match n,h3 with
  |0,_=>exact qTv F
  |1,_=>exact qTu F
  |n+2,h3=>exact qGp F (n+2) xB h3
theorem el308:qCt prog 308 [.int .i64 0,Str []] 24:=qCt.of xI O
abbrev Wri:=Nat×xA
structure Dk where
 last:List xA
 wait:List Wri
 off:Bool
 armed:Bool
 fuse:Int
 keep:xA
def qDg(l:List Wri):List (List Value):=l.map λw=> [I w.1,Str w.2]
theorem qPi(a b:List Wri):qDg (a++b)=qDg a++qDg b:=by simp [qDg]
theorem qGY{l:List Wri}{k:Nat}(h:k<l.length):(qDg l)[k]?=some [I (l.getD k (0,[])).1,Str (l.getD k (0,[])).2]:=by
 unfold qDg
 rw [jN,qAi (0,[]) h];rfl
theorem qPh(l:List Wri):(qDg l).all (λx=>x.all Value.oneCell')=true:=by simp [qDg,Value.oneCell']
theorem qH0(a b:List xA):qAG (a++b)=qAG a++qAG b:=by simp [qAG]
def Dk.cells(d:Dk)(A:Option Addr)(c:Nat)(B:Option Addr)(e:Nat)(C:Option Addr)(f:Nat):List Value:= [.slice A d.last.length c,.slice B d.wait.length e,.bool d.off,.bool d.armed,I d.fuse,.slice C d.keep.length f]
def Dsk(mm:Hp)(g:Nat)(d:Dk)(C:Option Addr)(f:Nat):Prop:= ∃A c mL B e mW,mm=U [blk g (d.cells A c B e C f) 134,mL,mW]∧Djs [blk g (d.cells A c B e C f) 134,mL,mW]∧Row mL 9 1 A d.last.length c (qAG d.last)∧Row mW 308 2 B d.wait.length e (qDg d.wait)
theorem Dsk.see{mm:Hp}{g:Nat}{d:Dk}{C:Option Addr}{f:Nat}(h:Dsk mm g d C f): ∃A c B e,qAM mm ⟨g,0,none⟩ (d.cells A c B e C f)∧Sl mm 1 A d.last.length c (qAG d.last)∧Sl mm 2 B d.wait.length e (qDg d.wait):=by
 obtain ⟨A,c,mL,B,e,mW,rfl,hd,h1,h2⟩:=h
 exact⟨A,c,B,e,qAM.blk0.mono (qFO hd (.head _)),h1.sl.mono (qFO hd (.tail _ (.head _))),h2.sl.mono (qFO hd (.tail _ (.tail _ (.head _))))⟩
def Dk.ready(d:Dk)(i:Int):Int:=if d.off then 8 else if i<0∨(d.last.length:Int)≤i then 10 else 0
def qVh(l:List Wri)(i:Nat):Nat→Option xA
 |0=>none
 |k+1=>if(l.getD k (0,[])).1=i then some (l.getD k (0,[])).2 else qVh l i k
theorem qKB(l:List Wri)(i:Nat):qVh l i 0=none:=rfl
theorem qQM(l:List Wri)(i k:Nat):qVh l i (k+1)=if(l.getD k (0,[])).1=i then some (l.getD k (0,[])).2 else qVh l i k:=rfl
def Dk.now(d:Dk)(i:Nat):xA:=(qVh d.wait i d.wait.length).getD (d.last.getD i [])
def Dk.read(d:Dk)(i:Int):xA:=if d.ready i=0 then d.now i.toNat else []
def qYk(old t:xA)(n:Nat):xA:=t.take n++old.drop n
def qMI(L:List xA)(w:Wri)(n:Nat):List xA:=L.set w.1 (qYk (L.getD w.1 []) w.2 n)
theorem qKi(L:List xA)(w:Wri)(n:Nat):(qMI L w n).length=L.length:=by unfold qMI;rw [jo]
def qDQ(L:List xA)(W:List Wri):Nat→List xA
 |0=>L
 |k+1=>qMI (qDQ L W k) (W.getD k (0,[])) 64
def qJZ(L:List xA)(W:List Wri)(K:xA):Nat→List xA
 |0=>L
 |k+1=>if k<K.length then qMI (qJZ L W K k) (W.getD k (0,[])) (min (K.getD k 0).toNat 64) else qJZ L W K k
theorem qBO(L:List xA)(W:List Wri): ∀k,(qDQ L W k).length=L.length
 |0=>rfl
 |k+1=>by rw [qDQ,qKi,qBO L W k]
theorem qBR(L:List xA)(W:List Wri)(K:xA): ∀k,(qJZ L W K k).length=L.length
 |0=>rfl
 |k+1=>by
  rw [qJZ]
  split
  · rw [qKi,qBR L W K k]
  · exact qBR L W K k
def Dk.cut(d:Dk)(K:xA):Dk:={d with last:=qJZ d.last d.wait K d.wait.length,wait:= [],off:=true,armed:=false}
def Dk.burns(d:Dk):Prop:=d.armed=true∧d.fuse-1<0
instance (d:Dk):Decidable d.burns:=by unfold Dk.burns;infer_instance
def Dk.burn(d:Dk):Dk:=if d.armed=true then(if d.fuse-1<0 then{d with fuse:=d.fuse-1}.cut d.keep else{d with fuse:=d.fuse-1}) else d
def qRy(s:xA):xA:=s++List.replicate (64-s.length) 0
theorem qUp{s:xA}(h:s.length≤64):(qRy s).length=64:=by unfold qRy;rw [jA,jJ];omega
structure Dk.ok0 (d:Dk):Prop where
 l64: ∀s∈d.last,s.length=64
 w64: ∀w∈d.wait,w.1<d.last.length∧w.2.length=64
 n0:0<d.last.length
 n1:d.last.length≤1024
structure Dk.ok (d:Dk):Prop extends Dk.ok0 d where
 fz:d.armed=true→0≤d.fuse
 fb: -9223372036854775808≤d.fuse∧d.fuse≤9223372036854775807
theorem qTN{o t:xA}{n:Nat}(ho:o.length=64)(ht:t.length=64)(hn:n≤64):(qYk o t n).length=64:=by unfold qYk;rw [jA,jF,jH];omega
theorem qX7{L:List xA}(h: ∀s∈L,s.length=64){k:Nat}(hk:k<L.length):(L.getD k []).length=64:=by
 rw [jB,jC hk];exact h _ (ja hk)
theorem qUn{W:List Wri}{p:Wri→Prop}(h: ∀w∈W,p w){k:Nat}(hk:k<W.length):p (W.getD k (0,[])):=by
 rw [jB,jC hk];exact h _ (ja hk)
theorem qNk{L:List xA}(h: ∀s∈L,s.length=64){w:Wri}(hw:w.1<L.length∧w.2.length=64){n:Nat}(hn:n≤64): ∀s∈qMI L w n,s.length=64:=λs hs=>by
 unfold qMI at hs
 rcases yH hs with hs|rfl
 · exact h s hs
 · exact qTN (qX7 h hw.1) hw.2 hn
theorem qIo{L:List xA}{W:List Wri}(h: ∀s∈L,s.length=64)(hw: ∀w∈W,w.1<L.length∧w.2.length=64): ∀k,k≤W.length→ ∀s∈qDQ L W k,s.length=64
 |0,_=>h
 |k+1,hk=>by
  rw [qDQ]
  exact qNk (qIo h hw k xB) (by rw [qBO];exact qUn hw (show k<W.length by omega)) (jK _)
theorem qJY{L:List xA}{W:List Wri}{K:xA}(h: ∀s∈L,s.length=64)(hw: ∀w∈W,w.1<L.length∧w.2.length=64): ∀k,k≤W.length→ ∀s∈qJZ L W K k,s.length=64
 |0,_=>h
 |k+1,hk=>by
  rw [qJZ]
  split
  · exact qNk (qJY h hw k xB) (by rw [qBR];exact qUn hw (show k<W.length by omega)) (Nat.min_le_right _ _)
  · exact qJY h hw k xB
theorem Dk.ok0.cut{d:Dk}(h:d.ok0)(K:xA):(d.cut K).ok0:=
 ⟨qJY h.l64 h.w64 _ (jK _),(λw hw=>nomatch hw),by show 0<(qJZ _ _ _ _).length;rw [qBR];exact h.n0,by show(qJZ _ _ _ _).length≤_;rw [qBR];exact h.n1⟩
theorem Dk.ok.cut{d:Dk}(h:d.ok)(K:xA):(d.cut K).ok:=⟨Dk.ok0.cut h.1 K,(λe=>nomatch e),h.fb⟩
theorem Dk.ok.burn{d:Dk}(h:d.ok):d.burn.ok:=by
  unfold Dk.burn
  split
  · rename_i ha
    have h1:=h.fz ha
    have h2:=h.fb
    split
    · exact⟨Dk.ok0.cut (d:={d with fuse:=d.fuse-1}) ⟨h.l64,h.w64,h.n0,h.n1⟩ _,(λe=>nomatch e),by show _≤d.fuse-1∧d.fuse-1≤_;omega⟩
    · exact⟨⟨h.l64,h.w64,h.n0,h.n1⟩,λ_=>by show 0≤d.fuse-1;omega,by show _≤d.fuse-1∧d.fuse-1≤_;omega⟩
  · exact h
def Dk.wErr(d:Dk)(i:Int)(s:xA):Int:=if d.ready i≠0 then d.ready i else if 64<s.length then 2 else if d.burns then 8 else 0
def Dk.write(d:Dk)(i:Int)(s:xA):Dk:=if d.ready i≠0 then d else if 64<s.length then d else if d.burns then d.burn else{d.burn with wait:=d.burn.wait++ [(i.toNat,qRy s)]}
def Dk.sErr(d:Dk):Int:=if d.ready 0≠0 then d.ready 0 else if d.burns then 8 else 0
def Dk.sync(d:Dk):Dk:=if d.ready 0≠0 then d else if d.burns then d.burn else{d.burn with last:=qDQ d.burn.last d.burn.wait d.burn.wait.length,wait:= []}
def Dk.new(n:Nat):Dk:=⟨List.replicate n (List.replicate 64 0),[],false,false,0,[]⟩
theorem qNA{d:Dk}{i:Int}(h:d.ready i=0):0≤i∧i<d.last.length∧d.off=false:=by
  unfold Dk.ready at h
  split at h
  · cases h
  · rename_i h1
    split at h
    · cases h
    · exact⟨xB,xB,by simpa using h1⟩
theorem qD6{d:Dk}(h: ¬d.burns):d.burn.last=d.last∧d.burn.wait=d.wait∧d.burn.off=d.off:=by
  unfold Dk.burn
  split
  · rename_i ha
    rw [if_neg (λe=>h ⟨ha,e⟩)];exact⟨O,O,O⟩
  · exact⟨O,O,O⟩
theorem Dk.ok.write{d:Dk}(h:d.ok)(i:Int)(s:xA):(d.write i s).ok:=by
  unfold Dk.write
  split
  · exact h
  · rename_i h0
    split
    · exact h
    · rename_i h1
      have hb:=h.burn
      split
      · exact hb
      · rename_i h2
        obtain ⟨r1,r2,_⟩:=qNA (Decidable.not_not.1 h0)
        refine⟨⟨hb.l64,λw hw=>?_,hb.n0,hb.n1⟩,hb.fz,hb.fb⟩
        rcases List.mem_append.1 hw with hw|hw
        · exact hb.w64 w hw
        · simp only [jT] at hw
          subst hw
          exact⟨by show i.toNat<d.burn.last.length;rw [(qD6 h2).1];omega,qUp xB⟩
theorem Dk.ok.sync{d:Dk}(h:d.ok):d.sync.ok:=by
  unfold Dk.sync
  split
  · exact h
  · have hb:=h.burn
    split
    · exact hb
    · exact⟨⟨qIo hb.l64 hb.w64 _ (jK _),(λw hw=>nomatch hw),by show 0<(qDQ _ _ _).length;rw [qBO];exact hb.n0,by show(qDQ _ _ _).length≤_;rw [qBO];exact hb.n1⟩,hb.fz,hb.fb⟩
theorem Dk.new_ok{n:Nat}(h:4≤n)(h2:n≤1024):(Dk.new n).ok:=⟨⟨λs hs=>by have:=zP hs;rw [this,jJ],(λw hw=>nomatch hw),by show 0<(List.replicate n _).length;rw [jJ];omega,by show(List.replicate n _).length≤_;rw [jJ];exact h2⟩,(λe=>nomatch e),⟨by show-9223372036854775808≤(0:Int);decide,by show(0:Int)≤_;decide⟩⟩
theorem qIz(F:Hp)(g:Nat)(d:Dk)(A:Option Addr)(c:Nat)(B:Option Addr)(e:Nat)(C:Option Addr)(f:Nat)(hc:qAM F ⟨g,0,none⟩ (d.cells A c B e C f))(i:Int)(hn:d.last.length≤1073741824):
    Cz prog 204 [Ptr g,I i] F (I (d.ready i)):=by
  refine Ct.walk func204 O ntmps204 O (λw0 hw0=>?_)
  refine J.g λ_ j1=>J.b O<|J.c j1<|J.q λ_ j2=>J.V<|J.g λ_ j3=>J.b O<|J.f ((qA4 underlying82 O O O).as (v':= .bool false) O) O<|J.b O<|J.c j3<|J.a2 ?_
  refine J.g λ_ j4=>J.b O<|J.f (qAB O O) O<|J.M 2 qCn z4_ O O O O O<|J.f ((qAI O O b4_ (m:=F) xD (hc.at (i:=2) O)).as (v':= .bool (decide (d.off=true))) (congrArg Value.bool xD)) O<|J.b O<|J.c j4<|J.a0 O (λh8=>?_) (λh8=>?_)
  ·
    exact J.g λ_ j5=>J.b O<|J.c j5<|J.A<|J.a8<|J.W<|J.E hw0 O () (congrArg I (show(8:Int)=d.ready i by unfold Dk.ready;rw [if_pos h8])) trivial [0] O xC
  refine J.g λ_ j6=>J.b O<|J.f (qAS O O O) O<|J.b O<|J.b9 (d:=16) O (λh16=>?_) (λh16=>?_)
  ·
    refine J.k 9 O<|J.c j6<|J.c3 ?_
    exact J.g λ_ j7=>J.b O<|J.c j7<|J.A<|J.a8<|J.W<|J.E hw0 O () (congrArg I (show(10:Int)=d.ready i by unfold Dk.ready;rw [if_neg h8,if_pos xB])) trivial [0] O xC
  refine J.k 2 O<|J.D (qAB O O) O<|J.D (qAA O O qCn O qB1 O) O<|J.D (qAI O O qCC (m:=F) xD (hc.at (i:=0) O)) O<|J.D (qAR qAk O O) O<|J.D (qBL O O O) O<|J.k 2 O<|J.c j6<|J.a0 O (λh13=>?_) (λh13=>?_)
  ·
    exact J.g λ_ j8=>J.b O<|J.c j8<|J.A<|J.a8<|J.W<|J.E hw0 O () (congrArg I (show(10:Int)=d.ready i by unfold Dk.ready;rw [if_neg h8,if_pos xB])) trivial [0] O xC
  refine J.b5<|J.a3<|J.u (J.G j2 ?_)
  exact J.g λ_ j9=>J.b O<|J.c j9<|J.A<|J.E hw0 O () (congrArg I (show(0:Int)=d.ready i by unfold Dk.ready;rw [if_neg h8,if_neg xB])) trivial [0] O xC
theorem qN2(F:Hp)(g:Nat)(d:Dk)(A:Option Addr)(c:Nat)(B:Option Addr)(e:Nat)(C:Option Addr)(f:Nat)(hc:qAM F ⟨g,0,none⟩ (d.cells A c B e C f)):
    Cz prog 123 [Ptr g] F (I d.last.length):=by
  refine Ct.walk func123 O ntmps123 O (λw0 hw0=>?_)
  refine J.g λ_ j1=>J.b O<|J.c j1<|J.q λ_ j2=>J.g λ_ j3=>J.b O<|J.f ((qA4 underlying82 O O O).as (v':= .bool false) O) O<|J.c j3<|J.a2 ?_
  exact J.T j2<|J.g λ_ j4=>J.b O<|J.f (qAB O O) O<|J.M 0 qCn qB1 O O O O O<|J.f (qAI O O qCC (m:=F) xD (hc.at (i:=0) O)) O<|J.f (qAR qAk O O) O<|J.b O<|J.c j4<|J.A<|J.E hw0 O () O trivial [0] O xC
theorem qVC(F:Hp)(B:Option Addr)(n e:Nat):Ct prog 205 [.slice B n e] [F] (λx:Nat=> .func (.func 234) #[] #[Ptr x]) (λ_=>True) (λx=> [F,blk x [.slice B n e] 132]):=by
 refine Ct.walk func205 O ntmps205 O (λw0 hw0=>?_)
 exact J.g λ_ j1=>J.p (qAZ O O O) O λg1 _=>J.b O<|J.c j1<|J.g λ_ j2=>J.f (qBk O O) O<|J.b O<|J.c j2<|J.A<|J.E hw0 O g1 O trivial [0,1] O xC
theorem qSe(Fr:Hp)(gB:Nat)(B:Option Addr)(W:List Wri)(e:Nat)(hn2:W.length≤1073741824)(ha:qAM Fr ⟨gB,0,none⟩ [.slice B W.length e])(hs:Sl Fr 2 B W.length e (qDg W)):
    qJi prog 234 [Ptr gB] Fr (λi=> [I (W.length-1-i:Nat),.agg #[I (W.getD (W.length-1-i) (0,[])).1,Str (W.getD (W.length-1-i) (0,[])).2]]) W.length:=by
  refine qJi.walk func234 O ntmps234 O (λ{X} M IY S l x0 w0 hw0 h0 hY=>?_)
  refine J.g λ_ j1=>J.f (qAI O O isAgg132 (m:=Fr) xD (ha)) O<|J.f (qAR qIk O O) O<|J.f ((qA3 O O O xB).as (v':=I ((W.length:Int)-1-((0:Nat):Int))) (congrArg I xB)) O<|J.b O<|J.c j1<|J.V<|J.b6 (X:=Nat×X) (λy=> [(0,.func (.yield l) #[] #[]),(1,Ptr gB),(3,I ((W.length:Int)-1-(y.1:Int)))]) (λy=> [Fr,M y.2]) (λy=>y.1≤W.length∧IY y.1 y.2) (λy=>W.length-y.1) (0,x0) (⟨jG _,h0⟩) ⟨O,O,O,trivial⟩ (λ_ h=>h) ?_
  rintro⟨i,x⟩ ⟨hi,hI⟩ I0 hI0
  dsimp only at hi hI⊢
  refine J.q λ_ j2=>J.g λ_ j3=>J.b O<|J.f (qBL O O O) O<|J.c j3<|J.a0 O (λh8=>?_) (λh8=>?_)
  ·
    refine J.T j2<|J.q λ_ j4=>J.V<|J.q λ_ j5=>J.f6 ?_
    refine J.c9 (qA2 O O) O O O ?_
    refine J.c9 ((qA2 O O).nat (W.length-1-i) xB) O O O ?_
    refine J.c9 (qAI O O isAgg132 (m:=Fr) xD (ha)) O O O ?_
    refine J.c9 ((qA2 O O).nat (W.length-1-i) xB) O O O ?_
    refine J.c9 (qAF O O O qIk qGT hs xB) O O O ?_
    refine J.c9 (qAV O O isAgg308 qGT (m:=Fr) xD (hs.elem (qGY xB)) O) O O O ?_
    refine J.f7 (ex:= []) O O O O O O (hY i x xB hI) ?_
    rintro x' b hb1 hb2
    cases b
    ·
      have hyb:=hb2 O
      refine J.c9 (qAt O O) O O O ?_
      refine J.e3 ?_
      refine J.u (J.G j5 ?_)
      refine J.c3 ?_
      exact J.A<|J.a8<|J.W<|J.W<|J.a8<|J.b0 hw0 (λ_ _ h=>h) (qJn O) (λw hs=>⟨x',⟨_,O⟩,.inr hyb,hs⟩)
    have hyb:=hb1 O
    refine J.c9 (qAt O O) O O O ?_
    refine J.e3 ?_
    refine J.u (J.G j5 ?_)
    refine J.a2 ?_
    refine J.b5<|J.a3<|J.u (J.G j4 ?_)
    exact J.H<|J.b O<|J.f ((qA3 O O O xB).as (v':=I ((W.length:Int)-1-((i+1:Nat):Int))) (congrArg I xB)) O<|J.b O<|J.a4<|J.u<|J.a5 (i+1,x') (λy (hy:_∧W.length-y.1<W.length-i)=>hI0 y hy.1 hy.2) ⟨⟨by dsimp only;omega,hyb⟩,by dsimp only;omega⟩ ⟨O,O,O,trivial⟩ (λ_ h=>h)
  refine J.b3<|J.a1<|J.a1<|J.b4 ?_
  exact J.d8 hw0 (λ_ _ h=>h) (qJn O) (λw hs=>⟨x,⟨_,O⟩,.inl (by rw [show W.length=i by omega];exact hI),hs⟩)
theorem qTY(F:Hp)(g:Nat)(d:Dk)(A:Option Addr)(c:Nat)(B:Option Addr)(e:Nat)(C:Option Addr)(f:Nat)(hc:qAM F ⟨g,0,none⟩ (d.cells A c B e C f))(hL:Sl F 1 A d.last.length c (qAG d.last))(hW:Sl F 2 B d.wait.length e (qDg d.wait))(i:Int)(hn:d.last.length≤1073741824)(hn2:d.wait.length≤1073741824):
    Cz prog 172 [Ptr g,I i] F (.tuple #[Str (d.read i),I (d.ready i)]):=by
  refine Ct.walk func172 O ntmps172 O (λw0 hw0=>?_)
  refine J.g λ_ j1=>J.p (qAZ O O O) O λg3 _=>J.p (qAJ O e9_ O) O λg4 _=>J.p (qAJ O zeroValue28 O) O λg5 _=>J.c j1<|J.q λ_ j2=>J.g λ_ j3=>J.b O<|J.a7 1 b3_ O O O O O<|J.p (qAa O O (λF' hF=>qIz F' g d A c B e C f (hc.mono (Fa hF)) i hn)) O λg11 _=>J.b O<|J.c j3<|J.g λ_ j4=>J.b O<|J.f (qAe O O O) O<|J.c j4<|J.a0 O (λh13=>?_) (λh13=>?_)
  ·
    exact J.g λ_ j5=>J.b O<|J.a6 (qAD (i:=2) O O O O O z9_ O O) O O λ_ _=>J.a6 (qAD (l:= [I 0]) (i:=3) (vs:= [I (d.ready i)]) O O O O O qMi O O) O O λ_ _=>J.c j5<|J.A<|J.W<|J.b0 hw0 (λ_ _ h=>h) (rv2 O (RV.blk1 2 O O b9_) (RV.blk1 3 O O qS1)) (qAn () (by rw [show d.read i= [] from if_neg xB]) trivial [0] O xC)
  refine J.T j2<|J.q λ_ j6=>J.q λ_ j7=>?_
  have h0:d.ready i=0:=xB
  obtain ⟨hi0,hil⟩:0≤i∧i<d.last.length:=by
    unfold Dk.ready at h0
    split at h0
    · cases h0
    · split at h0
      · cases h0
      · omega
  obtain ⟨iN,hiN⟩:=zh hi0
  have hrd:d.read i=d.now iN:=by unfold Dk.read;rw [if_pos h0,hiN];rfl
  refine J.H<|J.b O<|J.f (qAB O O) O<|J.M 1 qCn qHd O O O O O<|J.f (qAI O O isAgg132 (m:=F) xD (hc.at (i:=1) O)) O<|J.p (qBr O O (λF' _=>qVC F' B d.wait.length e)) O ?_
  rintro gB _
  refine J.c j7<|J.V<|J.c5 [2,3,0,1,4] [blk g4 [Str []] 9,blk g5 [I 0] 28,F,blk g3 [I i] 3,blk gB [.slice B d.wait.length e] 132] O xC<|J.f9 (λx:xA×Int=> [blk g4 [Str x.1] 9,blk g5 [I x.2] 28]) [F,blk g3 [I i] 3,blk gB [.slice B d.wait.length e] 132] (λr x=>x=([],0)∧d.now iN=(qVh d.wait iN (d.wait.length-r)).getD (d.last.getD iN [])) (λcd x=>cd= .ret∧x=(d.now iN,0)) ([],0) O ent (λFr hF=>qSe Fr gB B d.wait e hn2 (qAM.blk0.mono (hF (blk gB [.slice B d.wait.length e] 132) xD)) (hW.mono (Fa hF))) (λ_ _=>rfl) O (⟨O,O⟩) ?_ ?_ ?_
  ·
    intro r x l wa wb hi hI K8 Post8 j8 hN8 hR8 hE8
    obtain ⟨x1,x2⟩:=x
    obtain ⟨hx,hnow⟩:=hI
    cases hx
    have hsk:qVh d.wait iN (d.wait.length-r)=if(d.wait.getD (d.wait.length-1-r) (0,[])).1=iN then some (d.wait.getD (d.wait.length-1-r) (0,[])).2 else qVh d.wait iN (d.wait.length-(r+1)):=by
      have:=qQM d.wait iN (d.wait.length-1-r)
      rw [show d.wait.length-1-r+1=d.wait.length-r by omega] at this
      rw [this,show d.wait.length-(r+1)=d.wait.length-1-r by omega]
    refine J.d9 ?_
    refine J.p (qAJ O zeroValue308 O) O λg8 _=>J.a6 (qAD (l:= [I 0,Str []]) (i:=5) (vs:= [I (d.wait.getD (d.wait.length-1-r) (0,[])).1,Str (d.wait.getD (d.wait.length-1-r) (0,[])).2]) O O O O O qGT O O) O O λ_ _=>J.e0 ?_
    refine J.u (j8 _ _ ?_)
    refine J.f5 ?_
    refine J.f4 (λ_ j9=>?_)
    refine J.d9 ?_
    refine J.M 0 qOX z3_ O O O O O<|J.a7 5 b3_ O O O O O<|J.a7 3 b3_ O O O O O<|J.f ((qAX O O O).as (v':= .bool (decide ((d.wait.getD (d.wait.length-1-r) (0,[])).1=iN))) (congrArg Value.bool (decide_eq_decide.2 xB))) O<|J.e0 ?_
    refine J.u (J.G j9 ?_)
    refine J.g5 O (λh25=>?_) (λh25=>?_)
    ·
      refine J.f4 (λ_ j10=>?_)
      refine J.d9 ?_
      refine J.M 1 qOX z9_ O O O O O<|J.a7 5 b9_ O O O O O<|J.a6 (qAD (l:= [Str []]) (i:=0) (vs:= [Str (d.wait.getD (d.wait.length-1-r) (0,[])).2]) O O O O O z9_ O O) O O λ_ _=>J.a6 (qAD (i:=1) O O O O O qMi O O) O O λ_ _=>J.e0 ?_
      refine J.u (J.G j10 ?_)
      refine J.h3 ?_
      refine J.a8<|J.c5 [0,1,2,3,4] [blk g4 [Str (d.wait.getD (d.wait.length-1-r) (0,[])).2] 9,blk g5 [I 0] 28,F,blk g3 [I i] 3,blk gB [.slice B d.wait.length e] 132] O xC ?_
      exact hR8 _ ((d.wait.getD (d.wait.length-1-r) (0,[])).2,0) ⟨O,by rw [hnow,hsk,if_pos h25];rfl⟩
    refine J.h2 ?_
    refine J.a3<|J.c5 [0,1,2,3,4] [blk g4 [Str []] 9,blk g5 [I 0] 28,F,blk g3 [I i] 3,blk gB [.slice B d.wait.length e] 132] O xC ?_
    exact hN8 _ ([],0) ⟨O,by rw [hnow,hsk,if_neg h25]⟩
  ·
    intro w8 x hx8 hI
    obtain ⟨x1,x2⟩:=x
    obtain ⟨hx,hnow⟩:=hI
    cases hx
    rw [zH,qKB] at hnow
    refine J.a3<|J.u (J.G j6 ?_)
    refine J.q λ_ j11=>J.b1 [blk g4 [Str []] 9,blk g5 [I 0] 28,F,blk g3 [I i] 3,blk gB [.slice B d.wait.length e] 132] [7,8] (.y 0 (.y 1 (.y 2 (.y 3 (.y 4 (.y 5 (.y 6 (.e 7 (.e 8 .nil))))))))) Tryz.wide xF xD ?_
    refine J.L ?_
    refine J.j O (qAB O O) O O<|J.j O (qAA O O qCn O qB1 O) O O<|J.j O (qAI O O qCC (m:=F) xD (hc.at (i:=0) O)) O O<|J.j O (qAC 3 O O O b3_ O) O O<|J.j O (qAF O O (by show some (I i)=_;rw [hiN]) qAk z9_ hL xB) O O<|J.j O (qAI O O b9_ (m:=F) xD (hL.elem (qAY (qAi [] (show iN<d.last.length by omega))))) O O<|J.c1 O (qAD (l:= [Str []]) (i:=0) (vs:= [Str (d.last.getD iN [])]) O O O O O z9_ O O) O O O λ_ _=>J.c1 O (qAD (i:=1) O O O O O qMi O O) O O O λ_ _=>J.a9<|J.u (J.G j11 ?_)
    exact J.A<|J.e9 hw0 hx8 (λ_ _ h=>h) (rv2 O (RV.blk1 0 O O b9_) (RV.blk1 1 O O qS1)) (qAn () (by rw [hrd,h0,hnow];rfl) trivial [2] O xC)
  intro w8 x c hx8 hS
  obtain ⟨rfl,rfl⟩:=hS
  exact J.A<|J.a8<|J.W<|J.e9 hw0 hx8 (λ_ _ h=>h) (rv2 O (RV.blk1 0 O O b9_) (RV.blk1 1 O O qS1)) (qAn () (by rw [hrd,h0]) trivial [2] O xC)
theorem qR6(g i:Nat):qFH (some ⟨g,0,none⟩) i 1=⟨g,i,none⟩:=by rw [qHP];simp
theorem qRb(F mL:Hp)(g gL c n:Nat)(d:Dk)(B:Option Addr)(e:Nat)(C:Option Addr)(f:Nat)(L:List xA)(hc:qAM F ⟨g,0,none⟩ [.slice (some ⟨gL,0,none⟩) L.length c,.slice B d.wait.length e,.bool d.off,.bool d.armed,I d.fuse,.slice C d.keep.length f])
    (hr:Row mL 9 1 (some ⟨gL,0,none⟩) L.length c (qAG L)) (at_:Nat) (t:xA) (hat:at_<L.length) (ht:n≤t.length) (ho:n≤(L.getD at_ []).length) (hs:t.length≤1048576) (hs2:(L.getD at_ []).length≤1048576) (hn3:L.length≤1073741824):
    Ct prog 214 [Ptr g,.agg #[I at_,Str t],I n] [mL,F] (λ_:Hp=> .tuple #[]) (λm=>Row m 9 1 (some ⟨gL,0,none⟩) L.length c (qAG (qMI L (at_,t) n))) (λm=> [m,F]):=by
  refine Ct.walk func214 O ntmps214 O (λw0 hw0=>?_)
  refine J.g λ_ j1=>J.p (qAZ O O O) O λg4 _=>J.c j1<|J.b1 [mL,F,blk g4 [I at_,Str t] 308] [22] (.y 0 (.y 1 (.y 2 (.y 3 (.y 4 (.y 5 (.y 6 (.y 7 (.y 8 (.y 9 (.y 10 (.y 11 (.y 12 (.y 13 (.y 14 (.y 15 (.y 16 (.y 17 (.y 18 (.y 19 (.y 20 (.y 21 (.e 22 .nil))))))))))))))))))))))) Tryz.wide xF xD ?_
  refine J.L ?_
  refine J.j O (qAB O O) O O<|J.j O (qAA O O qCn O qB1 O) O O<|J.j O (qAI O O qCC (m:=F) xD (hc.at (i:=0) O)) O O<|J.j O (qAA O O qOX O z3_ O) O O<|J.j O (qAC 2 O O O b3_ O) O O<|J.j O (qAA O O qOX O z9_ O) O O<|J.j O (qAC 2 O O O b9_ O) O O<|J.L ?_
  refine J.j O ((qBD u9_ O O O O ⟨xB,xB⟩).as (v':=Str (t.take n)) (congrArg Str zn)) O O<|J.L ?_
  refine J.j O (qAB O O) O O<|J.j O (qAA O O qCn O qB1 O) O O<|J.j O (qAI O O qCC (m:=F) xD (hc.at (i:=0) O)) O O<|J.j O (qAA O O qOX O z3_ O) O O<|J.j O (qAC 2 O O O b3_ O) O O<|J.j O (qAF O O O qAk z9_ hr.sl xB) O O<|J.j O (qAI O O b9_ (m:=mL) xD (hr.sl.elem (qAY (qAi [] hat)))) O O<|J.L ?_
  refine J.j O ((qBD u9_ O O O O ⟨xB,xB⟩).as (v':=Str ((L.getD at_ []).drop n)) (by rw [jp])) O O<|J.j O ((qBN O O O (by simp only [jF,jH];omega)).as (v':=Str (qYk (L.getD at_ []) t n)) O) O O<|J.j O (qAF O O O qAk z9_ hr.sl xB) O O<|J.c1 O (qBK (i:=0) (k:=at_) (off:=0) (b:= [Str (qYk (L.getD at_ []) t n)]) O (by show some _=some _;rw [qR6]) O O hr (vs:= [Str (qYk (L.getD at_ []) t n)]) O z9_ O xB (qAY (qAi [] hat)) O (by show _+1≤1;decide)) O O O ?_
  rintro m9 h9
  exact J.a9<|J.d8 hw0 (λ_ _ h=>h) (qJn O) (qAn m9 O (by rw [qDq] at h9;exact h9) [0,1] O xC)
theorem qYG(F mL mW:Hp)(g:Nat)(d:Dk)(hok:d.ok0)(hn2:d.wait.length≤1073741824)(gL:Nat)(c:Nat)(B:Option Addr)(e:Nat)(C:Option Addr)(f:Nat)(hL:Row mL 9 1 (some ⟨gL,0,none⟩) d.last.length c (qAG d.last))(hW:Row mW 308 2 B d.wait.length e (qDg d.wait))(K:xA)(E:Option Addr)(q:Nat)(hK:Sl F 1 E K.length q (qAg K))(hKn:K.length≤9223372036854775807):
    Ct prog 235 [Ptr g,.slice E K.length q] [blk g [.slice (some ⟨gL,0,none⟩) d.last.length c,.slice B d.wait.length e,.bool d.off,.bool d.armed,I d.fuse,.slice C d.keep.length f] 134,mL,mW,F] (λ_:Hp=> .tuple #[]) (λm=>Row m 9 1 (some ⟨gL,0,none⟩) d.last.length c (qAG (qJZ d.last d.wait K d.wait.length))) (λm=> [blk g [.slice (some ⟨gL,0,none⟩) d.last.length c,.slice none 0 0,.bool true,.bool false,I d.fuse,.slice C d.keep.length f] 134,m,F]):=by
  refine Ct.walk func235 O ntmps235 O (λw0 hw0=>?_)
  refine J.q λ_ j1=>J.g λ_ j2=>J.b O<|J.f ((qA4 underlying82 O O O).as (v':= .bool false) O) O<|J.c j2<|J.a2 ?_
  refine J.T j1<|J.q λ_ j3=>J.g λ_ j4=>J.b O<|J.f (qAB O O) O<|J.M 1 qCn qHd O O O O O<|J.a7 0 isAgg132 O O O O O<|J.f (qAR qIk O O) O<|J.b O<|J.c j4<|J.V<|J.b6 (X:=Nat×Hp) (λx=> [(0,Ptr g),(1,.slice E K.length q),(11,.slice B d.wait.length e),(12,I d.wait.length),(13,I x.1)]) (λx=> [blk g [.slice (some ⟨gL,0,none⟩) d.last.length c,.slice B d.wait.length e,.bool d.off,.bool d.armed,I d.fuse,.slice C d.keep.length f] 134,x.2,mW,F]) (λx=>x.1≤d.wait.length∧Row x.2 9 1 (some ⟨gL,0,none⟩) d.last.length c (qAG (qJZ d.last d.wait K x.1))) (λx=>d.wait.length-x.1) (0,mL) (⟨jG _,hL⟩) ⟨O,O,O,O,O,trivial⟩ (λ_ h=>h) ?_
  rintro⟨k,m⟩ ⟨hk,hr⟩ I0 hI0
  dsimp only at hk hr⊢
  refine J.g λ_ j5=>J.f (qAS O O O) O<|J.c j5<|J.q λ_ j6=>J.a0 O (λh14=>?_) (λh14=>?_)
  ·
    refine J.T j6<|J.q λ_ j7=>J.V<|J.g λ_ j8=>J.b O<|J.f (qAF O O O qIk qGT hW.sl xB) O<|J.f (qAV O O isAgg308 qGT (m:=mW) xD (hW.sl.elem (qGY xB)) O) O<|J.p (qAJ O zeroValue308 O) O λg5 _=>J.b O<|J.a6 (qAD (l:= [I 0,Str []]) (i:=4) (vs:= [I (d.wait.getD k (0,[])).1,Str (d.wait.getD k (0,[])).2]) O O O O O qGT O O) O O λ_ _=>J.c j8<|J.g λ_ j9=>J.k 2 O<|J.f (qAR qBt O O) O<|J.f (qAS O O O) O<|J.c j9<|J.a0 O (λh21=>?_) (λh21=>?_)
    ·
      have ⟨hw1,hw2⟩:=qUn hok.w64 (show k<d.wait.length by omega)
      have h64:=qX7 (qJY hok.l64 hok.w64 (K:=K) k hk) (show(d.wait.getD k (0,[])).1<(qJZ d.last d.wait K k).length by rw [qBR];exact hw1)
      obtain ⟨nk,hnk⟩: ∃nk,nk=min (K.getD k 0).toNat 64:=⟨_,rfl⟩
      refine J.b1 [blk g5 [I (d.wait.getD k (0,[])).1,Str (d.wait.getD k (0,[])).2] 308,F] [] (.y 0 (.y 1 (.y 2 (.y 3 (.y 4 (.y 5 (.y 6 (.y 7 (.e 8 .nil))))))))) Tryz.wide xF xD ?_
      refine J.L ?_
      refine J.j O (qAW 0 O O O isAgg308 qGT O) O O<|J.L ?_
      refine J.L ?_
      refine J.j O (qAF O O O qBt z5_ hK xB) O O<|J.j O (qAI O O b5_ (m:=F) xD (hK.elem (qBp (qAi 0 xB)))) O O<|J.j O (qBy O O u5_ u3_) O O<|J.j O ((qFr O O O).nat (nk) xB) O O<|J.Z O (qAK O O ent (Ct.use1 1 O (λF' hF=>by have:=qRb F' m g gL c nk d B e C f (qJZ d.last d.wait K k) (by rw [qBR];exact qAM.blk0.mono (hF (blk g [.slice (some ⟨gL,0,none⟩) d.last.length c,.slice B d.wait.length e,.bool d.off,.bool d.armed,I d.fuse,.slice C d.keep.length f] 134) xD)) (by rw [qBR];exact hr) (d.wait.getD k (0,[])).1 (d.wait.getD k (0,[])).2 (by rw [qBR];exact hw1) xB xB xB xB (by rw [qBR];have:=hok.n1;omega);rw [qBR] at this;exact this))) O xD ?_
      rintro m30 h30
      refine J.c5 [0,1,2,3] [blk g [.slice (some ⟨gL,0,none⟩) d.last.length c,.slice B d.wait.length e,.bool d.off,.bool d.armed,I d.fuse,.slice C d.keep.length f] 134,m30,mW,F] O xC<|J.a9<|J.a3<|J.u (J.G j7 ?_)
      exact J.H<|J.f ((qAQ O O O xB).nat (k+1) xB) O<|J.b O<|J.a4<|J.u<|J.a5 (k+1,m30) (λx (hx:_∧d.wait.length-x.1<d.wait.length-k)=>hI0 x hx.1 hx.2) ⟨⟨by dsimp only;omega,by dsimp only;rw [qJZ,if_pos xB,←hnk];exact h30⟩,by dsimp only;omega⟩ ⟨O,O,O,O,O,trivial⟩ (λ_ h=>h)
    refine J.b5<|J.a3<|J.u (J.G j7 ?_)
    exact J.H<|J.f ((qAQ O O O xB).nat (k+1) xB) O<|J.b O<|J.a4<|J.u<|J.c5 [0,1,2,3] [blk g [.slice (some ⟨gL,0,none⟩) d.last.length c,.slice B d.wait.length e,.bool d.off,.bool d.armed,I d.fuse,.slice C d.keep.length f] 134,m,mW,F] O xC<|J.a5 (k+1,m) (λx (hx:_∧d.wait.length-x.1<d.wait.length-k)=>hI0 x hx.1 hx.2) ⟨⟨by dsimp only;omega,by dsimp only;rw [qJZ,if_neg xB];exact hr⟩,by dsimp only;omega⟩ ⟨O,O,O,O,O,trivial⟩ (λ_ h=>h)
  refine J.b3<|J.a1<|J.a1<|J.b4 ?_
  refine J.u (J.G j3 ?_)
  have hkn:k=d.wait.length:=xB
  subst hkn
  refine J.H<|J.k 3 O<|J.f (qAB O O) O<|J.M 1 qCn qHd O O O O O<|J.a6 (qAT (i:=0) O O O O O qHd O xD) O O λ_ _=>?_
  change J _ _ _ [blk g [.slice (some ⟨gL,0,none⟩) d.last.length c,.slice none 0 0,.bool d.off,.bool d.armed,I d.fuse,.slice C d.keep.length f] 134,m,mW,F] _
  refine J.f (qAB O O) O<|J.M 2 qCn z4_ O O O O O<|J.a6 (qAT (i:=0) (vs:= [.bool true]) O O O O O z4_ O xD) O O λ_ _=>?_
  change J _ _ _ [blk g [.slice (some ⟨gL,0,none⟩) d.last.length c,.slice none 0 0,.bool true,.bool d.armed,I d.fuse,.slice C d.keep.length f] 134,_,_,_] _
  exact J.f (qAB O O) O<|J.M 3 qCn z4_ O O O O O<|J.a6 (qAT (i:=0) (vs:= [.bool false]) O O O O O z4_ O xD) O O λ_ _=>J.a4<|J.d8 hw0 (λ_ _ h=>h) (qJn O) (qAn m O hr [0,1,3] O xC)
theorem Dsk.open{mm:Hp}{g:Nat}{d:Dk}{C:Option Addr}{f:Nat}(h:Dsk mm g d C f)(h0:0<d.last.length): ∃gL c mL B e mW,mm=U [blk g (d.cells (some ⟨gL,0,none⟩) c B e C f) 134,mL,mW]∧Djs [blk g (d.cells (some ⟨gL,0,none⟩) c B e C f) 134,mL,mW]∧Row mL 9 1 (some ⟨gL,0,none⟩) d.last.length c (qAG d.last)∧Row mW 308 2 B d.wait.length e (qDg d.wait):=by
 obtain ⟨A,c,mL,B,e,mW,h1,h2,h3,h4⟩:=h
 obtain ⟨gL,rfl⟩:=h3.at h0
 exact⟨gL,c,mL,B,e,mW,h1,h2,h3,h4⟩
theorem qLN{a b:Hp}(h:Djs [a,b]):Djs [a,b,λ_=>none]:=by
 rw [qAd] at h⊢
 simp only [ju,zd,jz,or_false] at h⊢
 refine⟨?_,λ_ _ _=> .inr (by rename_i h _;rw [h]),λ_ hm=>hm.elim,.nil⟩
 rintro m (rfl|rfl)
 · exact h.1 m O
 · exact λ_=> .inr O
theorem qYF{g:Nat}(d:Dk)(gL c:Nat)(C:Option Addr)(f:Nat)(m:Hp)(K:xA)(hm:Row m 9 1 (some ⟨gL,0,none⟩) d.last.length c (qAG (qJZ d.last d.wait K d.wait.length)))(hj:Djs [blk g [.slice (some ⟨gL,0,none⟩) d.last.length c,.slice none 0 0,.bool true,.bool false,I d.fuse,.slice C d.keep.length f] 134,m]):
    Dsk (U [blk g [.slice (some ⟨gL,0,none⟩) d.last.length c,.slice none 0 0,.bool true,.bool false,I d.fuse,.slice C d.keep.length f] 134,m]) g (d.cut K) C f:=by
  refine⟨some ⟨gL,0,none⟩,c,m,none,0,λ_=>none,?_,?_,?_,qBh.nil⟩
  · show U [blk g [.slice (some ⟨gL,0,none⟩) d.last.length c,.slice none 0 0,.bool true,.bool false,I d.fuse,.slice C d.keep.length f] 134,m]=U [blk g [.slice (some ⟨gL,0,none⟩) (qJZ d.last d.wait K d.wait.length).length c,.slice none 0 0,.bool true,.bool false,I d.fuse,.slice C d.keep.length f] 134,m,λ_=>none]
    rw [qBR];rfl
  · show Djs [blk g [.slice (some ⟨gL,0,none⟩) (qJZ d.last d.wait K d.wait.length).length c,.slice none 0 0,.bool true,.bool false,I d.fuse,.slice C d.keep.length f] 134,m,λ_=>none]
    rw [qBR];exact qLN hj
  · show Row m 9 1 (some ⟨gL,0,none⟩) (qJZ d.last d.wait K d.wait.length).length c _
    rw [qBR];exact hm
theorem qSU(F mm:Hp)(g:Nat)(d:Dk)(C:Option Addr)(f:Nat)(hb:Dsk mm g d C f)(hok:d.ok)(hn2:d.wait.length≤1073741824)(hKp:Sl F 1 C d.keep.length f (qAg d.keep))(hn3:d.keep.length≤9223372036854775807):
    Ct prog 211 [Ptr g] [mm,F] (λ_:Hp=> .bool (decide d.burns)) (λm=>Dsk m g d.burn C f) (λm=> [m,F]):=by
  obtain ⟨gL,c,mL,B,e,mW,rfl,hd,hL,hW⟩:=hb.open hok.n0
  unfold Dk.cells at hd⊢
  refine Ct.walk func211 O ntmps211 O (λw0 hw0=>?_)
  refine J.g0 hd ?_
  refine J.g λ_ j1=>J.b O<|J.c j1<|J.q λ_ j2=>J.g λ_ j3=>J.b O<|J.f (qAB O O) O<|J.M 3 qCn z4_ O O O O O<|J.a7 0 b4_ O O O O O<|J.f ((qAt O O).as (v':= .bool (decide (¬d.armed=true))) (congrArg Value.bool xD)) O<|J.c j3<|J.a0 O (λh7=>?_) (λh7=>?_)
  ·
    exact J.g λ_ j4=>J.b O<|J.c j4<|J.A<|J.W<|J.b0 hw0 (λ_ _ h=>h) (qKI O O) (qFU [blk g [.slice (some ⟨gL,0,none⟩) d.last.length c,.slice B d.wait.length e,.bool d.off,.bool d.armed,I d.fuse,.slice C d.keep.length f] 134,mL,mW] [F] (U [blk g [.slice (some ⟨gL,0,none⟩) d.last.length c,.slice B d.wait.length e,.bool d.off,.bool d.armed,I d.fuse,.slice C d.keep.length f] 134,mL,mW]) (congrArg Value.bool (decide_eq_false (λh=>h7 h.1)).symm) (λhd=>by rw [show d.burn=d from if_neg h7];exact⟨_,c,mL,B,e,mW,O,hd,hL,hW⟩) [0,1,2,3] O O xC)
  refine J.T j2<|J.q λ_ j5=>?_
  have ha:d.armed=true:=by simpa using h7
  refine J.H<|J.b O<|J.f (qAB O O) O<|J.M 4 qCn z3_ O O O O O<|J.a7 0 b3_ O O O O O<|J.f (qA3 O O O (by have:=hok.fb;have:=hok.fz ha;omega)) O<|J.f (qAB O O) O<|J.M 4 qCn z3_ O O O O O<|J.a6 (qAT (i:=0) O O O O O z3_ O xD) O O λ_ _=>J.c j5<|J.q λ_ j6=>J.g λ_ j7=>J.b O<|J.f (qAB O O) O<|J.M 4 qCn z3_ O O O O O<|J.a7 0 b3_ O O O O O<|J.f (qBL O O O) O<|J.c j7<|J.a0 O (λh19=>?_) (λh19=>?_)
  ·
    exact J.g λ_ j8=>J.b O<|J.c j8<|J.A<|J.W<|J.b0 hw0 (λ_ _ h=>h) (qKI O O) (qFU [blk g [.slice (some ⟨gL,0,none⟩) d.last.length c,.slice B d.wait.length e,.bool d.off,.bool d.armed,I (d.fuse-1),.slice C d.keep.length f] 134,mL,mW] [F] (U [blk g [.slice (some ⟨gL,0,none⟩) d.last.length c,.slice B d.wait.length e,.bool d.off,.bool d.armed,I (d.fuse-1),.slice C d.keep.length f] 134,mL,mW]) (congrArg Value.bool (decide_eq_false (λh=>by have:=h.2;omega)).symm) (λhd=>by rw [show d.burn={d with fuse:=d.fuse-1} from by unfold Dk.burn;rw [if_pos ha,if_neg xB]];exact⟨_,c,mL,B,e,mW,O,hd,hL,hW⟩) [0,1,2,3] O O xC)
  refine J.T j6<|J.g λ_ j9=>J.k 2 O<|J.f (qAB O O) O<|J.M 5 qCn qJj O O O O O<|J.a7 0 qPc O O O O O<|J.p (qAK O O ent ((qYG F mL mW g {d with fuse:=d.fuse-1} ⟨hok.l64,hok.w64,hok.n0,hok.n1⟩ hn2 gL c B e C f hL hW d.keep C f hKp hn3))) O ?_
  rintro m25 h25
  exact J.c j9<|J.g λ_ j10=>J.b O<|J.c j10<|J.A<|J.b0 hw0 (λ_ _ h=>h) (qKI O O) (qFU [blk g [.slice (some ⟨gL,0,none⟩) d.last.length c,.slice none 0 0,.bool true,.bool false,I (d.fuse-1),.slice C d.keep.length f] 134,m25] [F] (U [blk g [.slice (some ⟨gL,0,none⟩) d.last.length c,.slice none 0 0,.bool true,.bool false,I (d.fuse-1),.slice C d.keep.length f] 134,m25]) (congrArg Value.bool (decide_eq_true (show d.burns from⟨ha,xB⟩)).symm) (λhj=>by rw [show d.burn={d with fuse:=d.fuse-1}.cut d.keep from by unfold Dk.burn;rw [if_pos ha,if_pos xB]];exact qYF {d with fuse:=d.fuse-1} gL c C f m25 d.keep h25 hj) [0,1,2] O O xC)
theorem qK3(F:Hp)(K:List xA)(E:Option Addr)(q:Nat)(hK:Sl F 1 E K.length q (qAG K))(hn:K.length≤1073741824):
    Ct prog 31 [.slice E K.length q] [F] (λx:Option Addr×Nat×Hp=> .slice x.1 K.length x.2.1) (λx=>Row x.2.2 9 1 x.1 K.length x.2.1 (qAG K)) (λx=> [F,x.2.2]):=by
  refine Ct.walk func31 O ntmps31 O (λw0 hw0=>?_)
  refine J.g λ_ j1=>J.b O<|J.c j1<|J.q λ_ j2=>J.g λ_ j3=>J.b O<|J.f ((qE4 qAk O O O).as (v':= .bool (decide (E.isNone=true))) (congrArg Value.bool (by cases E<;>rfl))) O<|J.c j3<|J.a0 O (λh4=>?_) (λh4=>?_)
  ·
    refine J.q λ_ j4=>?_
    have hnil:K= []:=by
      cases K with
      |nil=>rfl
      |cons a r=>
        obtain ⟨_,ad,hA,_⟩:=hK.2.2 0 _ rfl
        rw [hA] at h4;cases h4
    exact J.d0 [0,1] [F,λ_=>none] O xC<|J.H<|J.b O<|J.c j4<|J.A<|J.W<|J.E hw0 O (none,0,λ_=>none) (by rw [hnil];rfl) (by rw [hnil];exact qBh.nil) [0,1] O xC
  refine J.T j2<|J.g λ_ j5=>J.p (qBV O qAk el9) O λg5 _=>J.b O<|J.p (qAU (i:=1) (m2:=F) O O O qAk qAk el9 O (qAl (q:=True) (xs:= []) O xD) xD hK (by simp [qAG,Value.oneCell']) xB xB) O ?_
  rintro⟨A7,c7,m7⟩ h7
  try dsimp only at h7
  exact J.b O<|J.c j5<|J.A<|J.E hw0 O (A7,c7,m7) (by rw [jX]) (by rw [jX] at h7;exact h7) [0,1] O xC
theorem qS8(F mm:Hp)(g:Nat)(d:Dk)(C:Option Addr)(f:Nat)(hb:Dsk mm g d C f)(hok:d.ok)(hn2:d.wait.length≤1073741824)(hKp:Sl F 1 C d.keep.length f (qAg d.keep))(hn3:d.keep.length≤9223372036854775807)(i:Int)(s:xA)(hs:s.length≤1048576):
    Ct prog 184 [Ptr g,I i,Str s] [mm,F] (λ_:Hp=>I (d.wErr i s)) (λm=>Dsk m g (d.write i s) C f) (λm=> [m,F]):=by
  obtain ⟨A0,c0,B0,e0,hc,hsL,hsW⟩:=hb.see
  have hn1:=hok.n1
  refine Ct.walk func184 O ntmps184 O (λw0 hw0=>?_)
  refine J.g λ_ j1=>J.b O<|J.c j1<|J.g λ_ j2=>J.k 2 O<|J.p (qAa O O (λF' hF=>qIz F' g d A0 c0 B0 e0 C f (hc.mono (Fa hF)) i xB)) O λg10 _=>J.b O<|J.c j2<|J.q λ_ j3=>J.V<|J.g λ_ j4=>J.b O<|J.f (qAe O O O) O<|J.b O<|J.c j4<|J.a0 O (λh11=>?_) (λh11=>?_)
  ·
    exact J.g λ_ j5=>J.k 2 O<|J.c j5<|J.A<|J.a8<|J.W<|J.E hw0 O mm (congrArg I (by unfold Dk.wErr;rw [if_pos xB])) (by rw [show d.write i s=d from if_pos xB];exact hb) [0,1] O xC
  refine J.g λ_ j6=>J.b O<|J.f (qAs u9_ O O) O<|J.f (qAz O O O) O<|J.b O<|J.c j6<|J.a0 O (λh15=>?_) (λh15=>?_)
  ·
    exact J.g λ_ j7=>J.b O<|J.c j7<|J.A<|J.a8<|J.W<|J.E hw0 O mm (congrArg I (by unfold Dk.wErr;rw [if_neg xB,if_pos xB])) (by rw [show d.write i s=d from by unfold Dk.write;rw [if_neg xB,if_pos xB]];exact hb) [0,1] O xC
  refine J.g λ_ j8=>J.b O<|J.p (qAK O O ent (Ct.use1 0 O (λF' hF=>qSU F' mm g d C f hb hok hn2 (hKp.mono (Fa hF)) hn3))) O ?_
  rintro m21 h21
  refine J.b O<|J.c j8<|J.a0 O (λh19=>?_) (λh19=>?_)
  ·
    exact J.g λ_ j9=>J.b O<|J.c j9<|J.A<|J.a8<|J.W<|J.E hw0 O m21 (congrArg I (by unfold Dk.wErr;rw [if_neg xB,if_neg xB,if_pos h19])) (by rw [show d.write i s=d.burn from by unfold Dk.write;rw [if_neg xB,if_neg xB,if_pos h19]];exact h21) [0,1] O xC
  refine J.b5<|J.a3<|J.u (J.G j3 ?_)
  refine J.q λ_ j10=>?_
  have h0:d.ready i=0:=xB
  obtain ⟨hi0,hil,_⟩:=qNA h0
  obtain ⟨iN,hiN⟩:=zh hi0
  have hnb: ¬d.burns:=h19
  obtain ⟨x,hx⟩: ∃x,x=d.burn:=⟨_,rfl⟩
  rw [←hx] at h21
  have hxo:x.ok:=hx▸hok.burn
  have hxw:x.wait=d.wait:=hx▸(qD6 hnb).2.1
  have hxl:x.last=d.last:=hx▸(qD6 hnb).1
  obtain ⟨gL,c,mL,B,e,mW,rfl,hd,hL,hW⟩:=h21.open hxo.n0
  unfold Dk.cells at hd⊢
  refine J.g0 hd ?_
  refine J.b1 [blk g [.slice (some ⟨gL,0,none⟩) x.last.length c,.slice B x.wait.length e,.bool x.off,.bool x.armed,I x.fuse,.slice C x.keep.length f] 134] [17] (.y 0 (.y 1 (.y 2 (.y 3 (.y 4 (.y 5 (.y 6 (.y 7 (.y 8 (.y 9 (.e 10 (.y 11 (.y 12 (.e 13 (.e 14 (.y 15 (.y 16 (.e 17 .nil)))))))))))))))))) Tryz.wide xF xD ?_
  refine J.L ?_
  refine J.L ?_
  refine J.j O (qAB O O) O O<|J.j O (qAA O O qCn O qHd O) O O<|J.j O (qAC 0 O O O isAgg132 O) O O<|J.j O ((qA2 O O).as (v':=I (iN:Int)) (congrArg I hiN)) O O<|J.L ?_
  refine J.L ?_
  refine J.j O (qAs u9_ O O) O O<|J.j O ((qA3 O O O xB).nat (64-s.length) xB) O O<|J.Z O (qAa O O (λF' hF=>qFV F' (64-s.length) xB)) O xD λg32 _=>J.j O ((qBN O O O (by simp only [jJ];omega)).as (v':=Str (qRy s)) O) O O<|J.j O (qAH (places:= [(0,1),(1,1)]) (r:= [I (iN:Int),Str (qRy s)]) O O O qOX zeroValue308 (λ_=>xI) O) O O<|J.Z O (qAE (l:= [.tmp 34]) (xs:= [[I (iN:Int),Str (qRy s)]]) O O O O qIk el308 O xC xC xD) O xD λg35 _=>J.Z O (qAU (i:=2) (m2:=blk g35 [I (iN:Int),Str (qRy s)] 308) O O O qIk qIk el308 O hW xD ((qAl (q:=True) (xs:=qDg [(iN,qRy s)]) O (by simp [qDg])).sl) (qPh _) (by rw [hxw];omega) (by rw [hxw];omega)) O xD ?_
  rintro⟨A36,c36,m36⟩ h36
  try dsimp only at h36
  refine J.j O (qAB O O) O O<|J.j O (qAA O O qCn O qHd O) O O<|J.c1 O (qAT (i:=0) O O O O O qHd O xD) O O O λ_ _=>J.a9<|J.u (J.G j10 ?_)
  exact J.g λ_ j11=>J.b O<|J.c j11<|J.A<|J.b0 hw0 (λ_ _ h=>h) (qKI O O) (qFU [blk g [.slice (some ⟨gL,0,none⟩) x.last.length c,.slice A36 (x.wait.length+1) c36,.bool x.off,.bool x.armed,I x.fuse,.slice C x.keep.length f] 134,mL,m36] [F] (U [blk g [.slice (some ⟨gL,0,none⟩) x.last.length c,.slice A36 (x.wait.length+1) c36,.bool x.off,.bool x.armed,I x.fuse,.slice C x.keep.length f] 134,mL,m36]) (congrArg I (by unfold Dk.wErr;rw [if_neg xB,if_neg xB,if_neg hnb])) (λhd=>by rw [show d.write i s={x with wait:=x.wait++ [(iN,qRy s)]} from by unfold Dk.write;rw [if_neg xB,if_neg xB,if_neg hnb,←hx,hiN];rfl];refine⟨_,c,mL,A36,c36,m36,?_,?_,hL,?_⟩<;>(try unfold Dk.cells)<;>rw [jA]<;>first|rfl|exact hd|(rw [qPi];exact h36)) [0,1,2,3] O O xC)
theorem qTS{g:Nat}(x:Dk)(gL c:Nat)(C:Option Addr)(f:Nat)(m:Hp)(hm:Row m 9 1 (some ⟨gL,0,none⟩) x.last.length c (qAG (qDQ x.last x.wait x.wait.length)))(hj:Djs [blk g [.slice (some ⟨gL,0,none⟩) x.last.length c,.slice none 0 0,.bool x.off,.bool x.armed,I x.fuse,.slice C x.keep.length f] 134,m]):
    Dsk (U [blk g [.slice (some ⟨gL,0,none⟩) x.last.length c,.slice none 0 0,.bool x.off,.bool x.armed,I x.fuse,.slice C x.keep.length f] 134,m]) g {x with last:=qDQ x.last x.wait x.wait.length,wait:= []} C f:=by
  refine⟨some ⟨gL,0,none⟩,c,m,none,0,λ_=>none,?_,?_,?_,qBh.nil⟩
  · show U [blk g [.slice (some ⟨gL,0,none⟩) x.last.length c,.slice none 0 0,.bool x.off,.bool x.armed,I x.fuse,.slice C x.keep.length f] 134,m]=U [blk g [.slice (some ⟨gL,0,none⟩) (qDQ x.last x.wait x.wait.length).length c,.slice none 0 0,.bool x.off,.bool x.armed,I x.fuse,.slice C x.keep.length f] 134,m,λ_=>none]
    rw [qBO];rfl
  · show Djs [blk g [.slice (some ⟨gL,0,none⟩) (qDQ x.last x.wait x.wait.length).length c,.slice none 0 0,.bool x.off,.bool x.armed,I x.fuse,.slice C x.keep.length f] 134,m,λ_=>none]
    rw [qBO];exact qLN hj
  · show Row m 9 1 (some ⟨gL,0,none⟩) (qDQ x.last x.wait x.wait.length).length c _
    rw [qBO];exact hm
theorem qWf(F mm:Hp)(g:Nat)(d:Dk)(C:Option Addr)(f:Nat)(hb:Dsk mm g d C f)(hok:d.ok)(hn2:d.wait.length≤1073741824)(hKp:Sl F 1 C d.keep.length f (qAg d.keep))(hn3:d.keep.length≤9223372036854775807):
    Ct prog 186 [Ptr g] [mm,F] (λ_:Hp=>I d.sErr) (λm=>Dsk m g d.sync C f) (λm=> [m,F]):=by
  obtain ⟨A0,c0,B0,e0,hc,hsL,hsW⟩:=hb.see
  have hn1:=hok.n1
  refine Ct.walk func186 O ntmps186 O (λw0 hw0=>?_)
  refine J.g λ_ j1=>J.b O<|J.c j1<|J.q λ_ j2=>J.g λ_ j3=>J.b O<|J.p (qAa O O (λF' hF=>qIz F' g d A0 c0 B0 e0 C f (hc.mono (Fa hF)) 0 xB)) O λg7 _=>J.b O<|J.c j3<|J.g λ_ j4=>J.b O<|J.f (qAe O O O) O<|J.c j4<|J.a0 O (λh9=>?_) (λh9=>?_)
  ·
    exact J.g λ_ j5=>J.k 2 O<|J.c j5<|J.A<|J.W<|J.E hw0 O mm (congrArg I (by unfold Dk.sErr;rw [if_pos xB])) (by rw [show d.sync=d from if_pos xB];exact hb) [0,1] O xC
  refine J.T j2<|J.q λ_ j6=>J.g λ_ j7=>J.b O<|J.p (qAK O O ent (Ct.use1 0 O (λF' hF=>qSU F' mm g d C f hb hok hn2 (hKp.mono (Fa hF)) hn3))) O ?_
  rintro m12 h12
  refine J.c j7<|J.a0 O (λh12c=>?_) (λh12c=>?_)
  ·
    exact J.g λ_ j8=>J.b O<|J.c j8<|J.A<|J.W<|J.E hw0 O m12 (congrArg I (by unfold Dk.sErr;rw [if_neg xB,if_pos h12c])) (by rw [show d.sync=d.burn from by unfold Dk.sync;rw [if_neg xB,if_pos h12c]];exact h12) [0,1] O xC
  refine J.T j6<|J.q λ_ j9=>J.q λ_ j10=>?_
  have h0:d.ready 0=0:=xB
  have hnb: ¬d.burns:=h12c
  obtain ⟨x,hx⟩: ∃x,x=d.burn:=⟨_,rfl⟩
  rw [←hx] at h12
  have hxo:x.ok:=hx▸hok.burn
  have hxw:x.wait=d.wait:=hx▸(qD6 hnb).2.1
  have hxl:x.last=d.last:=hx▸(qD6 hnb).1
  obtain ⟨gL,c,mL,B,e,mW,rfl,hd,hL,hW⟩:=h12.open hxo.n0
  unfold Dk.cells at hd⊢
  refine J.g0 hd ?_
  have hxn:x.wait.length≤1073741824:=by rw [hxw];exact hn2
  refine J.H<|J.b O<|J.f (qAB O O) O<|J.M 1 qCn qHd O O O O O<|J.a7 0 isAgg132 O O O O O<|J.f (qAR qIk O O) O<|J.b O<|J.c j10<|J.V<|J.b6 (X:=Nat×Hp) (λy=> [(0,Ptr g),(16,.slice B x.wait.length e),(17,I x.wait.length),(18,I y.1)]) (λy=> [blk g [.slice (some ⟨gL,0,none⟩) x.last.length c,.slice B x.wait.length e,.bool x.off,.bool x.armed,I x.fuse,.slice C x.keep.length f] 134,y.2,mW,F]) (λy=>y.1≤x.wait.length∧Row y.2 9 1 (some ⟨gL,0,none⟩) x.last.length c (qAG (qDQ x.last x.wait y.1))) (λy=>x.wait.length-y.1) (0,mL) (⟨jG _,hL⟩) ⟨O,O,O,O,trivial⟩ (λ_ h=>h) ?_
  rintro⟨k,m⟩ ⟨hk,hr⟩ I0 hI0
  dsimp only at hk hr⊢
  refine J.g λ_ j11=>J.f (qAS O O O) O<|J.c j11<|J.q λ_ j12=>J.a0 O (λh19=>?_) (λh19=>?_)
  ·
    refine J.T j12<|J.q λ_ j13=>J.V<|J.g λ_ j14=>J.f (qAF O O O qIk qGT hW.sl xB) O<|J.f (qAV O O isAgg308 qGT (m:=mW) xD (hW.sl.elem (qGY xB)) O) O<|J.p (qAJ O zeroValue308 O) O λg5 _=>J.a6 (qAD (l:= [I 0,Str []]) (i:=4) (vs:= [I (x.wait.getD k (0,[])).1,Str (x.wait.getD k (0,[])).2]) O O O O O qGT O O) O O λ_ _=>J.c j14 ?_
    have ⟨hw1,hw2⟩:=qUn hxo.w64 (show k<x.wait.length by omega)
    have h64:=qX7 (qIo hxo.l64 hxo.w64 k hk) (show(x.wait.getD k (0,[])).1<(qDQ x.last x.wait k).length by rw [qBO];exact hw1)
    refine J.H<|J.b O<|J.b8 4 isAgg308 qGT O O O O O<|J.p (qAK O O ent (Ct.use1 1 O (λF' hF=>by have:=qRb F' m g gL c 64 x B e C f (qDQ x.last x.wait k) (by rw [qBO];exact qAM.blk0.mono (hF (blk g [.slice (some ⟨gL,0,none⟩) x.last.length c,.slice B x.wait.length e,.bool x.off,.bool x.armed,I x.fuse,.slice C x.keep.length f] 134) xD)) (by rw [qBO];exact hr) (x.wait.getD k (0,[])).1 (x.wait.getD k (0,[])).2 (by rw [qBO];exact hw1) xB xB xB xB (by rw [qBO];have:=hxo.n1;omega);rw [qBO] at this;exact this))) O ?_
    rintro m24 h24
    refine J.c5 [0,1,2,3] [blk g [.slice (some ⟨gL,0,none⟩) x.last.length c,.slice B x.wait.length e,.bool x.off,.bool x.armed,I x.fuse,.slice C x.keep.length f] 134,m24,mW,F] O xC<|J.a4<|J.a3<|J.u (J.G j13 ?_)
    exact J.H<|J.f ((qAQ O O O xB).nat (k+1) xB) O<|J.b O<|J.a4<|J.u<|J.a5 (k+1,m24) (λy (hy:_∧x.wait.length-y.1<x.wait.length-k)=>hI0 y hy.1 hy.2) ⟨⟨by dsimp only;omega,h24⟩,by dsimp only;omega⟩ ⟨O,O,O,O,trivial⟩ (λ_ h=>h)
  refine J.b3<|J.a1<|J.a1<|J.b4 ?_
  refine J.u (J.G j9 ?_)
  refine J.q λ_ j15=>?_
  have hkn:k=x.wait.length:=xB
  subst hkn
  exact J.H<|J.b O<|J.f (qAB O O) O<|J.M 1 qCn qHd O O O O O<|J.a6 (qAT (i:=0) O O O O O qHd O xD) O O λ_ _=>J.c j15<|J.g λ_ j16=>J.b O<|J.c j16<|J.A<|J.b0 hw0 (λ_ _ h=>h) (qKI O O) (qFU [blk g [.slice (some ⟨gL,0,none⟩) x.last.length c,.slice none 0 0,.bool x.off,.bool x.armed,I x.fuse,.slice C x.keep.length f] 134,m] [F] (U [blk g [.slice (some ⟨gL,0,none⟩) x.last.length c,.slice none 0 0,.bool x.off,.bool x.armed,I x.fuse,.slice C x.keep.length f] 134,m]) (congrArg I (by unfold Dk.sErr;rw [if_neg xB,if_neg hnb])) (λhj=>by rw [show d.sync={x with last:=qDQ x.last x.wait x.wait.length,wait:= []} from by unfold Dk.sync;rw [if_neg xB,if_neg hnb,←hx]];exact qTS x gL c C f m hr hj) [0,1,3] O O xC)
theorem qOc(n:Nat):List.replicate n [Str []]=qAG (List.replicate n []):=by simp [qAG]
theorem qW9{n k:Nat}(a b:xA)(h:k<n):(List.replicate k a++List.replicate (n-k) b).set k a=List.replicate (k+1) a++List.replicate (n-(k+1)) b:=by
 rw [List.set_append_right _ _ (by rw [jJ];exact jK _),jJ,zH,show n-k=(n-(k+1))+1 by omega,yK,List.set_cons_zero,zf,jW];rfl
theorem qXA{n k:Nat}(a b:xA)(h:k≤n):(List.replicate k a++List.replicate (n-k) b).length=n:=by rw [jA,jJ,jJ];omega
theorem qXk(k g g13:Nat)(m:Hp)(hr:Row m 9 1 (some ⟨g13,0,none⟩) k k (qAG (List.replicate k (List.replicate 64 (0:UInt8)))))(hj:Djs [blk g [.slice (some ⟨g13,0,none⟩) k k,.slice none 0 0,.bool false,.bool false,I 0,.slice none 0 0] 134,m,λ_=>none]):Dsk (U [blk g [.slice (some ⟨g13,0,none⟩) k k,.slice none 0 0,.bool false,.bool false,I 0,.slice none 0 0] 134,m,λ_=>none]) g (Dk.new k) none 0:=by
 have hl:(Dk.new k).last.length=k:=jJ
 refine⟨some ⟨g13,0,none⟩,k,m,none,0,λ_=>none,?_,?_,?_,qBh.nil⟩
 · unfold Dk.cells;rw [hl];rfl
 · unfold Dk.cells;rw [hl];exact hj
 · rw [hl];exact hr
theorem qZM(F:Hp)(i:Int):Ct prog 20 [I i] [F] (λx:Option (Nat×Hp)=>match x with|none=> .tuple #[.pointer none,I 1]|some y=> .tuple #[Ptr y.1,I 0]) (λx=>match x with|none=>i<4∨1024<i|some y=>(4≤i∧i≤1024)∧Dsk y.2 y.1 (Dk.new i.toNat) none 0) (λx=>match x with|none=> [F]|some y=> [y.2,F]):=by
 refine Ct.walk func20 O ntmps20 O (λw0 hw0=>?_)
 refine J.g λ_ j1=>J.k 2 O<|J.c j1<|J.q λ_ j2=>J.g λ_ j3=>J.b O<|J.f (qAS O O O) O<|J.b O<|J.b9 (d:=8) O (λh8=>?_) (λh8=>?_)
 ·
  refine J.k 3 O<|J.c j3<|J.c3 ?_
  exact J.g λ_ j4=>J.k 2 O<|J.c j4<|J.A<|J.W<|J.b0 hw0 (λ_ _ h=>h) (qCK O O O) (qAn none O (by show i<4∨1024<i;omega) [0] O xC)
 refine J.b O<|J.D (qAz O O O) O<|J.b O<|J.c j3<|J.a0 O (λh11=>?_) (λh11=>?_)
 ·
  exact J.g λ_ j5=>J.k 2 O<|J.c j5<|J.A<|J.W<|J.b0 hw0 (λ_ _ h=>h) (qCK O O O) (qAn none O (by show i<4∨1024<i;omega) [0] O xC)
 refine J.T j2<|J.q λ_ j6=>?_
 obtain ⟨n,hn⟩:=zh (show 0≤i by omega)
 refine J.H<|J.b O<|J.p (qCP O (by show some (I i)=_;rw [hn]) qAk el9 xB xB) O λg13 _=>J.f (qAH (places:= [(0,1),(1,1),(2,1),(3,1),(4,1),(5,1)]) (r:= [.slice (some ⟨g13,0,none⟩) n n,.slice none 0 0,.bool false,.bool false,I 0,.slice none 0 0]) O O O qCn zeroValue134 (λ_=>xI) O) O<|J.p (qAZ O O O) O ?_
 rintro g15 _
 refine J.b O<|J.c j6<|J.q λ_ j7=>J.g λ_ j8=>J.b O<|J.f (qAB O O) O<|J.M 0 qCn qB1 O O O O O<|J.a7 2 qCC O O O O O<|J.f (qAR qAk O O) O<|J.b O<|J.c j8<|J.V<|J.b6 (X:=Nat×Hp) (λx=> [(4,Ptr g15),(20,I n),(21,I x.1)]) (λx=> [F,x.2,blk g15 [.slice (some ⟨g13,0,none⟩) n n,.slice none 0 0,.bool false,.bool false,I 0,.slice none 0 0] 134]) (λx=>x.1≤n∧Row x.2 9 1 (some ⟨g13,0,none⟩) n n (qAG (List.replicate x.1 (List.replicate 64 (0:UInt8))++List.replicate (n-x.1) []))) (λx=>n-x.1) (0,blk g13 (List.replicate n [Str []]).flatten 9) (⟨jG _,by dsimp only;rw [List.replicate_zero,jq,z7,←qOc];exact qTo⟩) ⟨O,O,O,trivial⟩ (λ_ h=>h) ?_
 rintro⟨k,m⟩ ⟨hk,hr⟩ I0 hI0
 dsimp only at hk hr⊢
 refine J.g λ_ j9=>J.f (qAS O O O) O<|J.c j9<|J.q λ_ j10=>J.a0 O (λh22=>?_) (λh22=>?_)
 ·
  refine J.T j10<|J.q λ_ j11=>J.V<|J.g λ_ j12=>J.k 2 O<|J.c j12<|J.b1 [blk g15 [.slice (some ⟨g13,0,none⟩) n n,.slice none 0 0,.bool false,.bool false,I 0,.slice none 0 0] 134] [7] (.y 0 (.y 1 (.y 2 (.y 3 (.y 4 (.e 5 (.y 6 (.e 7 .nil)))))))) Tryz.wide xF xD ?_
  refine J.L ?_
  refine J.j O (qAB O O) O O<|J.j O (qAA O O qCn O qB1 O) O O<|J.j O (qAC 0 O O O qCC O) O O<|J.L ?_
  refine J.Z O (qAa O O (λF' hF=>qFV F' 64 xC)) O xD λg29 _=>J.j O (qAF O O O qAk z9_ hr.sl xB) O O<|J.c1 O (qBK (i:=1) (k:=k) (off:=0) (b:= [Str (List.replicate 64 (0:UInt8))]) O (by show some _=some _;rw [qR6]) O O hr (vs:= [Str (List.replicate 64 (0:UInt8))]) O z9_ O xB (qAY (qAi [] (by rw [qXA _ _ hk];omega))) O (by show _+1≤1;decide)) O O O ?_
  rintro m9 h9
  refine J.a9<|J.a3<|J.u (J.G j11 ?_)
  exact J.H<|J.f ((qAQ O O O xB).nat (k+1) xB) O<|J.b O<|J.a4<|J.u<|J.a5 (k+1,m9) (λy (hy:_∧n-y.1<n-k)=>hI0 y hy.1 hy.2) ⟨⟨by dsimp only;omega,by dsimp only;rw [qDq,qW9 _ _ xB] at h9;exact h9⟩,by dsimp only;omega⟩ ⟨O,O,O,trivial⟩ (λ_ h=>h)
 refine J.b3<|J.a1<|J.a1<|J.b4 ?_
 refine J.u (J.G j7 ?_)
 refine J.q λ_ j13=>?_
 have hkn:k=n:=xB
 subst hkn
 rw [zH,List.replicate_zero,jR] at hr
 exact J.H<|J.k 3 O<|J.c j13<|J.A<|J.d0 [0,1,2,3] [F,m,blk g15 [.slice (some ⟨g13,0,none⟩) k k,.slice none 0 0,.bool false,.bool false,I 0,.slice none 0 0] 134,λ_=>none] O xC<|J.b0 hw0 (λ_ _ h=>h) (qCK O O O) (qFU [blk g15 [.slice (some ⟨g13,0,none⟩) k k,.slice none 0 0,.bool false,.bool false,I 0,.slice none 0 0] 134,m,λ_=>none] [F] (some (g15,U [blk g15 [.slice (some ⟨g13,0,none⟩) k k,.slice none 0 0,.bool false,.bool false,I 0,.slice none 0 0] 134,m,λ_=>none])) O (λhj=>⟨xB,by rw [show i.toNat=k by omega];exact qXk k g15 g13 m hr hj⟩) [2,1,3,0] O O xC)
theorem qRJ(F:Hp)(n:Nat)(h4:4≤n)(hm:n≤1024):Ct prog 20 [I n] [F] (λx:Nat×Hp=> .tuple #[Ptr x.1,I 0]) (λx=>Dsk x.2 x.1 (Dk.new n) none 0) (λx=>F:: [x.2]):=λw0 w hs=>
 (qZM F n w0 w hs).mono λe w' ⟨x,he,hx,hs'⟩=>by
  cases x with
  |none=>exact absurd hx (by show¬((n:Int)<4∨1024<(n:Int));omega)
  |some y=>exact⟨y,he,by have:=hx.2;rwa [jP] at this,hs'.pick [1,0] xC⟩
theorem qS7{d:Dk}{i:Int}{s:xA}(h:d.ready i=0)(h1:s.length≤64)(h2: ¬d.burns):d.write i s={d.burn with wait:=d.burn.wait++ [(i.toNat,qRy s)]}∧d.wErr i s=0:=by
 unfold Dk.write Dk.wErr
 rw [if_neg xB,if_neg xB,if_neg h2,if_neg xB,if_neg xB,if_neg h2]
 exact⟨O,O⟩
theorem qRI{n:Nat}{i:Int}(h0:0≤i)(h:i<n):(Dk.new n).ready i=0:=by
 unfold Dk.ready Dk.new
 dsimp only
 rw [if_neg xC,jJ,if_neg xB]
theorem qXj{n j:Nat}(h:j<n):(Dk.new n).now j=qRy []:=by
 unfold Dk.now Dk.new
 dsimp only [List.length_nil]
 rw [qKB,jB,yM,if_pos h];rfl
theorem qXB{d:Dk}{i:Int}(h:d.ready i=0):d.read i=d.now i.toNat:=if_pos h
attribute [local irreducible] SN.tagN Sha.tagged SN.sumN
namespace Wn
open Sha Wd
def qVb:List Nat→Nat→Nat
 |_,0=>0
 |l,k+1=>qVb l k*256+l.getD k 0
theorem qPz(l:xA): ∀k,qVb (l.map UInt8.toNat) k<256^k
 |0=>Nat.one_pos
 |k+1=>by
  have h1:=qPz l k
  have h2:=(l.getD k 0).toNat_lt
  rw [qVb,SN.getD_map,jt];omega
theorem qVa(l:xA): ∀k,k≤8→(val l k).toNat=qVb (l.map UInt8.toNat) k
 |0,_=>rfl
 |k+1,h=>by
  have ih:=qVa l k xB
  have h1:=qPz l k
  have h2:=(l.getD k 0).toNat_lt
  have hp:256^k≤256^7:=jh xC xB
  have hm:qVb (l.map UInt8.toNat) k*2^8<2^64:=by
   have:(256:Nat)^7*2^8=2^64:=xC
   omega
  rw [val,UInt64.toNat_or,zB,ih,qVb,SN.getD_map]
  show qVb (l.map UInt8.toNat) k*2^8%2^64|||(l.getD k 0).toUInt64.toNat=_
  rw [jb hm,UInt8.toNat_toUInt64,zu,←Nat.two_pow_add_eq_or_of_lt (show(l.getD k 0).toNat<2^8 from h2)]
def nxt(s:Strm):Nat→Strm
 |0=>s
 |k+1=>(nxt s k).next
noncomputable def wordN(seed:List Nat)(k:Nat):Nat:=qVb ((SN.sumN (seed++SN.bytes4 (k/4))).drop (8*(k%4))) 8
theorem qNW(seed:xA): ∀k,k<1000000→(nxt (Strm.new seed) k).seed=seed∧((nxt (Strm.new seed) k).fill.left=(sum (seed++numB (UInt64.ofNat (k/4)) 4)).drop (8*(k%4))∧(nxt (Strm.new seed) k).fill.count=UInt64.ofNat (k/4+1))
  |0,_=>by
    refine⟨O,?_⟩
    show(Strm.new seed).fill.left=_∧(Strm.new seed).fill.count=_
    unfold Strm.fill Strm.new
    rw [if_pos rfl]
    exact⟨O,O⟩
  |k+1,hk=>by
    obtain ⟨h1,h2,h3⟩:=qNW seed k xB
    have hs:(nxt (Strm.new seed) (k+1)).seed=seed:=by
      show(nxt (Strm.new seed) k).fill.seed=seed
      rw [Strm.fill_seed];exact h1
    have hl:(nxt (Strm.new seed) (k+1)).left=(sum (seed++numB (UInt64.ofNat (k/4)) 4)).drop (8*(k%4)+8):=by
      show(nxt (Strm.new seed) k).fill.left.drop 8=_
      rw [h2,zx]
    have hc:(nxt (Strm.new seed) (k+1)).count=UInt64.ofNat (k/4+1):=h3
    refine⟨hs,?_⟩
    unfold Strm.fill
    by_cases h4:k%4=3
    · have e0:(nxt (Strm.new seed) (k+1)).left= []:=by rw [hl,jr (by rw [sum_length];omega)]
      rw [if_pos e0,hs,hc,show(k+1)/4=k/4+1 by omega,show(k+1)%4=0 by omega]
      refine⟨O,?_⟩
      dsimp only
      apply UInt64.toNat_inj.1
      rw [UInt64.toNat_add,zB,zB]
      show((k/4+1)%2^64+1)%2^64=(k/4+1+1)%2^64
      omega
    · have e0: ¬(nxt (Strm.new seed) (k+1)).left= []:=λe=>by
        have:=congrArg List.length e
        rw [hl,jH,sum_length,jE] at this
        omega
      rw [if_neg e0,hl,hc,show(k+1)/4=k/4 by omega,show 8*((k+1)%4)=8*(k%4)+8 by omega]
      exact⟨O,O⟩
theorem qUG(seed:xA)(hs:seed.length≤1000000){k:Nat}(hk:k<1000000):(nxt (Strm.new seed) k).num.toNat=wordN (seed.map UInt8.toNat) k:=by
 obtain ⟨_,h2,_⟩:=qNW seed k hk
 unfold Strm.num wordN
 rw [qVa _ 8 (jK 8),h2,List.map_drop]
 have:=SN.sumN_eq (seed++numB (UInt64.ofNat (k/4)) 4) (by rw [jA,numB_length];omega)
 rw [jM,←SN.bytes4_eq _ xB] at this
 rw [this]
end Wn
end Go.Proofs.YtcgcjaflllmlpaaGreatDoor