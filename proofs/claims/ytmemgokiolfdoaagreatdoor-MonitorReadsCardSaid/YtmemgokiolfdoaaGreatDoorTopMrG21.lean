/- A part of the proof. -/
import Derived.Test.YtmemgokiolfdoaaGreatDoorTopMrG11
set_option maxRecDepth 100000
set_option maxHeartbeats 1000000
set_option linter.unusedSimpArgs false
set_option linter.unusedVariables false
namespace Go.Proofs.YtmemgokiolfdoaaGreatDoor
open Go Go.Fw Go.Proofs.Tryz
theorem qGh{P:Program}{env:Env}{rs:List Hp}{o:Oper}{t t':TypeId}{x y:Operand}{a m:Nat}{yk:IntKind}(ho:o.op= .binOp .shr t x y t')(hx:ev env x=some (N64 a))(hy:ev env y=some (.int yk (m:Nat)))(hr:m≤64∧a<18446744073709551616):YOp P env rs o (N64 (a/2^m)):=by
 rw [N_W hr.2] at hx
 exact(qFw ho hx hy).as (by show Value.int .u64 _=Value.int .u64 _;rw [qA8 hr.2,jo hr.1,qA8 (zN (zq _ _) hr.2)])
theorem qVS{P:Program}{env:Env}{rs:List Hp}{o:Oper}{t u v x y z k a b c}(ho:o.op= .call {callee:= .builtin .min,args:= #[x,y,z],argTypes:= #[t,u,v]})(hx:ev env x=some (.int k a))(hy:ev env y=some (.int k b))(hz:ev env z=some (.int k c)):YOp P env rs o (.int k (min (min a b) c)):=λn ac w hk _=>by
 by_cases h:b<a<;>by_cases h2:c<(if b<a then b else a)<;>simp [execOp,ho,hk.ev hx,hk.ev hy,hk.ev hz,resolve,invoke,builtin,Builtin.min_,Builtin.min2,h] at h2⊢
 all_goals first|rw [if_pos xB]|rw [if_neg xB]
 all_goals omega
theorem and32{n:Nat}(h:n<4294967296):n&&&4294967295=n:=by
 have:=Nat.and_two_pow_sub_one_eq_mod n 32
 rw [show(2^32-1:Nat)=4294967295 from rfl] at this
 rw [this];exact je h
theorem qSg(F:Hp)(n:Nat)(hn:n<4294967296):
    Cz prog 192 [N64 1,N64 n] F (.tuple #[N64 0,N64 n]):=by
  refine Ct.walk func192 O ntmps192 O (λw0 hw0=>?_)
  exact J.f λ_ j1=>J.j 2 O<|J.c j1<|J.f λ_ j2=>J.b O<|J.g ((qLK (a:=1) (b:=4294967295) O O O xB).as (v':=N64 1) O) O<|J.b O<|J.c j2<|J.f λ_ j3=>J.b O<|J.g ((qGh (a:=1) (m:=32) O O O xB).as (v':=N64 0) O) O<|J.b O<|J.c j3<|J.f λ_ j4=>J.b O<|J.g ((qLK O O O xB).as (v':=N64 n) (congrArg N64 (and32 hn))) O<|J.b O<|J.c j4<|J.f λ_ j5=>J.b O<|J.g ((qGh (a:=n) (m:=32) O O O xB).as (v':=N64 0) (congrArg N64 (zJ xB))) O<|J.b O<|J.c j5<|J.f λ_ j6=>J.j 2 O<|J.g ((qGi O O O xB).as (v':=N64 n) (congrArg N64 (Nat.one_mul n))) O<|J.b O<|J.c j6<|J.f λ_ j7=>J.j 2 O<|J.g ((qGi O O O xB).as (v':=N64 0) (congrArg N64 (Nat.zero_mul n))) O<|J.b O<|J.g ((qGh (a:=n) (m:=32) O O O xB).as (v':=N64 0) (congrArg N64 (zJ xB))) O<|J.g ((qGk O O O xB).as (v':=N64 0) O) O<|J.b O<|J.c j7<|J.f λ_ j8=>J.b O<|J.g ((qLK (a:=0) (b:=4294967295) O O O xB).as (v':=N64 0) O) O<|J.b O<|J.c j8<|J.f λ_ j9=>J.b O<|J.g ((qGh (a:=0) (m:=32) O O O xB).as (v':=N64 0) O) O<|J.b O<|J.c j9<|J.f λ_ j10=>J.j 3 O<|J.g ((qGi O O O xB).as (v':=N64 0) O) O<|J.g ((qGk O O O xB).as (v':=N64 0) O) O<|J.b O<|J.c j10<|J.f λ_ j11=>J.j 2 O<|J.g ((qGi O O O xB).as (v':=N64 0) O) O<|J.b O<|J.g ((qGk O O O xB).as (v':=N64 0) O) O<|J.b O<|J.g ((qGh (a:=0) (m:=32) O O O xB).as (v':=N64 0) O) O<|J.g ((qGk O O O xB).as (v':=N64 0) O) O<|J.b O<|J.c j11<|J.f λ_ j12=>J.j 2 O<|J.g ((qGi O O O xB).as (v':=N64 n) (congrArg N64 (Nat.one_mul n))) O<|J.b O<|J.c j12<|J.A<|J.a9 hw0 (λ_ _ h=>h) (qBk O O O) (qAg () O trivial [0] O xC)
theorem qWS(F:Hp)(n:Nat)(hn:n<4294967296):
    Cz prog 108 [N64 1,N64 n] F (.tuple #[N64 0,N64 n]):=by
  refine Ct.walk func108 O ntmps108 O (λw0 hw0=>?_)
  refine J.f λ_ j1=>J.j 2 O<|J.c j1<|J.p λ_ j2=>J.a3 ?_
  exact J.M j2<|J.f λ_ j3=>J.j 2 O<|J.q (qAa O O (λF' hF=>qSg F' n hn)) O λg25 _=>J.j 5 O<|J.c j3<|J.f λ_ j4=>J.j 4 O<|J.c j4<|J.A<|J.a9 hw0 (λ_ _ h=>h) (qBk O O O) (qAg () O trivial [0] O xC)
theorem qLt(F mr:Hp)(g:Nat)(l:List Value)(bs:xA)(A:Option Addr)(c:Nat)(p:Option Addr)(hb:Bld g 0 l mr bs A c p):
    Ct prog 112 [Ptr g] [blk g l 146,F] (λ_:Unit=>I bs.length) (λ_=>True) (λ_=> [blk g l 146,F]):=by
  refine Ct.walk func112 O ntmps112 O (λw0 hw0=>?_)
  exact J.f λ_ j1=>J.b O<|J.c j1<|J.f λ_ j2=>J.b O<|J.g (qAB O O) O<|J.W 1 qDR qJB O O O O O<|J.g (qAC 0 O O O qOR hb.a1) O<|J.g (qAP qBm O O) O<|J.b O<|J.c j2<|J.A<|J.E hw0 O () O trivial [0,1] O xC
theorem qGa(F:Hp)(n:Nat)(h2:2≤n)(h3:n≤8192):
    Cz prog 43 [Str [0],I n] F (Str (List.replicate n 0)):=by
  refine Ct.walk func43 O ntmps43 O (λw0 hw0=>?_)
  refine J.f λ_ j1=>J.b O<|J.c j1<|J.p λ_ j2=>J.f λ_ j3=>J.b O<|J.c j3<|J.T<|J.f λ_ j4=>J.g ((qAZ O O O).no xB) O<|J.b O<|J.c j4<|J.a3 ?_
  refine J.f λ_ j5=>J.g ((qAZ O O O).no xB) O<|J.b O<|J.c j5<|J.a3 ?_
  refine J.b2<|J.a1<|J.u (J.D j2 ?_)
  refine J.p λ_ j6=>J.f λ_ j7=>J.b O<|J.g ((qAQ O O O).no xB) O<|J.c j7<|J.a3 ?_
  refine J.M j6<|J.f λ_ j8=>J.b O<|J.g (qAp u9_ O O) O<|J.g ((qAt O O u3_ qIJ xB).as (v':=N64 1) (N_W xB).symm) O<|J.b O<|J.g ((qAt O O u3_ qIJ xB).as (v':=N64 n) (N_W xB).symm) O<|J.q (qAa O O (λF' hF=>qWS F' n xB)) O λg26 _=>J.j 5 O<|J.c j8<|J.p λ_ j9=>J.f λ_ j10=>J.b O<|J.g ((qA0 O O O).no xC) O<|J.j 2 O<|J.G ((qA0 O O O).no xB) O<|J.b O<|J.c j10<|J.a3 ?_
  refine J.M j9<|J.f λ_ j11=>J.b O<|J.g (qDy O O qIJ u3_ xB) O<|J.b O<|J.c j11<|J.p λ_ j12=>J.f λ_ j13=>J.b O<|J.g (qAp u9_ O O) O<|J.g ((qAZ O O O).no xC) O<|J.c j13<|J.a3 ?_
  refine J.M j12<|J.p λ_ j14=>J.f λ_ j15=>J.b O<|J.g (qBb u9_ O O O O) O<|J.c j15<|J.T<|J.p λ_ j16=>J.f λ_ j17=>J.g ((qAZ O O O).no xC) O<|J.b O<|J.c j17<|J.a3 ?_
  refine J.f λ_ j18=>J.g ((qAZ O O O).no xC) O<|J.b O<|J.c j18<|J.a3 ?_
  refine J.f λ_ j19=>J.g ((qAZ O O O).no xC) O<|J.b O<|J.c j19<|J.a3 ?_
  refine J.f λ_ j20=>J.g ((qAZ O O O).no xC) O<|J.b O<|J.c j20<|J.a3 ?_
  refine J.H<|J.g ((qAZ O O O).no xC) O<|J.b O<|J.c j16<|J.a3 ?_
  refine J.b2<|J.a1<|J.u (J.D j14 ?_)
  refine J.f λ_ j21=>J.j 2 O<|J.c j21<|J.p λ_ j22=>J.f λ_ j23=>J.b O<|J.g ((qA0 O O O).no xB) O<|J.c j23<|J.a3 ?_
  refine J.M j22<|J.f λ_ j24=>J.q (qAJ O zeroValue146 O) O λg9 _=>J.c5 [1,2,0] [blk g9 [.pointer none,.slice none 0 0] 146,λ_=>none,F] O xC<|J.c j24<|J.f λ_ j25=>J.b O<|J.q (qAK O O ent (qNF F g9 146 0 [.pointer none,.slice none 0 0] none ⟨O,.inl O,O,qBS.nil,.inl O⟩ qLV n xB)) O ?_
  rintro⟨l57,m57⟩ ⟨A57,c57,hb57,hu57⟩
  dsimp only at hb57 hu57
  refine J.c j25<|J.f λ_ j26=>J.b O<|J.q (qAK O O ent (qBK F m57 g9 146 0 l57 [] A57 c57 _ hb57 (by rw [hu57.1];exact qLV) [0] xC)) O ?_
  rintro⟨l61,m61⟩ ⟨A61,c61,hb61,hu61⟩
  dsimp only at hb61 hu61
  refine J.c j26<|J.p λ_ j27=>J.T<|J.b6 (X:=Nat×List Value×Hp×Option Addr×Nat) (λx=> [(7,I n),(8,I n),(9,Ptr g9)]) (λx=> [blk g9 x.2.1 146,x.2.2.1,F]) (λx=>1≤x.1∧x.1≤n∧x.2.1.length=2∧Bld g9 0 x.2.1 x.2.2.1 (List.replicate x.1 (0:UInt8)) x.2.2.2.1 x.2.2.2.2 (some ⟨g9,0,none⟩)) (λx=>n-x.1) (1,l61,m61,A61,c61) (⟨xB,xB,by rw [hu61.1,hu57.1];rfl,hb61⟩) ⟨O,O,O,trivial⟩ (λ_ h=>h) ?_
  rintro⟨k,l,m,A1,c1⟩ ⟨hk1,hkn,hll,hb⟩ I3 hI3
  dsimp only at hk1 hkn hll hb⊢
  refine J.p λ_ j28=>J.f λ_ j29=>J.q (qAK O O ent (Ct.use1 0 O (λF' _=>qLt F' m g9 l (List.replicate k (0:UInt8)) A1 c1 _ hb))) O λg111 _=>J.b O<|J.g ((qAQ O O O).as (v':= .bool (decide (k<n))) (congrArg Value.bool (decide_eq_decide.2 (by rw [jJ];omega)))) O<|J.c j29<|J.Z O (λh113=>?_) (λh113=>?_)
  ·
    refine J.M j28<|J.T<|J.f λ_ j30=>J.b O<|J.q (qAK O O ent (Ct.use1 0 O (λF' _=>qLt F' m g9 l (List.replicate k (0:UInt8)) A1 c1 _ hb))) O λg115 _=>J.g ((qA1 O O O (by rw [jJ];omega)).as (v':=I (n-k:Nat)) (congrArg I (by rw [jJ];omega))) O<|J.q (qAK O O ent (Ct.use1 0 O (λF' _=>qLt F' m g9 l (List.replicate k (0:UInt8)) A1 c1 _ hb))) O λg117 _=>J.b O<|J.g ((qVS O O O O).as (v':=I (min (n-k) k:Nat)) (congrArg I (by rw [jJ];omega))) O<|J.b O<|J.c j30<|J.H<|J.q (qAK O O ent (qD5 F m g9 146 0 l (List.replicate k (0:UInt8)) A1 c1 _ hb (by rw [jJ];omega))) O ?_
    rintro m20 hb20
    refine J.b O<|J.g ((qA3 u9_ O O O O ⟨xB,by rw [jJ];omega⟩).as (v':=Str (List.replicate (min (n-k) k) (0:UInt8))) (by rw [zj,List.take_replicate];congr 2;omega)) O<|J.q (qAK O O ent (qBK F m20 g9 146 0 l (List.replicate k (0:UInt8)) A1 c1 _ hb20 (by rw [hll];exact qLV) (List.replicate (min (n-k) k) (0:UInt8)) (by simp only [jJ];omega))) O ?_
    rintro⟨l23,m23⟩ ⟨A23,c23,hb23,hu23⟩
    dsimp only at hb23 hu23
    rw [List.replicate_append_replicate] at hb23
    exact J.a4<|J.a1<|J.u<|J.a7 (k+min (n-k) k,l23,m23,A23,c23) (λx (hx:_∧n-x.1<n-k)=>hI3 x hx.1 hx.2) ⟨⟨by dsimp only;omega,by dsimp only;omega,by rw [hu23.1];exact hll,hb23⟩,by dsimp only;omega⟩ ⟨O,O,O,trivial⟩ (λ_ h=>h)
  refine J.b4<|J.a0<|J.a0<|J.b5 ?_
  refine J.u (J.D j27 ?_)
  refine J.p λ_ j31=>?_
  have hkn2:k=n:=xB
  subst hkn2
  refine J.H<|J.q (qAK O O ent (qD5 F m g9 146 0 l (List.replicate k (0:UInt8)) A1 c1 _ hb (by rw [jJ];omega))) O ?_
  rintro m24 _
  exact J.b O<|J.c j31<|J.A<|J.E hw0 O () O trivial [2] O xC
theorem qSG(F:Hp):Cz prog 43 [Str [0],I 0] F (Str []):=by
 refine Ct.walk func43 O ntmps43 O (λw0 hw0=>?_)
 refine J.f λ_ j1=>J.b O<|J.c j1<|J.p λ_ j2=>J.f λ_ j3=>J.b O<|J.c j3<|J.T<|J.f λ_ j4=>J.g ((qAZ O O O).yes xB) O<|J.b O<|J.c j4<|J.c4 ?_
 exact J.f λ_ j5=>J.b O<|J.c j5<|J.A<|J.a6<|J.V<|J.E hw0 O () O trivial [0] O xC
theorem qSF(F:Hp):Cz prog 43 [Str [0],I 1] F (Str [0]):=by
 refine Ct.walk func43 O ntmps43 O (λw0 hw0=>?_)
 refine J.f λ_ j1=>J.b O<|J.c j1<|J.p λ_ j2=>J.f λ_ j3=>J.b O<|J.c j3<|J.T<|J.f λ_ j4=>J.g ((qAZ O O O).no xB) O<|J.b O<|J.c j4<|J.a3 ?_
 refine J.f λ_ j5=>J.g ((qAZ O O O).yes xB) O<|J.b O<|J.c j5<|J.c4 ?_
 exact J.f λ_ j6=>J.j 2 O<|J.c j6<|J.A<|J.a6<|J.V<|J.E hw0 O () O trivial [0] O xC
theorem qFJ(F:Hp)(n:Nat)(h3:n≤8192):
    Cz prog 43 [Str [0],I n] F (Str (List.replicate n 0)):=by
  match n,h3 with
  |0,_=>exact qSG F
  |1,_=>exact qSF F
  |n+2,h3=>exact qGa F (n+2) xB h3
theorem el368:qCR prog 368 [.int .i64 0,Str []] 24:=qCR.of xH O
abbrev Wri:=Nat×xA
structure Dk where
 last:List xA
 wait:List Wri
 off:Bool
 armed:Bool
 fuse:Int
 keep:xA
def qDQ(l:List Wri):List (List Value):=l.map λw=> [I w.1,Str w.2]
theorem qOY(a b:List Wri):qDQ (a++b)=qDQ a++qDQ b:=by simp [qDQ]
theorem qGI{l:List Wri}{k:Nat}(h:k<l.length):(qDQ l)[k]?=some [I (l.getD k (0,[])).1,Str (l.getD k (0,[])).2]:=by
 unfold qDQ
 rw [jN,qAh (0,[]) h];rfl
theorem qOX(l:List Wri):(qDQ l).all (λx=>x.all Value.oneCell')=true:=by simp [qDQ,Value.oneCell']
theorem qHc(a b:List xA):qAH (a++b)=qAH a++qAH b:=by simp [qAH]
def Dk.cells(d:Dk)(A:Option Addr)(c:Nat)(B:Option Addr)(e:Nat)(C:Option Addr)(f:Nat):List Value:= [.slice A d.last.length c,.slice B d.wait.length e,.bool d.off,.bool d.armed,I d.fuse,.slice C d.keep.length f]
def Dsk(mm:Hp)(g:Nat)(d:Dk)(C:Option Addr)(f:Nat):Prop:= ∃A c mL B e mW,mm=U [blk g (d.cells A c B e C f) 116,mL,mW]∧Djs [blk g (d.cells A c B e C f) 116,mL,mW]∧Row mL 9 1 A d.last.length c (qAH d.last)∧Row mW 368 2 B d.wait.length e (qDQ d.wait)
theorem Dsk.see{mm:Hp}{g:Nat}{d:Dk}{C:Option Addr}{f:Nat}(h:Dsk mm g d C f): ∃A c B e,qAG mm ⟨g,0,none⟩ (d.cells A c B e C f)∧Sl mm 1 A d.last.length c (qAH d.last)∧Sl mm 2 B d.wait.length e (qDQ d.wait):=by
 obtain ⟨A,c,mL,B,e,mW,rfl,hd,h1,h2⟩:=h
 exact⟨A,c,B,e,qAG.blk0.mono (qFV hd (.head _)),h1.sl.mono (qFV hd (.tail _ (.head _))),h2.sl.mono (qFV hd (.tail _ (.tail _ (.head _))))⟩
def Dk.ready(d:Dk)(i:Int):Int:=if d.off then 8 else if i<0∨(d.last.length:Int)≤i then 10 else 0
def qTp(l:List Wri)(i:Nat):Nat→Option xA
 |0=>none
 |k+1=>if(l.getD k (0,[])).1=i then some (l.getD k (0,[])).2 else qTp l i k
theorem qJb(l:List Wri)(i:Nat):qTp l i 0=none:=rfl
theorem qO9(l:List Wri)(i k:Nat):qTp l i (k+1)=if(l.getD k (0,[])).1=i then some (l.getD k (0,[])).2 else qTp l i k:=rfl
def Dk.now(d:Dk)(i:Nat):xA:=(qTp d.wait i d.wait.length).getD (d.last.getD i [])
def Dk.read(d:Dk)(i:Int):xA:=if d.ready i=0 then d.now i.toNat else []
def qWg(old t:xA)(n:Nat):xA:=t.take n++old.drop n
def qLZ(L:List xA)(w:Wri)(n:Nat):List xA:=L.set w.1 (qWg (L.getD w.1 []) w.2 n)
theorem qJ7(L:List xA)(w:Wri)(n:Nat):(qLZ L w n).length=L.length:=by unfold qLZ;rw [jk]
def qDB(L:List xA)(W:List Wri):Nat→List xA
 |0=>L
 |k+1=>qLZ (qDB L W k) (W.getD k (0,[])) 64
def qI1(L:List xA)(W:List Wri)(K:xA):Nat→List xA
 |0=>L
 |k+1=>if k<K.length then qLZ (qI1 L W K k) (W.getD k (0,[])) (min (K.getD k 0).toNat 64) else qI1 L W K k
theorem qBH(L:List xA)(W:List Wri): ∀k,(qDB L W k).length=L.length
 |0=>rfl
 |k+1=>by rw [qDB,qJ7,qBH L W k]
theorem qBJ(L:List xA)(W:List Wri)(K:xA): ∀k,(qI1 L W K k).length=L.length
 |0=>rfl
 |k+1=>by
  rw [qI1]
  split
  · rw [qJ7,qBJ L W K k]
  · exact qBJ L W K k
def Dk.cut(d:Dk)(K:xA):Dk:={d with last:=qI1 d.last d.wait K d.wait.length,wait:= [],off:=true,armed:=false}
def Dk.burns(d:Dk):Prop:=d.armed=true∧d.fuse-1<0
instance (d:Dk):Decidable d.burns:=by unfold Dk.burns;infer_instance
def Dk.burn(d:Dk):Dk:=if d.armed=true then(if d.fuse-1<0 then{d with fuse:=d.fuse-1}.cut d.keep else{d with fuse:=d.fuse-1}) else d
def qQa(s:xA):xA:=s++List.replicate (64-s.length) 0
theorem qTA{s:xA}(h:s.length≤64):(qQa s).length=64:=by unfold qQa;rw [jA,jJ];omega
structure Dk.ok0 (d:Dk):Prop where
 l64: ∀s∈d.last,s.length=64
 w64: ∀w∈d.wait,w.1<d.last.length∧w.2.length=64
 n0:0<d.last.length
 n1:d.last.length≤1024
structure Dk.ok (d:Dk):Prop extends Dk.ok0 d where
 fz:d.armed=true→0≤d.fuse
 fb: -9223372036854775808≤d.fuse∧d.fuse≤9223372036854775807
theorem qRk{o t:xA}{n:Nat}(ho:o.length=64)(ht:t.length=64)(hn:n≤64):(qWg o t n).length=64:=by unfold qWg;rw [jA,jE,jH];omega
theorem qV2{L:List xA}(h: ∀s∈L,s.length=64){k:Nat}(hk:k<L.length):(L.getD k []).length=64:=by
 rw [jB,jC hk];exact h _ (jS hk)
theorem qS7{W:List Wri}{p:Wri→Prop}(h: ∀w∈W,p w){k:Nat}(hk:k<W.length):p (W.getD k (0,[])):=by
 rw [jB,jC hk];exact h _ (jS hk)
theorem qMt{L:List xA}(h: ∀s∈L,s.length=64){w:Wri}(hw:w.1<L.length∧w.2.length=64){n:Nat}(hn:n≤64): ∀s∈qLZ L w n,s.length=64:=λs hs=>by
 unfold qLZ at hs
 rcases yC hs with hs|rfl
 · exact h s hs
 · exact qRk (qV2 h hw.1) hw.2 hn
theorem qIN{L:List xA}{W:List Wri}(h: ∀s∈L,s.length=64)(hw: ∀w∈W,w.1<L.length∧w.2.length=64): ∀k,k≤W.length→ ∀s∈qDB L W k,s.length=64
 |0,_=>h
 |k+1,hk=>by
  rw [qDB]
  exact qMt (qIN h hw k xB) (by rw [qBH];exact qS7 hw (show k<W.length by omega)) (jK _)
theorem qI0{L:List xA}{W:List Wri}{K:xA}(h: ∀s∈L,s.length=64)(hw: ∀w∈W,w.1<L.length∧w.2.length=64): ∀k,k≤W.length→ ∀s∈qI1 L W K k,s.length=64
 |0,_=>h
 |k+1,hk=>by
  rw [qI1]
  split
  · exact qMt (qI0 h hw k xB) (by rw [qBJ];exact qS7 hw (show k<W.length by omega)) (Nat.min_le_right _ _)
  · exact qI0 h hw k xB
theorem Dk.ok0.cut{d:Dk}(h:d.ok0)(K:xA):(d.cut K).ok0:=
 ⟨qI0 h.l64 h.w64 _ (jK _),(λw hw=>nomatch hw),by show 0<(qI1 _ _ _ _).length;rw [qBJ];exact h.n0,by show(qI1 _ _ _ _).length≤_;rw [qBJ];exact h.n1⟩
theorem Dk.ok.cut{d:Dk}(h:d.ok)(K:xA):(d.cut K).ok:=⟨Dk.ok0.cut h.1 K,(λe=>nomatch e),h.fb⟩
theorem Dk.ok.burn{d:Dk}(h:d.ok):d.burn.ok:=by
  unfold Dk.burn
  split
  · rename_i ha
    have h1:=h.fz ha
    have h2:=h.fb
    split
    · exact⟨Dk.ok0.cut (d:={d with fuse:=d.fuse-1}) ⟨h.l64,h.w64,h.n0,h.n1⟩ _,(λe=>nomatch e),by show _≤d.fuse-1∧d.fuse-1≤_;omega⟩
    · exact⟨⟨h.l64,h.w64,h.n0,h.n1⟩,λ_=>by show 0≤d.fuse-1;omega,by show _≤d.fuse-1∧d.fuse-1≤_;omega⟩
  · exact h
def Dk.wErr(d:Dk)(i:Int)(s:xA):Int:=if d.ready i≠0 then d.ready i else if 64<s.length then 2 else if d.burns then 8 else 0
def Dk.write(d:Dk)(i:Int)(s:xA):Dk:=if d.ready i≠0 then d else if 64<s.length then d else if d.burns then d.burn else{d.burn with wait:=d.burn.wait++ [(i.toNat,qQa s)]}
def Dk.sErr(d:Dk):Int:=if d.ready 0≠0 then d.ready 0 else if d.burns then 8 else 0
def Dk.sync(d:Dk):Dk:=if d.ready 0≠0 then d else if d.burns then d.burn else{d.burn with last:=qDB d.burn.last d.burn.wait d.burn.wait.length,wait:= []}
def Dk.new(n:Nat):Dk:=⟨List.replicate n (List.replicate 64 0),[],false,false,0,[]⟩
theorem qMM{d:Dk}{i:Int}(h:d.ready i=0):0≤i∧i<d.last.length∧d.off=false:=by
  unfold Dk.ready at h
  split at h
  · cases h
  · rename_i h1
    split at h
    · cases h
    · exact⟨xB,xB,by simpa using h1⟩
theorem qDn{d:Dk}(h: ¬d.burns):d.burn.last=d.last∧d.burn.wait=d.wait∧d.burn.off=d.off:=by
  unfold Dk.burn
  split
  · rename_i ha
    rw [if_neg (λe=>h ⟨ha,e⟩)];exact⟨O,O,O⟩
  · exact⟨O,O,O⟩
theorem Dk.ok.write{d:Dk}(h:d.ok)(i:Int)(s:xA):(d.write i s).ok:=by
  unfold Dk.write
  split
  · exact h
  · rename_i h0
    split
    · exact h
    · rename_i h1
      have hb:=h.burn
      split
      · exact hb
      · rename_i h2
        obtain ⟨r1,r2,_⟩:=qMM (Decidable.not_not.1 h0)
        refine⟨⟨hb.l64,λw hw=>?_,hb.n0,hb.n1⟩,hb.fz,hb.fb⟩
        rcases List.mem_append.1 hw with hw|hw
        · exact hb.w64 w hw
        · simp only [jQ] at hw
          subst hw
          exact⟨by show i.toNat<d.burn.last.length;rw [(qDn h2).1];omega,qTA xB⟩
theorem Dk.ok.sync{d:Dk}(h:d.ok):d.sync.ok:=by
  unfold Dk.sync
  split
  · exact h
  · have hb:=h.burn
    split
    · exact hb
    · exact⟨⟨qIN hb.l64 hb.w64 _ (jK _),(λw hw=>nomatch hw),by show 0<(qDB _ _ _).length;rw [qBH];exact hb.n0,by show(qDB _ _ _).length≤_;rw [qBH];exact hb.n1⟩,hb.fz,hb.fb⟩
theorem Dk.new_ok{n:Nat}(h:4≤n)(h2:n≤1024):(Dk.new n).ok:=⟨⟨λs hs=>by have:=zL hs;rw [this,jJ],(λw hw=>nomatch hw),by show 0<(List.replicate n _).length;rw [jJ];omega,by show(List.replicate n _).length≤_;rw [jJ];exact h2⟩,(λe=>nomatch e),⟨by show-9223372036854775808≤(0:Int);decide,by show(0:Int)≤_;decide⟩⟩
theorem qIV(F:Hp)(g:Nat)(d:Dk)(A:Option Addr)(c:Nat)(B:Option Addr)(e:Nat)(C:Option Addr)(f:Nat)(hc:qAG F ⟨g,0,none⟩ (d.cells A c B e C f))(i:Int)(hn:d.last.length≤1073741824):
    Cz prog 253 [Ptr g,I i] F (I (d.ready i)):=by
  refine Ct.walk func253 O ntmps253 O (λw0 hw0=>?_)
  refine J.f λ_ j1=>J.b O<|J.c j1<|J.p λ_ j2=>J.T<|J.f λ_ j3=>J.b O<|J.g ((qA2 underlying24 O O O).as (v':= .bool false) O) O<|J.b O<|J.c j3<|J.a3 ?_
  refine J.f λ_ j4=>J.b O<|J.g (qAB O O) O<|J.W 2 qCW z4_ O O O O O<|J.g ((qAI O O b4_ (m:=F) xD (hc.at (i:=2) O)).as (v':= .bool (decide (d.off=true))) (congrArg Value.bool xD)) O<|J.b O<|J.c j4<|J.Z O (λh8=>?_) (λh8=>?_)
  ·
    exact J.f λ_ j5=>J.b O<|J.c j5<|J.A<|J.a6<|J.V<|J.E hw0 O () (congrArg I (show(8:Int)=d.ready i by unfold Dk.ready;rw [if_pos h8])) trivial [0] O xC
  refine J.f λ_ j6=>J.b O<|J.g (qAQ O O O) O<|J.b O<|J.b9 (d:=16) O (λh16=>?_) (λh16=>?_)
  ·
    refine J.j 9 O<|J.c j6<|J.c4 ?_
    exact J.f λ_ j7=>J.b O<|J.c j7<|J.A<|J.a6<|J.V<|J.E hw0 O () (congrArg I (show(10:Int)=d.ready i by unfold Dk.ready;rw [if_neg h8,if_pos xB])) trivial [0] O xC
  refine J.j 2 O<|J.G (qAB O O) O<|J.G (qAA O O qCW O qBt O) O<|J.G (qAI O O qCA (m:=F) xD (hc.at (i:=0) O)) O<|J.G (qAP qAj O O) O<|J.G (qBA O O O) O<|J.j 2 O<|J.c j6<|J.Z O (λh13=>?_) (λh13=>?_)
  ·
    exact J.f λ_ j8=>J.b O<|J.c j8<|J.A<|J.a6<|J.V<|J.E hw0 O () (congrArg I (show(10:Int)=d.ready i by unfold Dk.ready;rw [if_neg h8,if_pos xB])) trivial [0] O xC
  refine J.b2<|J.a1<|J.u (J.D j2 ?_)
  exact J.f λ_ j9=>J.b O<|J.c j9<|J.A<|J.E hw0 O () (congrArg I (show(0:Int)=d.ready i by unfold Dk.ready;rw [if_neg h8,if_neg xB])) trivial [0] O xC
theorem qM8(F:Hp)(g:Nat)(d:Dk)(A:Option Addr)(c:Nat)(B:Option Addr)(e:Nat)(C:Option Addr)(f:Nat)(hc:qAG F ⟨g,0,none⟩ (d.cells A c B e C f)):
    Cz prog 120 [Ptr g] F (I d.last.length):=by
  refine Ct.walk func120 O ntmps120 O (λw0 hw0=>?_)
  refine J.f λ_ j1=>J.b O<|J.c j1<|J.p λ_ j2=>J.f λ_ j3=>J.b O<|J.g ((qA2 underlying24 O O O).as (v':= .bool false) O) O<|J.c j3<|J.a3 ?_
  exact J.M j2<|J.f λ_ j4=>J.b O<|J.g (qAB O O) O<|J.W 0 qCW qBt O O O O O<|J.g (qAI O O qCA (m:=F) xD (hc.at (i:=0) O)) O<|J.g (qAP qAj O O) O<|J.b O<|J.c j4<|J.A<|J.E hw0 O () O trivial [0] O xC
theorem qTU(F:Hp)(B:Option Addr)(n e:Nat):Ct prog 254 [.slice B n e] [F] (λx:Nat=> .func (.func 285) #[] #[Ptr x]) (λ_=>True) (λx=> [F,blk x [.slice B n e] 114]):=by
 refine Ct.walk func254 O ntmps254 O (λw0 hw0=>?_)
 exact J.f λ_ j1=>J.q (qAd O O O) O λg1 _=>J.b O<|J.c j1<|J.f λ_ j2=>J.g (qBC O O) O<|J.b O<|J.c j2<|J.A<|J.E hw0 O g1 O trivial [0,1] O xC
theorem qQ7(Fr:Hp)(gB:Nat)(B:Option Addr)(W:List Wri)(e:Nat)(hn2:W.length≤1073741824)(ha:qAG Fr ⟨gB,0,none⟩ [.slice B W.length e])(hs:Sl Fr 2 B W.length e (qDQ W)):
    qJA prog 285 [Ptr gB] Fr (λi=> [I (W.length-1-i:Nat),.agg #[I (W.getD (W.length-1-i) (0,[])).1,Str (W.getD (W.length-1-i) (0,[])).2]]) W.length:=by
  refine qJA.walk func285 O ntmps285 O (λ{X} M IY S l x0 w0 hw0 h0 hY=>?_)
  refine J.f λ_ j1=>J.g (qAI O O isAgg114 (m:=Fr) xD (ha)) O<|J.g (qAP qIK O O) O<|J.g ((qA1 O O O xB).as (v':=I ((W.length:Int)-1-((0:Nat):Int))) (congrArg I xB)) O<|J.b O<|J.c j1<|J.T<|J.b6 (X:=Nat×X) (λy=> [(0,.func (.yield l) #[] #[]),(1,Ptr gB),(3,I ((W.length:Int)-1-(y.1:Int)))]) (λy=> [Fr,M y.2]) (λy=>y.1≤W.length∧IY y.1 y.2) (λy=>W.length-y.1) (0,x0) (⟨jF _,h0⟩) ⟨O,O,O,trivial⟩ (λ_ h=>h) ?_
  rintro⟨i,x⟩ ⟨hi,hI⟩ I0 hI0
  dsimp only at hi hI⊢
  refine J.p λ_ j2=>J.f λ_ j3=>J.b O<|J.g (qBA O O O) O<|J.c j3<|J.Z O (λh8=>?_) (λh8=>?_)
  ·
    refine J.M j2<|J.p λ_ j4=>J.T<|J.p λ_ j5=>J.f7 ?_
    refine J.c7 (qAz O O) O O O ?_
    refine J.c7 ((qAz O O).nat (W.length-1-i) xB) O O O ?_
    refine J.c7 (qAI O O isAgg114 (m:=Fr) xD (ha)) O O O ?_
    refine J.c7 ((qAz O O).nat (W.length-1-i) xB) O O O ?_
    refine J.c7 (qAF O O O qIK qGE hs xB) O O O ?_
    refine J.c7 (qAT O O isAgg368 qGE (m:=Fr) xD (hs.elem (qGI xB)) O) O O O ?_
    refine J.f8 (ex:= []) O O O O O O (hY i x xB hI) ?_
    rintro x' b hb1 hb2
    cases b
    ·
      have hyb:=hb2 O
      refine J.c7 (qAu O O) O O O ?_
      refine J.e1 ?_
      refine J.u (J.D j5 ?_)
      refine J.c4 ?_
      exact J.A<|J.a6<|J.V<|J.V<|J.a6<|J.a9 hw0 (λ_ _ h=>h) (qIU O) (λw hs=>⟨x',⟨_,O⟩,.inr hyb,hs⟩)
    have hyb:=hb1 O
    refine J.c7 (qAu O O) O O O ?_
    refine J.e1 ?_
    refine J.u (J.D j5 ?_)
    refine J.a3 ?_
    refine J.b2<|J.a1<|J.u (J.D j4 ?_)
    exact J.H<|J.b O<|J.g ((qA1 O O O xB).as (v':=I ((W.length:Int)-1-((i+1:Nat):Int))) (congrArg I xB)) O<|J.b O<|J.a4<|J.u<|J.a7 (i+1,x') (λy (hy:_∧W.length-y.1<W.length-i)=>hI0 y hy.1 hy.2) ⟨⟨by dsimp only;omega,hyb⟩,by dsimp only;omega⟩ ⟨O,O,O,trivial⟩ (λ_ h=>h)
  refine J.b4<|J.a0<|J.a0<|J.b5 ?_
  exact J.d3 hw0 (λ_ _ h=>h) (qIU O) (λw hs=>⟨x,⟨_,O⟩,.inl (by rw [show W.length=i by omega];exact hI),hs⟩)
theorem qRt(F:Hp)(g:Nat)(d:Dk)(A:Option Addr)(c:Nat)(B:Option Addr)(e:Nat)(C:Option Addr)(f:Nat)(hc:qAG F ⟨g,0,none⟩ (d.cells A c B e C f))(hL:Sl F 1 A d.last.length c (qAH d.last))(hW:Sl F 2 B d.wait.length e (qDQ d.wait))(i:Int)(hn:d.last.length≤1073741824)(hn2:d.wait.length≤1073741824):
    Cz prog 198 [Ptr g,I i] F (.tuple #[Str (d.read i),I (d.ready i)]):=by
  refine Ct.walk func198 O ntmps198 O (λw0 hw0=>?_)
  refine J.f λ_ j1=>J.q (qAd O O O) O λg3 _=>J.q (qAJ O e9_ O) O λg4 _=>J.q (qAJ O zeroValue25 O) O λg5 _=>J.c j1<|J.p λ_ j2=>J.f λ_ j3=>J.b O<|J.a5 1 b3_ O O O O O<|J.q (qAa O O (λF' hF=>qIV F' g d A c B e C f (hc.mono (Fa hF)) i hn)) O λg11 _=>J.b O<|J.c j3<|J.f λ_ j4=>J.b O<|J.g (qAY O O O) O<|J.c j4<|J.Z O (λh13=>?_) (λh13=>?_)
  ·
    exact J.f λ_ j5=>J.b O<|J.a8 (qAD (i:=2) O O O O O z9_ O O) O O λ_ _=>J.a8 (qAD (l:= [I 0]) (i:=3) (vs:= [I (d.ready i)]) O O O O O qKq O O) O O λ_ _=>J.c j5<|J.A<|J.V<|J.a9 hw0 (λ_ _ h=>h) (rv2 O (RV.blk1 2 O O b9_) (RV.blk1 3 O O qLu)) (qAg () (by rw [show d.read i= [] from if_neg xB]) trivial [0] O xC)
  refine J.M j2<|J.p λ_ j6=>J.p λ_ j7=>?_
  have h0:d.ready i=0:=xB
  obtain ⟨hi0,hil⟩:0≤i∧i<d.last.length:=by
    unfold Dk.ready at h0
    split at h0
    · cases h0
    · split at h0
      · cases h0
      · omega
  obtain ⟨iN,hiN⟩:=zt hi0
  have hrd:d.read i=d.now iN:=by unfold Dk.read;rw [if_pos h0,hiN];rfl
  refine J.H<|J.b O<|J.g (qAB O O) O<|J.W 1 qCW qHE O O O O O<|J.g (qAI O O isAgg114 (m:=F) xD (hc.at (i:=1) O)) O<|J.q (qBV O O (λF' _=>qTU F' B d.wait.length e)) O ?_
  rintro gB _
  refine J.c j7<|J.T<|J.c3 [2,3,0,1,4] [blk g4 [Str []] 9,blk g5 [I 0] 25,F,blk g3 [I i] 3,blk gB [.slice B d.wait.length e] 114] O xC<|J.g1 (λx:xA×Int=> [blk g4 [Str x.1] 9,blk g5 [I x.2] 25]) [F,blk g3 [I i] 3,blk gB [.slice B d.wait.length e] 114] (λr x=>x=([],0)∧d.now iN=(qTp d.wait iN (d.wait.length-r)).getD (d.last.getD iN [])) (λcd x=>cd= .ret∧x=(d.now iN,0)) ([],0) O ent (λFr hF=>qQ7 Fr gB B d.wait e hn2 (qAG.blk0.mono (hF (blk gB [.slice B d.wait.length e] 114) xD)) (hW.mono (Fa hF))) (λ_ _=>rfl) O (⟨O,O⟩) ?_ ?_ ?_
  ·
    intro r x l wa wb hi hI K8 Post8 j8 hN8 hR8 hE8
    obtain ⟨x1,x2⟩:=x
    obtain ⟨hx,hnow⟩:=hI
    cases hx
    have hsk:qTp d.wait iN (d.wait.length-r)=if(d.wait.getD (d.wait.length-1-r) (0,[])).1=iN then some (d.wait.getD (d.wait.length-1-r) (0,[])).2 else qTp d.wait iN (d.wait.length-(r+1)):=by
      have:=qO9 d.wait iN (d.wait.length-1-r)
      rw [show d.wait.length-1-r+1=d.wait.length-r by omega] at this
      rw [this,show d.wait.length-(r+1)=d.wait.length-1-r by omega]
    refine J.d8 ?_
    refine J.q (qAJ O zeroValue368 O) O λg8 _=>J.a8 (qAD (l:= [I 0,Str []]) (i:=5) (vs:= [I (d.wait.getD (d.wait.length-1-r) (0,[])).1,Str (d.wait.getD (d.wait.length-1-r) (0,[])).2]) O O O O O qGE O O) O O λ_ _=>J.d9 ?_
    refine J.u (j8 _ _ ?_)
    refine J.f6 ?_
    refine J.f5 (λ_ j9=>?_)
    refine J.d8 ?_
    refine J.W 0 qNT z3_ O O O O O<|J.a5 5 b3_ O O O O O<|J.a5 3 b3_ O O O O O<|J.g ((qAZ O O O).as (v':= .bool (decide ((d.wait.getD (d.wait.length-1-r) (0,[])).1=iN))) (congrArg Value.bool (decide_eq_decide.2 xB))) O<|J.d9 ?_
    refine J.u (J.D j9 ?_)
    refine J.g8 O (λh25=>?_) (λh25=>?_)
    ·
      refine J.f5 (λ_ j10=>?_)
      refine J.d8 ?_
      refine J.W 1 qNT z9_ O O O O O<|J.a5 5 b9_ O O O O O<|J.a8 (qAD (l:= [Str []]) (i:=0) (vs:= [Str (d.wait.getD (d.wait.length-1-r) (0,[])).2]) O O O O O z9_ O O) O O λ_ _=>J.a8 (qAD (i:=1) O O O O O qKq O O) O O λ_ _=>J.d9 ?_
      refine J.u (J.D j10 ?_)
      refine J.h8 ?_
      refine J.a6<|J.c3 [0,1,2,3,4] [blk g4 [Str (d.wait.getD (d.wait.length-1-r) (0,[])).2] 9,blk g5 [I 0] 25,F,blk g3 [I i] 3,blk gB [.slice B d.wait.length e] 114] O xC ?_
      exact hR8 _ ((d.wait.getD (d.wait.length-1-r) (0,[])).2,0) ⟨O,by rw [hnow,hsk,if_pos h25];rfl⟩
    refine J.h7 ?_
    refine J.a1<|J.c3 [0,1,2,3,4] [blk g4 [Str []] 9,blk g5 [I 0] 25,F,blk g3 [I i] 3,blk gB [.slice B d.wait.length e] 114] O xC ?_
    exact hN8 _ ([],0) ⟨O,by rw [hnow,hsk,if_neg h25]⟩
  ·
    intro w8 x hx8 hI
    obtain ⟨x1,x2⟩:=x
    obtain ⟨hx,hnow⟩:=hI
    cases hx
    rw [zB,qJb] at hnow
    refine J.a1<|J.u (J.D j6 ?_)
    refine J.p λ_ j11=>J.b1 [blk g4 [Str []] 9,blk g5 [I 0] 25,F,blk g3 [I i] 3,blk gB [.slice B d.wait.length e] 114] [7,8] (.y 0 (.y 1 (.y 2 (.y 3 (.y 4 (.y 5 (.y 6 (.e 7 (.e 8 .nil))))))))) Tryz.wide xF xD ?_
    refine J.L ?_
    refine J.k O (qAB O O) O O<|J.k O (qAA O O qCW O qBt O) O O<|J.k O (qAI O O qCA (m:=F) xD (hc.at (i:=0) O)) O O<|J.k O (qAC 3 O O O b3_ O) O O<|J.k O (qAF O O (by show some (I i)=_;rw [hiN]) qAj z9_ hL xB) O O<|J.k O (qAI O O b9_ (m:=F) xD (hL.elem (qAb (qAh [] (show iN<d.last.length by omega))))) O O<|J.c1 O (qAD (l:= [Str []]) (i:=0) (vs:= [Str (d.last.getD iN [])]) O O O O O z9_ O O) O O O λ_ _=>J.c1 O (qAD (i:=1) O O O O O qKq O O) O O O λ_ _=>J.b0<|J.u (J.D j11 ?_)
    exact J.A<|J.e8 hw0 hx8 (λ_ _ h=>h) (rv2 O (RV.blk1 0 O O b9_) (RV.blk1 1 O O qLu)) (qAg () (by rw [hrd,h0,hnow];rfl) trivial [2] O xC)
  intro w8 x c hx8 hS
  obtain ⟨rfl,rfl⟩:=hS
  exact J.A<|J.a6<|J.V<|J.e8 hw0 hx8 (λ_ _ h=>h) (rv2 O (RV.blk1 0 O O b9_) (RV.blk1 1 O O qLu)) (qAg () (by rw [hrd,h0]) trivial [2] O xC)
theorem qQh(g i:Nat):qE6 (some ⟨g,0,none⟩) i 1=⟨g,i,none⟩:=by rw [qG1];simp
theorem qQC(F mL:Hp)(g gL c n:Nat)(d:Dk)(B:Option Addr)(e:Nat)(C:Option Addr)(f:Nat)(L:List xA)(hc:qAG F ⟨g,0,none⟩ [.slice (some ⟨gL,0,none⟩) L.length c,.slice B d.wait.length e,.bool d.off,.bool d.armed,I d.fuse,.slice C d.keep.length f])
    (hr:Row mL 9 1 (some ⟨gL,0,none⟩) L.length c (qAH L)) (at_:Nat) (t:xA) (hat:at_<L.length) (ht:n≤t.length) (ho:n≤(L.getD at_ []).length) (hs:t.length≤1048576) (hs2:(L.getD at_ []).length≤1048576) (hn3:L.length≤1073741824):
    Ct prog 289 [Ptr g,.agg #[I at_,Str t],I n] [mL,F] (λ_:Hp=> .tuple #[]) (λm=>Row m 9 1 (some ⟨gL,0,none⟩) L.length c (qAH (qLZ L (at_,t) n))) (λm=> [m,F]):=by
  refine Ct.walk func289 O ntmps289 O (λw0 hw0=>?_)
  refine J.f λ_ j1=>J.q (qAd O O O) O λg4 _=>J.c j1<|J.b1 [mL,F,blk g4 [I at_,Str t] 368] [22] (.y 0 (.y 1 (.y 2 (.y 3 (.y 4 (.y 5 (.y 6 (.y 7 (.y 8 (.y 9 (.y 10 (.y 11 (.y 12 (.y 13 (.y 14 (.y 15 (.y 16 (.y 17 (.y 18 (.y 19 (.y 20 (.y 21 (.e 22 .nil))))))))))))))))))))))) Tryz.wide xF xD ?_
  refine J.L ?_
  refine J.k O (qAB O O) O O<|J.k O (qAA O O qCW O qBt O) O O<|J.k O (qAI O O qCA (m:=F) xD (hc.at (i:=0) O)) O O<|J.k O (qAA O O qNT O z3_ O) O O<|J.k O (qAC 2 O O O b3_ O) O O<|J.k O (qAA O O qNT O z9_ O) O O<|J.k O (qAC 2 O O O b9_ O) O O<|J.L ?_
  refine J.k O ((qA3 u9_ O O O O ⟨xB,xB⟩).as (v':=Str (t.take n)) (congrArg Str zj)) O O<|J.L ?_
  refine J.k O (qAB O O) O O<|J.k O (qAA O O qCW O qBt O) O O<|J.k O (qAI O O qCA (m:=F) xD (hc.at (i:=0) O)) O O<|J.k O (qAA O O qNT O z3_ O) O O<|J.k O (qAC 2 O O O b3_ O) O O<|J.k O (qAF O O O qAj z9_ hr.sl xB) O O<|J.k O (qAI O O b9_ (m:=mL) xD (hr.sl.elem (qAb (qAh [] hat)))) O O<|J.L ?_
  refine J.k O ((qA3 u9_ O O O O ⟨xB,xB⟩).as (v':=Str ((L.getD at_ []).drop n)) (by rw [jn])) O O<|J.k O ((qBR O O O (by simp only [jE,jH];omega)).as (v':=Str (qWg (L.getD at_ []) t n)) O) O O<|J.k O (qAF O O O qAj z9_ hr.sl xB) O O<|J.c1 O (qBM (i:=0) (k:=at_) (off:=0) (b:= [Str (qWg (L.getD at_ []) t n)]) O (by show some _=some _;rw [qQh]) O O hr (vs:= [Str (qWg (L.getD at_ []) t n)]) O z9_ O xB (qAb (qAh [] hat)) O (by show _+1≤1;decide)) O O O ?_
  rintro m9 h9
  exact J.b0<|J.d3 hw0 (λ_ _ h=>h) (qIU O) (qAg m9 O (by rw [qDb] at h9;exact h9) [0,1] O xC)
theorem qWF(F mL mW:Hp)(g:Nat)(d:Dk)(hok:d.ok0)(hn2:d.wait.length≤1073741824)(gL:Nat)(c:Nat)(B:Option Addr)(e:Nat)(C:Option Addr)(f:Nat)(hL:Row mL 9 1 (some ⟨gL,0,none⟩) d.last.length c (qAH d.last))(hW:Row mW 368 2 B d.wait.length e (qDQ d.wait))(K:xA)(E:Option Addr)(q:Nat)(hK:Sl F 1 E K.length q (qAf K))(hKn:K.length≤9223372036854775807):
    Ct prog 301 [Ptr g,.slice E K.length q] [blk g [.slice (some ⟨gL,0,none⟩) d.last.length c,.slice B d.wait.length e,.bool d.off,.bool d.armed,I d.fuse,.slice C d.keep.length f] 116,mL,mW,F] (λ_:Hp=> .tuple #[]) (λm=>Row m 9 1 (some ⟨gL,0,none⟩) d.last.length c (qAH (qI1 d.last d.wait K d.wait.length))) (λm=> [blk g [.slice (some ⟨gL,0,none⟩) d.last.length c,.slice none 0 0,.bool true,.bool false,I d.fuse,.slice C d.keep.length f] 116,m,F]):=by
  refine Ct.walk func301 O ntmps301 O (λw0 hw0=>?_)
  refine J.p λ_ j1=>J.f λ_ j2=>J.b O<|J.g ((qA2 underlying24 O O O).as (v':= .bool false) O) O<|J.c j2<|J.a3 ?_
  refine J.M j1<|J.p λ_ j3=>J.f λ_ j4=>J.b O<|J.g (qAB O O) O<|J.W 1 qCW qHE O O O O O<|J.a5 0 isAgg114 O O O O O<|J.g (qAP qIK O O) O<|J.b O<|J.c j4<|J.T<|J.b6 (X:=Nat×Hp) (λx=> [(0,Ptr g),(1,.slice E K.length q),(11,.slice B d.wait.length e),(12,I d.wait.length),(13,I x.1)]) (λx=> [blk g [.slice (some ⟨gL,0,none⟩) d.last.length c,.slice B d.wait.length e,.bool d.off,.bool d.armed,I d.fuse,.slice C d.keep.length f] 116,x.2,mW,F]) (λx=>x.1≤d.wait.length∧Row x.2 9 1 (some ⟨gL,0,none⟩) d.last.length c (qAH (qI1 d.last d.wait K x.1))) (λx=>d.wait.length-x.1) (0,mL) (⟨jF _,hL⟩) ⟨O,O,O,O,O,trivial⟩ (λ_ h=>h) ?_
  rintro⟨k,m⟩ ⟨hk,hr⟩ I0 hI0
  dsimp only at hk hr⊢
  refine J.f λ_ j5=>J.g (qAQ O O O) O<|J.c j5<|J.p λ_ j6=>J.Z O (λh14=>?_) (λh14=>?_)
  ·
    refine J.M j6<|J.p λ_ j7=>J.T<|J.f λ_ j8=>J.b O<|J.g (qAF O O O qIK qGE hW.sl xB) O<|J.g (qAT O O isAgg368 qGE (m:=mW) xD (hW.sl.elem (qGI xB)) O) O<|J.q (qAJ O zeroValue368 O) O λg5 _=>J.b O<|J.a8 (qAD (l:= [I 0,Str []]) (i:=4) (vs:= [I (d.wait.getD k (0,[])).1,Str (d.wait.getD k (0,[])).2]) O O O O O qGE O O) O O λ_ _=>J.c j8<|J.f λ_ j9=>J.j 2 O<|J.g (qAP qBm O O) O<|J.g (qAQ O O O) O<|J.c j9<|J.Z O (λh21=>?_) (λh21=>?_)
    ·
      have ⟨hw1,hw2⟩:=qS7 hok.w64 (show k<d.wait.length by omega)
      have h64:=qV2 (qI0 hok.l64 hok.w64 (K:=K) k hk) (show(d.wait.getD k (0,[])).1<(qI1 d.last d.wait K k).length by rw [qBJ];exact hw1)
      obtain ⟨nk,hnk⟩: ∃nk,nk=min (K.getD k 0).toNat 64:=⟨_,rfl⟩
      refine J.b1 [blk g5 [I (d.wait.getD k (0,[])).1,Str (d.wait.getD k (0,[])).2] 368,F] [] (.y 0 (.y 1 (.y 2 (.y 3 (.y 4 (.y 5 (.y 6 (.y 7 (.e 8 .nil))))))))) Tryz.wide xF xD ?_
      refine J.L ?_
      refine J.k O (qAe 0 O O O isAgg368 qGE O) O O<|J.L ?_
      refine J.L ?_
      refine J.k O (qAF O O O qBm z5_ hK xB) O O<|J.k O (qAI O O b5_ (m:=F) xD (hK.elem (qBe (qAh 0 xB)))) O O<|J.k O (qCh O O u5_ u3_) O O<|J.k O ((qEB O O O).nat (nk) xB) O O<|J.a2 O (qAK O O ent (Ct.use1 1 O (λF' hF=>by have:=qQC F' m g gL c nk d B e C f (qI1 d.last d.wait K k) (by rw [qBJ];exact qAG.blk0.mono (hF (blk g [.slice (some ⟨gL,0,none⟩) d.last.length c,.slice B d.wait.length e,.bool d.off,.bool d.armed,I d.fuse,.slice C d.keep.length f] 116) xD)) (by rw [qBJ];exact hr) (d.wait.getD k (0,[])).1 (d.wait.getD k (0,[])).2 (by rw [qBJ];exact hw1) xB xB xB xB (by rw [qBJ];have:=hok.n1;omega);rw [qBJ] at this;exact this))) O xD ?_
      rintro m30 h30
      refine J.c3 [0,1,2,3] [blk g [.slice (some ⟨gL,0,none⟩) d.last.length c,.slice B d.wait.length e,.bool d.off,.bool d.armed,I d.fuse,.slice C d.keep.length f] 116,m30,mW,F] O xC<|J.b0<|J.a1<|J.u (J.D j7 ?_)
      exact J.H<|J.g ((qAR O O O xB).nat (k+1) xB) O<|J.b O<|J.a4<|J.u<|J.a7 (k+1,m30) (λx (hx:_∧d.wait.length-x.1<d.wait.length-k)=>hI0 x hx.1 hx.2) ⟨⟨by dsimp only;omega,by dsimp only;rw [qI1,if_pos xB,←hnk];exact h30⟩,by dsimp only;omega⟩ ⟨O,O,O,O,O,trivial⟩ (λ_ h=>h)
    refine J.b2<|J.a1<|J.u (J.D j7 ?_)
    exact J.H<|J.g ((qAR O O O xB).nat (k+1) xB) O<|J.b O<|J.a4<|J.u<|J.c3 [0,1,2,3] [blk g [.slice (some ⟨gL,0,none⟩) d.last.length c,.slice B d.wait.length e,.bool d.off,.bool d.armed,I d.fuse,.slice C d.keep.length f] 116,m,mW,F] O xC<|J.a7 (k+1,m) (λx (hx:_∧d.wait.length-x.1<d.wait.length-k)=>hI0 x hx.1 hx.2) ⟨⟨by dsimp only;omega,by dsimp only;rw [qI1,if_neg xB];exact hr⟩,by dsimp only;omega⟩ ⟨O,O,O,O,O,trivial⟩ (λ_ h=>h)
  refine J.b4<|J.a0<|J.a0<|J.b5 ?_
  refine J.u (J.D j3 ?_)
  have hkn:k=d.wait.length:=xB
  subst hkn
  refine J.H<|J.j 3 O<|J.g (qAB O O) O<|J.W 1 qCW qHE O O O O O<|J.a8 (qAV (i:=0) O O O O O qHE O xD) O O λ_ _=>?_
  change J _ _ _ [blk g [.slice (some ⟨gL,0,none⟩) d.last.length c,.slice none 0 0,.bool d.off,.bool d.armed,I d.fuse,.slice C d.keep.length f] 116,m,mW,F] _
  refine J.g (qAB O O) O<|J.W 2 qCW z4_ O O O O O<|J.a8 (qAV (i:=0) (vs:= [.bool true]) O O O O O z4_ O xD) O O λ_ _=>?_
  change J _ _ _ [blk g [.slice (some ⟨gL,0,none⟩) d.last.length c,.slice none 0 0,.bool true,.bool d.armed,I d.fuse,.slice C d.keep.length f] 116,_,_,_] _
  exact J.g (qAB O O) O<|J.W 3 qCW z4_ O O O O O<|J.a8 (qAV (i:=0) (vs:= [.bool false]) O O O O O z4_ O xD) O O λ_ _=>J.a4<|J.d3 hw0 (λ_ _ h=>h) (qIU O) (qAg m O hr [0,1,3] O xC)
theorem Dsk.open{mm:Hp}{g:Nat}{d:Dk}{C:Option Addr}{f:Nat}(h:Dsk mm g d C f)(h0:0<d.last.length): ∃gL c mL B e mW,mm=U [blk g (d.cells (some ⟨gL,0,none⟩) c B e C f) 116,mL,mW]∧Djs [blk g (d.cells (some ⟨gL,0,none⟩) c B e C f) 116,mL,mW]∧Row mL 9 1 (some ⟨gL,0,none⟩) d.last.length c (qAH d.last)∧Row mW 368 2 B d.wait.length e (qDQ d.wait):=by
 obtain ⟨A,c,mL,B,e,mW,h1,h2,h3,h4⟩:=h
 obtain ⟨gL,rfl⟩:=h3.at h0
 exact⟨gL,c,mL,B,e,mW,h1,h2,h3,h4⟩
theorem qKo{a b:Hp}(h:Djs [a,b]):Djs [a,b,λ_=>none]:=by
 rw [qAU] at h⊢
 simp only [jt,za,zD,or_false] at h⊢
 refine⟨?_,λ_ _ _=> .inr (by rename_i h _;rw [h]),λ_ hm=>hm.elim,.nil⟩
 rintro m (rfl|rfl)
 · exact h.1 m O
 · exact λ_=> .inr O
theorem qWE{g:Nat}(d:Dk)(gL c:Nat)(C:Option Addr)(f:Nat)(m:Hp)(K:xA)(hm:Row m 9 1 (some ⟨gL,0,none⟩) d.last.length c (qAH (qI1 d.last d.wait K d.wait.length)))(hj:Djs [blk g [.slice (some ⟨gL,0,none⟩) d.last.length c,.slice none 0 0,.bool true,.bool false,I d.fuse,.slice C d.keep.length f] 116,m]):
    Dsk (U [blk g [.slice (some ⟨gL,0,none⟩) d.last.length c,.slice none 0 0,.bool true,.bool false,I d.fuse,.slice C d.keep.length f] 116,m]) g (d.cut K) C f:=by
  refine⟨some ⟨gL,0,none⟩,c,m,none,0,λ_=>none,?_,?_,?_,qBS.nil⟩
  · show U [blk g [.slice (some ⟨gL,0,none⟩) d.last.length c,.slice none 0 0,.bool true,.bool false,I d.fuse,.slice C d.keep.length f] 116,m]=U [blk g [.slice (some ⟨gL,0,none⟩) (qI1 d.last d.wait K d.wait.length).length c,.slice none 0 0,.bool true,.bool false,I d.fuse,.slice C d.keep.length f] 116,m,λ_=>none]
    rw [qBJ];rfl
  · show Djs [blk g [.slice (some ⟨gL,0,none⟩) (qI1 d.last d.wait K d.wait.length).length c,.slice none 0 0,.bool true,.bool false,I d.fuse,.slice C d.keep.length f] 116,m,λ_=>none]
    rw [qBJ];exact qKo hj
  · show Row m 9 1 (some ⟨gL,0,none⟩) (qI1 d.last d.wait K d.wait.length).length c _
    rw [qBJ];exact hm
theorem qQz(F mm:Hp)(g:Nat)(d:Dk)(C:Option Addr)(f:Nat)(hb:Dsk mm g d C f)(hok:d.ok)(hn2:d.wait.length≤1073741824)(hKp:Sl F 1 C d.keep.length f (qAf d.keep))(hn3:d.keep.length≤9223372036854775807):
    Ct prog 288 [Ptr g] [mm,F] (λ_:Hp=> .bool (decide d.burns)) (λm=>Dsk m g d.burn C f) (λm=> [m,F]):=by
  obtain ⟨gL,c,mL,B,e,mW,rfl,hd,hL,hW⟩:=hb.open hok.n0
  unfold Dk.cells at hd⊢
  refine Ct.walk func288 O ntmps288 O (λw0 hw0=>?_)
  refine J.g2 hd ?_
  refine J.f λ_ j1=>J.b O<|J.c j1<|J.p λ_ j2=>J.f λ_ j3=>J.b O<|J.g (qAB O O) O<|J.W 3 qCW z4_ O O O O O<|J.a5 0 b4_ O O O O O<|J.g ((qAu O O).as (v':= .bool (decide (¬d.armed=true))) (congrArg Value.bool xD)) O<|J.c j3<|J.Z O (λh7=>?_) (λh7=>?_)
  ·
    exact J.f λ_ j4=>J.b O<|J.c j4<|J.A<|J.V<|J.a9 hw0 (λ_ _ h=>h) (qJj O O) (qFI [blk g [.slice (some ⟨gL,0,none⟩) d.last.length c,.slice B d.wait.length e,.bool d.off,.bool d.armed,I d.fuse,.slice C d.keep.length f] 116,mL,mW] [F] (U [blk g [.slice (some ⟨gL,0,none⟩) d.last.length c,.slice B d.wait.length e,.bool d.off,.bool d.armed,I d.fuse,.slice C d.keep.length f] 116,mL,mW]) (congrArg Value.bool (decide_eq_false (λh=>h7 h.1)).symm) (λhd=>by rw [show d.burn=d from if_neg h7];exact⟨_,c,mL,B,e,mW,O,hd,hL,hW⟩) [0,1,2,3] O O xC)
  refine J.M j2<|J.p λ_ j5=>?_
  have ha:d.armed=true:=by simpa using h7
  refine J.H<|J.b O<|J.g (qAB O O) O<|J.W 4 qCW z3_ O O O O O<|J.a5 0 b3_ O O O O O<|J.g (qA1 O O O (by have:=hok.fb;have:=hok.fz ha;omega)) O<|J.g (qAB O O) O<|J.W 4 qCW z3_ O O O O O<|J.a8 (qAV (i:=0) O O O O O z3_ O xD) O O λ_ _=>J.c j5<|J.p λ_ j6=>J.f λ_ j7=>J.b O<|J.g (qAB O O) O<|J.W 4 qCW z3_ O O O O O<|J.a5 0 b3_ O O O O O<|J.g (qBA O O O) O<|J.c j7<|J.Z O (λh19=>?_) (λh19=>?_)
  ·
    exact J.f λ_ j8=>J.b O<|J.c j8<|J.A<|J.V<|J.a9 hw0 (λ_ _ h=>h) (qJj O O) (qFI [blk g [.slice (some ⟨gL,0,none⟩) d.last.length c,.slice B d.wait.length e,.bool d.off,.bool d.armed,I (d.fuse-1),.slice C d.keep.length f] 116,mL,mW] [F] (U [blk g [.slice (some ⟨gL,0,none⟩) d.last.length c,.slice B d.wait.length e,.bool d.off,.bool d.armed,I (d.fuse-1),.slice C d.keep.length f] 116,mL,mW]) (congrArg Value.bool (decide_eq_false (λh=>by have:=h.2;omega)).symm) (λhd=>by rw [show d.burn={d with fuse:=d.fuse-1} from by unfold Dk.burn;rw [if_pos ha,if_neg xB]];exact⟨_,c,mL,B,e,mW,O,hd,hL,hW⟩) [0,1,2,3] O O xC)
  refine J.M j6<|J.f λ_ j9=>J.j 2 O<|J.g (qAB O O) O<|J.W 5 qCW qJB O O O O O<|J.a5 0 qOR O O O O O<|J.q (qAK O O ent ((qWF F mL mW g {d with fuse:=d.fuse-1} ⟨hok.l64,hok.w64,hok.n0,hok.n1⟩ hn2 gL c B e C f hL hW d.keep C f hKp hn3))) O ?_
  rintro m25 h25
  exact J.c j9<|J.f λ_ j10=>J.b O<|J.c j10<|J.A<|J.a9 hw0 (λ_ _ h=>h) (qJj O O) (qFI [blk g [.slice (some ⟨gL,0,none⟩) d.last.length c,.slice none 0 0,.bool true,.bool false,I (d.fuse-1),.slice C d.keep.length f] 116,m25] [F] (U [blk g [.slice (some ⟨gL,0,none⟩) d.last.length c,.slice none 0 0,.bool true,.bool false,I (d.fuse-1),.slice C d.keep.length f] 116,m25]) (congrArg Value.bool (decide_eq_true (show d.burns from⟨ha,xB⟩)).symm) (λhj=>by rw [show d.burn={d with fuse:=d.fuse-1}.cut d.keep from by unfold Dk.burn;rw [if_pos ha,if_pos xB]];exact qWE {d with fuse:=d.fuse-1} gL c C f m25 d.keep h25 hj) [0,1,2] O O xC)
theorem qKV(F:Hp)(K:List xA)(E:Option Addr)(q:Nat)(hK:Sl F 1 E K.length q (qAH K))(hn:K.length≤1073741824):
    Ct prog 126 [.slice E K.length q] [F] (λx:Option Addr×Nat×Hp=> .slice x.1 K.length x.2.1) (λx=>Row x.2.2 9 1 x.1 K.length x.2.1 (qAH K)) (λx=> [F,x.2.2]):=by
  refine Ct.walk func126 O ntmps126 O (λw0 hw0=>?_)
  refine J.f λ_ j1=>J.b O<|J.c j1<|J.p λ_ j2=>J.f λ_ j3=>J.b O<|J.g ((qEh qAj O O O).as (v':= .bool (decide (E.isNone=true))) (congrArg Value.bool (by cases E<;>rfl))) O<|J.c j3<|J.Z O (λh4=>?_) (λh4=>?_)
  ·
    refine J.p λ_ j4=>?_
    have hnil:K= []:=by
      cases K with
      |nil=>rfl
      |cons a r=>
        obtain ⟨_,ad,hA,_⟩:=hK.2.2 0 _ rfl
        rw [hA] at h4;cases h4
    exact J.c5 [0,1] [F,λ_=>none] O xC<|J.H<|J.b O<|J.c j4<|J.A<|J.V<|J.E hw0 O (none,0,λ_=>none) (by rw [hnil];rfl) (by rw [hnil];exact qBS.nil) [0,1] O xC
  refine J.M j2<|J.f λ_ j5=>J.q (qBh O qAj el9) O λg5 _=>J.b O<|J.q (qAW (i:=1) (m2:=F) O O O qAj qAj el9 O (qAm (q:=True) (xs:= []) O xD) xD hK (by simp [qAH,Value.oneCell']) xB xB) O ?_
  rintro⟨A7,c7,m7⟩ h7
  try dsimp only at h7
  exact J.b O<|J.c j5<|J.A<|J.E hw0 O (A7,c7,m7) (by rw [jj]) (by rw [jj] at h7;exact h7) [0,1] O xC
theorem qRY(F mm:Hp)(g:Nat)(d:Dk)(C:Option Addr)(f:Nat)(hb:Dsk mm g d C f)(hok:d.ok)(hn2:d.wait.length≤1073741824)(hKp:Sl F 1 C d.keep.length f (qAf d.keep))(hn3:d.keep.length≤9223372036854775807)(i:Int)(s:xA)(hs:s.length≤1048576):
    Ct prog 260 [Ptr g,I i,Str s] [mm,F] (λ_:Hp=>I (d.wErr i s)) (λm=>Dsk m g (d.write i s) C f) (λm=> [m,F]):=by
  obtain ⟨A0,c0,B0,e0,hc,hsL,hsW⟩:=hb.see
  have hn1:=hok.n1
  refine Ct.walk func260 O ntmps260 O (λw0 hw0=>?_)
  refine J.f λ_ j1=>J.b O<|J.c j1<|J.f λ_ j2=>J.j 2 O<|J.q (qAa O O (λF' hF=>qIV F' g d A0 c0 B0 e0 C f (hc.mono (Fa hF)) i xB)) O λg10 _=>J.b O<|J.c j2<|J.p λ_ j3=>J.T<|J.f λ_ j4=>J.b O<|J.g (qAY O O O) O<|J.b O<|J.c j4<|J.Z O (λh11=>?_) (λh11=>?_)
  ·
    exact J.f λ_ j5=>J.j 2 O<|J.c j5<|J.A<|J.a6<|J.V<|J.E hw0 O mm (congrArg I (by unfold Dk.wErr;rw [if_pos xB])) (by rw [show d.write i s=d from if_pos xB];exact hb) [0,1] O xC
  refine J.f λ_ j6=>J.b O<|J.g (qAp u9_ O O) O<|J.g (qA0 O O O) O<|J.b O<|J.c j6<|J.Z O (λh15=>?_) (λh15=>?_)
  ·
    exact J.f λ_ j7=>J.b O<|J.c j7<|J.A<|J.a6<|J.V<|J.E hw0 O mm (congrArg I (by unfold Dk.wErr;rw [if_neg xB,if_pos xB])) (by rw [show d.write i s=d from by unfold Dk.write;rw [if_neg xB,if_pos xB]];exact hb) [0,1] O xC
  refine J.f λ_ j8=>J.b O<|J.q (qAK O O ent (Ct.use1 0 O (λF' hF=>qQz F' mm g d C f hb hok hn2 (hKp.mono (Fa hF)) hn3))) O ?_
  rintro m21 h21
  refine J.b O<|J.c j8<|J.Z O (λh19=>?_) (λh19=>?_)
  ·
    exact J.f λ_ j9=>J.b O<|J.c j9<|J.A<|J.a6<|J.V<|J.E hw0 O m21 (congrArg I (by unfold Dk.wErr;rw [if_neg xB,if_neg xB,if_pos h19])) (by rw [show d.write i s=d.burn from by unfold Dk.write;rw [if_neg xB,if_neg xB,if_pos h19]];exact h21) [0,1] O xC
  refine J.b2<|J.a1<|J.u (J.D j3 ?_)
  refine J.p λ_ j10=>?_
  have h0:d.ready i=0:=xB
  obtain ⟨hi0,hil,_⟩:=qMM h0
  obtain ⟨iN,hiN⟩:=zt hi0
  have hnb: ¬d.burns:=h19
  obtain ⟨x,hx⟩: ∃x,x=d.burn:=⟨_,rfl⟩
  rw [←hx] at h21
  have hxo:x.ok:=hx▸hok.burn
  have hxw:x.wait=d.wait:=hx▸(qDn hnb).2.1
  have hxl:x.last=d.last:=hx▸(qDn hnb).1
  obtain ⟨gL,c,mL,B,e,mW,rfl,hd,hL,hW⟩:=h21.open hxo.n0
  unfold Dk.cells at hd⊢
  refine J.g2 hd ?_
  refine J.b1 [blk g [.slice (some ⟨gL,0,none⟩) x.last.length c,.slice B x.wait.length e,.bool x.off,.bool x.armed,I x.fuse,.slice C x.keep.length f] 116] [17] (.y 0 (.y 1 (.y 2 (.y 3 (.y 4 (.y 5 (.y 6 (.y 7 (.y 8 (.y 9 (.e 10 (.y 11 (.y 12 (.e 13 (.e 14 (.y 15 (.y 16 (.e 17 .nil)))))))))))))))))) Tryz.wide xF xD ?_
  refine J.L ?_
  refine J.L ?_
  refine J.k O (qAB O O) O O<|J.k O (qAA O O qCW O qHE O) O O<|J.k O (qAC 0 O O O isAgg114 O) O O<|J.k O ((qAz O O).as (v':=I (iN:Int)) (congrArg I hiN)) O O<|J.L ?_
  refine J.L ?_
  refine J.k O (qAp u9_ O O) O O<|J.k O ((qA1 O O O xB).nat (64-s.length) xB) O O<|J.a2 O (qAa O O (λF' hF=>qFJ F' (64-s.length) xB)) O xD λg32 _=>J.k O ((qBR O O O (by simp only [jJ];omega)).as (v':=Str (qQa s)) O) O O<|J.k O (qAL (places:= [(0,1),(1,1)]) (r:= [I (iN:Int),Str (qQa s)]) O O O qNT zeroValue368 (λ_=>xH) O) O O<|J.a2 O (qAE (l:= [.tmp 34]) (xs:= [[I (iN:Int),Str (qQa s)]]) O O O O qIK el368 O xC xC xD) O xD λg35 _=>J.a2 O (qAW (i:=2) (m2:=blk g35 [I (iN:Int),Str (qQa s)] 368) O O O qIK qIK el368 O hW xD ((qAm (q:=True) (xs:=qDQ [(iN,qQa s)]) O (by simp [qDQ])).sl) (qOX _) (by rw [hxw];omega) (by rw [hxw];omega)) O xD ?_
  rintro⟨A36,c36,m36⟩ h36
  try dsimp only at h36
  refine J.k O (qAB O O) O O<|J.k O (qAA O O qCW O qHE O) O O<|J.c1 O (qAV (i:=0) O O O O O qHE O xD) O O O λ_ _=>J.b0<|J.u (J.D j10 ?_)
  exact J.f λ_ j11=>J.b O<|J.c j11<|J.A<|J.a9 hw0 (λ_ _ h=>h) (qJj O O) (qFI [blk g [.slice (some ⟨gL,0,none⟩) x.last.length c,.slice A36 (x.wait.length+1) c36,.bool x.off,.bool x.armed,I x.fuse,.slice C x.keep.length f] 116,mL,m36] [F] (U [blk g [.slice (some ⟨gL,0,none⟩) x.last.length c,.slice A36 (x.wait.length+1) c36,.bool x.off,.bool x.armed,I x.fuse,.slice C x.keep.length f] 116,mL,m36]) (congrArg I (by unfold Dk.wErr;rw [if_neg xB,if_neg xB,if_neg hnb])) (λhd=>by rw [show d.write i s={x with wait:=x.wait++ [(iN,qQa s)]} from by unfold Dk.write;rw [if_neg xB,if_neg xB,if_neg hnb,←hx,hiN];rfl];refine⟨_,c,mL,A36,c36,m36,?_,?_,hL,?_⟩<;>(try unfold Dk.cells)<;>rw [jA]<;>first|rfl|exact hd|(rw [qOY];exact h36)) [0,1,2,3] O O xC)
theorem qRo{g:Nat}(x:Dk)(gL c:Nat)(C:Option Addr)(f:Nat)(m:Hp)(hm:Row m 9 1 (some ⟨gL,0,none⟩) x.last.length c (qAH (qDB x.last x.wait x.wait.length)))(hj:Djs [blk g [.slice (some ⟨gL,0,none⟩) x.last.length c,.slice none 0 0,.bool x.off,.bool x.armed,I x.fuse,.slice C x.keep.length f] 116,m]):
    Dsk (U [blk g [.slice (some ⟨gL,0,none⟩) x.last.length c,.slice none 0 0,.bool x.off,.bool x.armed,I x.fuse,.slice C x.keep.length f] 116,m]) g {x with last:=qDB x.last x.wait x.wait.length,wait:= []} C f:=by
  refine⟨some ⟨gL,0,none⟩,c,m,none,0,λ_=>none,?_,?_,?_,qBS.nil⟩
  · show U [blk g [.slice (some ⟨gL,0,none⟩) x.last.length c,.slice none 0 0,.bool x.off,.bool x.armed,I x.fuse,.slice C x.keep.length f] 116,m]=U [blk g [.slice (some ⟨gL,0,none⟩) (qDB x.last x.wait x.wait.length).length c,.slice none 0 0,.bool x.off,.bool x.armed,I x.fuse,.slice C x.keep.length f] 116,m,λ_=>none]
    rw [qBH];rfl
  · show Djs [blk g [.slice (some ⟨gL,0,none⟩) (qDB x.last x.wait x.wait.length).length c,.slice none 0 0,.bool x.off,.bool x.armed,I x.fuse,.slice C x.keep.length f] 116,m,λ_=>none]
    rw [qBH];exact qKo hj
  · show Row m 9 1 (some ⟨gL,0,none⟩) (qDB x.last x.wait x.wait.length).length c _
    rw [qBH];exact hm
theorem qUX(F mm:Hp)(g:Nat)(d:Dk)(C:Option Addr)(f:Nat)(hb:Dsk mm g d C f)(hok:d.ok)(hn2:d.wait.length≤1073741824)(hKp:Sl F 1 C d.keep.length f (qAf d.keep))(hn3:d.keep.length≤9223372036854775807):
    Ct prog 262 [Ptr g] [mm,F] (λ_:Hp=>I d.sErr) (λm=>Dsk m g d.sync C f) (λm=> [m,F]):=by
  obtain ⟨A0,c0,B0,e0,hc,hsL,hsW⟩:=hb.see
  have hn1:=hok.n1
  refine Ct.walk func262 O ntmps262 O (λw0 hw0=>?_)
  refine J.f λ_ j1=>J.b O<|J.c j1<|J.p λ_ j2=>J.f λ_ j3=>J.b O<|J.q (qAa O O (λF' hF=>qIV F' g d A0 c0 B0 e0 C f (hc.mono (Fa hF)) 0 xB)) O λg7 _=>J.b O<|J.c j3<|J.f λ_ j4=>J.b O<|J.g (qAY O O O) O<|J.c j4<|J.Z O (λh9=>?_) (λh9=>?_)
  ·
    exact J.f λ_ j5=>J.j 2 O<|J.c j5<|J.A<|J.V<|J.E hw0 O mm (congrArg I (by unfold Dk.sErr;rw [if_pos xB])) (by rw [show d.sync=d from if_pos xB];exact hb) [0,1] O xC
  refine J.M j2<|J.p λ_ j6=>J.f λ_ j7=>J.b O<|J.q (qAK O O ent (Ct.use1 0 O (λF' hF=>qQz F' mm g d C f hb hok hn2 (hKp.mono (Fa hF)) hn3))) O ?_
  rintro m12 h12
  refine J.c j7<|J.Z O (λh12c=>?_) (λh12c=>?_)
  ·
    exact J.f λ_ j8=>J.b O<|J.c j8<|J.A<|J.V<|J.E hw0 O m12 (congrArg I (by unfold Dk.sErr;rw [if_neg xB,if_pos h12c])) (by rw [show d.sync=d.burn from by unfold Dk.sync;rw [if_neg xB,if_pos h12c]];exact h12) [0,1] O xC
  refine J.M j6<|J.p λ_ j9=>J.p λ_ j10=>?_
  have h0:d.ready 0=0:=xB
  have hnb: ¬d.burns:=h12c
  obtain ⟨x,hx⟩: ∃x,x=d.burn:=⟨_,rfl⟩
  rw [←hx] at h12
  have hxo:x.ok:=hx▸hok.burn
  have hxw:x.wait=d.wait:=hx▸(qDn hnb).2.1
  have hxl:x.last=d.last:=hx▸(qDn hnb).1
  obtain ⟨gL,c,mL,B,e,mW,rfl,hd,hL,hW⟩:=h12.open hxo.n0
  unfold Dk.cells at hd⊢
  refine J.g2 hd ?_
  have hxn:x.wait.length≤1073741824:=by rw [hxw];exact hn2
  refine J.H<|J.b O<|J.g (qAB O O) O<|J.W 1 qCW qHE O O O O O<|J.a5 0 isAgg114 O O O O O<|J.g (qAP qIK O O) O<|J.b O<|J.c j10<|J.T<|J.b6 (X:=Nat×Hp) (λy=> [(0,Ptr g),(16,.slice B x.wait.length e),(17,I x.wait.length),(18,I y.1)]) (λy=> [blk g [.slice (some ⟨gL,0,none⟩) x.last.length c,.slice B x.wait.length e,.bool x.off,.bool x.armed,I x.fuse,.slice C x.keep.length f] 116,y.2,mW,F]) (λy=>y.1≤x.wait.length∧Row y.2 9 1 (some ⟨gL,0,none⟩) x.last.length c (qAH (qDB x.last x.wait y.1))) (λy=>x.wait.length-y.1) (0,mL) (⟨jF _,hL⟩) ⟨O,O,O,O,trivial⟩ (λ_ h=>h) ?_
  rintro⟨k,m⟩ ⟨hk,hr⟩ I0 hI0
  dsimp only at hk hr⊢
  refine J.f λ_ j11=>J.g (qAQ O O O) O<|J.c j11<|J.p λ_ j12=>J.Z O (λh19=>?_) (λh19=>?_)
  ·
    refine J.M j12<|J.p λ_ j13=>J.T<|J.f λ_ j14=>J.g (qAF O O O qIK qGE hW.sl xB) O<|J.g (qAT O O isAgg368 qGE (m:=mW) xD (hW.sl.elem (qGI xB)) O) O<|J.q (qAJ O zeroValue368 O) O λg5 _=>J.a8 (qAD (l:= [I 0,Str []]) (i:=4) (vs:= [I (x.wait.getD k (0,[])).1,Str (x.wait.getD k (0,[])).2]) O O O O O qGE O O) O O λ_ _=>J.c j14 ?_
    have ⟨hw1,hw2⟩:=qS7 hxo.w64 (show k<x.wait.length by omega)
    have h64:=qV2 (qIN hxo.l64 hxo.w64 k hk) (show(x.wait.getD k (0,[])).1<(qDB x.last x.wait k).length by rw [qBH];exact hw1)
    refine J.H<|J.b O<|J.c0 4 isAgg368 qGE O O O O O<|J.q (qAK O O ent (Ct.use1 1 O (λF' hF=>by have:=qQC F' m g gL c 64 x B e C f (qDB x.last x.wait k) (by rw [qBH];exact qAG.blk0.mono (hF (blk g [.slice (some ⟨gL,0,none⟩) x.last.length c,.slice B x.wait.length e,.bool x.off,.bool x.armed,I x.fuse,.slice C x.keep.length f] 116) xD)) (by rw [qBH];exact hr) (x.wait.getD k (0,[])).1 (x.wait.getD k (0,[])).2 (by rw [qBH];exact hw1) xB xB xB xB (by rw [qBH];have:=hxo.n1;omega);rw [qBH] at this;exact this))) O ?_
    rintro m24 h24
    refine J.c3 [0,1,2,3] [blk g [.slice (some ⟨gL,0,none⟩) x.last.length c,.slice B x.wait.length e,.bool x.off,.bool x.armed,I x.fuse,.slice C x.keep.length f] 116,m24,mW,F] O xC<|J.a4<|J.a1<|J.u (J.D j13 ?_)
    exact J.H<|J.g ((qAR O O O xB).nat (k+1) xB) O<|J.b O<|J.a4<|J.u<|J.a7 (k+1,m24) (λy (hy:_∧x.wait.length-y.1<x.wait.length-k)=>hI0 y hy.1 hy.2) ⟨⟨by dsimp only;omega,h24⟩,by dsimp only;omega⟩ ⟨O,O,O,O,trivial⟩ (λ_ h=>h)
  refine J.b4<|J.a0<|J.a0<|J.b5 ?_
  refine J.u (J.D j9 ?_)
  refine J.p λ_ j15=>?_
  have hkn:k=x.wait.length:=xB
  subst hkn
  exact J.H<|J.b O<|J.g (qAB O O) O<|J.W 1 qCW qHE O O O O O<|J.a8 (qAV (i:=0) O O O O O qHE O xD) O O λ_ _=>J.c j15<|J.f λ_ j16=>J.b O<|J.c j16<|J.A<|J.a9 hw0 (λ_ _ h=>h) (qJj O O) (qFI [blk g [.slice (some ⟨gL,0,none⟩) x.last.length c,.slice none 0 0,.bool x.off,.bool x.armed,I x.fuse,.slice C x.keep.length f] 116,m] [F] (U [blk g [.slice (some ⟨gL,0,none⟩) x.last.length c,.slice none 0 0,.bool x.off,.bool x.armed,I x.fuse,.slice C x.keep.length f] 116,m]) (congrArg I (by unfold Dk.sErr;rw [if_neg xB,if_neg hnb])) (λhj=>by rw [show d.sync={x with last:=qDB x.last x.wait x.wait.length,wait:= []} from by unfold Dk.sync;rw [if_neg xB,if_neg hnb,←hx]];exact qRo x gL c C f m hr hj) [0,1,3] O O xC)
theorem qNZ(n:Nat):List.replicate n [Str []]=qAH (List.replicate n []):=by simp [qAH]
theorem qU1{n k:Nat}(a b:xA)(h:k<n):(List.replicate k a++List.replicate (n-k) b).set k a=List.replicate (k+1) a++List.replicate (n-(k+1)) b:=by
 rw [List.set_append_right _ _ (by rw [jJ];exact jK _),jJ,zB,show n-k=(n-(k+1))+1 by omega,yE,List.set_cons_zero,List.replicate_succ',jW];rfl
theorem qU2{n k:Nat}(a b:xA)(h:k≤n):(List.replicate k a++List.replicate (n-k) b).length=n:=by rw [jA,jJ,jJ];omega
theorem qVd(k g g13:Nat)(m:Hp)(hr:Row m 9 1 (some ⟨g13,0,none⟩) k k (qAH (List.replicate k (List.replicate 64 (0:UInt8)))))(hj:Djs [blk g [.slice (some ⟨g13,0,none⟩) k k,.slice none 0 0,.bool false,.bool false,I 0,.slice none 0 0] 116,m,λ_=>none]):Dsk (U [blk g [.slice (some ⟨g13,0,none⟩) k k,.slice none 0 0,.bool false,.bool false,I 0,.slice none 0 0] 116,m,λ_=>none]) g (Dk.new k) none 0:=by
 have hl:(Dk.new k).last.length=k:=jJ
 refine⟨some ⟨g13,0,none⟩,k,m,none,0,λ_=>none,?_,?_,?_,qBS.nil⟩
 · unfold Dk.cells;rw [hl];rfl
 · unfold Dk.cells;rw [hl];exact hj
 · rw [hl];exact hr
theorem qXE(F:Hp)(i:Int):Ct prog 8 [I i] [F] (λx:Option (Nat×Hp)=>match x with|none=> .tuple #[.pointer none,I 1]|some y=> .tuple #[Ptr y.1,I 0]) (λx=>match x with|none=>i<4∨1024<i|some y=>(4≤i∧i≤1024)∧Dsk y.2 y.1 (Dk.new i.toNat) none 0) (λx=>match x with|none=> [F]|some y=> [y.2,F]):=by
 refine Ct.walk func8 O ntmps8 O (λw0 hw0=>?_)
 refine J.f λ_ j1=>J.j 2 O<|J.c j1<|J.p λ_ j2=>J.f λ_ j3=>J.b O<|J.g (qAQ O O O) O<|J.b O<|J.b9 (d:=8) O (λh8=>?_) (λh8=>?_)
 ·
  refine J.j 3 O<|J.c j3<|J.c4 ?_
  exact J.f λ_ j4=>J.j 2 O<|J.c j4<|J.A<|J.V<|J.a9 hw0 (λ_ _ h=>h) (qBk O O O) (qAg none O (by show i<4∨1024<i;omega) [0] O xC)
 refine J.b O<|J.G (qA0 O O O) O<|J.b O<|J.c j3<|J.Z O (λh11=>?_) (λh11=>?_)
 ·
  exact J.f λ_ j5=>J.j 2 O<|J.c j5<|J.A<|J.V<|J.a9 hw0 (λ_ _ h=>h) (qBk O O O) (qAg none O (by show i<4∨1024<i;omega) [0] O xC)
 refine J.M j2<|J.p λ_ j6=>?_
 obtain ⟨n,hn⟩:=zt (show 0≤i by omega)
 refine J.H<|J.b O<|J.q (qB6 O (by show some (I i)=_;rw [hn]) qAj el9 xB xB) O λg13 _=>J.g (qAL (places:= [(0,1),(1,1),(2,1),(3,1),(4,1),(5,1)]) (r:= [.slice (some ⟨g13,0,none⟩) n n,.slice none 0 0,.bool false,.bool false,I 0,.slice none 0 0]) O O O qCW zeroValue116 (λ_=>xH) O) O<|J.q (qAd O O O) O ?_
 rintro g15 _
 refine J.b O<|J.c j6<|J.p λ_ j7=>J.f λ_ j8=>J.b O<|J.g (qAB O O) O<|J.W 0 qCW qBt O O O O O<|J.a5 2 qCA O O O O O<|J.g (qAP qAj O O) O<|J.b O<|J.c j8<|J.T<|J.b6 (X:=Nat×Hp) (λx=> [(4,Ptr g15),(20,I n),(21,I x.1)]) (λx=> [F,x.2,blk g15 [.slice (some ⟨g13,0,none⟩) n n,.slice none 0 0,.bool false,.bool false,I 0,.slice none 0 0] 116]) (λx=>x.1≤n∧Row x.2 9 1 (some ⟨g13,0,none⟩) n n (qAH (List.replicate x.1 (List.replicate 64 (0:UInt8))++List.replicate (n-x.1) []))) (λx=>n-x.1) (0,blk g13 (List.replicate n [Str []]).flatten 9) (⟨jF _,by dsimp only;rw [List.replicate_zero,jq,zo,←qNZ];exact qSA⟩) ⟨O,O,O,trivial⟩ (λ_ h=>h) ?_
 rintro⟨k,m⟩ ⟨hk,hr⟩ I0 hI0
 dsimp only at hk hr⊢
 refine J.f λ_ j9=>J.g (qAQ O O O) O<|J.c j9<|J.p λ_ j10=>J.Z O (λh22=>?_) (λh22=>?_)
 ·
  refine J.M j10<|J.p λ_ j11=>J.T<|J.f λ_ j12=>J.j 2 O<|J.c j12<|J.b1 [blk g15 [.slice (some ⟨g13,0,none⟩) n n,.slice none 0 0,.bool false,.bool false,I 0,.slice none 0 0] 116] [7] (.y 0 (.y 1 (.y 2 (.y 3 (.y 4 (.e 5 (.y 6 (.e 7 .nil)))))))) Tryz.wide xF xD ?_
  refine J.L ?_
  refine J.k O (qAB O O) O O<|J.k O (qAA O O qCW O qBt O) O O<|J.k O (qAC 0 O O O qCA O) O O<|J.L ?_
  refine J.a2 O (qAa O O (λF' hF=>qFJ F' 64 xC)) O xD λg29 _=>J.k O (qAF O O O qAj z9_ hr.sl xB) O O<|J.c1 O (qBM (i:=1) (k:=k) (off:=0) (b:= [Str (List.replicate 64 (0:UInt8))]) O (by show some _=some _;rw [qQh]) O O hr (vs:= [Str (List.replicate 64 (0:UInt8))]) O z9_ O xB (qAb (qAh [] (by rw [qU2 _ _ hk];omega))) O (by show _+1≤1;decide)) O O O ?_
  rintro m9 h9
  refine J.b0<|J.a1<|J.u (J.D j11 ?_)
  exact J.H<|J.g ((qAR O O O xB).nat (k+1) xB) O<|J.b O<|J.a4<|J.u<|J.a7 (k+1,m9) (λy (hy:_∧n-y.1<n-k)=>hI0 y hy.1 hy.2) ⟨⟨by dsimp only;omega,by dsimp only;rw [qDb,qU1 _ _ xB] at h9;exact h9⟩,by dsimp only;omega⟩ ⟨O,O,O,trivial⟩ (λ_ h=>h)
 refine J.b4<|J.a0<|J.a0<|J.b5 ?_
 refine J.u (J.D j7 ?_)
 refine J.p λ_ j13=>?_
 have hkn:k=n:=xB
 subst hkn
 rw [zB,List.replicate_zero,jU] at hr
 exact J.H<|J.j 3 O<|J.c j13<|J.A<|J.c5 [0,1,2,3] [F,m,blk g15 [.slice (some ⟨g13,0,none⟩) k k,.slice none 0 0,.bool false,.bool false,I 0,.slice none 0 0] 116,λ_=>none] O xC<|J.a9 hw0 (λ_ _ h=>h) (qBk O O O) (qFI [blk g15 [.slice (some ⟨g13,0,none⟩) k k,.slice none 0 0,.bool false,.bool false,I 0,.slice none 0 0] 116,m,λ_=>none] [F] (some (g15,U [blk g15 [.slice (some ⟨g13,0,none⟩) k k,.slice none 0 0,.bool false,.bool false,I 0,.slice none 0 0] 116,m,λ_=>none])) O (λhj=>⟨xB,by rw [show i.toNat=k by omega];exact qVd k g15 g13 m hr hj⟩) [2,1,3,0] O O xC)
theorem qPx(F:Hp)(n:Nat)(h4:4≤n)(hm:n≤1024):Ct prog 8 [I n] [F] (λx:Nat×Hp=> .tuple #[Ptr x.1,I 0]) (λx=>Dsk x.2 x.1 (Dk.new n) none 0) (λx=>F:: [x.2]):=λw0 w hs=>
 (qXE F n w0 w hs).mono λe w' ⟨x,he,hx,hs'⟩=>by
  cases x with
  |none=>exact absurd hx (by show¬((n:Int)<4∨1024<(n:Int));omega)
  |some y=>exact⟨y,he,by have:=hx.2;rwa [jZ] at this,hs'.pick [1,0] xC⟩
theorem qRX{d:Dk}{i:Int}{s:xA}(h:d.ready i=0)(h1:s.length≤64)(h2: ¬d.burns):d.write i s={d.burn with wait:=d.burn.wait++ [(i.toNat,qQa s)]}∧d.wErr i s=0:=by
 unfold Dk.write Dk.wErr
 rw [if_neg xB,if_neg xB,if_neg h2,if_neg xB,if_neg xB,if_neg h2]
 exact⟨O,O⟩
theorem qPw{n:Nat}{i:Int}(h0:0≤i)(h:i<n):(Dk.new n).ready i=0:=by
 unfold Dk.ready Dk.new
 dsimp only
 rw [if_neg xC,jJ,if_neg xB]
theorem qVc{n j:Nat}(h:j<n):(Dk.new n).now j=qQa []:=by
 unfold Dk.now Dk.new
 dsimp only [List.length_nil]
 rw [qJb,jB,List.getElem?_replicate,if_pos h];rfl
theorem qU3{d:Dk}{i:Int}(h:d.ready i=0):d.read i=d.now i.toNat:=if_pos h
namespace Sha
structure Strm where
 seed:xA
 count:UInt64
 left:xA
def Strm.cells(s:Strm):List Value:= [Str s.seed,W64 s.count,Str s.left]
def Strm.new(seed:xA):Strm:=⟨seed,0,[]⟩
def Strm.Ok(s:Strm):Prop:=s.left= []∨8≤s.left.length
def Strm.fill(s:Strm):Strm:=if s.left= [] then⟨s.seed,s.count+1,sum (s.seed++numB s.count 4)⟩ else s
def val:xA→Nat→UInt64
 |_,0=>0
 |l,k+1=>UInt64.ofNat ((val l k).toNat*2^min 8 64)|||(l.getD k 0).toUInt64
def Strm.num(s:Strm):UInt64:=val s.fill.left 8
def Strm.next(s:Strm):Strm:=⟨s.fill.seed,s.fill.count,s.fill.left.drop 8⟩
def stop(n:UInt64):UInt64:=18446744073709551615-18446744073709551615%n
def draw(e:UInt64):Nat→Strm→Option (UInt64×Strm)
 |0,_=>none
 |f+1,s=>if s.num.toNat<e.toNat then some (s.num,s.next) else draw e f s.next
theorem Strm.fill_len{s:Strm}(h:s.Ok):8≤s.fill.left.length:=by
  unfold Strm.fill
  split
  · dsimp only;rw [sum_length];decide
  · rcases h with h|h
    · contradiction
    · exact h
theorem Strm.fill_seed(s:Strm):s.fill.seed=s.seed:=by unfold Strm.fill;split<;>rfl
def Strm.Ok8(s:Strm):Prop:=s.left.length%8=0
theorem Strm.Ok8.ok{s:Strm}(h:s.Ok8):s.Ok:=by
 unfold Strm.Ok8 at h
 unfold Strm.Ok
 cases hl:s.left with
 |nil=>exact .inl O
 |cons a l=>rw [hl] at h;simp only [jD] at h⊢;right;omega
theorem Strm.Ok8.next{s:Strm}(h:s.Ok8):s.next.Ok8:=by
 unfold Strm.Ok8 Strm.next Strm.fill at*
 dsimp only
 rw [jH]
 split
 · dsimp only;rw [sum_length]
 · omega
theorem Strm.next_seed(s:Strm):s.next.seed=s.seed:=s.fill_seed
theorem qQj{e:UInt64}: ∀{f:Nat} {s:Strm} {k:UInt64} {s':Strm},draw e f s=some (k,s')→s.Ok8→s'.Ok8∧s'.seed=s.seed
  |0,_,_,_,h,_=>by simp [draw] at h
  |f+1,s,k,s',h,ho=>by
    unfold draw at h
    split at h
    · simp only [zG,zb] at h
      obtain ⟨_,rfl⟩:=h
      exact⟨ho.next,s.next_seed⟩
    · have:=qQj h ho.next
      exact⟨this.1,this.2.trans s.next_seed⟩
end Sha
attribute [local irreducible] Sha.val Sha.Strm.fill
theorem qJ1(F:Hp)(seed:xA):
    Ct prog 295 [Str seed] [F] (λg:Nat=>Ptr g) (λ_=>True) (λg=> [F,blk g (Sha.Strm.new seed).cells 420]):=by
  refine Ct.walk func295 O ntmps295 O (λw0 hw0=>?_)
  exact J.f λ_ j1=>J.b O<|J.c j1<|J.f λ_ j2=>J.b O<|J.g (qAL (places:= [(0,1),(1,1),(2,1)]) (r:=(Sha.Strm.new seed).cells) O O O qHF zeroValue420 (λ_=>xH) O) O<|J.q (qAd O O O) O λg5 _=>J.b O<|J.c j2<|J.A<|J.E hw0 O g5 O trivial [0,1] O xC
theorem qVb(F:Hp)(hK:qAG F ⟨3,0,none⟩ (Sha.K.map W32))(g:Nat)(s:Sha.Strm)(ho:s.Ok)(hs:s.seed.length≤1048576):
    Ct prog 307 [Ptr g] [blk g s.cells 420,F] (λ_:Unit=>W64 s.num) (λ_=>True) (λ_=> [blk g s.next.cells 420,F]):=by
  have hfl:=s.fill_len ho
  refine Ct.walk func307 O ntmps307 O (λw0 hw0=>?_)
  refine J.f λ_ j1=>J.b O<|J.c j1<|J.d6 (λ_:Unit=> [(0,Ptr g)]) (λ_=> [blk g s.fill.cells 420,F]) (λ_=>True) (λ_ j2=>?_) ?_
  ·
    refine J.f λ_ j3=>J.b O<|J.g (qAB O O) O<|J.W 2 qHF z9_ O O O O O<|J.a5 0 b9_ O O O O O<|J.g (qBF O O O) O<|J.c j3<|J.Z O (λh9=>?_) (λh9=>?_)
    ·
      refine J.p λ_ j4=>J.b1 [blk g s.cells 420,F] [15] (.y 0 (.y 1 (.y 2 (.y 3 (.y 4 (.y 5 (.y 6 (.y 7 (.y 8 (.e 9 (.y 10 (.e 11 (.e 12 (.y 13 (.y 14 (.e 15 .nil)))))))))))))))) Tryz.wide xF xD ?_
      refine J.L ?_
      refine J.L ?_
      refine J.k O (qAB O O) O O<|J.k O (qAA O O qHF O z9_ O) O O<|J.k O (qAC 0 O O O b9_ O) O O<|J.L ?_
      refine J.k O (qAB O O) O O<|J.k O (qAA O O qHF O qD8 O) O O<|J.k O (qAC 0 O O O qFC O) O O<|J.h3 (λx=> [blk g s.cells 420,F]++ [x.2.2]) O (qBV O O (λF' _=>qEp F' s.count 4 xC)) O O O (λ_ _ h=>jh _ h) xD ?_
      rintro⟨A19,c19,m19⟩ h19
      try dsimp only at h19
      refine J.k O (qBp O O qBm u5_ u9_ (m:=m19) xD h19.sl) O O<|J.a2 O (qAE (l:= [.tmp 14,.tmp 20]) (xs:= [[Str s.seed],[Str (Sha.numB s.count 4)]]) O O O O qAj el9 O xC xC xD) O xD λg21 _=>J.a2 O (qAa O O (λF' hF=>qTn F' (hK.mono (Fa hF)) (some ⟨g21,0,none⟩) 2 2 [s.seed,(Sha.numB s.count 4)] (((qAm (q:=True) (xs:=qAH [s.seed,(Sha.numB s.count 4)]) O (by simp [qAH])).sl (m:=blk g21 [Str s.seed,Str (Sha.numB s.count 4)] 9)).mono (Fa hF)) (by simp [Sha.numB_length];omega) xC)) O xD λg22 _=>J.k O (qAB O O) O O<|J.k O (qAA O O qHF O z9_ O) O O<|J.c1 O (qAV (i:=0) O O O O O z9_ O (by show 2+1≤3;decide)) O O O λ_ _=>J.b0<|J.u (J.D j4 ?_)
      refine J.H<|J.b O<|J.g (qAB O O) O<|J.W 1 qHF qD8 O O O O O<|J.a5 0 qFC O O O O O<|J.g (qMe (b:=1) O O O) O<|J.g (qAB O O) O<|J.W 1 qHF qD8 O O O O O<|J.a8 (qAV (i:=0) O O O O O qD8 O (by show 1+1≤3;decide)) O O λ_ _=>J.a4<|J.u ?_
      have hf:s.fill.cells= [Str s.seed,W64 (s.count+1),Str (Sha.sum [s.seed,(Sha.numB s.count 4)].flatten)]:=by
        unfold Sha.Strm.fill Sha.Strm.cells
        rw [if_pos h9]
        simp
      exact J.a7 () j2 trivial ⟨O,trivial⟩ (λ_ h=>by rw [hf];exact h.pick [0,1] xC)
    refine J.b2<|J.u ?_
    have hf:s.fill=s:=by unfold Sha.Strm.fill;rw [if_neg h9]
    exact J.a7 () j2 trivial ⟨O,trivial⟩ (λ_ h=>by rw [hf];exact h)
  rintro _ _
  refine J.f λ_ j5=>J.b O<|J.c j5<|J.p λ_ j6=>J.f λ_ j7=>J.b O<|J.c j7<|J.T<|J.b6 (λk:Nat=> [(0,Ptr g),(3,W64 (Sha.val s.fill.left k)),(32,I k)]) (λ_=> [blk g s.fill.cells 420,F]) (λk=>k≤8) (λk=>8-k) 0 (jF _) ⟨O,by unfold Sha.val;rfl,O,trivial⟩ (λ_ h=>h) ?_
  intro k hk I0 hI0
  refine J.f λ_ j8=>J.g (qAQ O O O) O<|J.c j8<|J.p λ_ j9=>J.Z O (λh33=>?_) (λh33=>?_)
  ·
    refine J.M j9<|J.p λ_ j10=>J.T<|J.f λ_ j11=>J.j 2 O<|J.c j11 ?_
    have hk8:k<8:=xB
    refine J.H<|J.b O<|J.g (qMX O O O) O<|J.b O<|J.g (qAB O O) O<|J.W 2 qHF z9_ O O O O O<|J.a5 0 b9_ O O O O O<|J.b O<|J.g (qBb u9_ O O O (getB (b:=s.fill.left) (j:=k) xB)) O<|J.g (qFg O O u5_ qEF) O<|J.g (qPl O O O) O<|J.b O<|J.a4<|J.a1<|J.u (J.D j10 ?_)
    exact J.H<|J.g (qAR O O O xB) O<|J.b O<|J.a4<|J.u<|J.a7 (k+1) (λx (hx:x≤8∧8-x<8-k)=>hI0 x hx.1 hx.2) ⟨xB,xB⟩ ⟨O,by rw [Sha.val];rfl,O,trivial⟩ (λ_ h=>h)
  refine J.b4<|J.a0<|J.a0<|J.b5 ?_
  refine J.u (J.D j6 ?_)
  refine J.p λ_ j12=>?_
  have hk8:k=8:=xB
  subst hk8
  exact J.H<|J.j 2 O<|J.g (qAB O O) O<|J.W 2 qHF z9_ O O O O O<|J.a5 0 b9_ O O O O O<|J.g ((qA3 u9_ O O O O ⟨hfl,jK _⟩).as (v':=Str s.next.left) (by rw [jn];rfl)) O<|J.g (qAB O O) O<|J.W 2 qHF z9_ O O O O O<|J.a8 (qAV (i:=0) O O O O O z9_ O (by show 2+1≤3;decide)) O O λ_ _=>J.c j12<|J.f λ_ j13=>J.j 2 O<|J.c j13<|J.A<|J.E hw0 O () O trivial [0,1] (by simp only [Sha.Strm.next,Sha.Strm.cells];rfl) xC
theorem qNb(F:Hp)(hK:qAG F ⟨3,0,none⟩ (Sha.K.map W32))(g:Nat)(s:Sha.Strm)(ho0:s.Ok8)(hs:s.seed.length≤1048576)(n:UInt64)(hn:2≤n.toNat)(fuel:Nat)(k:UInt64)(s':Sha.Strm)(hd:Sha.draw (Sha.stop n) fuel s=some (k,s')):
    Ct prog 296 [Ptr g,W64 n] [blk g s.cells 420,F] (λ_:Unit=>W64 (k%n)) (λ_=>True) (λ_=> [blk g s'.cells 420,F]):=by
  have hn0:n≠0:=λe=>by rw [e] at hn;exact absurd hn xC
  refine Ct.walk func296 O ntmps296 O (λw0 hw0=>?_)
  refine J.f λ_ j1=>J.b O<|J.c j1<|J.p λ_ j2=>J.f λ_ j3=>J.b O<|J.g ((qA2 underlying410 O O O).as (v':= .bool false) O) O<|J.j 2 O<|J.G ((qAQ O O O).no xB) O<|J.b O<|J.c j3<|J.a3 ?_
  refine J.M j2<|J.f λ_ j4=>J.b O<|J.g (qMY (a:=18446744073709551615) O O O hn0) O<|J.g (qMW (a:=18446744073709551615) O O O) O<|J.b O<|J.c j4<|J.T<|J.b6 (X:=Nat×Sha.Strm) (λ_=> [(0,Ptr g),(1,W64 n),(5,W64 (Sha.stop n))]) (λx=> [blk g x.2.cells 420,F]) (λx=>Sha.draw (Sha.stop n) x.1 x.2=some (k,s')∧x.2.Ok8∧x.2.seed=s.seed) (λx=>x.1) (fuel,s) (⟨hd,ho0,O⟩) ⟨O,O,O,trivial⟩ (λ_ h=>h) ?_
  rintro⟨f,st⟩ ⟨hdr,ho,hsd⟩ I0 hI0
  dsimp only at hdr ho hsd⊢
  obtain ⟨f,rfl⟩: ∃f',f=f'+1:=by cases f with
    |zero=>simp [Sha.draw] at hdr
    |succ f=>exact⟨f,O⟩
  unfold Sha.draw at hdr
  refine J.T<|J.f λ_ j5=>J.b O<|J.q (qAK O O ent (qVb F hK g st ho.ok (by rw [hsd];exact hs))) O λg17 _=>J.b O<|J.c j5<|J.f λ_ j6=>J.j 2 O<|J.g (qAQ O O O) O<|J.c j6<|J.Z O (λh20=>?_) (λh20=>?_)
  ·
    refine J.f λ_ j7=>J.j 2 O<|J.g (qMY O O O hn0) O<|J.b O<|J.c j7<|J.A<|J.a6<|J.V<|J.a6 ?_
    rw [if_pos xB] at hdr
    simp only [zG,zb] at hdr
    obtain ⟨hk1,hk2⟩:=hdr
    exact J.E hw0 O () (by rw [←hk1]) trivial [0,1] (by rw [←hk2];rfl) xC
  refine J.b2<|J.a1<|J.u ?_
  rw [if_neg xB] at hdr
  exact J.a7 (f,st.next) (λx (hx:_∧x.1<f+1)=>hI0 x hx.1 hx.2) ⟨⟨hdr,ho.next,st.next_seed.trans hsd⟩,Nat.lt_succ_self f⟩ ⟨O,O,O,trivial⟩ (λ_ h=>h)
theorem qLs(F:Hp)(g:Nat)(s:Sha.Strm)(n:UInt64)(hn:n.toNat<2):
    Ct prog 296 [Ptr g,W64 n] [blk g s.cells 420,F] (λ_:Unit=>W64 0) (λ_=>True) (λ_=> [blk g s.cells 420,F]):=by
  refine Ct.walk func296 O ntmps296 O (λw0 hw0=>?_)
  refine J.f λ_ j1=>J.b O<|J.c j1<|J.p λ_ j2=>J.f λ_ j3=>J.b O<|J.g ((qA2 underlying410 O O O).as (v':= .bool false) O) O<|J.j 2 O<|J.G ((qAQ O O O).yes xB) O<|J.b O<|J.c j3<|J.c4 ?_
  exact J.f λ_ j4=>J.b O<|J.c j4<|J.A<|J.V<|J.E hw0 O () O trivial [0,1] O xC
end Go.Proofs.YtmemgokiolfdoaaGreatDoor