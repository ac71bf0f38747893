/- A part of the proof. -/
import Derived.Test.YtmemgokiolfdoaaGreatDoorTopMfG7
import Derived.Test.YtmemgokiolfdoaaGreatDoorRows
set_option maxRecDepth 100000
set_option maxHeartbeats 1000000
set_option linter.unusedSimpArgs false
set_option linter.unusedVariables false
namespace Go.Proofs.YtmemgokiolfdoaaGreatDoor
open Go Go.Fw Go.Proofs.Tryz
abbrev qBQ:= @isAgg102
abbrev qMk:= @isAgg25
abbrev qSe:= @isAgg28
abbrev b3_:= @isAgg3
abbrev qDJ:= @isAgg302
abbrev qLP:= @isAgg32
abbrev qLO:= @isAgg34
abbrev b4_:= @isAgg4
abbrev qPM:= @isAgg47
abbrev qFi:= @isAgg49
abbrev b5_:= @isAgg5
abbrev qCO:= @isAgg50
abbrev qGG:= @isAgg52
abbrev qPL:= @isAgg73
abbrev qMj:= @isAgg85
abbrev qGo:= @isAgg87
abbrev qJp:= @isAgg89
abbrev b9_:= @isAgg9
abbrev qSd:= @isAgg91
abbrev qAr:= @sizeOf102
abbrev qEW:= @sizeOf106
abbrev qHp:= @sizeOf114
abbrev qHo:= @sizeOf118
abbrev qCi:= @sizeOf124
abbrev qGH:= @sizeOf155
abbrev qDB:= @sizeOf199
abbrev qDs:= @sizeOf242
abbrev qLa:= @sizeOf25
abbrev qSY:= @sizeOf28
abbrev z3_:= @sizeOf3
abbrev qCG:= @sizeOf302
abbrev qEE:= @sizeOf32
abbrev qDq:= @sizeOf34
abbrev qGq:= @sizeOf368
abbrev qGp:= @sizeOf371
abbrev z4_:= @sizeOf4
abbrev qLZ:= @sizeOf47
abbrev qEk:= @sizeOf49
abbrev z5_:= @sizeOf5
abbrev qB5:= @sizeOf50
abbrev qDM:= @sizeOf52
abbrev qJr:= @sizeOf73
abbrev qJu:= @sizeOf85
abbrev qC1:= @sizeOf87
abbrev qE8:= @sizeOf89
abbrev z9_:= @sizeOf9
abbrev qSX:= @sizeOf91
abbrev u0_:= @underlying0
abbrev qC2:= @underlying102
abbrev qDu:= @underlying106
abbrev qB6:= @underlying108
abbrev qIv:= @underlying114
abbrev qCk:= @underlying116
abbrev qDm:= @underlying118
abbrev qJ6:= @underlying120
abbrev qEs:= @underlying124
abbrev qGL:= @underlying126
abbrev qOO:= @underlying127
abbrev qBJ:= @underlying129
abbrev qLr:= @underlying130
abbrev qHt:= @underlying140
abbrev qON:= @underlying144
abbrev qDl:= @underlying146
abbrev qG0:= @underlying148
abbrev qLq:= @underlying155
abbrev qHs:= @underlying177
abbrev qHr:= @underlying191
abbrev qJ5:= @underlying195
abbrev qCY:= @underlying199
abbrev u2_:= @underlying2
abbrev qEr:= @underlying206
abbrev qPm:= @underlying209
abbrev qIu:= @underlying222
abbrev qGz:= @underlying232
abbrev qPl:= @underlying235
abbrev qLp:= @underlying237
abbrev qEq:= @underlying242
abbrev qFl:= @underlying244
abbrev qJ4:= @underlying279
abbrev qYS:= @underlying28
abbrev u3_:= @underlying3
abbrev qJ3:= @underlying302
abbrev qLo:= @underlying314
abbrev qLd:= @underlying32
abbrev qPk:= @underlying336
abbrev qPH:= @underlying34
abbrev qOM:= @underlying340
abbrev qGK:= @underlying357
abbrev qOL:= @underlying368
abbrev qFA:= @underlying371
abbrev qOK:= @underlying378
abbrev u4_:= @underlying4
abbrev qJ2:= @underlying403
abbrev qHq:= @underlying420
abbrev qGy:= @underlying47
abbrev qEp:= @underlying49
abbrev u5_:= @underlying5
abbrev qAm:= @underlying50
abbrev qEH:= @underlying52
abbrev qBy:= @underlying73
abbrev qVu:= @underlying76
abbrev qGJ:= @underlying83
abbrev qB4:= @underlying85
abbrev qEG:= @underlying87
abbrev qJ1:= @underlying89
abbrev u9_:= @underlying9
abbrev qGI:= @underlying93
abbrev e0_:= @zeroValue0
abbrev qEj:= @zeroValue102
abbrev qLA:= @zeroValue148
abbrev e3_:= @zeroValue3
abbrev qZI:= @zeroValue32
abbrev qRo:= @zeroValue34
abbrev qMa:= @zeroValue371
abbrev e4_:= @zeroValue4
abbrev e5_:= @zeroValue5
abbrev qXj:= @zeroValue52
abbrev qO9:= @zeroValue87
abbrev qUc:= @zeroValue89
abbrev e9_:= @zeroValue9
theorem ent{f:FuncId}(h:enB prog f=true:=by kernel_rfl):qC0 prog f:=qC0.ofB h
theorem qAY{env:Env}{ms:List Hp}{o:Oper}{f:FuncId}{xs:Array Operand}{vs:List Value}{tys:Array TypeId}{X:Type}{val:X→Value}{φ:X→Prop}(ho:o.op= .call {callee:= .value (.func f),args:=xs,argTypes:=tys})(hv:evs env xs.toList=some vs)(h: ∀F,(∀m∈ms,Le m F)→Ct prog f vs [F] val φ (λ_=> [F]))(hf:enB prog f=true:=by kernel_rfl):EOp prog env ms o val φ (λ_=>ms):=qAI ho hv (ent hf) (Ct.use0 h)
theorem qBP{env:Env}{ms:List Hp}{o:Oper}{f:FuncId}{xs:Array Operand}{vs:List Value}{tys:Array TypeId}{X:Type}{val:X→Value}{φ:X→Prop}{new:X→List Hp}(ho:o.op= .call {callee:= .value (.func f),args:=xs,argTypes:=tys})(hv:evs env xs.toList=some vs)(h: ∀F,(∀m∈ms,Le m F)→Ct prog f vs [F] val φ (λx=>F::new x))(hf:enB prog f=true:=by kernel_rfl):EOp prog env ms o val φ (λx=>ms++new x):=qAI ho hv (ent hf) (Ct.use h)
theorem Tryz.wide:prog.follows .mixedOrders=true:=by kernel_rfl
theorem el102:qCe prog 102 [.int .u64 0,Str [],Str [],.int .i64 0,Str []] 64:=qCe.of xH O
theorem el3:qCe prog 3 [.int .i64 0] 8:=qCe.of xH O
theorem el5:qCe prog 5 [.int .u8 0] 1:=qCe.of xH O
theorem el9:qCe prog 9 [Str []] 16:=qCe.of xH O
theorem noEsc(v:Value)(w:World):(callFunc 251 #[v]).run prog w= .ok (.value v) w:=by kernel_rfl
theorem qE3:prog.info? 146=some t146:=by kernel_rfl
structure Bld (g off:Nat) (l:List Value) (mr:Hp) (bs:xA) (A:Option Addr) (c:Nat) (p:Option Addr):Prop where
 a0:l[off]?=some (.pointer p)
 self:p=none∨p=some ⟨g,off,none⟩
 a1:l[off+1]?=some (.slice A bs.length c)
 row:qBc False mr 5 1 A bs.length c (qAh bs)
 cap:A=none∨0<c
theorem qJi(F:Hp)(g T off:Nat)(l:List Value)(hl:l[off]?=some (.pointer none))(hT:liesAt prog prog.depth T (l.length/prog.cellsOf T) off 146 1=true):
    Ct prog 194 [.pointer (some ⟨g,off,none⟩)] [blk g l T,F] (λ_:Unit=> .tuple #[]) (λ_=>True) (λ_=> [blk g (qBE l off [.pointer (some ⟨g,off,none⟩)]) T,F]):=by
  have hoff:off<l.length:=(List.getElem?_eq_some_iff.1 hl).1
  refine Ct.walk func194 O ntmps194 O (λw0 hw0=>?_)
  refine J.f λ_ j1=>J.b O<|J.g (qAB O O) O<|J.g (qAA O O qDl O sizeOf144 O) O<|J.g (qAC 0 O O O isAgg144 hl) O<|J.g (qA4 qON O O O) O<|J.c j1<|J.c2 ?_
  exact J.L<|J.j 2 O<|J.g (qL6 O O qON underlying360 qE3 xC (m:=blk g l T) xD (qAg _ _) (by simpa using hoff)) O<|J.k (qWw O O noEsc) O λg10 _=>J.g (qJJ O O underlying360 qON qE3 (m:=blk g l T) xD (qAg _ _) (by simpa using hT)) O<|J.g (qAB O O) O<|J.g (qAA (j:=off) O O qDl O sizeOf144 O) O<|J.a8 (qAa (i:=0) (vs:= [.pointer (some ⟨g,off,none⟩)]) O O O O O sizeOf144 O (by simp only [jD,jF];omega)) O O λ_ _=>J.a5<|J.d3 hw0 (λ_ _ h=>h) (qII O) (qAi () O trivial [0,1] O xC)
theorem qHy(F:Hp)(g T off:Nat)(l:List Value)(hl:l[off]?=some (.pointer (some ⟨g,off,none⟩))):
    Ct prog 194 [.pointer (some ⟨g,off,none⟩)] [blk g l T,F] (λ_:Unit=> .tuple #[]) (λ_=>True) (λ_=> [blk g l T,F]):=by
  refine Ct.walk func194 O ntmps194 O (λw0 hw0=>?_)
  refine J.f λ_ j1=>J.b O<|J.g (qAB O O) O<|J.g (qAA O O qDl O sizeOf144 O) O<|J.g (qAC 0 O O O isAgg144 hl) O<|J.g (qA4 qON O O O) O<|J.c j1<|J.a3 ?_
  refine J.f λ_ j2=>J.b O<|J.g (qAB O O) O<|J.g (qAA O O qDl O sizeOf144 O) O<|J.g (qAC 0 O O O isAgg144 hl) O<|J.b O<|J.g (qOn qON qE3 O O O) O<|J.c j2<|J.a3 ?_
  exact J.b3<|J.d3 hw0 (λ_ _ h=>h) (qII O) (qAi () O trivial [0,1] O xC)
theorem qIE{l:List Value}{k:Nat}{v:Value}(h:l[k]?=some v):qBE l k [v]=l:=by
 obtain ⟨hk,rfl⟩:=List.getElem?_eq_some_iff.1 h
 unfold qBE
 rw [jV,List.singleton_append,jJ,←zD hk,zY]
theorem qDD{l:List Value}{k:Nat}{v:Value}(hk:k<l.length):(qBE l k [v])[k]?=some v:=by
 unfold qBE
 rw [jV,jh xJ]
 simp [jn (Nat.le_of_lt hk)]
theorem qBz{l:List Value}{k j:Nat}{v:Value}(hk:k<l.length)(hj:j≠k):(qBE l k [v])[j]?=l[j]?:=by
  unfold qBE
  rw [jV,List.getElem?_append,List.getElem?_append]
  simp only [jE,jn (Nat.le_of_lt hk),jJ]
  by_cases h1:j<k
  · rw [if_pos h1,zI,if_pos h1]
  · rw [if_neg h1,if_neg xB,jp]
    congr 1;omega
theorem qDC{l:List Value}{k:Nat}{v:Value}(hk:k<l.length):(qBE l k [v]).length=l.length:=by
 unfold qBE
 simp;omega
theorem qEA(F:Hp)(g T off:Nat)(l:List Value)(p:Option Addr)(hl:l[off]?=some (.pointer p))(hp:p=none∨p=some ⟨g,off,none⟩)(hT:liesAt prog prog.depth T (l.length/prog.cellsOf T) off 146 1=true):
    Ct prog 194 [.pointer (some ⟨g,off,none⟩)] [blk g l T,F] (λ_:Unit=> .tuple #[]) (λ_=>True) (λ_=> [blk g (qBE l off [.pointer (some ⟨g,off,none⟩)]) T,F]):=by
  rcases hp with rfl|rfl
  · exact qJi F g T off l hl hT
  · rw [qIE hl];exact qHy F g T off l hl
theorem qXe:qC0 prog 194:=qC0.of func194 O xH
def Upd(off:Nat)(l l':List Value):Prop:=l'.length=l.length∧ ∀j,j≠off→j≠off+1→l'[j]?=l[j]?
theorem Upd.trans{off:Nat}{a b c:List Value}(h:Upd off a b)(h':Upd off b c):Upd off a c:=⟨h'.1.trans h.1,λj h1 h2=>(h'.2 j h1 h2).trans (h.2 j h1 h2)⟩
theorem qJn{g off:Nat}{l:List Value}{mr mr':Hp}{bs bs':xA}{A A':Option Addr}{c c':Nat}{p:Option Addr}(hb:Bld g off l mr bs A c p)(hr:qBc False mr' 5 1 A' bs'.length c' (qAh bs'))(hc:A'=none∨0<c'):
    Bld g off (qBE (qBE l off [.pointer (some ⟨g,off,none⟩)]) (off+1) [.slice A' bs'.length c']) mr' bs' A' c' (some ⟨g,off,none⟩)∧Upd off l (qBE (qBE l off [.pointer (some ⟨g,off,none⟩)]) (off+1) [.slice A' bs'.length c']):=by
  have h1:off+1<l.length:=(List.getElem?_eq_some_iff.1 hb.a1).1
  have h0:off<l.length:=xB
  have hl1:=qDC (v:=Value.pointer (some ⟨g,off,none⟩)) h0
  have h1':off+1<(qBE l off [.pointer (some ⟨g,off,none⟩)]).length:=xB
  refine⟨⟨?_,.inr O,?_,hr,hc⟩,by rw [qDC h1',hl1],λj hj hj'=>?_⟩
  · rw [qBz h1' xB,qDD h0]
  · exact qDD h1'
  · rw [qBz h1' hj',qBz h0 hj]
theorem qWP{m:Hp}{e:TypeId}{A:Option Addr}{n c:Nat}{xs:List (List Value)}(h:qBc False m e 1 A n c xs)(hn:0<n):A=none∨0<c:= .inr (zb hn h.2.2.1)
theorem qJy(F mr:Hp)(g T off:Nat)(l:List Value)(bs:xA)(A:Option Addr)(c:Nat)(p:Option Addr)(hb:Bld g off l mr bs A c p)(hT:liesAt prog prog.depth T (l.length/prog.cellsOf T) off 146 1=true)(b:UInt8)(hlen:bs.length<70368744177664):
    Ct prog 208 [.pointer (some ⟨g,off,none⟩),B8 b] [blk g l T,mr,F] (λ_:List Value×Hp=> .nilIface) (λx=> ∃A c,Bld g off x.1 x.2 (bs++ [b]) A c (some ⟨g,off,none⟩)∧Upd off l x.1) (λx=> [blk g x.1 T,x.2,F]):=by
  have hoff:off+1<l.length:=(List.getElem?_eq_some_iff.1 hb.a1).1
  have hoff0:off<l.length:=xB
  refine Ct.walk func208 O ntmps208 O (λw0 hw0=>?_)
  refine J.f λ_ j1=>J.b O<|J.c j1<|J.f λ_ j2=>J.b O<|J.k (qAI O O qXe (Ct.useA [blk g l T] [mr,F] (A':=λ_:Unit=> [blk g (qBE l off [.pointer (some ⟨g,off,none⟩)]) T]) (new:=λ_=> []) (λF' _=>qEA F' g T off l p hb.a0 hb.self hT))) O λg6 _=>J.c j2<|J.f λ_ j3=>J.j 2 O<|J.g (qAB O O) O<|J.g (qAA (j:=off+1) O O qDl O qJr O) O<|J.g (qAC 0 O O O qPL ((qBz hoff0 xB).trans hb.a1)) O<|J.b O<|J.k (qAF (l:= [.tmp 12]) (xs:= [[B8 b]]) O O O O qBy el5 O xC xC xD) O λg13 _=>J.k (qAc (i:=1) (m2:=blk g13 [B8 b] 5) O O O qBy qBy el5 O hb.row xD (qAp (q:=True) (xs:= [[B8 b]]) O xD).sl O xB xB) O ?_
  rintro⟨A14,c14,m14⟩ h14
  try dsimp only at h14
  have hbp:=qJn (bs':=bs++ [b]) (A':=A14) (c':=c14) (mr':=m14) hb (by simpa [qAh] using h14) (qWP h14 xB)
  simp only [jA,jJ] at hbp
  exact J.g (qAB O O) O<|J.g (qAA O O qDl O qJr O) O<|J.a8 (qAa (i:=0) O O O O O qJr O (by rw [qDC hoff0];exact hoff)) O O λ_ _=>J.c j3<|J.f λ_ j4=>J.b O<|J.c j4<|J.A<|J.E hw0 O (_,m14) O ⟨A14,c14,hbp⟩ [0,1,2] O xC
theorem qBU(F mr:Hp)(g T off:Nat)(l:List Value)(bs:xA)(A:Option Addr)(c:Nat)(p:Option Addr)(hb:Bld g off l mr bs A c p)(hT:liesAt prog prog.depth T (l.length/prog.cellsOf T) off 146 1=true)(s:xA)(hlen:bs.length+s.length<70368744177664):
    Ct prog 111 [.pointer (some ⟨g,off,none⟩),Str s] [blk g l T,mr,F] (λ_:List Value×Hp=> .tuple #[I s.length,.nilIface]) (λx=> ∃A c,Bld g off x.1 x.2 (bs++s) A c (some ⟨g,off,none⟩)∧Upd off l x.1) (λx=> [blk g x.1 T,x.2,F]):=by
  have hoff:off+1<l.length:=(List.getElem?_eq_some_iff.1 hb.a1).1
  have hoff0:off<l.length:=xB
  refine Ct.walk func111 O ntmps111 O (λw0 hw0=>?_)
  refine J.f λ_ j1=>J.j 2 O<|J.c j1<|J.f λ_ j2=>J.b O<|J.k (qAI O O qXe (Ct.useA [blk g l T] [mr,F] (A':=λ_:Unit=> [blk g (qBE l off [.pointer (some ⟨g,off,none⟩)]) T]) (new:=λ_=> []) (λF' _=>qEA F' g T off l p hb.a0 hb.self hT))) O λg7 _=>J.c j2<|J.f λ_ j3=>J.j 2 O<|J.g (qAB O O) O<|J.g (qAA (j:=off+1) O O qDl O qJr O) O<|J.g (qAC 0 O O O qPL ((qBz hoff0 xB).trans hb.a1)) O<|J.b O<|J.k (qOp (i:=1) O O O qBy u9_ el5 O hb.row xB xB) O ?_
  rintro⟨A14,c14,m14⟩ h14
  try dsimp only at h14
  obtain ⟨h14,hcap⟩:=h14
  have hbp:=qJn (bs':=bs++s) (A':=A14) (c':=c14) (mr':=m14) hb (by simpa [qAh] using h14) (hcap hb.cap)
  simp only [jA] at hbp
  exact J.g (qAB O O) O<|J.g (qAA O O qDl O qJr O) O<|J.a8 (qAa (i:=0) O O O O O qJr O (by rw [qDC hoff0];exact hoff)) O O λ_ _=>J.c j3<|J.f λ_ j4=>J.b O<|J.g (qAv u9_ O O) O<|J.j 2 O<|J.c j4<|J.A<|J.a9 hw0 (λ_ _ h=>h) (qBs O O O) (qAi (_,m14) O ⟨A14,c14,hbp⟩ [0,1,2] O xC)
theorem qEV(F mr:Hp)(g T off:Nat)(l:List Value)(bs:xA)(A:Option Addr)(c:Nat)(p:Option Addr)(hb:Bld g off l mr bs A c p)(hlen:bs.length<70368744177664):
    Ct prog 113 [.pointer (some ⟨g,off,none⟩)] [blk g l T,mr,F] (λ_:Hp=>Str bs) (λm=>Bld g off l m bs A c p) (λm=> [blk g l T,m,F]):=by
  refine Ct.walk func113 O ntmps113 O (λw0 hw0=>?_)
  refine J.f λ_ j1=>J.b O<|J.c j1<|J.q λ_ j2=>J.b2 [blk g l T,F] [] (.y 0 (.y 1 (.y 2 (.y 3 (.y 4 (.y 5 (.y 6 (.y 7 (.y 8 (.y 9 (.e 10 (.y 11 .nil)))))))))))) Tryz.wide xF xD ?_
  refine J.G ?_
  refine J.p O (qAB O O) O O<|J.p O (qAA O O qDl O qJr O) O O<|J.p O (qAC 0 O O O qPL hb.a1) O O<|J.p O (qKZ O O hb.cap) O O<|J.G ?_
  refine J.p O (qAB O O) O O<|J.p O (qAA O O qDl O qJr O) O O<|J.p O (qAC 0 O O O qPL hb.a1) O O<|J.p O (qAQ qBy O O) O O<|J.a1 O (qHM (i:=1) O O O underlying307 O O hb.row xB) O xD ?_
  rintro m13 h13
  refine J.b7 ?_
  refine J.b1<|J.u (J.D j2 ?_)
  exact J.A<|J.E hw0 O m13 O ⟨hb.a0,hb.self,hb.a1,h13,hb.cap⟩ [0,1,2] O xC
theorem mnz(v:Value)(w:World):(callFunc 252 #[v]).run prog w=(do let x←Extern.BytealgMakeNoZero.makeNoZero #[3] #[73] #[v];pure (.value x):Sem Next).run prog w:=by kernel_rfl
theorem qUp(F:Hp)(g T off:Nat)(l:List Value)(hl:l[off+1]?=some (.slice none 0 0))(n:Nat)(hn:n≤70368744177664):
    Ct prog 195 [.pointer (some ⟨g,off,none⟩),I n] [blk g l T,F] (λ_:Nat×Nat×List Value=> .tuple #[]) (λx=>n≤x.2.1∧x.2.2.length=x.2.1) (λx=> [blk g (qBE l (off+1) [.slice (some ⟨x.1,0,none⟩) 0 x.2.1]) T,F,blk x.1 x.2.2 5]):=by
  have hoff:off+1<l.length:=(List.getElem?_eq_some_iff.1 hl).1
  refine Ct.walk func195 O ntmps195 O (λw0 hw0=>?_)
  refine J.q λ_ j1=>J.b2 [blk g l T,F] [] (.y 0 (.y 1 (.y 2 (.y 3 (.y 4 (.y 5 (.y 6 (.y 7 (.y 9 (.y 10 (.y 11 (.y 12 (.y 13 (.e 8 (.y 14 (.y 15 .nil)))))))))))))))) Tryz.wide xF xD ?_
  refine J.G ?_
  refine J.p O (qAB O O) O O<|J.p O (qAA O O qDl O qJr O) O O<|J.p O (qAC 0 O O O qPL hl) O O<|J.p O (qVL qBy O O) O O<|J.p O (qDj O O O xB) O O<|J.G ?_
  refine J.p O ((qAR O O O xB).as (v':=I n) xD) O O<|J.G ?_
  refine J.p O (qAB O O) O O<|J.p O (qAA O O qDl O qJr O) O O<|J.p O (qAC 0 O O O qPL hl) O O<|J.p O (qAQ qBy O O) O O<|J.a1 O (qYm O O mnz qBy xB) O xD ?_
  rintro⟨g13,c13,l13⟩ h13
  try dsimp only at h13
  refine J.p O (qCf O O qBy z5_ O xB) O O<|J.b7 ?_
  refine J.b1<|J.u (J.D j1 ?_)
  exact J.f λ_ j2=>J.j 2 O<|J.g (qAB O O) O<|J.g (qAA O O qDl O qJr O) O<|J.g (qAC 0 O O O qPL hl) O<|J.k (qTm O O O qBy el5) O λg25 _=>J.c j2<|J.L<|J.j 2 O<|J.g (qAB O O) O<|J.g (qAA O O qDl O qJr O) O<|J.a8 (qAa (i:=0) O O O O O qJr O (by exact hoff)) O O λ_ _=>J.a5<|J.d3 hw0 (λ_ _ h=>h) (qII O) (qAi (g13,c13,l13) O h13 [0,1,2] O xC)
theorem qN9(F:Hp)(g T off:Nat)(l:List Value)(p:Option Addr)(hb:Bld g off l (λ_=>none) [] none 0 p)(hT:liesAt prog prog.depth T (l.length/prog.cellsOf T) off 146 1=true)(n:Nat)(hn:n≤70368744177664):
    Ct prog 110 [.pointer (some ⟨g,off,none⟩),I n] [blk g l T,λ_=>none,F] (λ_:List Value×Hp=> .tuple #[]) (λx=> ∃A c,Bld g off x.1 x.2 ([]) A c (some ⟨g,off,none⟩)∧Upd off l x.1) (λx=> [blk g x.1 T,x.2,F]):=by
  have hoff:off+1<l.length:=(List.getElem?_eq_some_iff.1 hb.a1).1
  have hoff0:off<l.length:=xB
  refine Ct.walk func110 O ntmps110 O (λw0 hw0=>?_)
  refine J.f λ_ j1=>J.b O<|J.k (qAI O O qXe (Ct.useA [blk g l T] [(λ_=>none),F] (A':=λ_:Unit=> [blk g (qBE l off [.pointer (some ⟨g,off,none⟩)]) T]) (new:=λ_=> []) (λF' _=>qEA F' g T off l p hb.a0 hb.self hT))) O λg5 _=>J.c j1<|J.q λ_ j2=>J.f λ_ j3=>J.b O<|J.g (qAS O O O) O<|J.c j3<|J.e3 O (xD) ?_
  refine J.M j2<|J.q λ_ j4=>J.b2 [blk g (qBE l off [.pointer (some ⟨g,off,none⟩)]) T,(λ_=>none),F] [] (.y 0 (.y 1 (.y 2 (.y 3 (.y 4 (.y 5 (.y 6 (.y 7 (.y 8 (.y 9 (.y 10 (.y 11 (.y 12 .nil))))))))))))) Tryz.wide xF xD ?_
  refine J.G ?_
  refine J.p O (qAB O O) O O<|J.p O (qAA (j:=off+1) O O qDl O qJr O) O O<|J.p O (qAC 0 O O O qPL ((qBz hoff0 xB).trans hb.a1)) O O<|J.p O (qVL qBy O O) O O<|J.G ?_
  refine J.p O (qAB O O) O O<|J.p O (qAA (j:=off+1) O O qDl O qJr O) O O<|J.p O (qAC 0 O O O qPL ((qBz hoff0 xB).trans hb.a1)) O O<|J.p O (qAQ qBy O O) O O<|J.p O (qA8 (a:=0) (b:=0) O O O xB) O O<|J.G ?_
  refine J.p O (qAS O O O) O O<|J.b1<|J.u (J.D j4 ?_)
  refine J.Z O (λh21=>?_) (λh21=>?_)
  ·
    refine J.L<|J.j 2 O<|J.k (qAI O O ent (Ct.useA [blk g (qBE l off [.pointer (some ⟨g,off,none⟩)]) T] [λ_=>none,F] (A':=λx:Nat×Nat×List Value=> [blk g (qBE (qBE l off [.pointer (some ⟨g,off,none⟩)]) (off+1) [.slice (some ⟨x.1,0,none⟩) 0 x.2.1]) T]) (new:=λx=> [blk x.1 x.2.2 5]) (λF' _=>qUp F' g T off (qBE l off [.pointer (some ⟨g,off,none⟩)]) ((qBz hoff0 xB).trans hb.a1) n hn))) O ?_
    rintro⟨g24,c24,l24⟩ h24
    try dsimp only at h24
    refine J.a5 ?_
    have hbp:=qJn (bs':= []) (A':=some ⟨g24,0,none⟩) (c':=c24) (mr':=blk g24 l24 5) hb (qG9 (xs:= []) (rest:=l24) (lo:=0) (hi:=0) O O xD (by simpa using h24.2) (jG _) (.inl O)) (.inr xB)
    simp only [jF] at hbp
    exact J.d3 hw0 (λ_ _ h=>h) (qII O) (qAi (_,blk g24 l24 5) O ⟨some ⟨g24,0,none⟩,c24,hbp⟩ [0,3,2] O xC)
  refine J.b3 ?_
  have hbp:=qJn (bs':= []) (A':=none) (c':=0) (mr':=λ_=>none) hb qBc.nil (.inl O)
  have e1:=qIE ((qBz (v:= .pointer (some ⟨g,off,none⟩)) hoff0 xB).trans hb.a1)
  simp only [jF] at e1 hbp
  rw [e1] at hbp
  exact J.d3 hw0 (λ_ _ h=>h) (qII O) (qAi (_,λ_=>none) O ⟨none,0,hbp⟩ [0,1,2] O xC)
def qCn(sep:xA):List xA→xA
 | []=> []
 |a::r=>a++(r.map λx=>sep++x).flatten
theorem qKv: ∀ls,qCn [] ls=ls.flatten
 | []=>rfl
 |a::r=>by simp [qCn]
def qDw(ls:List xA):Nat:=(ls.map List.length).sum
theorem qG2(ls:List xA)(k:Nat){s:xA}(h:ls[k]?=some s):qDw (ls.take (k+1))=qDw (ls.take k)+s.length:=by
 obtain ⟨hk,rfl⟩:=List.getElem?_eq_some_iff.1 h
 unfold qDw
 rw [jL hk,jN,List.sum_append];rfl
theorem qFC(ls:List xA)(k:Nat):qDw (ls.take k)≤qDw ls:=by
 unfold qDw
 conv=>rhs;rw [←zY k ls,jN,List.sum_append]
 omega
theorem qD9(sep:xA): ∀(ls:List xA),(qCn sep ls).length=qDw ls+sep.length*(ls.length-1)
 | []=>by simp [qCn,qDw]
 |a::r=>by
  have h: ∀r:List xA,(r.map λx=>sep++x).flatten.length=(r.map List.length).sum+sep.length*r.length:=by
   intro r
   induction r with
   |nil=>rfl
   |cons x r ih=>
    simp only [ja,jb,jA,List.sum_cons,jD,Nat.mul_add,ih]
    omega
  simp [qCn,qDw,h];omega
theorem qIY(sep:xA)(ls:List xA)(k:Nat){s:xA}(h:ls[k+1]?=some s):qCn sep (ls.take (k+2))=qCn sep (ls.take (k+1))++sep++s:=by
 cases ls with
 |nil=>simp at h
 |cons a r=>
  simp only [List.getElem?_cons_succ] at h
  obtain ⟨hk,rfl⟩:=List.getElem?_eq_some_iff.1 h
  simp only [List.take_succ_cons,qCn]
  rw [jL hk,jN,zK]
  simp only [ja,zT,jb,jt,jP,jV]
theorem qIZ(sep:xA)(ls:List xA)(k:Nat):(qCn sep (ls.take (k+1))).length≤(qCn sep ls).length:=by
 rw [qD9,qD9]
 have h1:=qFC ls (k+1)
 have h2:(ls.take (k+1)).length≤ls.length:=by simp;omega
 have h3:sep.length*((ls.take (k+1)).length-1)≤sep.length*(ls.length-1):=Nat.mul_le_mul_left _ xB
 omega
theorem qML:liesAt prog prog.depth 146 (2/prog.cellsOf 146) 0 146 1=true:=by kernel_rfl
theorem qWJ(a b M:Int)(hb:0<b)(h:a*b+b≤M):a+1≤M/b:=by
 rw [Int.le_ediv_iff_mul_le hb,Int.add_mul];omega
theorem qUL(F:Hp)(A:Option Addr)(n c:Nat)(sep:xA)(hl:Sl F 1 A n c (qAH [])):
    Cz prog 248 [.slice A n c,Str sep] F (Str (qCn sep [])):=by
  have hn:n=0:=hl.1.symm
  subst hn
  refine Ct.walk func248 O ntmps248 O (λw0 hw0=>?_)
  refine J.f λ_ j1=>J.b O<|J.c j1<|J.q λ_ j2=>J.f λ_ j3=>J.b O<|J.g (qAQ qAm O O) O<|J.c j3<|J.T<|J.f λ_ j4=>J.g (qAU O O O) O<|J.b O<|J.c j4<|J.c2 ?_
  exact J.f λ_ j5=>J.b O<|J.c j5<|J.A<|J.a7<|J.W<|J.E hw0 O () O trivial [0] O xC
theorem qUK(F:Hp)(A:Option Addr)(n c:Nat)(s:xA)(sep:xA)(hl:Sl F 1 A n c (qAH [s])):
    Cz prog 248 [.slice A n c,Str sep] F (Str (qCn sep [s])):=by
  have hn:n=1:=hl.1.symm
  subst hn
  refine Ct.walk func248 O ntmps248 O (λw0 hw0=>?_)
  refine J.f λ_ j1=>J.b O<|J.c j1<|J.q λ_ j2=>J.f λ_ j3=>J.b O<|J.g (qAQ qAm O O) O<|J.c j3<|J.T<|J.f λ_ j4=>J.g (qAU O O O) O<|J.b O<|J.c j4<|J.e3 O (O) ?_
  refine J.f λ_ j5=>J.g (qAU O O O) O<|J.b O<|J.c j5<|J.g4 O (O) ?_
  exact J.f λ_ j6=>J.b O<|J.g (qAE O O O qAm z9_ hl xC) O<|J.g (qAL O O b9_ xD (hl.elem (qAe (k:=0) O))) O<|J.b O<|J.c j6<|J.A<|J.a7<|J.W<|J.E hw0 O () (by simp [qCn]) trivial [0] O xC
theorem qRT(F:Hp)(A:Option Addr)(n c:Nat)(ls:List xA)(sep:xA)(hl:Sl F 1 A n c (qAH ls))(h2:2≤n)(htot:(qCn sep ls).length≤35184372088832)(hn47:n≤70368744177664):
    Cz prog 248 [.slice A n c,Str sep] F (Str (qCn sep ls)):=by
  have hlen:ls.length=n:=by have:=hl.1;simpa [qAH] using this
  have hjl:=qD9 sep ls
  rw [hlen] at hjl
  have hq:(sep.length:Int)*((n:Int)-1)=((sep.length*(n-1):Nat):Int):=by rw [yJ];congr 1;omega
  have hB0: ¬0<(sep.length:Int)→sep.length*(n-1)=0:=λh=>by rw [show sep.length=0 by omega,Nat.zero_mul]
  have hsm:sep.length≤35184372088832:=by
    have:sep.length*1≤sep.length*(n-1):=Nat.mul_le_mul_left _ xB
    omega
  have hdiv:(sep.length:Int)+1≤9223372036854775807/((n:Int)-1):=qWJ _ _ _ xB (by rw [hq];omega)
  have hnc:=hl.2.1
  obtain ⟨B,hB⟩: ∃B,sep.length*(n-1)=B:=⟨_,rfl⟩
  rw [hB] at hjl hq hB0
  generalize hD:(9223372036854775807:Int)/((n:Int)-1)=D at hdiv
  have H2:(0:Int)≤9223372036854775807∧0<(n:Int)-1∧(9223372036854775807:Int)≤9223372036854775807:=xB
  refine Ct.walk func248 O ntmps248 O (λw0 hw0=>?_)
  refine J.f λ_ j1=>J.b O<|J.c j1<|J.q λ_ j2=>J.f λ_ j3=>J.b O<|J.g (qAQ qAm O O) O<|J.c j3<|J.T<|J.f λ_ j4=>J.g (qAU O O O) O<|J.b O<|J.c j4<|J.e3 O (xJ) ?_
  refine J.f λ_ j5=>J.g (qAU O O O) O<|J.b O<|J.c j5<|J.e3 O (xJ) ?_
  refine J.b3<|J.a4<|J.u (J.D j2 ?_)
  refine J.f λ_ j6=>J.b O<|J.c j6<|J.e0 (λ_:Unit=> [(0,.slice A n c),(1,Str sep),(5,I (B:Int))]) (λ_=> [F]) (λ_=>True) (λ_ j7=>?_) ?_
  ·
    refine J.f λ_ j8=>J.b O<|J.g (qAv u9_ O O) O<|J.g (qA7 O O O) O<|J.c j8<|J.Z O (λh22=>?_) (λh22=>?_)
    ·
      refine J.q λ_ j9=>J.f λ_ j10=>J.b O<|J.g (qAv u9_ O O) O<|J.b O<|J.g (qAQ qAm O O) O<|J.g (qA8 O O O xB) O<|J.g ((qIM O O O H2).as (congrArg I hD)) O<|J.g (qBI O O O) O<|J.c j10<|J.e3 O (xJ) ?_
      exact J.M j9<|J.L<|J.j 2 O<|J.g (qAv u9_ O O) O<|J.b O<|J.g (qAQ qAm O O) O<|J.g (qA8 O O O xB) O<|J.g ((qDj O O O (by rw [hq];omega)).as (v':=I (B:Int)) (by rw [hq])) O<|J.g ((qAR O O O xB).as (v':=I (B:Int)) xD) O<|J.b O<|J.a5<|J.u<|J.b0 () j7 trivial ⟨O,O,O,trivial⟩ (λ_ h=>h)
    exact J.b3<|J.u<|J.b0 () j7 trivial ⟨O,O,by rw [hB0 h22];rfl,trivial⟩ (λ_ h=>h)
  rintro _ _
  refine J.q λ_ j11=>J.f λ_ j12=>J.b O<|J.g (qAQ qAm O O) O<|J.b O<|J.c j12<|J.T<|J.b8 (λk:Nat=> [(0,.slice A n c),(1,Str sep),(5,I (B+qDw (ls.take k):Nat)),(39,.slice A n c),(40,I n),(41,I k)]) (λ_=> [F]) (λk=>k≤n) (λk=>n-k) 0 (jG _) ⟨O,O,O,O,O,O,trivial⟩ (λ_ h=>h) ?_
  intro k hk I1 hI1
  refine J.f λ_ j13=>J.g (qAS O O O) O<|J.c j13<|J.q λ_ j14=>J.Z O (λh42=>?_) (λh42=>?_)
  ·
    refine J.M j14<|J.q λ_ j15=>J.T<|J.q λ_ j16=>?_
    have hkn:k<n:=xB
    obtain ⟨s,hs⟩: ∃s,ls[k]?=some s:=⟨_,jC xB⟩
    have hst:=qG2 ls k hs
    have hst2:=qFC ls (k+1)
    refine J.L<|J.g (qAE O O O qAm z9_ hl hkn) O<|J.g (qAL O O b9_ xD (hl.elem (qAe hs))) O<|J.b O<|J.c j16<|J.q λ_ j17=>J.f λ_ j18=>J.b O<|J.g (qAv u9_ O O) O<|J.b O<|J.g (qA8 O O O xB) O<|J.g (qA7 O O O) O<|J.c j18<|J.e3 O (xJ) ?_
    refine J.M j17<|J.L<|J.j 2 O<|J.g (qAv u9_ O O) O<|J.g (qAR O O O xB) O<|J.b O<|J.a5<|J.a4<|J.u (J.D j15 ?_)
    exact J.L<|J.g (qAR O O O xB) O<|J.b O<|J.a5<|J.u<|J.b0 (k+1) (λx (hx:x≤n∧n-x<n-k)=>hI1 x hx.1 hx.2) ⟨xB,xB⟩ ⟨O,O,by rw [hst];exact congrArg (λz=>some (I z)) xB,O,O,O,trivial⟩ (λ_ h=>h)
  refine J.b5<|J.a0<|J.a0<|J.b6 ?_
  refine J.u (J.D j11 ?_)
  refine J.f λ_ j19=>J.k (qAJ O zeroValue146 O) O λg8 _=>J.c7 [1,2,0] [blk g8 [.pointer none,.slice none 0 0] 146,λ_=>none,F] O xC<|J.c j19<|J.q λ_ j20=>?_
  have hst3:=qFC ls k
  refine J.L<|J.b O<|J.k (qAI O O ent (qN9 F g8 146 0 [.pointer none,.slice none 0 0] none ⟨O,.inl O,O,qBc.nil,.inl O⟩ qML _ xB)) O ?_
  rintro⟨l57,m57⟩ ⟨A57,c57,hb57,hu57⟩
  dsimp only at hb57 hu57
  obtain ⟨s0,hs0⟩: ∃s0,ls[0]?=some s0:=⟨_,jC xB⟩
  have hs0l:s0.length≤qDw ls:=by have h1:=qG2 ls 0 hs0;have h2:=qFC ls 1;simp only [jj] at h1;omega
  refine J.c j20<|J.f λ_ j21=>J.b O<|J.g (qAE (i:=0) O O O qAm z9_ hl xB) O<|J.g (qAL O O b9_ xD (hl.elem (qAe hs0))) O<|J.k (qAI O O ent (qBU F m57 g8 146 0 l57 [] A57 c57 _ hb57 (by rw [hu57.1];exact qML) s0 xJ)) O ?_
  rintro⟨l61,m61⟩ ⟨A61,c61,hb61,hu61⟩
  dsimp only at hb61 hu61
  have hb61:Bld g8 0 l61 m61 (qCn sep (ls.take 1)) A61 c61 (some ⟨g8,0,none⟩):=by
    have e:qCn sep (ls.take 1)= []++s0:=by cases ls with
      |nil=>simp at hs0
      |cons a r=>simp at hs0;subst hs0;simp [qCn]
    rw [e];exact hb61
  refine J.c j21<|J.q λ_ j22=>J.f λ_ j23=>J.b O<|J.g (qCu (l:=1) (h:=n) O O qAm z9_ O O xB) O<|J.g (qAQ qAm O O) O<|J.b O<|J.c j23<|J.T<|J.b8 (X:=Nat×List Value×Hp×Option Addr×Nat) (λx=> [(1,Str sep),(8,Ptr g8),(63,_),(64,I (n-1:Nat)),(65,I x.1)]) (λx=> [blk g8 x.2.1 146,x.2.2.1,F]) (λx=>x.1≤n-1∧x.2.1.length=2∧Bld g8 0 x.2.1 x.2.2.1 (qCn sep (ls.take (x.1+1))) x.2.2.2.1 x.2.2.2.2 (some ⟨g8,0,none⟩)) (λx=>n-1-x.1) (0,l61,m61,A61,c61) (⟨jG _,by rw [hu61.1,hu57.1];rfl,hb61⟩) ⟨O,O,O,O,O,trivial⟩ (λ_ h=>h) ?_
  rintro⟨k,l,m,A1,c1⟩ ⟨hk,hll,hb⟩ I3 hI3
  dsimp only at hk hll hb⊢
  have hl2:=hl.cut (lo:=1) (hi:=n) (mx:=c) xB (jK _) hl.2.1
  refine J.f λ_ j24=>J.g (qAS O O O) O<|J.c j24<|J.q λ_ j25=>J.Z O (λh66=>?_) (λh66=>?_)
  ·
    refine J.M j25<|J.q λ_ j26=>J.T<|J.q λ_ j27=>?_
    have hkn:k+1<n:=xB
    obtain ⟨s,hs⟩: ∃s,ls[k+1]?=some s:=⟨_,jC xB⟩
    have hs2:((((qAH ls).take n).drop 1))[k]?=some [Str s]:=by rw [jp,zI,Nat.add_comm 1 k,if_pos hkn];exact qAe hs
    have hj1:=qIZ sep ls (k+1)
    rw [qIY sep ls k hs] at hj1
    simp only [jA] at hj1
    refine J.L<|J.g (qAE O O O qAm z9_ hl2 xB) O<|J.g (qAL O O b9_ xD (hl2.elem hs2)) O<|J.b O<|J.c j27<|J.f λ_ j28=>J.b O<|J.k (qAI O O ent (qBU F m g8 146 0 l _ A1 c1 _ hb (by rw [hll];exact qML) sep xB)) O ?_
    rintro⟨l70,m70⟩ ⟨A70,c70,hb70,hu70⟩
    dsimp only at hb70 hu70
    refine J.c j28<|J.L<|J.b O<|J.k (qAI O O ent (qBU F m70 g8 146 0 l70 _ A70 c70 _ hb70 (by rw [hu70.1,hll];exact qML) s xJ)) O ?_
    rintro⟨l72,m72⟩ ⟨A72,c72,hb72,hu72⟩
    dsimp only at hb72 hu72
    rw [←qIY sep ls k hs] at hb72
    refine J.a5<|J.a4<|J.u (J.D j26 ?_)
    refine J.L<|J.g (qAR O O O xB) O<|J.b O<|J.a5<|J.u<|J.b0 (k+1,l72,m72,A72,c72) (λx (hx:_∧n-1-x.1<n-1-k)=>hI3 x hx.1 hx.2) ⟨⟨by dsimp only;omega,by rw [hu72.1,hu70.1];exact hll,hb72⟩,by dsimp only;omega⟩ ⟨O,O,O,O,O,trivial⟩ (λ_ h=>h)
  refine J.b5<|J.a0<|J.a0<|J.b6 ?_
  refine J.u (J.D j22 ?_)
  refine J.q λ_ j29=>?_
  have hend:qCn sep (ls.take (k+1))=qCn sep ls:=by rw [jY xB]
  have hj1:=qIZ sep ls k
  refine J.L<|J.k (qAI O O ent (qEV F m g8 146 0 l _ A1 c1 _ hb xB)) O ?_
  rintro m74 h74
  exact J.b O<|J.c j29<|J.A<|J.E hw0 O () (by rw [hend]) trivial [2] O xC
theorem qXV(F:Hp)(A:Option Addr)(n c:Nat)(ls:List xA)(sep:xA)(hl:Sl F 1 A n c (qAH ls))(htot:(qCn sep ls).length≤35184372088832)(hn47:n≤70368744177664):
    Cz prog 248 [.slice A n c,Str sep] F (Str (qCn sep ls)):=by
  have hlen:ls.length=n:=by have:=hl.1;simpa [qAH] using this
  match ls,hl,htot,hlen with
  | [],hl,_,_=>exact qUL F A n c sep hl
  | [s],hl,_,_=>exact qUK F A n c s sep hl
  |a::b::r,hl,htot,hlen=>exact qRT F A n c _ sep hl (by simp at hlen;omega) htot hn47
def small(r:Nat):Nat:=if 65≤r∧r≤90∨913≤r∧r≤937∧r≠930∨1040≤r∧r≤1071 then r+32 else r
def qKr(r:Nat):Nat:=if 97≤small r∧small r≤122 then 1 else if 945≤small r∧small r≤969 then 2 else if 1072≤small r∧small r≤1103 then 4 else 0
def qIF(r:Nat):Bool:=decide (r=46∨r=45∨r=95∨r=64)
def qP5(c:UInt8):Bool:=qIF c.toNat
def qJt(l:List Nat)(b:Nat):Nat:=l.foldl (λb r=>b|||qKr r) b
def good(b:Nat):Bool:=decide (b=0∨b=1∨b=2∨b=4)
theorem qTG(r:Nat):small r≤r+32:=by unfold small;split<;>omega
theorem qTU{r:Nat}(h:Rn r):Rn (small r):=by
 obtain ⟨h1,h2⟩:=h
 unfold small Rn
 split<;>omega
theorem qMM(r:Nat):qKr r<8:=by
 unfold qKr;repeat' split
 all_goals omega
theorem qSN: ∀(l:List Nat) (b:Nat),b<8→qJt l b<8
 | [],_,h=>h
 |r::l,b,h=>qSN l (b|||qKr r) (Nat.or_lt_two_pow (n:=3) h (qMM r))
theorem qUy(l m:List Nat)(b:Nat):qJt (l++m) b=qJt m (qJt l b):=List.foldl_append
def spl:xA→xA→List xA
 |cur,[]=> [cur]
 |cur,c::t=>if qP5 c then cur::spl [] t else spl (cur++ [c]) t
def qSZ:List Nat→List Nat→List (List Nat)
 |cur,[]=> [cur]
 |cur,r::t=>if qIF r then cur::qSZ [] t else qSZ (cur++ [r]) t
theorem qWA{c:UInt8}(h:qP5 c=true)(cur t:xA):spl cur (c::t)=cur::spl [] t:=by rw [spl,if_pos h]
theorem qG4: ∀(p:xA),(∀c∈p,qP5 c=false)→ ∀cur t,spl cur (p++t)=spl (cur++p) t
 | [],_,cur,t=>by rw [jP];rfl
 |c::p,h,cur,t=>by
  rw [zy,spl,if_neg (by rw [h c (.head _)];decide),qG4 p (λx hx=>h x (.tail _ hx)),jV];rfl
theorem qMY{r:Nat}(h:Rn r)(hb:128≤r): ∀c∈enc r,128≤c.toNat:=by
  have:=h.1
  intro c hc
  unfold enc at hc
  rw [if_neg xB] at hc
  split at hc
  · rcases List.mem_cons.1 hc with rfl|hc
    · rw [b8 xB];omega
    · rw [List.mem_singleton.1 hc,b8 xB];omega
  split at hc
  · rcases List.mem_cons.1 hc with rfl|hc
    · rw [b8 xB];omega
    rcases List.mem_cons.1 hc with rfl|hc
    · rw [b8 xB];omega
    · rw [List.mem_singleton.1 hc,b8 xB];omega
  · rcases List.mem_cons.1 hc with rfl|hc
    · rw [b8 xB];omega
    rcases List.mem_cons.1 hc with rfl|hc
    · rw [b8 xB];omega
    rcases List.mem_cons.1 hc with rfl|hc
    · rw [b8 xB];omega
    · rw [List.mem_singleton.1 hc,b8 xB];omega
theorem qI4{c:UInt8}(h:128≤c.toNat):qP5 c=false:=by unfold qP5 qIF;exact decide_eq_false xB
theorem qS7{s:xA}(h:s≠ [])(hs:qIF (dec s 0).1=true):(dec s 0).2=1∧ ∃c t,s=c::t∧qP5 c=true∧c.toNat=(dec s 0).1:=by
  by_cases ho:dec s 0=(65533,1)
  · rw [ho] at hs;exact absurd hs xC
  · obtain ⟨r,t,hr,rfl,hd⟩:=qLF h ho
    rw [hd] at hs⊢
    dsimp only at hs⊢
    have hr2:r<128:=by unfold qIF at hs;rw [decide_eq_true_eq] at hs;omega
    rw [qCp hr2]
    refine⟨O,_,_,O,?_,b8 xB⟩
    unfold qP5;rw [b8 xB];exact hs
theorem qS8{s:xA}(h:s≠ [])(hs:qIF (dec s 0).1=false): ∀c∈s.take (dec s 0).2,qP5 c=false:=by
  by_cases ho:dec s 0=(65533,1)
  · rw [ho]
    obtain ⟨x,t,rfl⟩:=List.exists_cons_of_ne_nil h
    intro c hc
    rw [show(x::t).take 1= [x] from rfl,jR] at hc
    subst hc
    refine qI4 ?_
    by_cases hx:c.toNat<128
    · have:=qHg (r:=c.toNat) ⟨xB,xB⟩ t
      rw [qCp hx,b8e rfl] at this
      rw [show [c]++t=c::t from rfl,ho] at this
      have:=congrArg Prod.fst this
      dsimp only at this
      omega
    · omega
  · obtain ⟨r,t,hr,rfl,hd⟩:=qLF h ho
    rw [hd] at hs⊢
    dsimp only at hs⊢
    rw [List.take_left]
    by_cases hr2:r<128
    · rw [qCp hr2]
      intro c hc
      rw [List.mem_singleton.1 hc];unfold qP5;rw [b8 xB];exact hs
    · exact λc hc=>qI4 (qMY hr xB c hc)
theorem qP1: ∀(l:List Nat),(∀r∈l,Rn r)→ ∀cur,spl (unr cur) (unr l)=(qSZ cur l).map unr
  | [],_,cur=>rfl
  |r::l,h,cur=>by
    have hr:=h r (.head _)
    have ih:=qP1 l (λx hx=>h x (.tail _ hx))
    rw [qCX,qSZ]
    by_cases hs:qIF r=true
    · have hr2:r<128:=by unfold qIF at hs;rw [decide_eq_true_eq] at hs;omega
      rw [if_pos hs,qCp hr2,ja,←ih []]
      rw [show [UInt8.ofNat r]++unr l=UInt8.ofNat r::unr l from rfl,spl,if_pos (by unfold qP5;rw [b8 xB];exact hs)];rfl
    · rw [if_neg hs,←ih,qG4,qOJ]
      · rw [show unr [r]=enc r from jP _]
      · by_cases hr2:r<128
        · rw [qCp hr2]
          intro c hc
          rw [List.mem_singleton.1 hc];unfold qP5;rw [b8 xB];exact Bool.eq_false_iff.2 hs
        · exact λc hc=>qI4 (qMY hr xB c hc)
theorem qIz: ∀(l cur:List Nat) (p:List Nat),p∈qSZ cur l→ ∀r∈p,r∈cur∨r∈l
  | [],cur,p,h,r,hr=>by rw [qSZ,jR] at h;subst h;exact .inl hr
  |x::l,cur,p,h,r,hr=>by
    rw [qSZ] at h
    split at h
    · rcases List.mem_cons.1 h with rfl|h
      · exact .inl hr
      · rcases qIz l [] p h r hr with h|h
        · cases h
        · exact .inr (.tail _ h)
    · rcases qIz l _ p h r hr with h|h
      · rcases List.mem_append.1 h with h|h
        · exact .inl h
        · rw [List.mem_singleton.1 h];exact .inr (.head _)
      · exact .inr (.tail _ h)
def okR(r:Nat):Bool:=decide (qKr r≠0∨48≤r∧r≤57)||qIF r
def okP(p:xA):Bool:=decide (p≠ [])&&good (qJt (rl p) 0)
def right(s:xA):Bool:=(rl s).all okR&&(spl [] s).all okP&&decide (s.count 64≤1)
def normal(s:xA):xA×Nat:=
 if vld s=true then(if(rl s).length≤64 then(if right s=true then(unr ((rl s).map small),0) else([],5)) else([],2)) else([],4)
def qVA:Nat→Nat→Bool→List Nat→Bool
  |ats,bits,sm,[]=>sm&&good bits&&decide (ats≤1)
  |ats,bits,sm,r::t=>if qIF r=true then sm&&good bits&&qVA (if r=64 then ats+1 else ats) 0 false t
      else decide (qKr r≠0∨48≤r∧r≤57)&&qVA ats (bits|||qKr r) true t
theorem qLj: ∀(l:List Nat) (ats:Nat) (cur:List Nat),
    qVA ats (qJt cur 0) (decide (cur≠ [])) l=(l.all okR&&(qSZ cur l).all (λp=>decide (p≠ [])&&good (qJt p 0))&&decide (ats+l.count 64≤1))
  | [],ats,cur=>by
    rw [qVA,qSZ,List.all_nil,Bool.true_and,zH,List.all_nil,Bool.and_true,List.count_nil,zZ]
  |r::l,ats,cur=>by
    rw [qVA,qSZ]
    by_cases hs:qIF r=true
    · rw [if_pos hs,if_pos hs]
      have:=qLj l (if r=64 then ats+1 else ats) []
      rw [show qJt [] 0=0 from rfl,show decide (([]:List Nat)≠ [])=false from rfl] at this
      rw [this,zH,zH,show okR r=true from by unfold okR;rw [hs,Bool.or_true]]
      have e:decide ((if r=64 then ats+1 else ats)+l.count 64≤1)=decide (ats+(r::l).count 64≤1):=by
        rw [List.count_cons]
        by_cases h:r=64
        · subst h;rw [if_pos rfl];simp only [beq_self_eq_true,if_true];exact decide_eq_decide.2 xB
        · rw [if_neg h,if_neg (by rw [beq_iff_eq];exact h)];rfl
      rw [e,Bool.true_and]
      cases decide (cur≠ [])<;>cases good (qJt cur 0)<;>cases l.all okR<;>simp
    · rw [if_neg hs,if_neg hs]
      have:=qLj l ats (cur++ [r])
      rw [qUy,show qJt [r] (qJt cur 0)=qJt cur 0|||qKr r from rfl,show decide (cur++ [r]≠ [])=true from decide_eq_true xD] at this
      rw [this,zH,show okR r=decide (qKr r≠0∨48≤r∧r≤57) from by unfold okR;rw [Bool.eq_false_iff.2 hs,Bool.or_false]]
      have e:(r::l).count 64=l.count 64:=by
        rw [List.count_cons,if_neg,zZ]
        intro h
        rw [beq_iff_eq] at h;subst h;exact hs O
      rw [e,Bool.and_assoc,Bool.and_assoc,Bool.and_assoc]
theorem qRl{r:Nat}(h:Rn r):(enc r).count 64=if r=64 then 1 else 0:=by
  by_cases hr:r<128
  · rw [qCp hr,List.count_singleton]
    by_cases h4:r=64
    · subst h4;rfl
    · rw [if_neg h4,if_neg]
      rw [beq_iff_eq];intro e
      have:=congrArg UInt8.toNat e
      rw [b8 xB] at this
      exact h4 this
  · rw [if_neg xB]
    refine List.count_eq_zero.2 λhm=>?_
    have:=qMY h xB _ hm
    exact absurd this xC
theorem qJ0: ∀(l:List Nat),(∀r∈l,Rn r)→(unr l).count 64=l.count 64
 | [],_=>rfl
 |r::l,h=>by
  rw [qCX,List.count_append,qJ0 l (λx hx=>h x (.tail _ hx)),qRl (h r (.head _)),List.count_cons,Nat.add_comm]
  simp only [beq_iff_eq]
theorem qYR{l:List Nat}(h:l≠ []):unr l≠ []:=by
 obtain ⟨r,t,rfl⟩:=List.exists_cons_of_ne_nil h
 rw [qCX];simp [qHc]
theorem qSO{α:Type}{f g:α→Bool}: ∀{l:List α},(∀x∈l,f x=g x)→l.all f=l.all g
 | [],_=>rfl
 |x::l,h=>by rw [zH,zH,h x (.head _),qSO (λy hy=>h y (.tail _ hy))]
theorem qQH{l:List Nat}(h: ∀r∈l,Rn r):right (unr l)=qVA 0 0 false l:=by
 have:=qLj l 0 []
 rw [show qJt [] 0=0 from rfl,show decide (([]:List Nat)≠ [])=false from rfl] at this
 rw [this]
 unfold right
 have e:=qP1 l h []
 rw [show unr []= [] from rfl] at e
 rw [qWW h,e,qJ0 l h,jj,List.all_map]
 congr 2
 refine qSO λp hp=>?_
 have hp2: ∀r∈p,Rn r:=λr hr=>by
  rcases qIz l [] p hp r hr with h'|h'
  · cases h'
  · exact h r h'
 show okP (unr p)=_
 unfold okP
 rw [qWW hp2]
 congr 1
 by_cases h0:p= []
 · subst h0;rfl
 · rw [decide_eq_true (qYR h0),decide_eq_true h0]
theorem qOr{l:List Nat}(h: ∀r∈l,Rn r):normal (unr l)=if l.length≤64 then(if qVA 0 0 false l=true then(unr (l.map small),0) else([],5)) else([],2):=by
 unfold normal
 rw [if_pos (qYN h),qWW h,qQH h]
theorem qHe{s:xA}{p:Nat}(h:p<s.length):s.drop p≠ []:=λe=>by
 have:=congrArg List.length e
 rw [jH,jF] at this;omega
theorem qZL{s:xA}{p:Nat}(h:p<s.length):Rn (dec s p).1:=by
  rw [qET xB]
  by_cases ho:dec (s.drop p) 0=(65533,1)
  · rw [ho];exact⟨xC,xC⟩
  · obtain ⟨r,t,hr,_,hd⟩:=qLF (qHe h) ho
    rw [hd];exact hr
theorem qXk{s:xA}{p:Nat}(h:p<s.length)(hn:(dec s p).1≠65533):(enc (dec s p).1).length=(dec s p).2:=by
 rw [qET xB] at hn⊢
 obtain ⟨r,t,hr,_,hd⟩:=qLF (qHe h) (λho=>by rw [ho] at hn;exact hn O)
 rw [hd]
theorem qTD{s:xA}{p:Nat}(h:p<s.length)(cur:xA)(hs:qIF (dec s p).1=true):spl cur (s.drop p)=cur::spl [] (s.drop (qKi s p)):=by
 have hd:=qET (s:=s) (pos:=p) xB
 rw [hd] at hs
 obtain ⟨h1,c,t,e,hc,_⟩:=qS7 (qHe h) hs
 rw [qD3 h,hd,h1,←zi,e,qWA hc];rfl
theorem qHu{s:xA}{p:Nat}(h:p<s.length)(cur:xA)(hs:qIF (dec s p).1=false):spl cur (s.drop p)=spl (cur++(s.take (p+(dec s p).2)).drop p) (s.drop (qKi s p)):=by
 have hd:=qET (s:=s) (pos:=p) xB
 have e:(s.take (p+(dec s p).2)).drop p=(s.drop p).take (dec s p).2:=by rw [List.drop_take];congr 1;omega
 rw [e,qD3 h,←zi]
 rw [hd] at hs⊢
 rw [←qG4 _ (qS8 (qHe h) hs),zY]
theorem qUC(ds:List xA)(cur q:xA){n:Nat}(h:n=ds.length):(ds++ [cur]).set n ((ds++ [cur]).getD n []++q)=ds++ [cur++q]:=by
 subst h
 rw [jB,jh (jK _),List.set_append_right _ _ (jK _),zE];rfl
theorem qTp: ∀b,b<8→(b&&&(b-1)=0↔good b=true):=by decide
theorem qUE(ds:List xA)(cur:xA):(ds++ [cur]).getD ds.length []=cur:=by
 rw [jB,jh (jK _),zE];rfl
theorem qFm: ∀(t cur:xA) (q:xA),q∈spl cur t→q.length≤cur.length+t.length
  | [],cur,q,h=>by rw [spl,jR] at h;subst h;exact jK _
  |c::t,cur,q,h=>by
    rw [spl] at h
    rw [jD]
    split at h
    · rcases List.mem_cons.1 h with rfl|h
      · omega
      · have:=qFm t [] q h;rw [jF] at this;omega
    · have:=qFm t _ q h;rw [jA,jD,jF] at this;omega
theorem qWB(s:xA)(k:Nat):((spl [] s).getD k []).length≤s.length:=by
  by_cases h:k<(spl [] s).length
  · have:=qFm s [] ((spl [] s).getD k []) (by rw [jB,jC h];exact jT h)
    rw [jF] at this;omega
  · rw [jB,jd xB];exact jG _
theorem qS3{l:List xA}{f:xA→Bool}{k:Nat}(h:k<l.length):(l.take (k+1)).all f=((l.take k).all f&&f (l.getD k [])):=by
 rw [List.take_add_one,jB,jC h,List.all_append];simp
theorem qNy{l:List xA}{f:xA→Bool}{k:Nat}(h:k<l.length)(hf:f (l.getD k [])=false):l.all f=false:=by
 rw [jB,jC h] at hf
 rw [List.all_eq_false];exact⟨l[k],jT h,by simpa using hf⟩
theorem qJN{r:Nat}(h:qIF r=true):okR r=true:=by unfold okR;rw [h,Bool.or_true]
theorem qJM{r:Nat}(h:qKr r≠0∨48≤r∧r≤57):okR r=true:=by unfold okR;rw [decide_eq_true h,Bool.true_or]
theorem qVM{r:Nat}(h:qKr r=0)(h2: ¬(48≤r∧r≤57))(h3:qIF r=false):okR r=false:=by unfold okR;rw [h3,decide_eq_false xB];rfl
theorem qLu: ∀(t cur:xA),(spl cur t).length≤t.length+1
 | [],cur=>by rw [spl];exact jK _
 |c::t,cur=>by
  rw [spl]
  split
  · have:=qLu t [];rw [jD,jD];omega
  · have:=qLu t (cur++ [c]);rw [jD];omega
def nx(s:xA):Nat×Nat:=if s= []∨dec s 0=(65533,1) then(0,0) else dec s 0
theorem qYa{l:List Nat}(h:l.all (λr=>decide (r<55296))=true): ∀r∈l,Rn r:=λr hr=>by
 have:=List.all_eq_true.1 h r hr
 rw [decide_eq_true_eq] at this
 exact⟨xB,xB⟩
theorem qER{s:xA}{l:List Nat}{x:xA}{e:Nat}(h:s=unr l)(hr:l.all (λr=>decide (r<55296))=true)(hx:(if l.length≤64 then(if qVA 0 0 false l=true then(unr (l.map small),0) else([],5)) else([],2))=(x,e)):normal s=(x,e):=by
 rw [h,qOr (qYa hr)];exact hx
end Go.Proofs.YtmemgokiolfdoaaGreatDoor