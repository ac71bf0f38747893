/- A part of the proof. -/
import Derived.Test.YtmemgokiolfdoaaGreatDoorTopMsG7
import Derived.Test.YtmemgokiolfdoaaGreatDoorRows
set_option maxRecDepth 100000
set_option maxHeartbeats 1000000
set_option linter.unusedSimpArgs false
set_option linter.unusedVariables false
namespace Go.Proofs.YtmemgokiolfdoaaGreatDoor
open Go Go.Fw Go.Proofs.Tryz
abbrev qBB:= @isAgg102
abbrev qMs:= @isAgg25
abbrev b3_:= @isAgg3
abbrev qDO:= @isAgg302
abbrev qGb:= @isAgg32
abbrev qLY:= @isAgg34
abbrev b4_:= @isAgg4
abbrev qPY:= @isAgg47
abbrev qEv:= @isAgg49
abbrev b5_:= @isAgg5
abbrev qCQ:= @isAgg50
abbrev qGA:= @isAgg52
abbrev qPX:= @isAgg73
abbrev qOD:= @isAgg85
abbrev qGa:= @isAgg87
abbrev b9_:= @isAgg9
abbrev qAj:= @sizeOf102
abbrev qCy:= @sizeOf106
abbrev qHm:= @sizeOf108
abbrev qHl:= @sizeOf114
abbrev qHk:= @sizeOf118
abbrev qIo:= @sizeOf120
abbrev qCp:= @sizeOf124
abbrev qGB:= @sizeOf155
abbrev qDD:= @sizeOf199
abbrev qDt:= @sizeOf242
abbrev qLk:= @sizeOf25
abbrev qVe:= @sizeOf28
abbrev z3_:= @sizeOf3
abbrev qCI:= @sizeOf302
abbrev qCT:= @sizeOf32
abbrev qDq:= @sizeOf34
abbrev qGd:= @sizeOf368
abbrev qGc:= @sizeOf371
abbrev z4_:= @sizeOf4
abbrev qLj:= @sizeOf47
abbrev qDs:= @sizeOf49
abbrev z5_:= @sizeOf5
abbrev qB9:= @sizeOf50
abbrev qDP:= @sizeOf52
abbrev qJu:= @sizeOf73
abbrev qLi:= @sizeOf85
abbrev qC6:= @sizeOf87
abbrev qS4:= @sizeOf89
abbrev z9_:= @sizeOf9
abbrev u0_:= @underlying0
abbrev qCA:= @underlying102
abbrev qDu:= @underlying106
abbrev qBP:= @underlying108
abbrev qIv:= @underlying114
abbrev qCr:= @underlying116
abbrev qDm:= @underlying118
abbrev qIu:= @underlying120
abbrev qEW:= @underlying124
abbrev qGD:= @underlying126
abbrev qOT:= @underlying127
abbrev qBJ:= @underlying129
abbrev qL2:= @underlying130
abbrev qHr:= @underlying140
abbrev qOS:= @underlying144
abbrev qDl:= @underlying146
abbrev qGn:= @underlying148
abbrev qL1:= @underlying155
abbrev qHq:= @underlying177
abbrev qHp:= @underlying191
abbrev qHo:= @underlying195
abbrev qCe:= @underlying199
abbrev u2_:= @underlying2
abbrev qEg:= @underlying206
abbrev qPw:= @underlying209
abbrev qIt:= @underlying222
abbrev qGm:= @underlying232
abbrev qPv:= @underlying235
abbrev qL0:= @underlying237
abbrev qEf:= @underlying242
abbrev qFV:= @underlying244
abbrev qJ7:= @underlying279
abbrev qYv:= @underlying28
abbrev u3_:= @underlying3
abbrev qJ6:= @underlying302
abbrev qLz:= @underlying314
abbrev qLo:= @underlying32
abbrev qPu:= @underlying336
abbrev qPT:= @underlying34
abbrev qOR:= @underlying340
abbrev qGC:= @underlying357
abbrev qOQ:= @underlying368
abbrev qEy:= @underlying371
abbrev qOP:= @underlying378
abbrev u4_:= @underlying4
abbrev qJ5:= @underlying403
abbrev qHn:= @underlying420
abbrev qGl:= @underlying47
abbrev qEV:= @underlying49
abbrev u5_:= @underlying5
abbrev qAn:= @underlying50
abbrev qEJ:= @underlying52
abbrev qPS:= @underlying64
abbrev qYu:= @underlying65
abbrev qBu:= @underlying73
abbrev qEa:= @underlying83
abbrev qCK:= @underlying85
abbrev qEI:= @underlying87
abbrev qLy:= @underlying89
abbrev u9_:= @underlying9
abbrev qLn:= @underlying93
abbrev e0_:= @zeroValue0
abbrev qDe:= @zeroValue102
abbrev qLI:= @zeroValue148
abbrev e3_:= @zeroValue3
abbrev qWA:= @zeroValue32
abbrev qSD:= @zeroValue34
abbrev qMi:= @zeroValue371
abbrev e4_:= @zeroValue4
abbrev e5_:= @zeroValue5
abbrev qYA:= @zeroValue52
abbrev qZr:= @zeroValue85
abbrev qPH:= @zeroValue87
abbrev qYk:= @zeroValue89
abbrev e9_:= @zeroValue9
theorem ent{f:FuncId}(h:enB prog f=true:=by kernel_rfl):qC5 prog f:=qC5.ofB h
theorem qAZ{env:Env}{ms:List Hp}{o:Oper}{f:FuncId}{xs:Array Operand}{vs:List Value}{tys:Array TypeId}{X:Type}{val:X→Value}{φ:X→Prop}(ho:o.op= .call {callee:= .value (.func f),args:=xs,argTypes:=tys})(hv:evs env xs.toList=some vs)(h: ∀F,(∀m∈ms,Le m F)→Ct prog f vs [F] val φ (λ_=> [F]))(hf:enB prog f=true:=by kernel_rfl):EOp prog env ms o val φ (λ_=>ms):=qAK ho hv (ent hf) (Ct.use0 h)
theorem qBb{env:Env}{ms:List Hp}{o:Oper}{f:FuncId}{xs:Array Operand}{vs:List Value}{tys:Array TypeId}{X:Type}{val:X→Value}{φ:X→Prop}{new:X→List Hp}(ho:o.op= .call {callee:= .value (.func f),args:=xs,argTypes:=tys})(hv:evs env xs.toList=some vs)(h: ∀F,(∀m∈ms,Le m F)→Ct prog f vs [F] val φ (λx=>F::new x))(hf:enB prog f=true:=by kernel_rfl):EOp prog env ms o val φ (λx=>ms++new x):=qAK ho hv (ent hf) (Ct.use h)
theorem Tryz.wide:prog.follows .mixedOrders=true:=by kernel_rfl
theorem el102:qCY prog 102 [.int .u64 0,Str [],Str [],.int .i64 0,Str []] 64:=qCY.of xI O
theorem el3:qCY prog 3 [.int .i64 0] 8:=qCY.of xI O
theorem el4:qCY prog 4 [.bool false] 1:=qCY.of xI O
theorem el5:qCY prog 5 [.int .u8 0] 1:=qCY.of xI O
theorem el9:qCY prog 9 [Str []] 16:=qCY.of xI O
theorem noEsc(v:Value)(w:World):(callFunc 251 #[v]).run prog w= .ok (.value v) w:=by kernel_rfl
theorem qEr:prog.info? 146=some t146:=by kernel_rfl
structure Bld (g off:Nat) (l:List Value) (mr:Hp) (bs:xA) (A:Option Addr) (c:Nat) (p:Option Addr):Prop where
 a0:l[off]?=some (.pointer p)
 self:p=none∨p=some ⟨g,off,none⟩
 a1:l[off+1]?=some (.slice A bs.length c)
 row:qBZ False mr 5 1 A bs.length c (qAf bs)
 cap:A=none∨0<c
theorem qJm(F:Hp)(g T off:Nat)(l:List Value)(hl:l[off]?=some (.pointer none))(hT:liesAt prog prog.depth T (l.length/prog.cellsOf T) off 146 1=true):
    Ct prog 194 [.pointer (some ⟨g,off,none⟩)] [blk g l T,F] (λ_:Unit=> .tuple #[]) (λ_=>True) (λ_=> [blk g (qBD l off [.pointer (some ⟨g,off,none⟩)]) T,F]):=by
  have hoff:off<l.length:=(List.getElem?_eq_some_iff.1 hl).1
  refine Ct.walk func194 O ntmps194 O (λw0 hw0=>?_)
  refine J.f λ_ j1=>J.b O<|J.g (qAB O O) O<|J.g (qAA O O qDl O sizeOf144 O) O<|J.g (qAD 0 O O O isAgg144 hl) O<|J.g (qA6 qOS O O O) O<|J.c j1<|J.c3 ?_
  exact J.H<|J.p 2 O<|J.g (qMD O O qOS underlying360 qEr xC (m:=blk g l T) xD (qAd _ _) (by simpa using hoff)) O<|J.q (qXS O O noEsc) O λg10 _=>J.g (qJL O O underlying360 qOS qEr (m:=blk g l T) xD (qAd _ _) (by simpa using hT)) O<|J.g (qAB O O) O<|J.g (qAA (j:=off) O O qDl O sizeOf144 O) O<|J.a7 (qAW (i:=0) (vs:= [.pointer (some ⟨g,off,none⟩)]) O O O O O sizeOf144 O (by simp only [jD,jG];omega)) O O λ_ _=>J.a4<|J.d3 hw0 (λ_ _ h=>h) (qI7 O) (qAg () O trivial [0,1] O xC)
theorem qHw(F:Hp)(g T off:Nat)(l:List Value)(hl:l[off]?=some (.pointer (some ⟨g,off,none⟩))):
    Ct prog 194 [.pointer (some ⟨g,off,none⟩)] [blk g l T,F] (λ_:Unit=> .tuple #[]) (λ_=>True) (λ_=> [blk g l T,F]):=by
  refine Ct.walk func194 O ntmps194 O (λw0 hw0=>?_)
  refine J.f λ_ j1=>J.b O<|J.g (qAB O O) O<|J.g (qAA O O qDl O sizeOf144 O) O<|J.g (qAD 0 O O O isAgg144 hl) O<|J.g (qA6 qOS O O O) O<|J.c j1<|J.a3 ?_
  refine J.f λ_ j2=>J.b O<|J.g (qAB O O) O<|J.g (qAA O O qDl O sizeOf144 O) O<|J.g (qAD 0 O O O isAgg144 hl) O<|J.b O<|J.g (qOu qOS qEr O O O) O<|J.c j2<|J.a3 ?_
  exact J.b2<|J.d3 hw0 (λ_ _ h=>h) (qI7 O) (qAg () O trivial [0,1] O xC)
theorem qIB{l:List Value}{k:Nat}{v:Value}(h:l[k]?=some v):qBD l k [v]=l:=by
 obtain ⟨hk,rfl⟩:=List.getElem?_eq_some_iff.1 h
 unfold qBD
 rw [jX,List.singleton_append,jH,←zD hk,zY]
theorem qDF{l:List Value}{k:Nat}{v:Value}(hk:k<l.length):(qBD l k [v])[k]?=some v:=by
 unfold qBD
 rw [jX,ja xJ]
 simp [jp (Nat.le_of_lt hk)]
theorem qB1{l:List Value}{k j:Nat}{v:Value}(hk:k<l.length)(hj:j≠k):(qBD l k [v])[j]?=l[j]?:=by
  unfold qBD
  rw [jX,List.getElem?_append,List.getElem?_append]
  simp only [jF,jp (Nat.le_of_lt hk),jH]
  by_cases h1:j<k
  · rw [if_pos h1,zI,if_pos h1]
  · rw [if_neg h1,if_neg xB,jq]
    congr 1;omega
theorem qDE{l:List Value}{k:Nat}{v:Value}(hk:k<l.length):(qBD l k [v]).length=l.length:=by
 unfold qBD
 simp;omega
theorem qEB(F:Hp)(g T off:Nat)(l:List Value)(p:Option Addr)(hl:l[off]?=some (.pointer p))(hp:p=none∨p=some ⟨g,off,none⟩)(hT:liesAt prog prog.depth T (l.length/prog.cellsOf T) off 146 1=true):
    Ct prog 194 [.pointer (some ⟨g,off,none⟩)] [blk g l T,F] (λ_:Unit=> .tuple #[]) (λ_=>True) (λ_=> [blk g (qBD l off [.pointer (some ⟨g,off,none⟩)]) T,F]):=by
  rcases hp with rfl|rfl
  · exact qJm F g T off l hl hT
  · rw [qIB hl];exact qHw F g T off l hl
theorem qX5:qC5 prog 194:=qC5.of func194 O xI
def Upd(off:Nat)(l l':List Value):Prop:=l'.length=l.length∧ ∀j,j≠off→j≠off+1→l'[j]?=l[j]?
theorem Upd.trans{off:Nat}{a b c:List Value}(h:Upd off a b)(h':Upd off b c):Upd off a c:=⟨h'.1.trans h.1,λj h1 h2=>(h'.2 j h1 h2).trans (h.2 j h1 h2)⟩
theorem qJr{g off:Nat}{l:List Value}{mr mr':Hp}{bs bs':xA}{A A':Option Addr}{c c':Nat}{p:Option Addr}(hb:Bld g off l mr bs A c p)(hr:qBZ False mr' 5 1 A' bs'.length c' (qAf bs'))(hc:A'=none∨0<c'):
    Bld g off (qBD (qBD l off [.pointer (some ⟨g,off,none⟩)]) (off+1) [.slice A' bs'.length c']) mr' bs' A' c' (some ⟨g,off,none⟩)∧Upd off l (qBD (qBD l off [.pointer (some ⟨g,off,none⟩)]) (off+1) [.slice A' bs'.length c']):=by
  have h1:off+1<l.length:=(List.getElem?_eq_some_iff.1 hb.a1).1
  have h0:off<l.length:=xB
  have hl1:=qDE (v:=Value.pointer (some ⟨g,off,none⟩)) h0
  have h1':off+1<(qBD l off [.pointer (some ⟨g,off,none⟩)]).length:=xB
  refine⟨⟨?_,.inr O,?_,hr,hc⟩,by rw [qDE h1',hl1],λj hj hj'=>?_⟩
  · rw [qB1 h1' xB,qDF h0]
  · exact qDF h1'
  · rw [qB1 h1' hj',qB1 h0 hj]
theorem qWs{m:Hp}{e:TypeId}{A:Option Addr}{n c:Nat}{xs:List (List Value)}(h:qBZ False m e 1 A n c xs)(hn:0<n):A=none∨0<c:= .inr (zc hn h.2.2.1)
theorem qJ2(F mr:Hp)(g T off:Nat)(l:List Value)(bs:xA)(A:Option Addr)(c:Nat)(p:Option Addr)(hb:Bld g off l mr bs A c p)(hT:liesAt prog prog.depth T (l.length/prog.cellsOf T) off 146 1=true)(b:UInt8)(hlen:bs.length<70368744177664):
    Ct prog 208 [.pointer (some ⟨g,off,none⟩),B8 b] [blk g l T,mr,F] (λ_:List Value×Hp=> .nilIface) (λx=> ∃A c,Bld g off x.1 x.2 (bs++ [b]) A c (some ⟨g,off,none⟩)∧Upd off l x.1) (λx=> [blk g x.1 T,x.2,F]):=by
  have hoff:off+1<l.length:=(List.getElem?_eq_some_iff.1 hb.a1).1
  have hoff0:off<l.length:=xB
  refine Ct.walk func208 O ntmps208 O (λw0 hw0=>?_)
  refine J.f λ_ j1=>J.b O<|J.c j1<|J.f λ_ j2=>J.b O<|J.q (qAK O O qX5 (Ct.useA [blk g l T] [mr,F] (A':=λ_:Unit=> [blk g (qBD l off [.pointer (some ⟨g,off,none⟩)]) T]) (new:=λ_=> []) (λF' _=>qEB F' g T off l p hb.a0 hb.self hT))) O λg6 _=>J.c j2<|J.f λ_ j3=>J.p 2 O<|J.g (qAB O O) O<|J.g (qAA (j:=off+1) O O qDl O qJu O) O<|J.g (qAD 0 O O O qPX ((qB1 hoff0 xB).trans hb.a1)) O<|J.b O<|J.q (qAE (l:= [.tmp 12]) (xs:= [[B8 b]]) O O O O qBu el5 O xC xC xD) O λg13 _=>J.q (qAX (i:=1) (m2:=blk g13 [B8 b] 5) O O O qBu qBu el5 O hb.row xD (qAm (q:=True) (xs:= [[B8 b]]) O xD).sl O xB xB) O ?_
  rintro⟨A14,c14,m14⟩ h14
  try dsimp only at h14
  have hbp:=qJr (bs':=bs++ [b]) (A':=A14) (c':=c14) (mr':=m14) hb (by simpa [qAf] using h14) (qWs h14 xB)
  simp only [jA,jH] at hbp
  exact J.g (qAB O O) O<|J.g (qAA O O qDl O qJu O) O<|J.a7 (qAW (i:=0) O O O O O qJu O (by rw [qDE hoff0];exact hoff)) O O λ_ _=>J.c j3<|J.f λ_ j4=>J.b O<|J.c j4<|J.A<|J.E hw0 O (_,m14) O ⟨A14,c14,hbp⟩ [0,1,2] O xC
theorem qBU(F mr:Hp)(g T off:Nat)(l:List Value)(bs:xA)(A:Option Addr)(c:Nat)(p:Option Addr)(hb:Bld g off l mr bs A c p)(hT:liesAt prog prog.depth T (l.length/prog.cellsOf T) off 146 1=true)(s:xA)(hlen:bs.length+s.length<70368744177664):
    Ct prog 111 [.pointer (some ⟨g,off,none⟩),Str s] [blk g l T,mr,F] (λ_:List Value×Hp=> .tuple #[I s.length,.nilIface]) (λx=> ∃A c,Bld g off x.1 x.2 (bs++s) A c (some ⟨g,off,none⟩)∧Upd off l x.1) (λx=> [blk g x.1 T,x.2,F]):=by
  have hoff:off+1<l.length:=(List.getElem?_eq_some_iff.1 hb.a1).1
  have hoff0:off<l.length:=xB
  refine Ct.walk func111 O ntmps111 O (λw0 hw0=>?_)
  refine J.f λ_ j1=>J.p 2 O<|J.c j1<|J.f λ_ j2=>J.b O<|J.q (qAK O O qX5 (Ct.useA [blk g l T] [mr,F] (A':=λ_:Unit=> [blk g (qBD l off [.pointer (some ⟨g,off,none⟩)]) T]) (new:=λ_=> []) (λF' _=>qEB F' g T off l p hb.a0 hb.self hT))) O λg7 _=>J.c j2<|J.f λ_ j3=>J.p 2 O<|J.g (qAB O O) O<|J.g (qAA (j:=off+1) O O qDl O qJu O) O<|J.g (qAD 0 O O O qPX ((qB1 hoff0 xB).trans hb.a1)) O<|J.b O<|J.q (qOw (i:=1) O O O qBu u9_ el5 O hb.row xB xB) O ?_
  rintro⟨A14,c14,m14⟩ h14
  try dsimp only at h14
  obtain ⟨h14,hcap⟩:=h14
  have hbp:=qJr (bs':=bs++s) (A':=A14) (c':=c14) (mr':=m14) hb (by simpa [qAf] using h14) (hcap hb.cap)
  simp only [jA] at hbp
  exact J.g (qAB O O) O<|J.g (qAA O O qDl O qJu O) O<|J.a7 (qAW (i:=0) O O O O O qJu O (by rw [qDE hoff0];exact hoff)) O O λ_ _=>J.c j3<|J.f λ_ j4=>J.b O<|J.g (qAu u9_ O O) O<|J.p 2 O<|J.c j4<|J.A<|J.a9 hw0 (λ_ _ h=>h) (qBw O O O) (qAg (_,m14) O ⟨A14,c14,hbp⟩ [0,1,2] O xC)
theorem qEU(F mr:Hp)(g T off:Nat)(l:List Value)(bs:xA)(A:Option Addr)(c:Nat)(p:Option Addr)(hb:Bld g off l mr bs A c p)(hlen:bs.length<70368744177664):
    Ct prog 113 [.pointer (some ⟨g,off,none⟩)] [blk g l T,mr,F] (λ_:Hp=>Str bs) (λm=>Bld g off l m bs A c p) (λm=> [blk g l T,m,F]):=by
  refine Ct.walk func113 O ntmps113 O (λw0 hw0=>?_)
  refine J.f λ_ j1=>J.b O<|J.c j1<|J.k λ_ j2=>J.b1 [blk g l T,F] [] (.y 0 (.y 1 (.y 2 (.y 3 (.y 4 (.y 5 (.y 6 (.y 7 (.y 8 (.y 9 (.e 10 (.y 11 .nil)))))))))))) Tryz.wide xF xD ?_
  refine J.L ?_
  refine J.j O (qAB O O) O O<|J.j O (qAA O O qDl O qJu O) O O<|J.j O (qAD 0 O O O qPX hb.a1) O O<|J.j O (qKj O O hb.cap) O O<|J.L ?_
  refine J.j O (qAB O O) O O<|J.j O (qAA O O qDl O qJu O) O O<|J.j O (qAD 0 O O O qPX hb.a1) O O<|J.j O (qAO qBu O O) O O<|J.a1 O (qG9 (i:=1) O O O underlying307 O O hb.row xB) O xD ?_
  rintro m13 h13
  refine J.b7 ?_
  refine J.b0<|J.u (J.D j2 ?_)
  exact J.A<|J.E hw0 O m13 O ⟨hb.a0,hb.self,hb.a1,h13,hb.cap⟩ [0,1,2] O xC
theorem mnz(v:Value)(w:World):(callFunc 252 #[v]).run prog w=(do let x←Extern.BytealgMakeNoZero.makeNoZero #[3] #[73] #[v];pure (.value x):Sem Next).run prog w:=by kernel_rfl
theorem qVK(F:Hp)(g T off:Nat)(l:List Value)(hl:l[off+1]?=some (.slice none 0 0))(n:Nat)(hn:n≤70368744177664):
    Ct prog 195 [.pointer (some ⟨g,off,none⟩),I n] [blk g l T,F] (λ_:Nat×Nat×List Value=> .tuple #[]) (λx=>n≤x.2.1∧x.2.2.length=x.2.1) (λx=> [blk g (qBD l (off+1) [.slice (some ⟨x.1,0,none⟩) 0 x.2.1]) T,F,blk x.1 x.2.2 5]):=by
  have hoff:off+1<l.length:=(List.getElem?_eq_some_iff.1 hl).1
  refine Ct.walk func195 O ntmps195 O (λw0 hw0=>?_)
  refine J.k λ_ j1=>J.b1 [blk g l T,F] [] (.y 0 (.y 1 (.y 2 (.y 3 (.y 4 (.y 5 (.y 6 (.y 7 (.y 9 (.y 10 (.y 11 (.y 12 (.y 13 (.e 8 (.y 14 (.y 15 .nil)))))))))))))))) Tryz.wide xF xD ?_
  refine J.L ?_
  refine J.j O (qAB O O) O O<|J.j O (qAA O O qDl O qJu O) O O<|J.j O (qAD 0 O O O qPX hl) O O<|J.j O (qVr qBu O O) O O<|J.j O (qDj O O O xB) O O<|J.L ?_
  refine J.j O ((qAR O O O xB).as (v':=I n) xD) O O<|J.L ?_
  refine J.j O (qAB O O) O O<|J.j O (qAA O O qDl O qJu O) O O<|J.j O (qAD 0 O O O qPX hl) O O<|J.j O (qAO qBu O O) O O<|J.a1 O (qZJ O O mnz qBu xB) O xD ?_
  rintro⟨g13,c13,l13⟩ h13
  try dsimp only at h13
  refine J.j O (qCm O O qBu z5_ O xB) O O<|J.b7 ?_
  refine J.b0<|J.u (J.D j1 ?_)
  exact J.f λ_ j2=>J.p 2 O<|J.g (qAB O O) O<|J.g (qAA O O qDl O qJu O) O<|J.g (qAD 0 O O O qPX hl) O<|J.q (qUF O O O qBu el5) O λg25 _=>J.c j2<|J.H<|J.p 2 O<|J.g (qAB O O) O<|J.g (qAA O O qDl O qJu O) O<|J.a7 (qAW (i:=0) O O O O O qJu O (by exact hoff)) O O λ_ _=>J.a4<|J.d3 hw0 (λ_ _ h=>h) (qI7 O) (qAg (g13,c13,l13) O h13 [0,1,2] O xC)
theorem qOC(F:Hp)(g T off:Nat)(l:List Value)(p:Option Addr)(hb:Bld g off l (λ_=>none) [] none 0 p)(hT:liesAt prog prog.depth T (l.length/prog.cellsOf T) off 146 1=true)(n:Nat)(hn:n≤70368744177664):
    Ct prog 110 [.pointer (some ⟨g,off,none⟩),I n] [blk g l T,λ_=>none,F] (λ_:List Value×Hp=> .tuple #[]) (λx=> ∃A c,Bld g off x.1 x.2 ([]) A c (some ⟨g,off,none⟩)∧Upd off l x.1) (λx=> [blk g x.1 T,x.2,F]):=by
  have hoff:off+1<l.length:=(List.getElem?_eq_some_iff.1 hb.a1).1
  have hoff0:off<l.length:=xB
  refine Ct.walk func110 O ntmps110 O (λw0 hw0=>?_)
  refine J.f λ_ j1=>J.b O<|J.q (qAK O O qX5 (Ct.useA [blk g l T] [(λ_=>none),F] (A':=λ_:Unit=> [blk g (qBD l off [.pointer (some ⟨g,off,none⟩)]) T]) (new:=λ_=> []) (λF' _=>qEB F' g T off l p hb.a0 hb.self hT))) O λg5 _=>J.c j1<|J.k λ_ j2=>J.f λ_ j3=>J.b O<|J.g (qAS O O O) O<|J.c j3<|J.e3 O (xD) ?_
  refine J.M j2<|J.k λ_ j4=>J.b1 [blk g (qBD l off [.pointer (some ⟨g,off,none⟩)]) T,(λ_=>none),F] [] (.y 0 (.y 1 (.y 2 (.y 3 (.y 4 (.y 5 (.y 6 (.y 7 (.y 8 (.y 9 (.y 10 (.y 11 (.y 12 .nil))))))))))))) Tryz.wide xF xD ?_
  refine J.L ?_
  refine J.j O (qAB O O) O O<|J.j O (qAA (j:=off+1) O O qDl O qJu O) O O<|J.j O (qAD 0 O O O qPX ((qB1 hoff0 xB).trans hb.a1)) O O<|J.j O (qVr qBu O O) O O<|J.L ?_
  refine J.j O (qAB O O) O O<|J.j O (qAA (j:=off+1) O O qDl O qJu O) O O<|J.j O (qAD 0 O O O qPX ((qB1 hoff0 xB).trans hb.a1)) O O<|J.j O (qAO qBu O O) O O<|J.j O (qA4 (a:=0) (b:=0) O O O xB) O O<|J.L ?_
  refine J.j O (qAS O O O) O O<|J.b0<|J.u (J.D j4 ?_)
  refine J.Z O (λh21=>?_) (λh21=>?_)
  ·
    refine J.H<|J.p 2 O<|J.q (qAK O O ent (Ct.useA [blk g (qBD l off [.pointer (some ⟨g,off,none⟩)]) T] [λ_=>none,F] (A':=λx:Nat×Nat×List Value=> [blk g (qBD (qBD l off [.pointer (some ⟨g,off,none⟩)]) (off+1) [.slice (some ⟨x.1,0,none⟩) 0 x.2.1]) T]) (new:=λx=> [blk x.1 x.2.2 5]) (λF' _=>qVK F' g T off (qBD l off [.pointer (some ⟨g,off,none⟩)]) ((qB1 hoff0 xB).trans hb.a1) n hn))) O ?_
    rintro⟨g24,c24,l24⟩ h24
    try dsimp only at h24
    refine J.a4 ?_
    have hbp:=qJr (bs':= []) (A':=some ⟨g24,0,none⟩) (c':=c24) (mr':=blk g24 l24 5) hb (qGv (xs:= []) (rest:=l24) (lo:=0) (hi:=0) O O xD (by simpa using h24.2) (jE _) (.inl O)) (.inr xB)
    simp only [jG] at hbp
    exact J.d3 hw0 (λ_ _ h=>h) (qI7 O) (qAg (_,blk g24 l24 5) O ⟨some ⟨g24,0,none⟩,c24,hbp⟩ [0,3,2] O xC)
  refine J.b2 ?_
  have hbp:=qJr (bs':= []) (A':=none) (c':=0) (mr':=λ_=>none) hb qBZ.nil (.inl O)
  have e1:=qIB ((qB1 (v:= .pointer (some ⟨g,off,none⟩)) hoff0 xB).trans hb.a1)
  simp only [jG] at e1 hbp
  rw [e1] at hbp
  exact J.d3 hw0 (λ_ _ h=>h) (qI7 O) (qAg (_,λ_=>none) O ⟨none,0,hbp⟩ [0,1,2] O xC)
def qCs(sep:xA):List xA→xA
 | []=> []
 |a::r=>a++(r.map λx=>sep++x).flatten
theorem qK5: ∀ls,qCs [] ls=ls.flatten
 | []=>rfl
 |a::r=>by simp [qCs]
def qDw(ls:List xA):Nat:=(ls.map List.length).sum
theorem qGp(ls:List xA)(k:Nat){s:xA}(h:ls[k]?=some s):qDw (ls.take (k+1))=qDw (ls.take k)+s.length:=by
 obtain ⟨hk,rfl⟩:=List.getElem?_eq_some_iff.1 h
 unfold qDw
 rw [jK hk,jO,List.sum_append];rfl
theorem qE0(ls:List xA)(k:Nat):qDw (ls.take k)≤qDw ls:=by
 unfold qDw
 conv=>rhs;rw [←zY k ls,jO,List.sum_append]
 omega
theorem qD8(sep:xA): ∀(ls:List xA),(qCs sep ls).length=qDw ls+sep.length*(ls.length-1)
 | []=>by simp [qCs,qDw]
 |a::r=>by
  have h: ∀r:List xA,(r.map λx=>sep++x).flatten.length=(r.map List.length).sum+sep.length*r.length:=by
   intro r
   induction r with
   |nil=>rfl
   |cons x r ih=>
    simp only [jb,ji,jA,List.sum_cons,jD,Nat.mul_add,ih]
    omega
  simp [qCs,qDw,h];omega
theorem qIX(sep:xA)(ls:List xA)(k:Nat){s:xA}(h:ls[k+1]?=some s):qCs sep (ls.take (k+2))=qCs sep (ls.take (k+1))++sep++s:=by
 cases ls with
 |nil=>simp at h
 |cons a r=>
  simp only [List.getElem?_cons_succ] at h
  obtain ⟨hk,rfl⟩:=List.getElem?_eq_some_iff.1 h
  simp only [List.take_succ_cons,qCs]
  rw [jK hk,jO,zK]
  simp only [jb,zT,ji,zQ,jR,jX]
theorem qIY(sep:xA)(ls:List xA)(k:Nat):(qCs sep (ls.take (k+1))).length≤(qCs sep ls).length:=by
 rw [qD8,qD8]
 have h1:=qE0 ls (k+1)
 have h2:(ls.take (k+1)).length≤ls.length:=by simp;omega
 have h3:sep.length*((ls.take (k+1)).length-1)≤sep.length*(ls.length-1):=Nat.mul_le_mul_left _ xB
 omega
theorem qMT:liesAt prog prog.depth 146 (2/prog.cellsOf 146) 0 146 1=true:=by kernel_rfl
theorem qWm(a b M:Int)(hb:0<b)(h:a*b+b≤M):a+1≤M/b:=by
 rw [Int.le_ediv_iff_mul_le hb,Int.add_mul];omega
theorem qUs(F:Hp)(A:Option Addr)(n c:Nat)(sep:xA)(hl:Sl F 1 A n c (qAH [])):
    Cz prog 248 [.slice A n c,Str sep] F (Str (qCs sep [])):=by
  have hn:n=0:=hl.1.symm
  subst hn
  refine Ct.walk func248 O ntmps248 O (λw0 hw0=>?_)
  refine J.f λ_ j1=>J.b O<|J.c j1<|J.k λ_ j2=>J.f λ_ j3=>J.b O<|J.g (qAO qAn O O) O<|J.c j3<|J.T<|J.f λ_ j4=>J.g (qAe O O O) O<|J.b O<|J.c j4<|J.c3 ?_
  exact J.f λ_ j5=>J.b O<|J.c j5<|J.A<|J.a5<|J.V<|J.E hw0 O () O trivial [0] O xC
theorem qUr(F:Hp)(A:Option Addr)(n c:Nat)(s:xA)(sep:xA)(hl:Sl F 1 A n c (qAH [s])):
    Cz prog 248 [.slice A n c,Str sep] F (Str (qCs sep [s])):=by
  have hn:n=1:=hl.1.symm
  subst hn
  refine Ct.walk func248 O ntmps248 O (λw0 hw0=>?_)
  refine J.f λ_ j1=>J.b O<|J.c j1<|J.k λ_ j2=>J.f λ_ j3=>J.b O<|J.g (qAO qAn O O) O<|J.c j3<|J.T<|J.f λ_ j4=>J.g (qAe O O O) O<|J.b O<|J.c j4<|J.e3 O (O) ?_
  refine J.f λ_ j5=>J.g (qAe O O O) O<|J.b O<|J.c j5<|J.g4 O (O) ?_
  exact J.f λ_ j6=>J.b O<|J.g (qAF O O O qAn z9_ hl xC) O<|J.g (qAI O O b9_ xD (hl.elem (qAc (k:=0) O))) O<|J.b O<|J.c j6<|J.A<|J.a5<|J.V<|J.E hw0 O () (by simp [qCs]) trivial [0] O xC
theorem qRp(F:Hp)(A:Option Addr)(n c:Nat)(ls:List xA)(sep:xA)(hl:Sl F 1 A n c (qAH ls))(h2:2≤n)(htot:(qCs sep ls).length≤35184372088832)(hn47:n≤70368744177664):
    Cz prog 248 [.slice A n c,Str sep] F (Str (qCs sep ls)):=by
  have hlen:ls.length=n:=by have:=hl.1;simpa [qAH] using this
  have hjl:=qD8 sep ls
  rw [hlen] at hjl
  have hq:(sep.length:Int)*((n:Int)-1)=((sep.length*(n-1):Nat):Int):=by rw [yK];congr 1;omega
  have hB0: ¬0<(sep.length:Int)→sep.length*(n-1)=0:=λh=>by rw [show sep.length=0 by omega,Nat.zero_mul]
  have hsm:sep.length≤35184372088832:=by
    have:sep.length*1≤sep.length*(n-1):=Nat.mul_le_mul_left _ xB
    omega
  have hdiv:(sep.length:Int)+1≤9223372036854775807/((n:Int)-1):=qWm _ _ _ xB (by rw [hq];omega)
  have hnc:=hl.2.1
  obtain ⟨B,hB⟩: ∃B,sep.length*(n-1)=B:=⟨_,rfl⟩
  rw [hB] at hjl hq hB0
  generalize hD:(9223372036854775807:Int)/((n:Int)-1)=D at hdiv
  have H2:(0:Int)≤9223372036854775807∧0<(n:Int)-1∧(9223372036854775807:Int)≤9223372036854775807:=xB
  refine Ct.walk func248 O ntmps248 O (λw0 hw0=>?_)
  refine J.f λ_ j1=>J.b O<|J.c j1<|J.k λ_ j2=>J.f λ_ j3=>J.b O<|J.g (qAO qAn O O) O<|J.c j3<|J.T<|J.f λ_ j4=>J.g (qAe O O O) O<|J.b O<|J.c j4<|J.e3 O (xJ) ?_
  refine J.f λ_ j5=>J.g (qAe O O O) O<|J.b O<|J.c j5<|J.e3 O (xJ) ?_
  refine J.b2<|J.a2<|J.u (J.D j2 ?_)
  refine J.f λ_ j6=>J.b O<|J.c j6<|J.d9 (λ_:Unit=> [(0,.slice A n c),(1,Str sep),(5,I (B:Int))]) (λ_=> [F]) (λ_=>True) (λ_ j7=>?_) ?_
  ·
    refine J.f λ_ j8=>J.b O<|J.g (qAu u9_ O O) O<|J.g (qA5 O O O) O<|J.c j8<|J.Z O (λh22=>?_) (λh22=>?_)
    ·
      refine J.k λ_ j9=>J.f λ_ j10=>J.b O<|J.g (qAu u9_ O O) O<|J.b O<|J.g (qAO qAn O O) O<|J.g (qA4 O O O xB) O<|J.g ((qIK O O O H2).as (congrArg I hD)) O<|J.g (qBI O O O) O<|J.c j10<|J.e3 O (xJ) ?_
      exact J.M j9<|J.H<|J.p 2 O<|J.g (qAu u9_ O O) O<|J.b O<|J.g (qAO qAn O O) O<|J.g (qA4 O O O xB) O<|J.g ((qDj O O O (by rw [hq];omega)).as (v':=I (B:Int)) (by rw [hq])) O<|J.g ((qAR O O O xB).as (v':=I (B:Int)) xD) O<|J.b O<|J.a4<|J.u<|J.a8 () j7 trivial ⟨O,O,O,trivial⟩ (λ_ h=>h)
    exact J.b2<|J.u<|J.a8 () j7 trivial ⟨O,O,by rw [hB0 h22];rfl,trivial⟩ (λ_ h=>h)
  rintro _ _
  refine J.k λ_ j11=>J.f λ_ j12=>J.b O<|J.g (qAO qAn O O) O<|J.b O<|J.c j12<|J.T<|J.b5 (λk:Nat=> [(0,.slice A n c),(1,Str sep),(5,I (B+qDw (ls.take k):Nat)),(39,.slice A n c),(40,I n),(41,I k)]) (λ_=> [F]) (λk=>k≤n) (λk=>n-k) 0 (jE _) ⟨O,O,O,O,O,O,trivial⟩ (λ_ h=>h) ?_
  intro k hk I1 hI1
  refine J.f λ_ j13=>J.g (qAS O O O) O<|J.c j13<|J.k λ_ j14=>J.Z O (λh42=>?_) (λh42=>?_)
  ·
    refine J.M j14<|J.k λ_ j15=>J.T<|J.k λ_ j16=>?_
    have hkn:k<n:=xB
    obtain ⟨s,hs⟩: ∃s,ls[k]?=some s:=⟨_,jC xB⟩
    have hst:=qGp ls k hs
    have hst2:=qE0 ls (k+1)
    refine J.H<|J.g (qAF O O O qAn z9_ hl hkn) O<|J.g (qAI O O b9_ xD (hl.elem (qAc hs))) O<|J.b O<|J.c j16<|J.k λ_ j17=>J.f λ_ j18=>J.b O<|J.g (qAu u9_ O O) O<|J.b O<|J.g (qA4 O O O xB) O<|J.g (qA5 O O O) O<|J.c j18<|J.e3 O (xJ) ?_
    refine J.M j17<|J.H<|J.p 2 O<|J.g (qAu u9_ O O) O<|J.g (qAR O O O xB) O<|J.b O<|J.a4<|J.a2<|J.u (J.D j15 ?_)
    exact J.H<|J.g (qAR O O O xB) O<|J.b O<|J.a4<|J.u<|J.a8 (k+1) (λx (hx:x≤n∧n-x<n-k)=>hI1 x hx.1 hx.2) ⟨xB,xB⟩ ⟨O,O,by rw [hst];exact congrArg (λz=>some (I z)) xB,O,O,O,trivial⟩ (λ_ h=>h)
  refine J.b3<|J.a0<|J.a0<|J.b4 ?_
  refine J.u (J.D j11 ?_)
  refine J.f λ_ j19=>J.q (qAJ O zeroValue146 O) O λg8 _=>J.c6 [1,2,0] [blk g8 [.pointer none,.slice none 0 0] 146,λ_=>none,F] O xC<|J.c j19<|J.k λ_ j20=>?_
  have hst3:=qE0 ls k
  refine J.H<|J.b O<|J.q (qAK O O ent (qOC F g8 146 0 [.pointer none,.slice none 0 0] none ⟨O,.inl O,O,qBZ.nil,.inl O⟩ qMT _ xB)) O ?_
  rintro⟨l57,m57⟩ ⟨A57,c57,hb57,hu57⟩
  dsimp only at hb57 hu57
  obtain ⟨s0,hs0⟩: ∃s0,ls[0]?=some s0:=⟨_,jC xB⟩
  have hs0l:s0.length≤qDw ls:=by have h1:=qGp ls 0 hs0;have h2:=qE0 ls 1;simp only [jj] at h1;omega
  refine J.c j20<|J.f λ_ j21=>J.b O<|J.g (qAF (i:=0) O O O qAn z9_ hl xB) O<|J.g (qAI O O b9_ xD (hl.elem (qAc hs0))) O<|J.q (qAK O O ent (qBU F m57 g8 146 0 l57 [] A57 c57 _ hb57 (by rw [hu57.1];exact qMT) s0 xJ)) O ?_
  rintro⟨l61,m61⟩ ⟨A61,c61,hb61,hu61⟩
  dsimp only at hb61 hu61
  have hb61:Bld g8 0 l61 m61 (qCs sep (ls.take 1)) A61 c61 (some ⟨g8,0,none⟩):=by
    have e:qCs sep (ls.take 1)= []++s0:=by cases ls with
      |nil=>simp at hs0
      |cons a r=>simp at hs0;subst hs0;simp [qCs]
    rw [e];exact hb61
  refine J.c j21<|J.k λ_ j22=>J.f λ_ j23=>J.b O<|J.g (qC0 (l:=1) (h:=n) O O qAn z9_ O O xB) O<|J.g (qAO qAn O O) O<|J.b O<|J.c j23<|J.T<|J.b5 (X:=Nat×List Value×Hp×Option Addr×Nat) (λx=> [(1,Str sep),(8,Ptr g8),(63,_),(64,I (n-1:Nat)),(65,I x.1)]) (λx=> [blk g8 x.2.1 146,x.2.2.1,F]) (λx=>x.1≤n-1∧x.2.1.length=2∧Bld g8 0 x.2.1 x.2.2.1 (qCs sep (ls.take (x.1+1))) x.2.2.2.1 x.2.2.2.2 (some ⟨g8,0,none⟩)) (λx=>n-1-x.1) (0,l61,m61,A61,c61) (⟨jE _,by rw [hu61.1,hu57.1];rfl,hb61⟩) ⟨O,O,O,O,O,trivial⟩ (λ_ h=>h) ?_
  rintro⟨k,l,m,A1,c1⟩ ⟨hk,hll,hb⟩ I3 hI3
  dsimp only at hk hll hb⊢
  have hl2:=hl.cut (lo:=1) (hi:=n) (mx:=c) xB (jJ _) hl.2.1
  refine J.f λ_ j24=>J.g (qAS O O O) O<|J.c j24<|J.k λ_ j25=>J.Z O (λh66=>?_) (λh66=>?_)
  ·
    refine J.M j25<|J.k λ_ j26=>J.T<|J.k λ_ j27=>?_
    have hkn:k+1<n:=xB
    obtain ⟨s,hs⟩: ∃s,ls[k+1]?=some s:=⟨_,jC xB⟩
    have hs2:((((qAH ls).take n).drop 1))[k]?=some [Str s]:=by rw [jq,zI,Nat.add_comm 1 k,if_pos hkn];exact qAc hs
    have hj1:=qIY sep ls (k+1)
    rw [qIX sep ls k hs] at hj1
    simp only [jA] at hj1
    refine J.H<|J.g (qAF O O O qAn z9_ hl2 xB) O<|J.g (qAI O O b9_ xD (hl2.elem hs2)) O<|J.b O<|J.c j27<|J.f λ_ j28=>J.b O<|J.q (qAK O O ent (qBU F m g8 146 0 l _ A1 c1 _ hb (by rw [hll];exact qMT) sep xB)) O ?_
    rintro⟨l70,m70⟩ ⟨A70,c70,hb70,hu70⟩
    dsimp only at hb70 hu70
    refine J.c j28<|J.H<|J.b O<|J.q (qAK O O ent (qBU F m70 g8 146 0 l70 _ A70 c70 _ hb70 (by rw [hu70.1,hll];exact qMT) s xJ)) O ?_
    rintro⟨l72,m72⟩ ⟨A72,c72,hb72,hu72⟩
    dsimp only at hb72 hu72
    rw [←qIX sep ls k hs] at hb72
    refine J.a4<|J.a2<|J.u (J.D j26 ?_)
    refine J.H<|J.g (qAR O O O xB) O<|J.b O<|J.a4<|J.u<|J.a8 (k+1,l72,m72,A72,c72) (λx (hx:_∧n-1-x.1<n-1-k)=>hI3 x hx.1 hx.2) ⟨⟨by dsimp only;omega,by rw [hu72.1,hu70.1];exact hll,hb72⟩,by dsimp only;omega⟩ ⟨O,O,O,O,O,trivial⟩ (λ_ h=>h)
  refine J.b3<|J.a0<|J.a0<|J.b4 ?_
  refine J.u (J.D j22 ?_)
  refine J.k λ_ j29=>?_
  have hend:qCs sep (ls.take (k+1))=qCs sep ls:=by rw [jV xB]
  have hj1:=qIY sep ls k
  refine J.H<|J.q (qAK O O ent (qEU F m g8 146 0 l _ A1 c1 _ hb xB)) O ?_
  rintro m74 h74
  exact J.b O<|J.c j29<|J.A<|J.E hw0 O () (by rw [hend]) trivial [2] O xC
theorem qXx(F:Hp)(A:Option Addr)(n c:Nat)(ls:List xA)(sep:xA)(hl:Sl F 1 A n c (qAH ls))(htot:(qCs sep ls).length≤35184372088832)(hn47:n≤70368744177664):
    Cz prog 248 [.slice A n c,Str sep] F (Str (qCs sep ls)):=by
  have hlen:ls.length=n:=by have:=hl.1;simpa [qAH] using this
  match ls,hl,htot,hlen with
  | [],hl,_,_=>exact qUs F A n c sep hl
  | [s],hl,_,_=>exact qUr F A n c s sep hl
  |a::b::r,hl,htot,hlen=>exact qRp F A n c _ sep hl (by simp at hlen;omega) htot hn47
def small(r:Nat):Nat:=if 65≤r∧r≤90∨913≤r∧r≤937∧r≠930∨1040≤r∧r≤1071 then r+32 else r
def qK1(r:Nat):Nat:=if 97≤small r∧small r≤122 then 1 else if 945≤small r∧small r≤969 then 2 else if 1072≤small r∧small r≤1103 then 4 else 0
def qIC(r:Nat):Bool:=decide (r=46∨r=45∨r=95∨r=64)
def qQH(c:UInt8):Bool:=qIC c.toNat
def qJx(l:List Nat)(b:Nat):Nat:=l.foldl (λb r=>b|||qK1 r) b
def good(b:Nat):Bool:=decide (b=0∨b=1∨b=2∨b=4)
theorem qTd(r:Nat):small r≤r+32:=by unfold small;split<;>omega
theorem qTv{r:Nat}(h:Rn r):Rn (small r):=by
 obtain ⟨h1,h2⟩:=h
 unfold small Rn
 split<;>omega
theorem qMU(r:Nat):qK1 r<8:=by
 unfold qK1;repeat' split
 all_goals omega
theorem qSl: ∀(l:List Nat) (b:Nat),b<8→qJx l b<8
 | [],_,h=>h
 |r::l,b,h=>qSl l (b|||qK1 r) (Nat.or_lt_two_pow (n:=3) h (qMU r))
theorem qVT(l m:List Nat)(b:Nat):qJx (l++m) b=qJx m (qJx l b):=List.foldl_append
def spl:xA→xA→List xA
 |cur,[]=> [cur]
 |cur,c::t=>if qQH c then cur::spl [] t else spl (cur++ [c]) t
def qSv:List Nat→List Nat→List (List Nat)
 |cur,[]=> [cur]
 |cur,r::t=>if qIC r then cur::qSv [] t else qSv (cur++ [r]) t
theorem qWc{c:UInt8}(h:qQH c=true)(cur t:xA):spl cur (c::t)=cur::spl [] t:=by rw [spl,if_pos h]
theorem qGr: ∀(p:xA),(∀c∈p,qQH c=false)→ ∀cur t,spl cur (p++t)=spl (cur++p) t
 | [],_,cur,t=>by rw [jR];rfl
 |c::p,h,cur,t=>by
  rw [zy,spl,if_neg (by rw [h c (.head _)];decide),qGr p (λx hx=>h x (.tail _ hx)),jX];rfl
theorem qMg{r:Nat}(h:Rn r)(hb:128≤r): ∀c∈enc r,128≤c.toNat:=by
  have:=h.1
  intro c hc
  unfold enc at hc
  rw [if_neg xB] at hc
  split at hc
  · rcases List.mem_cons.1 hc with rfl|hc
    · rw [b8 xB];omega
    · rw [List.mem_singleton.1 hc,b8 xB];omega
  split at hc
  · rcases List.mem_cons.1 hc with rfl|hc
    · rw [b8 xB];omega
    rcases List.mem_cons.1 hc with rfl|hc
    · rw [b8 xB];omega
    · rw [List.mem_singleton.1 hc,b8 xB];omega
  · rcases List.mem_cons.1 hc with rfl|hc
    · rw [b8 xB];omega
    rcases List.mem_cons.1 hc with rfl|hc
    · rw [b8 xB];omega
    rcases List.mem_cons.1 hc with rfl|hc
    · rw [b8 xB];omega
    · rw [List.mem_singleton.1 hc,b8 xB];omega
theorem qI5{c:UInt8}(h:128≤c.toNat):qQH c=false:=by unfold qQH qIC;exact decide_eq_false xB
theorem qTU{s:xA}(h:s≠ [])(hs:qIC (dec s 0).1=true):(dec s 0).2=1∧ ∃c t,s=c::t∧qQH c=true∧c.toNat=(dec s 0).1:=by
  by_cases ho:dec s 0=(65533,1)
  · rw [ho] at hs;exact absurd hs xC
  · obtain ⟨r,t,hr,rfl,hd⟩:=qLO h ho
    rw [hd] at hs⊢
    dsimp only at hs⊢
    have hr2:r<128:=by unfold qIC at hs;rw [decide_eq_true_eq] at hs;omega
    rw [qCu hr2]
    refine⟨O,_,_,O,?_,b8 xB⟩
    unfold qQH;rw [b8 xB];exact hs
theorem qTV{s:xA}(h:s≠ [])(hs:qIC (dec s 0).1=false): ∀c∈s.take (dec s 0).2,qQH c=false:=by
  by_cases ho:dec s 0=(65533,1)
  · rw [ho]
    obtain ⟨x,t,rfl⟩:=List.exists_cons_of_ne_nil h
    intro c hc
    rw [show(x::t).take 1= [x] from rfl,jS] at hc
    subst hc
    refine qI5 ?_
    by_cases hx:c.toNat<128
    · have:=qHb (r:=c.toNat) ⟨xB,xB⟩ t
      rw [qCu hx,b8e rfl] at this
      rw [show [c]++t=c::t from rfl,ho] at this
      have:=congrArg Prod.fst this
      dsimp only at this
      omega
    · omega
  · obtain ⟨r,t,hr,rfl,hd⟩:=qLO h ho
    rw [hd] at hs⊢
    dsimp only at hs⊢
    rw [List.take_left]
    by_cases hr2:r<128
    · rw [qCu hr2]
      intro c hc
      rw [List.mem_singleton.1 hc];unfold qQH;rw [b8 xB];exact hs
    · exact λc hc=>qI5 (qMg hr xB c hc)
theorem qQC: ∀(l:List Nat),(∀r∈l,Rn r)→ ∀cur,spl (unr cur) (unr l)=(qSv cur l).map unr
  | [],_,cur=>rfl
  |r::l,h,cur=>by
    have hr:=h r (.head _)
    have ih:=qQC l (λx hx=>h x (.tail _ hx))
    rw [qCd,qSv]
    by_cases hs:qIC r=true
    · have hr2:r<128:=by unfold qIC at hs;rw [decide_eq_true_eq] at hs;omega
      rw [if_pos hs,qCu hr2,jb,←ih []]
      rw [show [UInt8.ofNat r]++unr l=UInt8.ofNat r::unr l from rfl,spl,if_pos (by unfold qQH;rw [b8 xB];exact hs)];rfl
    · rw [if_neg hs,←ih,qGr,qOO]
      · rw [show unr [r]=enc r from jR _]
      · by_cases hr2:r<128
        · rw [qCu hr2]
          intro c hc
          rw [List.mem_singleton.1 hc];unfold qQH;rw [b8 xB];exact Bool.eq_false_iff.2 hs
        · exact λc hc=>qI5 (qMg hr xB c hc)
theorem qI0: ∀(l cur:List Nat) (p:List Nat),p∈qSv cur l→ ∀r∈p,r∈cur∨r∈l
  | [],cur,p,h,r,hr=>by rw [qSv,jS] at h;subst h;exact .inl hr
  |x::l,cur,p,h,r,hr=>by
    rw [qSv] at h
    split at h
    · rcases List.mem_cons.1 h with rfl|h
      · exact .inl hr
      · rcases qI0 l [] p h r hr with h|h
        · cases h
        · exact .inr (.tail _ h)
    · rcases qI0 l _ p h r hr with h|h
      · rcases List.mem_append.1 h with h|h
        · exact .inl h
        · rw [List.mem_singleton.1 h];exact .inr (.head _)
      · exact .inr (.tail _ h)
def okR(r:Nat):Bool:=decide (qK1 r≠0∨48≤r∧r≤57)||qIC r
def okP(p:xA):Bool:=decide (p≠ [])&&good (qJx (rl p) 0)
def right(s:xA):Bool:=(rl s).all okR&&(spl [] s).all okP&&decide (s.count 64≤1)
def normal(s:xA):xA×Nat:=
 if vld s=true then(if(rl s).length≤64 then(if right s=true then(unr ((rl s).map small),0) else([],5)) else([],2)) else([],4)
def qVf:Nat→Nat→Bool→List Nat→Bool
  |ats,bits,sm,[]=>sm&&good bits&&decide (ats≤1)
  |ats,bits,sm,r::t=>if qIC r=true then sm&&good bits&&qVf (if r=64 then ats+1 else ats) 0 false t
      else decide (qK1 r≠0∨48≤r∧r≤57)&&qVf ats (bits|||qK1 r) true t
theorem qLt: ∀(l:List Nat) (ats:Nat) (cur:List Nat),
    qVf ats (qJx cur 0) (decide (cur≠ [])) l=(l.all okR&&(qSv cur l).all (λp=>decide (p≠ [])&&good (qJx p 0))&&decide (ats+l.count 64≤1))
  | [],ats,cur=>by
    rw [qVf,qSv,List.all_nil,Bool.true_and,zH,List.all_nil,Bool.and_true,List.count_nil,zb]
  |r::l,ats,cur=>by
    rw [qVf,qSv]
    by_cases hs:qIC r=true
    · rw [if_pos hs,if_pos hs]
      have:=qLt l (if r=64 then ats+1 else ats) []
      rw [show qJx [] 0=0 from rfl,show decide (([]:List Nat)≠ [])=false from rfl] at this
      rw [this,zH,zH,show okR r=true from by unfold okR;rw [hs,Bool.or_true]]
      have e:decide ((if r=64 then ats+1 else ats)+l.count 64≤1)=decide (ats+(r::l).count 64≤1):=by
        rw [List.count_cons]
        by_cases h:r=64
        · subst h;rw [if_pos rfl];simp only [beq_self_eq_true,if_true];exact decide_eq_decide.2 xB
        · rw [if_neg h,if_neg (by rw [beq_iff_eq];exact h)];rfl
      rw [e,Bool.true_and]
      cases decide (cur≠ [])<;>cases good (qJx cur 0)<;>cases l.all okR<;>simp
    · rw [if_neg hs,if_neg hs]
      have:=qLt l ats (cur++ [r])
      rw [qVT,show qJx [r] (qJx cur 0)=qJx cur 0|||qK1 r from rfl,show decide (cur++ [r]≠ [])=true from decide_eq_true xD] at this
      rw [this,zH,show okR r=decide (qK1 r≠0∨48≤r∧r≤57) from by unfold okR;rw [Bool.eq_false_iff.2 hs,Bool.or_false]]
      have e:(r::l).count 64=l.count 64:=by
        rw [List.count_cons,if_neg,zb]
        intro h
        rw [beq_iff_eq] at h;subst h;exact hs O
      rw [e,Bool.and_assoc,Bool.and_assoc,Bool.and_assoc]
theorem qR9{r:Nat}(h:Rn r):(enc r).count 64=if r=64 then 1 else 0:=by
  by_cases hr:r<128
  · rw [qCu hr,List.count_singleton]
    by_cases h4:r=64
    · subst h4;rfl
    · rw [if_neg h4,if_neg]
      rw [beq_iff_eq];intro e
      have:=congrArg UInt8.toNat e
      rw [b8 xB] at this
      exact h4 this
  · rw [if_neg xB]
    refine List.count_eq_zero.2 λhm=>?_
    have:=qMg h xB _ hm
    exact absurd this xC
theorem qJ4: ∀(l:List Nat),(∀r∈l,Rn r)→(unr l).count 64=l.count 64
 | [],_=>rfl
 |r::l,h=>by
  rw [qCd,List.count_append,qJ4 l (λx hx=>h x (.tail _ hx)),qR9 (h r (.head _)),List.count_cons,Nat.add_comm]
  simp only [beq_iff_eq]
theorem qYt{l:List Nat}(h:l≠ []):unr l≠ []:=by
 obtain ⟨r,t,rfl⟩:=List.exists_cons_of_ne_nil h
 rw [qCd];simp [qHW]
theorem qSm{α:Type}{f g:α→Bool}: ∀{l:List α},(∀x∈l,f x=g x)→l.all f=l.all g
 | [],_=>rfl
 |x::l,h=>by rw [zH,zH,h x (.head _),qSm (λy hy=>h y (.tail _ hy))]
theorem qQW{l:List Nat}(h: ∀r∈l,Rn r):right (unr l)=qVf 0 0 false l:=by
 have:=qLt l 0 []
 rw [show qJx [] 0=0 from rfl,show decide (([]:List Nat)≠ [])=false from rfl] at this
 rw [this]
 unfold right
 have e:=qQC l h []
 rw [show unr []= [] from rfl] at e
 rw [qWy h,e,qJ4 l h,jj,List.all_map]
 congr 2
 refine qSm λp hp=>?_
 have hp2: ∀r∈p,Rn r:=λr hr=>by
  rcases qI0 l [] p hp r hr with h'|h'
  · cases h'
  · exact h r h'
 show okP (unr p)=_
 unfold okP
 rw [qWy hp2]
 congr 1
 by_cases h0:p= []
 · subst h0;rfl
 · rw [decide_eq_true (qYt h0),decide_eq_true h0]
theorem qOy{l:List Nat}(h: ∀r∈l,Rn r):normal (unr l)=if l.length≤64 then(if qVf 0 0 false l=true then(unr (l.map small),0) else([],5)) else([],2):=by
 unfold normal
 rw [if_pos (qYp h),qWy h,qQW h]
theorem qHZ{s:xA}{p:Nat}(h:p<s.length):s.drop p≠ []:=λe=>by
 have:=congrArg List.length e
 rw [jI,jG] at this;omega
theorem qZu{s:xA}{p:Nat}(h:p<s.length):Rn (dec s p).1:=by
  rw [qES xB]
  by_cases ho:dec (s.drop p) 0=(65533,1)
  · rw [ho];exact⟨xC,xC⟩
  · obtain ⟨r,t,hr,_,hd⟩:=qLO (qHZ h) ho
    rw [hd];exact hr
theorem qYB{s:xA}{p:Nat}(h:p<s.length)(hn:(dec s p).1≠65533):(enc (dec s p).1).length=(dec s p).2:=by
 rw [qES xB] at hn⊢
 obtain ⟨r,t,hr,_,hd⟩:=qLO (qHZ h) (λho=>by rw [ho] at hn;exact hn O)
 rw [hd]
theorem qTa{s:xA}{p:Nat}(h:p<s.length)(cur:xA)(hs:qIC (dec s p).1=true):spl cur (s.drop p)=cur::spl [] (s.drop (qKr s p)):=by
 have hd:=qES (s:=s) (pos:=p) xB
 rw [hd] at hs
 obtain ⟨h1,c,t,e,hc,_⟩:=qTU (qHZ h) hs
 rw [qD5 h,hd,h1,←zk,e,qWc hc];rfl
theorem qHs{s:xA}{p:Nat}(h:p<s.length)(cur:xA)(hs:qIC (dec s p).1=false):spl cur (s.drop p)=spl (cur++(s.take (p+(dec s p).2)).drop p) (s.drop (qKr s p)):=by
 have hd:=qES (s:=s) (pos:=p) xB
 have e:(s.take (p+(dec s p).2)).drop p=(s.drop p).take (dec s p).2:=by rw [List.drop_take];congr 1;omega
 rw [e,qD5 h,←zk]
 rw [hd] at hs⊢
 rw [←qGr _ (qTV (qHZ h) hs),zY]
theorem qUi(ds:List xA)(cur q:xA){n:Nat}(h:n=ds.length):(ds++ [cur]).set n ((ds++ [cur]).getD n []++q)=ds++ [cur++q]:=by
 subst h
 rw [jB,ja (jJ _),List.set_append_right _ _ (jJ _),jv];rfl
theorem qUI: ∀b,b<8→(b&&&(b-1)=0↔good b=true):=by decide
theorem qUk(ds:List xA)(cur:xA):(ds++ [cur]).getD ds.length []=cur:=by
 rw [jB,ja (jJ _),jv];rfl
theorem qFW: ∀(t cur:xA) (q:xA),q∈spl cur t→q.length≤cur.length+t.length
  | [],cur,q,h=>by rw [spl,jS] at h;subst h;exact jJ _
  |c::t,cur,q,h=>by
    rw [spl] at h
    rw [jD]
    split at h
    · rcases List.mem_cons.1 h with rfl|h
      · omega
      · have:=qFW t [] q h;rw [jG] at this;omega
    · have:=qFW t _ q h;rw [jA,jD,jG] at this;omega
theorem qWd(s:xA)(k:Nat):((spl [] s).getD k []).length≤s.length:=by
  by_cases h:k<(spl [] s).length
  · have:=qFW s [] ((spl [] s).getD k []) (by rw [jB,jC h];exact jQ h)
    rw [jG] at this;omega
  · rw [jB,jd xB];exact jE _
theorem qTO{l:List xA}{f:xA→Bool}{k:Nat}(h:k<l.length):(l.take (k+1)).all f=((l.take k).all f&&f (l.getD k [])):=by
 rw [List.take_add_one,jB,jC h,List.all_append];simp
theorem qN1{l:List xA}{f:xA→Bool}{k:Nat}(h:k<l.length)(hf:f (l.getD k [])=false):l.all f=false:=by
 rw [jB,jC h] at hf
 rw [List.all_eq_false];exact⟨l[k],jQ h,by simpa using hf⟩
theorem qJP{r:Nat}(h:qIC r=true):okR r=true:=by unfold okR;rw [h,Bool.or_true]
theorem qJO{r:Nat}(h:qK1 r≠0∨48≤r∧r≤57):okR r=true:=by unfold okR;rw [decide_eq_true h,Bool.true_or]
theorem qVs{r:Nat}(h:qK1 r=0)(h2: ¬(48≤r∧r≤57))(h3:qIC r=false):okR r=false:=by unfold okR;rw [h3,decide_eq_false xB];rfl
theorem qL4: ∀(t cur:xA),(spl cur t).length≤t.length+1
 | [],cur=>by rw [spl];exact jJ _
 |c::t,cur=>by
  rw [spl]
  split
  · have:=qL4 t [];rw [jD,jD];omega
  · have:=qL4 t (cur++ [c]);rw [jD];omega
def nx(s:xA):Nat×Nat:=if s= []∨dec s 0=(65533,1) then(0,0) else dec s 0
theorem qY7{l:List Nat}(h:l.all (λr=>decide (r<55296))=true): ∀r∈l,Rn r:=λr hr=>by
 have:=List.all_eq_true.1 h r hr
 rw [decide_eq_true_eq] at this
 exact⟨xB,xB⟩
theorem qIO{s:xA}{l:List Nat}{x:xA}{e:Nat}(h:s=unr l)(hr:l.all (λr=>decide (r<55296))=true)(hx:(if l.length≤64 then(if qVf 0 0 false l=true then(unr (l.map small),0) else([],5)) else([],2))=(x,e)):normal s=(x,e):=by
 rw [h,qOy (qY7 hr)];exact hx
end Go.Proofs.YtmemgokiolfdoaaGreatDoor