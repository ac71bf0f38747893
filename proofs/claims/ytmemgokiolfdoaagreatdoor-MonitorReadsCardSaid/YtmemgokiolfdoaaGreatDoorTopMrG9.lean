/- A part of the proof. -/
import Derived.Test.YtmemgokiolfdoaaGreatDoorTopMrG8
import Derived.Test.YtmemgokiolfdoaaGreatDoorRows
set_option maxRecDepth 100000
set_option maxHeartbeats 1000000
set_option linter.unusedSimpArgs false
set_option linter.unusedVariables false
namespace Go.Proofs.YtmemgokiolfdoaaGreatDoor
open Go Go.Fw Go.Proofs.Tryz
abbrev qBZ:= @isAgg102
abbrev qLu:= @isAgg25
abbrev b3_:= @isAgg3
abbrev qC4:= @isAgg302
abbrev qKf:= @isAgg32
abbrev qKe:= @isAgg34
abbrev b4_:= @isAgg4
abbrev qOS:= @isAgg47
abbrev qFC:= @isAgg49
abbrev b5_:= @isAgg5
abbrev qCA:= @isAgg50
abbrev qFl:= @isAgg52
abbrev qOR:= @isAgg73
abbrev qQ9:= @isAgg85
abbrev qGC:= @isAgg87
abbrev b9_:= @isAgg9
abbrev qAw:= @sizeOf102
abbrev qD6:= @sizeOf106
abbrev qHE:= @sizeOf114
abbrev qHD:= @sizeOf118
abbrev qCU:= @sizeOf124
abbrev qFm:= @sizeOf155
abbrev qCu:= @sizeOf199
abbrev qDX:= @sizeOf242
abbrev qKq:= @sizeOf25
abbrev z3_:= @sizeOf3
abbrev qB3:= @sizeOf302
abbrev qDp:= @sizeOf32
abbrev qDW:= @sizeOf34
abbrev qGE:= @sizeOf368
abbrev qGD:= @sizeOf371
abbrev z4_:= @sizeOf4
abbrev qKp:= @sizeOf47
abbrev qD8:= @sizeOf49
abbrev z5_:= @sizeOf5
abbrev qBt:= @sizeOf50
abbrev qC6:= @sizeOf52
abbrev qJB:= @sizeOf73
abbrev qNK:= @sizeOf85
abbrev qCl:= @sizeOf87
abbrev z9_:= @sizeOf9
abbrev u0_:= @underlying0
abbrev qCv:= @underlying102
abbrev qDY:= @underlying106
abbrev qBu:= @underlying108
abbrev qIK:= @underlying114
abbrev qCW:= @underlying116
abbrev qDS:= @underlying118
abbrev qJP:= @underlying120
abbrev qEI:= @underlying124
abbrev qFp:= @underlying126
abbrev qNW:= @underlying127
abbrev qBB:= @underlying129
abbrev qK6:= @underlying130
abbrev qHI:= @underlying140
abbrev qNV:= @underlying144
abbrev qDR:= @underlying146
abbrev qGO:= @underlying148
abbrev qK5:= @underlying155
abbrev qHH:= @underlying177
abbrev qHG:= @underlying191
abbrev qJO:= @underlying195
abbrev qCK:= @underlying199
abbrev u2_:= @underlying2
abbrev qEH:= @underlying206
abbrev qOs:= @underlying209
abbrev qIJ:= @underlying222
abbrev qGN:= @underlying232
abbrev qOr:= @underlying235
abbrev qK4:= @underlying237
abbrev qEG:= @underlying242
abbrev qFF:= @underlying244
abbrev qJN:= @underlying279
abbrev qWs:= @underlying28
abbrev u3_:= @underlying3
abbrev qJM:= @underlying302
abbrev qK3:= @underlying314
abbrev qKt:= @underlying32
abbrev qOq:= @underlying336
abbrev qON:= @underlying34
abbrev qNU:= @underlying340
abbrev qFo:= @underlying357
abbrev qNT:= @underlying368
abbrev qEX:= @underlying371
abbrev qNS:= @underlying378
abbrev u4_:= @underlying4
abbrev qJL:= @underlying403
abbrev qHF:= @underlying420
abbrev qGM:= @underlying47
abbrev qEF:= @underlying49
abbrev u5_:= @underlying5
abbrev qAj:= @underlying50
abbrev qDs:= @underlying52
abbrev qK2:= @underlying64
abbrev qOp:= @underlying65
abbrev qBm:= @underlying73
abbrev qFn:= @underlying83
abbrev qCt:= @underlying85
abbrev qDr:= @underlying87
abbrev qNR:= @underlying89
abbrev u9_:= @underlying9
abbrev qOM:= @underlying93
abbrev e0_:= @zeroValue0
abbrev qE7:= @zeroValue102
abbrev qKP:= @zeroValue148
abbrev e3_:= @zeroValue3
abbrev qXg:= @zeroValue32
abbrev qQi:= @zeroValue34
abbrev qLk:= @zeroValue371
abbrev e4_:= @zeroValue4
abbrev e5_:= @zeroValue5
abbrev qWC:= @zeroValue52
abbrev qOE:= @zeroValue87
abbrev e9_:= @zeroValue9
theorem ent{f:FuncId}(h:enB prog f=true:=by kernel_rfl):qCk prog f:=qCk.ofB h
theorem qAa{env:Env}{ms:List Hp}{o:Oper}{f:FuncId}{xs:Array Operand}{vs:List Value}{tys:Array TypeId}{X:Type}{val:X→Value}{φ:X→Prop}(ho:o.op= .call {callee:= .value (.func f),args:=xs,argTypes:=tys})(hv:evs env xs.toList=some vs)(h: ∀F,(∀m∈ms,Le m F)→Ct prog f vs [F] val φ (λ_=> [F]))(hf:enB prog f=true:=by kernel_rfl):EOp prog env ms o val φ (λ_=>ms):=qAK ho hv (ent hf) (Ct.use0 h)
theorem qBV{env:Env}{ms:List Hp}{o:Oper}{f:FuncId}{xs:Array Operand}{vs:List Value}{tys:Array TypeId}{X:Type}{val:X→Value}{φ:X→Prop}{new:X→List Hp}(ho:o.op= .call {callee:= .value (.func f),args:=xs,argTypes:=tys})(hv:evs env xs.toList=some vs)(h: ∀F,(∀m∈ms,Le m F)→Ct prog f vs [F] val φ (λx=>F::new x))(hf:enB prog f=true:=by kernel_rfl):EOp prog env ms o val φ (λx=>ms++new x):=qAK ho hv (ent hf) (Ct.use h)
theorem Tryz.wide:prog.follows .mixedOrders=true:=by kernel_rfl
theorem el102:qCR prog 102 [.int .u64 0,Str [],Str [],.int .i64 0,Str []] 64:=qCR.of xH O
theorem el3:qCR prog 3 [.int .i64 0] 8:=qCR.of xH O
theorem el5:qCR prog 5 [.int .u8 0] 1:=qCR.of xH O
theorem el9:qCR prog 9 [Str []] 16:=qCR.of xH O
theorem noEsc(v:Value)(w:World):(callFunc 251 #[v]).run prog w= .ok (.value v) w:=by kernel_rfl
theorem qES:prog.info? 146=some t146:=by kernel_rfl
structure Bld (g off:Nat) (l:List Value) (mr:Hp) (bs:xA) (A:Option Addr) (c:Nat) (p:Option Addr):Prop where
 a0:l[off]?=some (.pointer p)
 self:p=none∨p=some ⟨g,off,none⟩
 a1:l[off+1]?=some (.slice A bs.length c)
 row:qBS False mr 5 1 A bs.length c (qAf bs)
 cap:A=none∨0<c
theorem qI3(F:Hp)(g T off:Nat)(l:List Value)(hl:l[off]?=some (.pointer none))(hT:liesAt prog prog.depth T (l.length/prog.cellsOf T) off 146 1=true):
    Ct prog 194 [.pointer (some ⟨g,off,none⟩)] [blk g l T,F] (λ_:Unit=> .tuple #[]) (λ_=>True) (λ_=> [blk g (qA7 l off [.pointer (some ⟨g,off,none⟩)]) T,F]):=by
  have hoff:off<l.length:=(List.getElem?_eq_some_iff.1 hl).1
  refine Ct.walk func194 O ntmps194 O (λw0 hw0=>?_)
  refine J.f λ_ j1=>J.b O<|J.g (qAB O O) O<|J.g (qAA O O qDR O sizeOf144 O) O<|J.g (qAC 0 O O O isAgg144 hl) O<|J.g (qA2 qNV O O O) O<|J.c j1<|J.c4 ?_
  exact J.H<|J.j 2 O<|J.g (qLG O O qNV underlying360 qES xC (m:=blk g l T) xD (qAc _ _) (by simpa using hoff)) O<|J.q (qVP O O noEsc) O λg10 _=>J.g (qIi O O underlying360 qNV qES (m:=blk g l T) xD (qAc _ _) (by simpa using hT)) O<|J.g (qAB O O) O<|J.g (qAA (j:=off) O O qDR O sizeOf144 O) O<|J.a8 (qAV (i:=0) (vs:= [.pointer (some ⟨g,off,none⟩)]) O O O O O sizeOf144 O (by simp only [jD,jG];omega)) O O λ_ _=>J.a4<|J.d3 hw0 (λ_ _ h=>h) (qIU O) (qAg () O trivial [0,1] O xC)
theorem qHN(F:Hp)(g T off:Nat)(l:List Value)(hl:l[off]?=some (.pointer (some ⟨g,off,none⟩))):
    Ct prog 194 [.pointer (some ⟨g,off,none⟩)] [blk g l T,F] (λ_:Unit=> .tuple #[]) (λ_=>True) (λ_=> [blk g l T,F]):=by
  refine Ct.walk func194 O ntmps194 O (λw0 hw0=>?_)
  refine J.f λ_ j1=>J.b O<|J.g (qAB O O) O<|J.g (qAA O O qDR O sizeOf144 O) O<|J.g (qAC 0 O O O isAgg144 hl) O<|J.g (qA2 qNV O O O) O<|J.c j1<|J.a3 ?_
  refine J.f λ_ j2=>J.b O<|J.g (qAB O O) O<|J.g (qAA O O qDR O sizeOf144 O) O<|J.g (qAC 0 O O O isAgg144 hl) O<|J.b O<|J.g (qNt qNV qES O O O) O<|J.c j2<|J.a3 ?_
  exact J.b2<|J.d3 hw0 (λ_ _ h=>h) (qIU O) (qAg () O trivial [0,1] O xC)
theorem qHd{l:List Value}{k:Nat}{v:Value}(h:l[k]?=some v):qA7 l k [v]=l:=by
 obtain ⟨hk,rfl⟩:=List.getElem?_eq_some_iff.1 h
 unfold qA7
 rw [jW,List.singleton_append,jL,←zC hk,zW]
theorem qCx{l:List Value}{k:Nat}{v:Value}(hk:k<l.length):(qA7 l k [v])[k]?=some v:=by
 unfold qA7
 rw [jW,jd xJ]
 simp [jo (Nat.le_of_lt hk)]
theorem qBn{l:List Value}{k j:Nat}{v:Value}(hk:k<l.length)(hj:j≠k):(qA7 l k [v])[j]?=l[j]?:=by
  unfold qA7
  rw [jW,List.getElem?_append,List.getElem?_append]
  simp only [jE,jo (Nat.le_of_lt hk),jL]
  by_cases h1:j<k
  · rw [if_pos h1,zI,if_pos h1]
  · rw [if_neg h1,if_neg xB,jp]
    congr 1;omega
theorem qCw{l:List Value}{k:Nat}{v:Value}(hk:k<l.length):(qA7 l k [v]).length=l.length:=by
 unfold qA7
 simp;omega
theorem qDl(F:Hp)(g T off:Nat)(l:List Value)(p:Option Addr)(hl:l[off]?=some (.pointer p))(hp:p=none∨p=some ⟨g,off,none⟩)(hT:liesAt prog prog.depth T (l.length/prog.cellsOf T) off 146 1=true):
    Ct prog 194 [.pointer (some ⟨g,off,none⟩)] [blk g l T,F] (λ_:Unit=> .tuple #[]) (λ_=>True) (λ_=> [blk g (qA7 l off [.pointer (some ⟨g,off,none⟩)]) T,F]):=by
  rcases hp with rfl|rfl
  · exact qI3 F g T off l hl hT
  · rw [qHd hl];exact qHN F g T off l hl
theorem qV7:qCk prog 194:=qCk.of func194 O xH
def Upd(off:Nat)(l l':List Value):Prop:=l'.length=l.length∧ ∀j,j≠off→j≠off+1→l'[j]?=l[j]?
theorem Upd.trans{off:Nat}{a b c:List Value}(h:Upd off a b)(h':Upd off b c):Upd off a c:=⟨h'.1.trans h.1,λj h1 h2=>(h'.2 j h1 h2).trans (h.2 j h1 h2)⟩
theorem qI8{g off:Nat}{l:List Value}{mr mr':Hp}{bs bs':xA}{A A':Option Addr}{c c':Nat}{p:Option Addr}(hb:Bld g off l mr bs A c p)(hr:qBS False mr' 5 1 A' bs'.length c' (qAf bs'))(hc:A'=none∨0<c'):
    Bld g off (qA7 (qA7 l off [.pointer (some ⟨g,off,none⟩)]) (off+1) [.slice A' bs'.length c']) mr' bs' A' c' (some ⟨g,off,none⟩)∧Upd off l (qA7 (qA7 l off [.pointer (some ⟨g,off,none⟩)]) (off+1) [.slice A' bs'.length c']):=by
  have h1:off+1<l.length:=(List.getElem?_eq_some_iff.1 hb.a1).1
  have h0:off<l.length:=xB
  have hl1:=qCw (v:=Value.pointer (some ⟨g,off,none⟩)) h0
  have h1':off+1<(qA7 l off [.pointer (some ⟨g,off,none⟩)]).length:=xB
  refine⟨⟨?_,.inr O,?_,hr,hc⟩,by rw [qCw h1',hl1],λj hj hj'=>?_⟩
  · rw [qBn h1' xB,qCx h0]
  · exact qCx h1'
  · rw [qBn h1' hj',qBn h0 hj]
theorem qUs{m:Hp}{e:TypeId}{A:Option Addr}{n c:Nat}{xs:List (List Value)}(h:qBS False m e 1 A n c xs)(hn:0<n):A=none∨0<c:= .inr (zZ hn h.2.2.1)
theorem qJI(F mr:Hp)(g T off:Nat)(l:List Value)(bs:xA)(A:Option Addr)(c:Nat)(p:Option Addr)(hb:Bld g off l mr bs A c p)(hT:liesAt prog prog.depth T (l.length/prog.cellsOf T) off 146 1=true)(b:UInt8)(hlen:bs.length<70368744177664):
    Ct prog 208 [.pointer (some ⟨g,off,none⟩),B8 b] [blk g l T,mr,F] (λ_:List Value×Hp=> .nilIface) (λx=> ∃A c,Bld g off x.1 x.2 (bs++ [b]) A c (some ⟨g,off,none⟩)∧Upd off l x.1) (λx=> [blk g x.1 T,x.2,F]):=by
  have hoff:off+1<l.length:=(List.getElem?_eq_some_iff.1 hb.a1).1
  have hoff0:off<l.length:=xB
  refine Ct.walk func208 O ntmps208 O (λw0 hw0=>?_)
  refine J.f λ_ j1=>J.b O<|J.c j1<|J.f λ_ j2=>J.b O<|J.q (qAK O O qV7 (Ct.useA [blk g l T] [mr,F] (A':=λ_:Unit=> [blk g (qA7 l off [.pointer (some ⟨g,off,none⟩)]) T]) (new:=λ_=> []) (λF' _=>qDl F' g T off l p hb.a0 hb.self hT))) O λg6 _=>J.c j2<|J.f λ_ j3=>J.j 2 O<|J.g (qAB O O) O<|J.g (qAA (j:=off+1) O O qDR O qJB O) O<|J.g (qAC 0 O O O qOR ((qBn hoff0 xB).trans hb.a1)) O<|J.b O<|J.q (qAE (l:= [.tmp 12]) (xs:= [[B8 b]]) O O O O qBm el5 O xC xC xD) O λg13 _=>J.q (qAW (i:=1) (m2:=blk g13 [B8 b] 5) O O O qBm qBm el5 O hb.row xD (qAm (q:=True) (xs:= [[B8 b]]) O xD).sl O xB xB) O ?_
  rintro⟨A14,c14,m14⟩ h14
  try dsimp only at h14
  have hbp:=qI8 (bs':=bs++ [b]) (A':=A14) (c':=c14) (mr':=m14) hb (by simpa [qAf] using h14) (qUs h14 xB)
  simp only [jA,jL] at hbp
  exact J.g (qAB O O) O<|J.g (qAA O O qDR O qJB O) O<|J.a8 (qAV (i:=0) O O O O O qJB O (by rw [qCw hoff0];exact hoff)) O O λ_ _=>J.c j3<|J.f λ_ j4=>J.b O<|J.c j4<|J.A<|J.E hw0 O (_,m14) O ⟨A14,c14,hbp⟩ [0,1,2] O xC
theorem qBK(F mr:Hp)(g T off:Nat)(l:List Value)(bs:xA)(A:Option Addr)(c:Nat)(p:Option Addr)(hb:Bld g off l mr bs A c p)(hT:liesAt prog prog.depth T (l.length/prog.cellsOf T) off 146 1=true)(s:xA)(hlen:bs.length+s.length<70368744177664):
    Ct prog 111 [.pointer (some ⟨g,off,none⟩),Str s] [blk g l T,mr,F] (λ_:List Value×Hp=> .tuple #[I s.length,.nilIface]) (λx=> ∃A c,Bld g off x.1 x.2 (bs++s) A c (some ⟨g,off,none⟩)∧Upd off l x.1) (λx=> [blk g x.1 T,x.2,F]):=by
  have hoff:off+1<l.length:=(List.getElem?_eq_some_iff.1 hb.a1).1
  have hoff0:off<l.length:=xB
  refine Ct.walk func111 O ntmps111 O (λw0 hw0=>?_)
  refine J.f λ_ j1=>J.j 2 O<|J.c j1<|J.f λ_ j2=>J.b O<|J.q (qAK O O qV7 (Ct.useA [blk g l T] [mr,F] (A':=λ_:Unit=> [blk g (qA7 l off [.pointer (some ⟨g,off,none⟩)]) T]) (new:=λ_=> []) (λF' _=>qDl F' g T off l p hb.a0 hb.self hT))) O λg7 _=>J.c j2<|J.f λ_ j3=>J.j 2 O<|J.g (qAB O O) O<|J.g (qAA (j:=off+1) O O qDR O qJB O) O<|J.g (qAC 0 O O O qOR ((qBn hoff0 xB).trans hb.a1)) O<|J.b O<|J.q (qNv (i:=1) O O O qBm u9_ el5 O hb.row xB xB) O ?_
  rintro⟨A14,c14,m14⟩ h14
  try dsimp only at h14
  obtain ⟨h14,hcap⟩:=h14
  have hbp:=qI8 (bs':=bs++s) (A':=A14) (c':=c14) (mr':=m14) hb (by simpa [qAf] using h14) (hcap hb.cap)
  simp only [jA] at hbp
  exact J.g (qAB O O) O<|J.g (qAA O O qDR O qJB O) O<|J.a8 (qAV (i:=0) O O O O O qJB O (by rw [qCw hoff0];exact hoff)) O O λ_ _=>J.c j3<|J.f λ_ j4=>J.b O<|J.g (qAp u9_ O O) O<|J.j 2 O<|J.c j4<|J.A<|J.a9 hw0 (λ_ _ h=>h) (qBk O O O) (qAg (_,m14) O ⟨A14,c14,hbp⟩ [0,1,2] O xC)
theorem qD5(F mr:Hp)(g T off:Nat)(l:List Value)(bs:xA)(A:Option Addr)(c:Nat)(p:Option Addr)(hb:Bld g off l mr bs A c p)(hlen:bs.length<70368744177664):
    Ct prog 113 [.pointer (some ⟨g,off,none⟩)] [blk g l T,mr,F] (λ_:Hp=>Str bs) (λm=>Bld g off l m bs A c p) (λm=> [blk g l T,m,F]):=by
  refine Ct.walk func113 O ntmps113 O (λw0 hw0=>?_)
  refine J.f λ_ j1=>J.b O<|J.c j1<|J.p λ_ j2=>J.b1 [blk g l T,F] [] (.y 0 (.y 1 (.y 2 (.y 3 (.y 4 (.y 5 (.y 6 (.y 7 (.y 8 (.y 9 (.e 10 (.y 11 .nil)))))))))))) Tryz.wide xF xD ?_
  refine J.L ?_
  refine J.k O (qAB O O) O O<|J.k O (qAA O O qDR O qJB O) O O<|J.k O (qAC 0 O O O qOR hb.a1) O O<|J.k O (qJq O O hb.cap) O O<|J.L ?_
  refine J.k O (qAB O O) O O<|J.k O (qAA O O qDR O qJB O) O O<|J.k O (qAC 0 O O O qOR hb.a1) O O<|J.k O (qAP qBm O O) O O<|J.a2 O (qGg (i:=1) O O O underlying307 O O hb.row xB) O xD ?_
  rintro m13 h13
  refine J.b7 ?_
  refine J.b0<|J.u (J.D j2 ?_)
  exact J.A<|J.E hw0 O m13 O ⟨hb.a0,hb.self,hb.a1,h13,hb.cap⟩ [0,1,2] O xC
theorem mnz(v:Value)(w:World):(callFunc 252 #[v]).run prog w=(do let x←Extern.BytealgMakeNoZero.makeNoZero #[3] #[73] #[v];pure (.value x):Sem Next).run prog w:=by kernel_rfl
theorem qTR(F:Hp)(g T off:Nat)(l:List Value)(hl:l[off+1]?=some (.slice none 0 0))(n:Nat)(hn:n≤70368744177664):
    Ct prog 195 [.pointer (some ⟨g,off,none⟩),I n] [blk g l T,F] (λ_:Nat×Nat×List Value=> .tuple #[]) (λx=>n≤x.2.1∧x.2.2.length=x.2.1) (λx=> [blk g (qA7 l (off+1) [.slice (some ⟨x.1,0,none⟩) 0 x.2.1]) T,F,blk x.1 x.2.2 5]):=by
  have hoff:off+1<l.length:=(List.getElem?_eq_some_iff.1 hl).1
  refine Ct.walk func195 O ntmps195 O (λw0 hw0=>?_)
  refine J.p λ_ j1=>J.b1 [blk g l T,F] [] (.y 0 (.y 1 (.y 2 (.y 3 (.y 4 (.y 5 (.y 6 (.y 7 (.y 9 (.y 10 (.y 11 (.y 12 (.y 13 (.e 8 (.y 14 (.y 15 .nil)))))))))))))))) Tryz.wide xF xD ?_
  refine J.L ?_
  refine J.k O (qAB O O) O O<|J.k O (qAA O O qDR O qJB O) O O<|J.k O (qAC 0 O O O qOR hl) O O<|J.k O (qTu qBm O O) O O<|J.k O (qDP O O O xB) O O<|J.L ?_
  refine J.k O ((qAR O O O xB).as (v':=I n) xD) O O<|J.L ?_
  refine J.k O (qAB O O) O O<|J.k O (qAA O O qDR O qJB O) O O<|J.k O (qAC 0 O O O qOR hl) O O<|J.k O (qAP qBm O O) O O<|J.a2 O (qW9 O O mnz qBm xB) O xD ?_
  rintro⟨g13,c13,l13⟩ h13
  try dsimp only at h13
  refine J.k O (qBy O O qBm z5_ O xB) O O<|J.b7 ?_
  refine J.b0<|J.u (J.D j1 ?_)
  exact J.f λ_ j2=>J.j 2 O<|J.g (qAB O O) O<|J.g (qAA O O qDR O qJB O) O<|J.g (qAC 0 O O O qOR hl) O<|J.q (qST O O O qBm el5) O λg25 _=>J.c j2<|J.H<|J.j 2 O<|J.g (qAB O O) O<|J.g (qAA O O qDR O qJB O) O<|J.a8 (qAV (i:=0) O O O O O qJB O (by exact hoff)) O O λ_ _=>J.a4<|J.d3 hw0 (λ_ _ h=>h) (qIU O) (qAg (g13,c13,l13) O h13 [0,1,2] O xC)
theorem qNF(F:Hp)(g T off:Nat)(l:List Value)(p:Option Addr)(hb:Bld g off l (λ_=>none) [] none 0 p)(hT:liesAt prog prog.depth T (l.length/prog.cellsOf T) off 146 1=true)(n:Nat)(hn:n≤70368744177664):
    Ct prog 110 [.pointer (some ⟨g,off,none⟩),I n] [blk g l T,λ_=>none,F] (λ_:List Value×Hp=> .tuple #[]) (λx=> ∃A c,Bld g off x.1 x.2 ([]) A c (some ⟨g,off,none⟩)∧Upd off l x.1) (λx=> [blk g x.1 T,x.2,F]):=by
  have hoff:off+1<l.length:=(List.getElem?_eq_some_iff.1 hb.a1).1
  have hoff0:off<l.length:=xB
  refine Ct.walk func110 O ntmps110 O (λw0 hw0=>?_)
  refine J.f λ_ j1=>J.b O<|J.q (qAK O O qV7 (Ct.useA [blk g l T] [(λ_=>none),F] (A':=λ_:Unit=> [blk g (qA7 l off [.pointer (some ⟨g,off,none⟩)]) T]) (new:=λ_=> []) (λF' _=>qDl F' g T off l p hb.a0 hb.self hT))) O λg5 _=>J.c j1<|J.p λ_ j2=>J.f λ_ j3=>J.b O<|J.g (qAQ O O O) O<|J.c j3<|J.e2 O (xD) ?_
  refine J.M j2<|J.p λ_ j4=>J.b1 [blk g (qA7 l off [.pointer (some ⟨g,off,none⟩)]) T,(λ_=>none),F] [] (.y 0 (.y 1 (.y 2 (.y 3 (.y 4 (.y 5 (.y 6 (.y 7 (.y 8 (.y 9 (.y 10 (.y 11 (.y 12 .nil))))))))))))) Tryz.wide xF xD ?_
  refine J.L ?_
  refine J.k O (qAB O O) O O<|J.k O (qAA (j:=off+1) O O qDR O qJB O) O O<|J.k O (qAC 0 O O O qOR ((qBn hoff0 xB).trans hb.a1)) O O<|J.k O (qTu qBm O O) O O<|J.L ?_
  refine J.k O (qAB O O) O O<|J.k O (qAA (j:=off+1) O O qDR O qJB O) O O<|J.k O (qAC 0 O O O qOR ((qBn hoff0 xB).trans hb.a1)) O O<|J.k O (qAP qBm O O) O O<|J.k O (qA1 (a:=0) (b:=0) O O O xB) O O<|J.L ?_
  refine J.k O (qAQ O O O) O O<|J.b0<|J.u (J.D j4 ?_)
  refine J.Z O (λh21=>?_) (λh21=>?_)
  ·
    refine J.H<|J.j 2 O<|J.q (qAK O O ent (Ct.useA [blk g (qA7 l off [.pointer (some ⟨g,off,none⟩)]) T] [λ_=>none,F] (A':=λx:Nat×Nat×List Value=> [blk g (qA7 (qA7 l off [.pointer (some ⟨g,off,none⟩)]) (off+1) [.slice (some ⟨x.1,0,none⟩) 0 x.2.1]) T]) (new:=λx=> [blk x.1 x.2.2 5]) (λF' _=>qTR F' g T off (qA7 l off [.pointer (some ⟨g,off,none⟩)]) ((qBn hoff0 xB).trans hb.a1) n hn))) O ?_
    rintro⟨g24,c24,l24⟩ h24
    try dsimp only at h24
    refine J.a4 ?_
    have hbp:=qI8 (bs':= []) (A':=some ⟨g24,0,none⟩) (c':=c24) (mr':=blk g24 l24 5) hb (qGX (xs:= []) (rest:=l24) (lo:=0) (hi:=0) O O xD (by simpa using h24.2) (jF _) (.inl O)) (.inr xB)
    simp only [jG] at hbp
    exact J.d3 hw0 (λ_ _ h=>h) (qIU O) (qAg (_,blk g24 l24 5) O ⟨some ⟨g24,0,none⟩,c24,hbp⟩ [0,3,2] O xC)
  refine J.b2 ?_
  have hbp:=qI8 (bs':= []) (A':=none) (c':=0) (mr':=λ_=>none) hb qBS.nil (.inl O)
  have e1:=qHd ((qBn (v:= .pointer (some ⟨g,off,none⟩)) hoff0 xB).trans hb.a1)
  simp only [jG] at e1 hbp
  rw [e1] at hbp
  exact J.d3 hw0 (λ_ _ h=>h) (qIU O) (qAg (_,λ_=>none) O ⟨none,0,hbp⟩ [0,1,2] O xC)
def qCY(sep:xA):List xA→xA
 | []=> []
 |a::r=>a++(r.map λx=>sep++x).flatten
theorem qKA: ∀ls,qCY [] ls=ls.flatten
 | []=>rfl
 |a::r=>by simp [qCY]
def qDa(ls:List xA):Nat:=(ls.map List.length).sum
theorem qGQ(ls:List xA)(k:Nat){s:xA}(h:ls[k]?=some s):qDa (ls.take (k+1))=qDa (ls.take k)+s.length:=by
 obtain ⟨hk,rfl⟩:=List.getElem?_eq_some_iff.1 h
 unfold qDa
 rw [jI hk,jO,List.sum_append];rfl
theorem qEZ(ls:List xA)(k:Nat):qDa (ls.take k)≤qDa ls:=by
 unfold qDa
 conv=>rhs;rw [←zW k ls,jO,List.sum_append]
 omega
theorem qDk(sep:xA): ∀(ls:List xA),(qCY sep ls).length=qDa ls+sep.length*(ls.length-1)
 | []=>by simp [qCY,qDa]
 |a::r=>by
  have h: ∀r:List xA,(r.map λx=>sep++x).flatten.length=(r.map List.length).sum+sep.length*r.length:=by
   intro r
   induction r with
   |nil=>rfl
   |cons x r ih=>
    simp only [jf,ji,jA,List.sum_cons,jD,Nat.mul_add,ih]
    omega
  simp [qCY,qDa,h];omega
theorem qHy(sep:xA)(ls:List xA)(k:Nat){s:xA}(h:ls[k+1]?=some s):qCY sep (ls.take (k+2))=qCY sep (ls.take (k+1))++sep++s:=by
 cases ls with
 |nil=>simp at h
 |cons a r=>
  simp only [List.getElem?_cons_succ] at h
  obtain ⟨hk,rfl⟩:=List.getElem?_eq_some_iff.1 h
  simp only [List.take_succ_cons,qCY]
  rw [jI hk,jO,zK]
  simp only [jf,zQ,ji,zO,jU,jW]
theorem qHz(sep:xA)(ls:List xA)(k:Nat):(qCY sep (ls.take (k+1))).length≤(qCY sep ls).length:=by
 rw [qDk,qDk]
 have h1:=qEZ ls (k+1)
 have h2:(ls.take (k+1)).length≤ls.length:=by simp;omega
 have h3:sep.length*((ls.take (k+1)).length-1)≤sep.length*(ls.length-1):=Nat.mul_le_mul_left _ xB
 omega
theorem qLV:liesAt prog prog.depth 146 (2/prog.cellsOf 146) 0 146 1=true:=by kernel_rfl
theorem qUl(a b M:Int)(hb:0<b)(h:a*b+b≤M):a+1≤M/b:=by
 rw [Int.le_ediv_iff_mul_le hb,Int.add_mul];omega
theorem qSy(F:Hp)(A:Option Addr)(n c:Nat)(sep:xA)(hl:Sl F 1 A n c (qAH [])):
    Cz prog 248 [.slice A n c,Str sep] F (Str (qCY sep [])):=by
  have hn:n=0:=hl.1.symm
  subst hn
  refine Ct.walk func248 O ntmps248 O (λw0 hw0=>?_)
  refine J.f λ_ j1=>J.b O<|J.c j1<|J.p λ_ j2=>J.f λ_ j3=>J.b O<|J.g (qAP qAj O O) O<|J.c j3<|J.T<|J.f λ_ j4=>J.g (qAZ O O O) O<|J.b O<|J.c j4<|J.c4 ?_
  exact J.f λ_ j5=>J.b O<|J.c j5<|J.A<|J.a6<|J.V<|J.E hw0 O () O trivial [0] O xC
theorem qSx(F:Hp)(A:Option Addr)(n c:Nat)(s:xA)(sep:xA)(hl:Sl F 1 A n c (qAH [s])):
    Cz prog 248 [.slice A n c,Str sep] F (Str (qCY sep [s])):=by
  have hn:n=1:=hl.1.symm
  subst hn
  refine Ct.walk func248 O ntmps248 O (λw0 hw0=>?_)
  refine J.f λ_ j1=>J.b O<|J.c j1<|J.p λ_ j2=>J.f λ_ j3=>J.b O<|J.g (qAP qAj O O) O<|J.c j3<|J.T<|J.f λ_ j4=>J.g (qAZ O O O) O<|J.b O<|J.c j4<|J.e2 O (O) ?_
  refine J.f λ_ j5=>J.g (qAZ O O O) O<|J.b O<|J.c j5<|J.g4 O (O) ?_
  exact J.f λ_ j6=>J.b O<|J.g (qAF O O O qAj z9_ hl xC) O<|J.g (qAI O O b9_ xD (hl.elem (qAb (k:=0) O))) O<|J.b O<|J.c j6<|J.A<|J.a6<|J.V<|J.E hw0 O () (by simp [qCY]) trivial [0] O xC
theorem qQL(F:Hp)(A:Option Addr)(n c:Nat)(ls:List xA)(sep:xA)(hl:Sl F 1 A n c (qAH ls))(h2:2≤n)(htot:(qCY sep ls).length≤35184372088832)(hn47:n≤70368744177664):
    Cz prog 248 [.slice A n c,Str sep] F (Str (qCY sep ls)):=by
  have hlen:ls.length=n:=by have:=hl.1;simpa [qAH] using this
  have hjl:=qDk sep ls
  rw [hlen] at hjl
  have hq:(sep.length:Int)*((n:Int)-1)=((sep.length*(n-1):Nat):Int):=by rw [yF];congr 1;omega
  have hB0: ¬0<(sep.length:Int)→sep.length*(n-1)=0:=λh=>by rw [show sep.length=0 by omega,Nat.zero_mul]
  have hsm:sep.length≤35184372088832:=by
    have:sep.length*1≤sep.length*(n-1):=Nat.mul_le_mul_left _ xB
    omega
  have hdiv:(sep.length:Int)+1≤9223372036854775807/((n:Int)-1):=qUl _ _ _ xB (by rw [hq];omega)
  have hnc:=hl.2.1
  obtain ⟨B,hB⟩: ∃B,sep.length*(n-1)=B:=⟨_,rfl⟩
  rw [hB] at hjl hq hB0
  generalize hD:(9223372036854775807:Int)/((n:Int)-1)=D at hdiv
  have H2:(0:Int)≤9223372036854775807∧0<(n:Int)-1∧(9223372036854775807:Int)≤9223372036854775807:=xB
  refine Ct.walk func248 O ntmps248 O (λw0 hw0=>?_)
  refine J.f λ_ j1=>J.b O<|J.c j1<|J.p λ_ j2=>J.f λ_ j3=>J.b O<|J.g (qAP qAj O O) O<|J.c j3<|J.T<|J.f λ_ j4=>J.g (qAZ O O O) O<|J.b O<|J.c j4<|J.e2 O (xJ) ?_
  refine J.f λ_ j5=>J.g (qAZ O O O) O<|J.b O<|J.c j5<|J.e2 O (xJ) ?_
  refine J.b2<|J.a1<|J.u (J.D j2 ?_)
  refine J.f λ_ j6=>J.b O<|J.c j6<|J.d6 (λ_:Unit=> [(0,.slice A n c),(1,Str sep),(5,I (B:Int))]) (λ_=> [F]) (λ_=>True) (λ_ j7=>?_) ?_
  ·
    refine J.f λ_ j8=>J.b O<|J.g (qAp u9_ O O) O<|J.g (qA0 O O O) O<|J.c j8<|J.Z O (λh22=>?_) (λh22=>?_)
    ·
      refine J.p λ_ j9=>J.f λ_ j10=>J.b O<|J.g (qAp u9_ O O) O<|J.b O<|J.g (qAP qAj O O) O<|J.g (qA1 O O O xB) O<|J.g ((qHl O O O H2).as (congrArg I hD)) O<|J.g (qBA O O O) O<|J.c j10<|J.e2 O (xJ) ?_
      exact J.M j9<|J.H<|J.j 2 O<|J.g (qAp u9_ O O) O<|J.b O<|J.g (qAP qAj O O) O<|J.g (qA1 O O O xB) O<|J.g ((qDP O O O (by rw [hq];omega)).as (v':=I (B:Int)) (by rw [hq])) O<|J.g ((qAR O O O xB).as (v':=I (B:Int)) xD) O<|J.b O<|J.a4<|J.u<|J.a7 () j7 trivial ⟨O,O,O,trivial⟩ (λ_ h=>h)
    exact J.b2<|J.u<|J.a7 () j7 trivial ⟨O,O,by rw [hB0 h22];rfl,trivial⟩ (λ_ h=>h)
  rintro _ _
  refine J.p λ_ j11=>J.f λ_ j12=>J.b O<|J.g (qAP qAj O O) O<|J.b O<|J.c j12<|J.T<|J.b6 (λk:Nat=> [(0,.slice A n c),(1,Str sep),(5,I (B+qDa (ls.take k):Nat)),(39,.slice A n c),(40,I n),(41,I k)]) (λ_=> [F]) (λk=>k≤n) (λk=>n-k) 0 (jF _) ⟨O,O,O,O,O,O,trivial⟩ (λ_ h=>h) ?_
  intro k hk I1 hI1
  refine J.f λ_ j13=>J.g (qAQ O O O) O<|J.c j13<|J.p λ_ j14=>J.Z O (λh42=>?_) (λh42=>?_)
  ·
    refine J.M j14<|J.p λ_ j15=>J.T<|J.p λ_ j16=>?_
    have hkn:k<n:=xB
    obtain ⟨s,hs⟩: ∃s,ls[k]?=some s:=⟨_,jC xB⟩
    have hst:=qGQ ls k hs
    have hst2:=qEZ ls (k+1)
    refine J.H<|J.g (qAF O O O qAj z9_ hl hkn) O<|J.g (qAI O O b9_ xD (hl.elem (qAb hs))) O<|J.b O<|J.c j16<|J.p λ_ j17=>J.f λ_ j18=>J.b O<|J.g (qAp u9_ O O) O<|J.b O<|J.g (qA1 O O O xB) O<|J.g (qA0 O O O) O<|J.c j18<|J.e2 O (xJ) ?_
    refine J.M j17<|J.H<|J.j 2 O<|J.g (qAp u9_ O O) O<|J.g (qAR O O O xB) O<|J.b O<|J.a4<|J.a1<|J.u (J.D j15 ?_)
    exact J.H<|J.g (qAR O O O xB) O<|J.b O<|J.a4<|J.u<|J.a7 (k+1) (λx (hx:x≤n∧n-x<n-k)=>hI1 x hx.1 hx.2) ⟨xB,xB⟩ ⟨O,O,by rw [hst];exact congrArg (λz=>some (I z)) xB,O,O,O,trivial⟩ (λ_ h=>h)
  refine J.b4<|J.a0<|J.a0<|J.b5 ?_
  refine J.u (J.D j11 ?_)
  refine J.f λ_ j19=>J.q (qAJ O zeroValue146 O) O λg8 _=>J.c5 [1,2,0] [blk g8 [.pointer none,.slice none 0 0] 146,λ_=>none,F] O xC<|J.c j19<|J.p λ_ j20=>?_
  have hst3:=qEZ ls k
  refine J.H<|J.b O<|J.q (qAK O O ent (qNF F g8 146 0 [.pointer none,.slice none 0 0] none ⟨O,.inl O,O,qBS.nil,.inl O⟩ qLV _ xB)) O ?_
  rintro⟨l57,m57⟩ ⟨A57,c57,hb57,hu57⟩
  dsimp only at hb57 hu57
  obtain ⟨s0,hs0⟩: ∃s0,ls[0]?=some s0:=⟨_,jC xB⟩
  have hs0l:s0.length≤qDa ls:=by have h1:=qGQ ls 0 hs0;have h2:=qEZ ls 1;simp only [jj] at h1;omega
  refine J.c j20<|J.f λ_ j21=>J.b O<|J.g (qAF (i:=0) O O O qAj z9_ hl xB) O<|J.g (qAI O O b9_ xD (hl.elem (qAb hs0))) O<|J.q (qAK O O ent (qBK F m57 g8 146 0 l57 [] A57 c57 _ hb57 (by rw [hu57.1];exact qLV) s0 xJ)) O ?_
  rintro⟨l61,m61⟩ ⟨A61,c61,hb61,hu61⟩
  dsimp only at hb61 hu61
  have hb61:Bld g8 0 l61 m61 (qCY sep (ls.take 1)) A61 c61 (some ⟨g8,0,none⟩):=by
    have e:qCY sep (ls.take 1)= []++s0:=by cases ls with
      |nil=>simp at hs0
      |cons a r=>simp at hs0;subst hs0;simp [qCY]
    rw [e];exact hb61
  refine J.c j21<|J.p λ_ j22=>J.f λ_ j23=>J.b O<|J.g (qCd (l:=1) (h:=n) O O qAj z9_ O O xB) O<|J.g (qAP qAj O O) O<|J.b O<|J.c j23<|J.T<|J.b6 (X:=Nat×List Value×Hp×Option Addr×Nat) (λx=> [(1,Str sep),(8,Ptr g8),(63,_),(64,I (n-1:Nat)),(65,I x.1)]) (λx=> [blk g8 x.2.1 146,x.2.2.1,F]) (λx=>x.1≤n-1∧x.2.1.length=2∧Bld g8 0 x.2.1 x.2.2.1 (qCY sep (ls.take (x.1+1))) x.2.2.2.1 x.2.2.2.2 (some ⟨g8,0,none⟩)) (λx=>n-1-x.1) (0,l61,m61,A61,c61) (⟨jF _,by rw [hu61.1,hu57.1];rfl,hb61⟩) ⟨O,O,O,O,O,trivial⟩ (λ_ h=>h) ?_
  rintro⟨k,l,m,A1,c1⟩ ⟨hk,hll,hb⟩ I3 hI3
  dsimp only at hk hll hb⊢
  have hl2:=hl.cut (lo:=1) (hi:=n) (mx:=c) xB (jK _) hl.2.1
  refine J.f λ_ j24=>J.g (qAQ O O O) O<|J.c j24<|J.p λ_ j25=>J.Z O (λh66=>?_) (λh66=>?_)
  ·
    refine J.M j25<|J.p λ_ j26=>J.T<|J.p λ_ j27=>?_
    have hkn:k+1<n:=xB
    obtain ⟨s,hs⟩: ∃s,ls[k+1]?=some s:=⟨_,jC xB⟩
    have hs2:((((qAH ls).take n).drop 1))[k]?=some [Str s]:=by rw [jp,zI,Nat.add_comm 1 k,if_pos hkn];exact qAb hs
    have hj1:=qHz sep ls (k+1)
    rw [qHy sep ls k hs] at hj1
    simp only [jA] at hj1
    refine J.H<|J.g (qAF O O O qAj z9_ hl2 xB) O<|J.g (qAI O O b9_ xD (hl2.elem hs2)) O<|J.b O<|J.c j27<|J.f λ_ j28=>J.b O<|J.q (qAK O O ent (qBK F m g8 146 0 l _ A1 c1 _ hb (by rw [hll];exact qLV) sep xB)) O ?_
    rintro⟨l70,m70⟩ ⟨A70,c70,hb70,hu70⟩
    dsimp only at hb70 hu70
    refine J.c j28<|J.H<|J.b O<|J.q (qAK O O ent (qBK F m70 g8 146 0 l70 _ A70 c70 _ hb70 (by rw [hu70.1,hll];exact qLV) s xJ)) O ?_
    rintro⟨l72,m72⟩ ⟨A72,c72,hb72,hu72⟩
    dsimp only at hb72 hu72
    rw [←qHy sep ls k hs] at hb72
    refine J.a4<|J.a1<|J.u (J.D j26 ?_)
    refine J.H<|J.g (qAR O O O xB) O<|J.b O<|J.a4<|J.u<|J.a7 (k+1,l72,m72,A72,c72) (λx (hx:_∧n-1-x.1<n-1-k)=>hI3 x hx.1 hx.2) ⟨⟨by dsimp only;omega,by rw [hu72.1,hu70.1];exact hll,hb72⟩,by dsimp only;omega⟩ ⟨O,O,O,O,O,trivial⟩ (λ_ h=>h)
  refine J.b4<|J.a0<|J.a0<|J.b5 ?_
  refine J.u (J.D j22 ?_)
  refine J.p λ_ j29=>?_
  have hend:qCY sep (ls.take (k+1))=qCY sep ls:=by rw [jY xB]
  have hj1:=qHz sep ls k
  refine J.H<|J.q (qAK O O ent (qD5 F m g8 146 0 l _ A1 c1 _ hb xB)) O ?_
  rintro m74 h74
  exact J.b O<|J.c j29<|J.A<|J.E hw0 O () (by rw [hend]) trivial [2] O xC
theorem qVx(F:Hp)(A:Option Addr)(n c:Nat)(ls:List xA)(sep:xA)(hl:Sl F 1 A n c (qAH ls))(htot:(qCY sep ls).length≤35184372088832)(hn47:n≤70368744177664):
    Cz prog 248 [.slice A n c,Str sep] F (Str (qCY sep ls)):=by
  have hlen:ls.length=n:=by have:=hl.1;simpa [qAH] using this
  match ls,hl,htot,hlen with
  | [],hl,_,_=>exact qSy F A n c sep hl
  | [s],hl,_,_=>exact qSx F A n c s sep hl
  |a::b::r,hl,htot,hlen=>exact qQL F A n c _ sep hl (by simp at hlen;omega) htot hn47
def small(r:Nat):Nat:=if 65≤r∧r≤90∨913≤r∧r≤937∧r≠930∨1040≤r∧r≤1071 then r+32 else r
def qJ6(r:Nat):Nat:=if 97≤small r∧small r≤122 then 1 else if 945≤small r∧small r≤969 then 2 else if 1072≤small r∧small r≤1103 then 4 else 0
def qHe(r:Nat):Bool:=decide (r=46∨r=45∨r=95∨r=64)
def qO7(c:UInt8):Bool:=qHe c.toNat
def qJD(l:List Nat)(b:Nat):Nat:=l.foldl (λb r=>b|||qJ6 r) b
def good(b:Nat):Bool:=decide (b=0∨b=1∨b=2∨b=4)
theorem qRx(r:Nat):small r≤r+32:=by unfold small;split<;>omega
theorem qSC{r:Nat}(h:Rn r):Rn (small r):=by
 obtain ⟨h1,h2⟩:=h
 unfold small Rn
 split<;>omega
theorem qLW(r:Nat):qJ6 r<8:=by
 unfold qJ6;repeat' split
 all_goals omega
theorem qRE: ∀(l:List Nat) (b:Nat),b<8→qJD l b<8
 | [],_,h=>h
 |r::l,b,h=>qRE l (b|||qJ6 r) (Nat.or_lt_two_pow (n:=3) h (qLW r))
theorem qTa(l m:List Nat)(b:Nat):qJD (l++m) b=qJD m (qJD l b):=List.foldl_append
def spl:xA→xA→List xA
 |cur,[]=> [cur]
 |cur,c::t=>if qO7 c then cur::spl [] t else spl (cur++ [c]) t
def qRN:List Nat→List Nat→List (List Nat)
 |cur,[]=> [cur]
 |cur,r::t=>if qHe r then cur::qRN [] t else qRN (cur++ [r]) t
theorem qUc{c:UInt8}(h:qO7 c=true)(cur t:xA):spl cur (c::t)=cur::spl [] t:=by rw [spl,if_pos h]
theorem qGS: ∀(p:xA),(∀c∈p,qO7 c=false)→ ∀cur t,spl cur (p++t)=spl (cur++p) t
 | [],_,cur,t=>by rw [jU];rfl
 |c::p,h,cur,t=>by
  rw [zu,spl,if_neg (by rw [h c (.head _)];decide),qGS p (λx hx=>h x (.tail _ hx)),jW];rfl
theorem qLi{r:Nat}(h:Rn r)(hb:128≤r): ∀c∈enc r,128≤c.toNat:=by
  have:=h.1
  intro c hc
  unfold enc at hc
  rw [if_neg xB] at hc
  split at hc
  · rcases List.mem_cons.1 hc with rfl|hc
    · rw [b8 xB];omega
    · rw [List.mem_singleton.1 hc,b8 xB];omega
  split at hc
  · rcases List.mem_cons.1 hc with rfl|hc
    · rw [b8 xB];omega
    rcases List.mem_cons.1 hc with rfl|hc
    · rw [b8 xB];omega
    · rw [List.mem_singleton.1 hc,b8 xB];omega
  · rcases List.mem_cons.1 hc with rfl|hc
    · rw [b8 xB];omega
    rcases List.mem_cons.1 hc with rfl|hc
    · rw [b8 xB];omega
    rcases List.mem_cons.1 hc with rfl|hc
    · rw [b8 xB];omega
    · rw [List.mem_singleton.1 hc,b8 xB];omega
theorem qIS{c:UInt8}(h:128≤c.toNat):qO7 c=false:=by unfold qO7 qHe;exact decide_eq_false xB
theorem qRp{s:xA}(h:s≠ [])(hs:qHe (dec s 0).1=true):(dec s 0).2=1∧ ∃c t,s=c::t∧qO7 c=true∧c.toNat=(dec s 0).1:=by
  by_cases ho:dec s 0=(65533,1)
  · rw [ho] at hs;exact absurd hs xC
  · obtain ⟨r,t,hr,rfl,hd⟩:=qKU h ho
    rw [hd] at hs⊢
    dsimp only at hs⊢
    have hr2:r<128:=by unfold qHe at hs;rw [decide_eq_true_eq] at hs;omega
    rw [qCZ hr2]
    refine⟨O,_,_,O,?_,b8 xB⟩
    unfold qO7;rw [b8 xB];exact hs
theorem qRq{s:xA}(h:s≠ [])(hs:qHe (dec s 0).1=false): ∀c∈s.take (dec s 0).2,qO7 c=false:=by
  by_cases ho:dec s 0=(65533,1)
  · rw [ho]
    obtain ⟨x,t,rfl⟩:=List.exists_cons_of_ne_nil h
    intro c hc
    rw [show(x::t).take 1= [x] from rfl,jQ] at hc
    subst hc
    refine qIS ?_
    by_cases hx:c.toNat<128
    · have:=qG4 (r:=c.toNat) ⟨xB,xB⟩ t
      rw [qCZ hx,b8e rfl] at this
      rw [show [c]++t=c::t from rfl,ho] at this
      have:=congrArg Prod.fst this
      dsimp only at this
      omega
    · omega
  · obtain ⟨r,t,hr,rfl,hd⟩:=qKU h ho
    rw [hd] at hs⊢
    dsimp only at hs⊢
    rw [List.take_left]
    by_cases hr2:r<128
    · rw [qCZ hr2]
      intro c hc
      rw [List.mem_singleton.1 hc];unfold qO7;rw [b8 xB];exact hs
    · exact λc hc=>qIS (qLi hr xB c hc)
theorem qO3: ∀(l:List Nat),(∀r∈l,Rn r)→ ∀cur,spl (unr cur) (unr l)=(qRN cur l).map unr
  | [],_,cur=>rfl
  |r::l,h,cur=>by
    have hr:=h r (.head _)
    have ih:=qO3 l (λx hx=>h x (.tail _ hx))
    rw [qCJ,qRN]
    by_cases hs:qHe r=true
    · have hr2:r<128:=by unfold qHe at hs;rw [decide_eq_true_eq] at hs;omega
      rw [if_pos hs,qCZ hr2,jf,←ih []]
      rw [show [UInt8.ofNat r]++unr l=UInt8.ofNat r::unr l from rfl,spl,if_pos (by unfold qO7;rw [b8 xB];exact hs)];rfl
    · rw [if_neg hs,←ih,qGS,qNQ]
      · rw [show unr [r]=enc r from jU _]
      · by_cases hr2:r<128
        · rw [qCZ hr2]
          intro c hc
          rw [List.mem_singleton.1 hc];unfold qO7;rw [b8 xB];exact Bool.eq_false_iff.2 hs
        · exact λc hc=>qIS (qLi hr xB c hc)
theorem qIO: ∀(l cur:List Nat) (p:List Nat),p∈qRN cur l→ ∀r∈p,r∈cur∨r∈l
  | [],cur,p,h,r,hr=>by rw [qRN,jQ] at h;subst h;exact .inl hr
  |x::l,cur,p,h,r,hr=>by
    rw [qRN] at h
    split at h
    · rcases List.mem_cons.1 h with rfl|h
      · exact .inl hr
      · rcases qIO l [] p h r hr with h|h
        · cases h
        · exact .inr (.tail _ h)
    · rcases qIO l _ p h r hr with h|h
      · rcases List.mem_append.1 h with h|h
        · exact .inl h
        · rw [List.mem_singleton.1 h];exact .inr (.head _)
      · exact .inr (.tail _ h)
def okR(r:Nat):Bool:=decide (qJ6 r≠0∨48≤r∧r≤57)||qHe r
def okP(p:xA):Bool:=decide (p≠ [])&&good (qJD (rl p) 0)
def right(s:xA):Bool:=(rl s).all okR&&(spl [] s).all okP&&decide (s.count 64≤1)
def normal(s:xA):xA×Nat:=
 if vld s=true then(if(rl s).length≤64 then(if right s=true then(unr ((rl s).map small),0) else([],5)) else([],2)) else([],4)
def qTl:Nat→Nat→Bool→List Nat→Bool
  |ats,bits,sm,[]=>sm&&good bits&&decide (ats≤1)
  |ats,bits,sm,r::t=>if qHe r=true then sm&&good bits&&qTl (if r=64 then ats+1 else ats) 0 false t
      else decide (qJ6 r≠0∨48≤r∧r≤57)&&qTl ats (bits|||qJ6 r) true t
theorem qKy: ∀(l:List Nat) (ats:Nat) (cur:List Nat),
    qTl ats (qJD cur 0) (decide (cur≠ [])) l=(l.all okR&&(qRN cur l).all (λp=>decide (p≠ [])&&good (qJD p 0))&&decide (ats+l.count 64≤1))
  | [],ats,cur=>by
    rw [qTl,qRN,List.all_nil,Bool.true_and,zH,List.all_nil,Bool.and_true,List.count_nil,zX]
  |r::l,ats,cur=>by
    rw [qTl,qRN]
    by_cases hs:qHe r=true
    · rw [if_pos hs,if_pos hs]
      have:=qKy l (if r=64 then ats+1 else ats) []
      rw [show qJD [] 0=0 from rfl,show decide (([]:List Nat)≠ [])=false from rfl] at this
      rw [this,zH,zH,show okR r=true from by unfold okR;rw [hs,Bool.or_true]]
      have e:decide ((if r=64 then ats+1 else ats)+l.count 64≤1)=decide (ats+(r::l).count 64≤1):=by
        rw [List.count_cons]
        by_cases h:r=64
        · subst h;rw [if_pos rfl];simp only [beq_self_eq_true,if_true];exact decide_eq_decide.2 xB
        · rw [if_neg h,if_neg (by rw [beq_iff_eq];exact h)];rfl
      rw [e,Bool.true_and]
      cases decide (cur≠ [])<;>cases good (qJD cur 0)<;>cases l.all okR<;>simp
    · rw [if_neg hs,if_neg hs]
      have:=qKy l ats (cur++ [r])
      rw [qTa,show qJD [r] (qJD cur 0)=qJD cur 0|||qJ6 r from rfl,show decide (cur++ [r]≠ [])=true from decide_eq_true xD] at this
      rw [this,zH,show okR r=decide (qJ6 r≠0∨48≤r∧r≤57) from by unfold okR;rw [Bool.eq_false_iff.2 hs,Bool.or_false]]
      have e:(r::l).count 64=l.count 64:=by
        rw [List.count_cons,if_neg,zX]
        intro h
        rw [beq_iff_eq] at h;subst h;exact hs O
      rw [e,Bool.and_assoc,Bool.and_assoc,Bool.and_assoc]
theorem qQf{r:Nat}(h:Rn r):(enc r).count 64=if r=64 then 1 else 0:=by
  by_cases hr:r<128
  · rw [qCZ hr,List.count_singleton]
    by_cases h4:r=64
    · subst h4;rfl
    · rw [if_neg h4,if_neg]
      rw [beq_iff_eq];intro e
      have:=congrArg UInt8.toNat e
      rw [b8 xB] at this
      exact h4 this
  · rw [if_neg xB]
    refine List.count_eq_zero.2 λhm=>?_
    have:=qLi h xB _ hm
    exact absurd this xC
theorem qJK: ∀(l:List Nat),(∀r∈l,Rn r)→(unr l).count 64=l.count 64
 | [],_=>rfl
 |r::l,h=>by
  rw [qCJ,List.count_append,qJK l (λx hx=>h x (.tail _ hx)),qQf (h r (.head _)),List.count_cons,Nat.add_comm]
  simp only [beq_iff_eq]
theorem qWr{l:List Nat}(h:l≠ []):unr l≠ []:=by
 obtain ⟨r,t,rfl⟩:=List.exists_cons_of_ne_nil h
 rw [qCJ];simp [qG0]
theorem qRF{α:Type}{f g:α→Bool}: ∀{l:List α},(∀x∈l,f x=g x)→l.all f=l.all g
 | [],_=>rfl
 |x::l,h=>by rw [zH,zH,h x (.head _),qRF (λy hy=>h y (.tail _ hy))]
theorem qPG{l:List Nat}(h: ∀r∈l,Rn r):right (unr l)=qTl 0 0 false l:=by
 have:=qKy l 0 []
 rw [show qJD [] 0=0 from rfl,show decide (([]:List Nat)≠ [])=false from rfl] at this
 rw [this]
 unfold right
 have e:=qO3 l h []
 rw [show unr []= [] from rfl] at e
 rw [qUy h,e,qJK l h,jj,List.all_map]
 congr 2
 refine qRF λp hp=>?_
 have hp2: ∀r∈p,Rn r:=λr hr=>by
  rcases qIO l [] p hp r hr with h'|h'
  · cases h'
  · exact h r h'
 show okP (unr p)=_
 unfold okP
 rw [qUy hp2]
 congr 1
 by_cases h0:p= []
 · subst h0;rfl
 · rw [decide_eq_true (qWr h0),decide_eq_true h0]
theorem qNx{l:List Nat}(h: ∀r∈l,Rn r):normal (unr l)=if l.length≤64 then(if qTl 0 0 false l=true then(unr (l.map small),0) else([],5)) else([],2):=by
 unfold normal
 rw [if_pos (qWn h),qUy h,qPG h]
theorem qG2{s:xA}{p:Nat}(h:p<s.length):s.drop p≠ []:=λe=>by
 have:=congrArg List.length e
 rw [jH,jG] at this;omega
theorem qXj{s:xA}{p:Nat}(h:p<s.length):Rn (dec s p).1:=by
  rw [qD3 xB]
  by_cases ho:dec (s.drop p) 0=(65533,1)
  · rw [ho];exact⟨xC,xC⟩
  · obtain ⟨r,t,hr,_,hd⟩:=qKU (qG2 h) ho
    rw [hd];exact hr
theorem qWD{s:xA}{p:Nat}(h:p<s.length)(hn:(dec s p).1≠65533):(enc (dec s p).1).length=(dec s p).2:=by
 rw [qD3 xB] at hn⊢
 obtain ⟨r,t,hr,_,hd⟩:=qKU (qG2 h) (λho=>by rw [ho] at hn;exact hn O)
 rw [hd]
theorem qRu{s:xA}{p:Nat}(h:p<s.length)(cur:xA)(hs:qHe (dec s p).1=true):spl cur (s.drop p)=cur::spl [] (s.drop (qJy s p)):=by
 have hd:=qD3 (s:=s) (pos:=p) xB
 rw [hd] at hs
 obtain ⟨h1,c,t,e,hc,_⟩:=qRp (qG2 h) hs
 rw [qDf h,hd,h1,←zh,e,qUc hc];rfl
theorem qHJ{s:xA}{p:Nat}(h:p<s.length)(cur:xA)(hs:qHe (dec s p).1=false):spl cur (s.drop p)=spl (cur++(s.take (p+(dec s p).2)).drop p) (s.drop (qJy s p)):=by
 have hd:=qD3 (s:=s) (pos:=p) xB
 have e:(s.take (p+(dec s p).2)).drop p=(s.drop p).take (dec s p).2:=by rw [List.drop_take];congr 1;omega
 rw [e,qDf h,←zh]
 rw [hd] at hs⊢
 rw [←qGS _ (qRq (qG2 h) hs),zW]
theorem qSp(ds:List xA)(cur q:xA){n:Nat}(h:n=ds.length):(ds++ [cur]).set n ((ds++ [cur]).getD n []++q)=ds++ [cur++q]:=by
 subst h
 rw [jB,jd (jK _),List.set_append_right _ _ (jK _),zB];rfl
theorem qSW: ∀b,b<8→(b&&&(b-1)=0↔good b=true):=by decide
theorem qSr(ds:List xA)(cur:xA):(ds++ [cur]).getD ds.length []=cur:=by
 rw [jB,jd (jK _),zB];rfl
theorem qFG: ∀(t cur:xA) (q:xA),q∈spl cur t→q.length≤cur.length+t.length
  | [],cur,q,h=>by rw [spl,jQ] at h;subst h;exact jK _
  |c::t,cur,q,h=>by
    rw [spl] at h
    rw [jD]
    split at h
    · rcases List.mem_cons.1 h with rfl|h
      · omega
      · have:=qFG t [] q h;rw [jG] at this;omega
    · have:=qFG t _ q h;rw [jA,jD,jG] at this;omega
theorem qUd(s:xA)(k:Nat):((spl [] s).getD k []).length≤s.length:=by
  by_cases h:k<(spl [] s).length
  · have:=qFG s [] ((spl [] s).getD k []) (by rw [jB,jC h];exact jS h)
    rw [jG] at this;omega
  · rw [jB,jc xB];exact jF _
theorem qRm{l:List xA}{f:xA→Bool}{k:Nat}(h:k<l.length):(l.take (k+1)).all f=((l.take k).all f&&f (l.getD k [])):=by
 rw [List.take_add_one,jB,jC h,List.all_append];simp
theorem qM5{l:List xA}{f:xA→Bool}{k:Nat}(h:k<l.length)(hf:f (l.getD k [])=false):l.all f=false:=by
 rw [jB,jC h] at hf
 rw [List.all_eq_false];exact⟨l[k],jS h,by simpa using hf⟩
theorem qIm{r:Nat}(h:qHe r=true):okR r=true:=by unfold okR;rw [h,Bool.or_true]
theorem qIl{r:Nat}(h:qJ6 r≠0∨48≤r∧r≤57):okR r=true:=by unfold okR;rw [decide_eq_true h,Bool.true_or]
theorem qTv{r:Nat}(h:qJ6 r=0)(h2: ¬(48≤r∧r≤57))(h3:qHe r=false):okR r=false:=by unfold okR;rw [h3,decide_eq_false xB];rfl
theorem qK8: ∀(t cur:xA),(spl cur t).length≤t.length+1
 | [],cur=>by rw [spl];exact jK _
 |c::t,cur=>by
  rw [spl]
  split
  · have:=qK8 t [];rw [jD,jD];omega
  · have:=qK8 t (cur++ [c]);rw [jD];omega
def nx(s:xA):Nat×Nat:=if s= []∨dec s 0=(65533,1) then(0,0) else dec s 0
theorem qWx{l:List Nat}(h:l.all (λr=>decide (r<55296))=true): ∀r∈l,Rn r:=λr hr=>by
 have:=List.all_eq_true.1 h r hr
 rw [decide_eq_true_eq] at this
 exact⟨xB,xB⟩
theorem qHp{s:xA}{l:List Nat}{x:xA}{e:Nat}(h:s=unr l)(hr:l.all (λr=>decide (r<55296))=true)(hx:(if l.length≤64 then(if qTl 0 0 false l=true then(unr (l.map small),0) else([],5)) else([],2))=(x,e)):normal s=(x,e):=by
 rw [h,qNx (qWx hr)];exact hx
end Go.Proofs.YtmemgokiolfdoaaGreatDoor