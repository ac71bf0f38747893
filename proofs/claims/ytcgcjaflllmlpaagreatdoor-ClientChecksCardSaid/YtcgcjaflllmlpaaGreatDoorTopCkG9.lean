/- A part of the proof. -/
import Derived.Test.YtcgcjaflllmlpaaGreatDoorTopCkG8
import Derived.Test.YtcgcjaflllmlpaaGreatDoorRows
set_option maxRecDepth 100000
set_option maxHeartbeats 1000000
set_option linter.unusedSimpArgs false
set_option linter.unusedVariables false
namespace Go.Proofs.YtcgcjaflllmlpaaGreatDoor
open Go Go.Fw Go.Proofs.Tryz
abbrev qDG:= @isAgg253
abbrev qS2:= @isAgg26
abbrev qS1:= @isAgg28
abbrev b3_:= @isAgg3
abbrev qFM:= @isAgg31
abbrev qCC:= @isAgg32
abbrev qDF:= @isAgg34
abbrev qPS:= @isAgg35
abbrev qLU:= @isAgg36
abbrev b4_:= @isAgg4
abbrev b5_:= @isAgg5
abbrev qLT:= @isAgg51
abbrev qEb:= @isAgg53
abbrev qLS:= @isAgg59
abbrev qC6:= @isAgg61
abbrev qLE:= @isAgg72
abbrev qPc:= @isAgg80
abbrev b9_:= @isAgg9
abbrev qHd:= @sizeOf132
abbrev qFx:= @sizeOf153
abbrev qDm:= @sizeOf216
abbrev qCM:= @sizeOf253
abbrev qON:= @sizeOf26
abbrev qMi:= @sizeOf28
abbrev qGU:= @sizeOf281
abbrev z3_:= @sizeOf3
abbrev qGT:= @sizeOf308
abbrev qEW:= @sizeOf31
abbrev qB1:= @sizeOf32
abbrev qBv:= @sizeOf34
abbrev qJp:= @sizeOf35
abbrev qJl:= @sizeOf36
abbrev qVX:= @sizeOf37
abbrev qPW:= @sizeOf38
abbrev z4_:= @sizeOf4
abbrev z5_:= @sizeOf5
abbrev qF5:= @sizeOf51
abbrev qB9:= @sizeOf53
abbrev qJk:= @sizeOf55
abbrev qEA:= @sizeOf59
abbrev qBY:= @sizeOf61
abbrev qLO:= @sizeOf68
abbrev qHp:= @sizeOf70
abbrev qDk:= @sizeOf72
abbrev qSv:= @sizeOf76
abbrev qJj:= @sizeOf80
abbrev z9_:= @sizeOf9
abbrev qVW:= @sizeOf92
abbrev qGS:= @sizeOf95
abbrev u0_:= @underlying0
abbrev qB7:= @underlying101
abbrev qIl:= @underlying109
abbrev qLi:= @underlying118
abbrev qHf:= @underlying129
abbrev qIk:= @underlying132
abbrev qCn:= @underlying134
abbrev qLh:= @underlying153
abbrev qOZ:= @underlying154
abbrev qDh:= @underlying156
abbrev qGf:= @underlying158
abbrev qIj:= @underlying198
abbrev qGe:= @underlying207
abbrev qP3:= @underlying210
abbrev qLg:= @underlying212
abbrev qEe:= @underlying216
abbrev qFR:= @underlying218
abbrev qJz:= @underlying253
abbrev qFy:= @underlying255
abbrev qHx:= @underlying26
abbrev qTI:= @underlying27
abbrev qLf:= @underlying271
abbrev qOY:= @underlying277
abbrev qEu:= @underlying281
abbrev qHe:= @underlying286
abbrev qJy:= @underlying294
abbrev u3_:= @underlying3
abbrev qOX:= @underlying308
abbrev qEd:= @underlying31
abbrev qAk:= @underlying32
abbrev qP2:= @underlying333
abbrev qDn:= @underlying34
abbrev qEY:= @underlying35
abbrev qYj:= @underlying36
abbrev qTH:= @underlying37
abbrev qDM:= @underlying38
abbrev u4_:= @underlying4
abbrev qEt:= @underlying40
abbrev qYx:= @underlying47
abbrev u5_:= @underlying5
abbrev qVd:= @underlying50
abbrev qDJ:= @underlying51
abbrev qCj:= @underlying53
abbrev qEX:= @underlying55
abbrev qLQ:= @underlying59
abbrev qFQ:= @underlying61
abbrev qJx:= @underlying68
abbrev qF6:= @underlying70
abbrev qOW:= @underlying72
abbrev qLe:= @underlying74
abbrev qGd:= @underlying76
abbrev qBt:= @underlying80
abbrev qTG:= @underlying89
abbrev u9_:= @underlying9
abbrev qVc:= @underlying92
abbrev qLd:= @underlying95
abbrev qPY:= @underlying96
abbrev qYi:= @underlying97
abbrev qCi:= @underlying99
abbrev e0_:= @zeroValue0
abbrev qKy:= @zeroValue158
abbrev qV8:= @zeroValue26
abbrev qMU:= @zeroValue281
abbrev e3_:= @zeroValue3
abbrev qUv:= @zeroValue34
abbrev e4_:= @zeroValue4
abbrev e5_:= @zeroValue5
abbrev qPN:= @zeroValue53
abbrev qR7:= @zeroValue55
abbrev qZr:= @zeroValue59
abbrev qFh:= @zeroValue61
abbrev qPa:= @zeroValue72
abbrev e9_:= @zeroValue9
theorem ent{f:FuncId}(h:enB prog f=true:=by kernel_rfl):qDI prog f:=qDI.ofB h
theorem qAa{env:Env}{ms:List Hp}{o:Oper}{f:FuncId}{xs:Array Operand}{vs:List Value}{tys:Array TypeId}{X:Type}{val:X→Value}{φ:X→Prop}(ho:o.op= .call {callee:= .value (.func f),args:=xs,argTypes:=tys})(hv:evs env xs.toList=some vs)(h: ∀F,(∀m∈ms,Le m F)→Ct prog f vs [F] val φ (λ_=> [F]))(hf:enB prog f=true:=by kernel_rfl):EOp prog env ms o val φ (λ_=>ms):=qAK ho hv (ent hf) (Ct.use0 h)
theorem qBr{env:Env}{ms:List Hp}{o:Oper}{f:FuncId}{xs:Array Operand}{vs:List Value}{tys:Array TypeId}{X:Type}{val:X→Value}{φ:X→Prop}{new:X→List Hp}(ho:o.op= .call {callee:= .value (.func f),args:=xs,argTypes:=tys})(hv:evs env xs.toList=some vs)(h: ∀F,(∀m∈ms,Le m F)→Ct prog f vs [F] val φ (λx=>F::new x))(hf:enB prog f=true:=by kernel_rfl):EOp prog env ms o val φ (λx=>ms++new x):=qAK ho hv (ent hf) (Ct.use h)
theorem Tryz.wide:prog.follows .mixedOrders=true:=by kernel_rfl
theorem el3:qCt prog 3 [.int .i64 0] 8:=qCt.of xI O
theorem el5:qCt prog 5 [.int .u8 0] 1:=qCt.of xI O
theorem el61:qCt prog 61 [.int .u64 0,Str [],Str [],.int .i64 0,Str []] 64:=qCt.of xI O
theorem el9:qCt prog 9 [Str []] 16:=qCt.of xI O
theorem noEsc(v:Value)(w:World):(callFunc 198 #[v]).run prog w= .ok (.value v) w:=by kernel_rfl
theorem qEm:prog.info? 156=some t156:=by kernel_rfl
structure Bld (g off:Nat) (l:List Value) (mr:Hp) (bs:xA) (A:Option Addr) (c:Nat) (p:Option Addr):Prop where
 a0:l[off]?=some (.pointer p)
 self:p=none∨p=some ⟨g,off,none⟩
 a1:l[off+1]?=some (.slice A bs.length c)
 row:qBh False mr 5 1 A bs.length c (qAg bs)
 cap:A=none∨0<c
theorem qJa(F:Hp)(g T off:Nat)(l:List Value)(hl:l[off]?=some (.pointer none))(hT:liesAt prog prog.depth T (l.length/prog.cellsOf T) off 156 1=true):
    Ct prog 167 [.pointer (some ⟨g,off,none⟩)] [blk g l T,F] (λ_:Unit=> .tuple #[]) (λ_=>True) (λ_=> [blk g (qBB l off [.pointer (some ⟨g,off,none⟩)]) T,F]):=by
  have hoff:off<l.length:=(List.getElem?_eq_some_iff.1 hl).1
  refine Ct.walk func167 O ntmps167 O (λw0 hw0=>?_)
  refine J.g λ_ j1=>J.b O<|J.f (qAB O O) O<|J.f (qAA O O qDh O sizeOf154 O) O<|J.f (qAC 0 O O O isAgg154 hl) O<|J.f (qA4 qOZ O O O) O<|J.c j1<|J.c3 ?_
  exact J.H<|J.k 2 O<|J.f (qLw O O qOZ underlying297 qEm xC (m:=blk g l T) xD (qAf _ _) (by simpa using hoff)) O<|J.p (qXV O O noEsc) O λg10 _=>J.f (qJC O O underlying297 qOZ qEm (m:=blk g l T) xD (qAf _ _) (by simpa using hT)) O<|J.f (qAB O O) O<|J.f (qAA (j:=off) O O qDh O sizeOf154 O) O<|J.a6 (qAT (i:=0) (vs:= [.pointer (some ⟨g,off,none⟩)]) O O O O O sizeOf154 O (by simp only [jD,jE];omega)) O O λ_ _=>J.a4<|J.d8 hw0 (λ_ _ h=>h) (qJn O) (qAn () O trivial [0,1] O xC)
theorem qHk(F:Hp)(g T off:Nat)(l:List Value)(hl:l[off]?=some (.pointer (some ⟨g,off,none⟩))):
    Ct prog 167 [.pointer (some ⟨g,off,none⟩)] [blk g l T,F] (λ_:Unit=> .tuple #[]) (λ_=>True) (λ_=> [blk g l T,F]):=by
  refine Ct.walk func167 O ntmps167 O (λw0 hw0=>?_)
  refine J.g λ_ j1=>J.b O<|J.f (qAB O O) O<|J.f (qAA O O qDh O sizeOf154 O) O<|J.f (qAC 0 O O O isAgg154 hl) O<|J.f (qA4 qOZ O O O) O<|J.c j1<|J.a2 ?_
  refine J.g λ_ j2=>J.b O<|J.f (qAB O O) O<|J.f (qAA O O qDh O sizeOf154 O) O<|J.f (qAC 0 O O O isAgg154 hl) O<|J.b O<|J.f (qOz qOZ qEm O O O) O<|J.c j2<|J.a2 ?_
  exact J.b5<|J.d8 hw0 (λ_ _ h=>h) (qJn O) (qAn () O trivial [0,1] O xC)
theorem qH1{l:List Value}{k:Nat}{v:Value}(h:l[k]?=some v):qBB l k [v]=l:=by
 obtain ⟨hk,rfl⟩:=List.getElem?_eq_some_iff.1 h
 unfold qBB
 rw [jW,List.singleton_append,jI,←zE hk,za]
theorem qC8{l:List Value}{k:Nat}{v:Value}(hk:k<l.length):(qBB l k [v])[k]?=some v:=by
 unfold qBB
 rw [jW,jk xK]
 simp [je (Nat.le_of_lt hk)]
theorem qB2{l:List Value}{k j:Nat}{v:Value}(hk:k<l.length)(hj:j≠k):(qBB l k [v])[j]?=l[j]?:=by
  unfold qBB
  rw [jW,List.getElem?_append,List.getElem?_append]
  simp only [jF,je (Nat.le_of_lt hk),jI]
  by_cases h1:j<k
  · rw [if_pos h1,zF,if_pos h1]
  · rw [if_neg h1,if_neg xB,jv]
    congr 1;omega
theorem qC7{l:List Value}{k:Nat}{v:Value}(hk:k<l.length):(qBB l k [v]).length=l.length:=by
 unfold qBB
 simp;omega
theorem qD3(F:Hp)(g T off:Nat)(l:List Value)(p:Option Addr)(hl:l[off]?=some (.pointer p))(hp:p=none∨p=some ⟨g,off,none⟩)(hT:liesAt prog prog.depth T (l.length/prog.cellsOf T) off 156 1=true):
    Ct prog 167 [.pointer (some ⟨g,off,none⟩)] [blk g l T,F] (λ_:Unit=> .tuple #[]) (λ_=>True) (λ_=> [blk g (qBB l off [.pointer (some ⟨g,off,none⟩)]) T,F]):=by
  rcases hp with rfl|rfl
  · exact qJa F g T off l hl hT
  · rw [qH1 hl];exact qHk F g T off l hl
theorem qYC:qDI prog 167:=qDI.of func167 O xI
def Upd(off:Nat)(l l':List Value):Prop:=l'.length=l.length∧ ∀j,j≠off→j≠off+1→l'[j]?=l[j]?
theorem Upd.trans{off:Nat}{a b c:List Value}(h:Upd off a b)(h':Upd off b c):Upd off a c:=⟨h'.1.trans h.1,λj h1 h2=>(h'.2 j h1 h2).trans (h.2 j h1 h2)⟩
theorem qJg{g off:Nat}{l:List Value}{mr mr':Hp}{bs bs':xA}{A A':Option Addr}{c c':Nat}{p:Option Addr}(hb:Bld g off l mr bs A c p)(hr:qBh False mr' 5 1 A' bs'.length c' (qAg bs'))(hc:A'=none∨0<c'):
    Bld g off (qBB (qBB l off [.pointer (some ⟨g,off,none⟩)]) (off+1) [.slice A' bs'.length c']) mr' bs' A' c' (some ⟨g,off,none⟩)∧Upd off l (qBB (qBB l off [.pointer (some ⟨g,off,none⟩)]) (off+1) [.slice A' bs'.length c']):=by
  have h1:off+1<l.length:=(List.getElem?_eq_some_iff.1 hb.a1).1
  have h0:off<l.length:=xB
  have hl1:=qC7 (v:=Value.pointer (some ⟨g,off,none⟩)) h0
  have h1':off+1<(qBB l off [.pointer (some ⟨g,off,none⟩)]).length:=xB
  refine⟨⟨?_,.inr O,?_,hr,hc⟩,by rw [qC7 h1',hl1],λj hj hj'=>?_⟩
  · rw [qB2 h1' xB,qC8 h0]
  · exact qC8 h1'
  · rw [qB2 h1' hj',qB2 h0 hj]
theorem qWz{m:Hp}{e:TypeId}{A:Option Addr}{n c:Nat}{xs:List (List Value)}(h:qBh False m e 1 A n c xs)(hn:0<n):A=none∨0<c:= .inr (zK hn h.2.2.1)
theorem qJt(F mr:Hp)(g T off:Nat)(l:List Value)(bs:xA)(A:Option Addr)(c:Nat)(p:Option Addr)(hb:Bld g off l mr bs A c p)(hT:liesAt prog prog.depth T (l.length/prog.cellsOf T) off 156 1=true)(b:UInt8)(hlen:bs.length<70368744177664):
    Ct prog 136 [.pointer (some ⟨g,off,none⟩),B8 b] [blk g l T,mr,F] (λ_:List Value×Hp=> .nilIface) (λx=> ∃A c,Bld g off x.1 x.2 (bs++ [b]) A c (some ⟨g,off,none⟩)∧Upd off l x.1) (λx=> [blk g x.1 T,x.2,F]):=by
  have hoff:off+1<l.length:=(List.getElem?_eq_some_iff.1 hb.a1).1
  have hoff0:off<l.length:=xB
  refine Ct.walk func136 O ntmps136 O (λw0 hw0=>?_)
  refine J.g λ_ j1=>J.b O<|J.c j1<|J.g λ_ j2=>J.b O<|J.p (qAK O O qYC (Ct.useA [blk g l T] [mr,F] (A':=λ_:Unit=> [blk g (qBB l off [.pointer (some ⟨g,off,none⟩)]) T]) (new:=λ_=> []) (λF' _=>qD3 F' g T off l p hb.a0 hb.self hT))) O λg6 _=>J.c j2<|J.g λ_ j3=>J.k 2 O<|J.f (qAB O O) O<|J.f (qAA (j:=off+1) O O qDh O qJj O) O<|J.f (qAC 0 O O O qPc ((qB2 hoff0 xB).trans hb.a1)) O<|J.b O<|J.p (qAE (l:= [.tmp 12]) (xs:= [[B8 b]]) O O O O qBt el5 O xC xC xD) O λg13 _=>J.p (qAU (i:=1) (m2:=blk g13 [B8 b] 5) O O O qBt qBt el5 O hb.row xD (qAl (q:=True) (xs:= [[B8 b]]) O xD).sl O xB xB) O ?_
  rintro⟨A14,c14,m14⟩ h14
  try dsimp only at h14
  have hbp:=qJg (bs':=bs++ [b]) (A':=A14) (c':=c14) (mr':=m14) hb (by simpa [qAg] using h14) (qWz h14 xB)
  simp only [jA,jI] at hbp
  exact J.f (qAB O O) O<|J.f (qAA O O qDh O qJj O) O<|J.a6 (qAT (i:=0) O O O O O qJj O (by rw [qC7 hoff0];exact hoff)) O O λ_ _=>J.c j3<|J.g λ_ j4=>J.b O<|J.c j4<|J.A<|J.E hw0 O (_,m14) O ⟨A14,c14,hbp⟩ [0,1,2] O xC
theorem qBS(F mr:Hp)(g T off:Nat)(l:List Value)(bs:xA)(A:Option Addr)(c:Nat)(p:Option Addr)(hb:Bld g off l mr bs A c p)(hT:liesAt prog prog.depth T (l.length/prog.cellsOf T) off 156 1=true)(s:xA)(hlen:bs.length+s.length<70368744177664):
    Ct prog 112 [.pointer (some ⟨g,off,none⟩),Str s] [blk g l T,mr,F] (λ_:List Value×Hp=> .tuple #[I s.length,.nilIface]) (λx=> ∃A c,Bld g off x.1 x.2 (bs++s) A c (some ⟨g,off,none⟩)∧Upd off l x.1) (λx=> [blk g x.1 T,x.2,F]):=by
  have hoff:off+1<l.length:=(List.getElem?_eq_some_iff.1 hb.a1).1
  have hoff0:off<l.length:=xB
  refine Ct.walk func112 O ntmps112 O (λw0 hw0=>?_)
  refine J.g λ_ j1=>J.k 2 O<|J.c j1<|J.g λ_ j2=>J.b O<|J.p (qAK O O qYC (Ct.useA [blk g l T] [mr,F] (A':=λ_:Unit=> [blk g (qBB l off [.pointer (some ⟨g,off,none⟩)]) T]) (new:=λ_=> []) (λF' _=>qD3 F' g T off l p hb.a0 hb.self hT))) O λg7 _=>J.c j2<|J.g λ_ j3=>J.k 2 O<|J.f (qAB O O) O<|J.f (qAA (j:=off+1) O O qDh O qJj O) O<|J.f (qAC 0 O O O qPc ((qB2 hoff0 xB).trans hb.a1)) O<|J.b O<|J.p (qO2 (i:=1) O O O qBt u9_ el5 O hb.row xB xB) O ?_
  rintro⟨A14,c14,m14⟩ h14
  try dsimp only at h14
  obtain ⟨h14,hcap⟩:=h14
  have hbp:=qJg (bs':=bs++s) (A':=A14) (c':=c14) (mr':=m14) hb (by simpa [qAg] using h14) (hcap hb.cap)
  simp only [jA] at hbp
  exact J.f (qAB O O) O<|J.f (qAA O O qDh O qJj O) O<|J.a6 (qAT (i:=0) O O O O O qJj O (by rw [qC7 hoff0];exact hoff)) O O λ_ _=>J.c j3<|J.g λ_ j4=>J.b O<|J.f (qAs u9_ O O) O<|J.k 2 O<|J.c j4<|J.A<|J.b0 hw0 (λ_ _ h=>h) (qCK O O O) (qAn (_,m14) O ⟨A14,c14,hbp⟩ [0,1,2] O xC)
theorem qET(F mr:Hp)(g T off:Nat)(l:List Value)(bs:xA)(A:Option Addr)(c:Nat)(p:Option Addr)(hb:Bld g off l mr bs A c p)(hlen:bs.length<70368744177664):
    Ct prog 114 [.pointer (some ⟨g,off,none⟩)] [blk g l T,mr,F] (λ_:Hp=>Str bs) (λm=>Bld g off l m bs A c p) (λm=> [blk g l T,m,F]):=by
  refine Ct.walk func114 O ntmps114 O (λw0 hw0=>?_)
  refine J.g λ_ j1=>J.b O<|J.c j1<|J.q λ_ j2=>J.b1 [blk g l T,F] [] (.y 0 (.y 1 (.y 2 (.y 3 (.y 4 (.y 5 (.y 6 (.y 7 (.y 8 (.y 9 (.e 10 (.y 11 .nil)))))))))))) Tryz.wide xF xD ?_
  refine J.L ?_
  refine J.j O (qAB O O) O O<|J.j O (qAA O O qDh O qJj O) O O<|J.j O (qAC 0 O O O qPc hb.a1) O O<|J.j O (qKR O O hb.cap) O O<|J.L ?_
  refine J.j O (qAB O O) O O<|J.j O (qAA O O qDh O qJj O) O O<|J.j O (qAC 0 O O O qPc hb.a1) O O<|J.j O (qAR qBt O O) O O<|J.Z O (qG3 (i:=1) O O O underlying263 O O hb.row xB) O xD ?_
  rintro m13 h13
  refine J.b7 ?_
  refine J.a9<|J.u (J.G j2 ?_)
  exact J.A<|J.E hw0 O m13 O ⟨hb.a0,hb.self,hb.a1,h13,hb.cap⟩ [0,1,2] O xC
theorem mnz(v:Value)(w:World):(callFunc 199 #[v]).run prog w=(do let x←Extern.BytealgMakeNoZero.makeNoZero #[3] #[80] #[v];pure (.value x):Sem Next).run prog w:=by kernel_rfl
theorem qU9(F:Hp)(g T off:Nat)(l:List Value)(hl:l[off+1]?=some (.slice none 0 0))(n:Nat)(hn:n≤70368744177664):
    Ct prog 168 [.pointer (some ⟨g,off,none⟩),I n] [blk g l T,F] (λ_:Nat×Nat×List Value=> .tuple #[]) (λx=>n≤x.2.1∧x.2.2.length=x.2.1) (λx=> [blk g (qBB l (off+1) [.slice (some ⟨x.1,0,none⟩) 0 x.2.1]) T,F,blk x.1 x.2.2 5]):=by
  have hoff:off+1<l.length:=(List.getElem?_eq_some_iff.1 hl).1
  refine Ct.walk func168 O ntmps168 O (λw0 hw0=>?_)
  refine J.q λ_ j1=>J.b1 [blk g l T,F] [] (.y 0 (.y 1 (.y 2 (.y 3 (.y 4 (.y 5 (.y 6 (.y 7 (.y 9 (.y 10 (.y 11 (.y 12 (.y 13 (.e 8 (.y 14 (.y 15 .nil)))))))))))))))) Tryz.wide xF xD ?_
  refine J.L ?_
  refine J.j O (qAB O O) O O<|J.j O (qAA O O qDh O qJj O) O O<|J.j O (qAC 0 O O O qPc hl) O O<|J.j O (qVm qBt O O) O O<|J.j O (qDe O O O xB) O O<|J.L ?_
  refine J.j O ((qAQ O O O xB).as (v':=I n) xD) O O<|J.L ?_
  refine J.j O (qAB O O) O O<|J.j O (qAA O O qDh O qJj O) O O<|J.j O (qAC 0 O O O qPc hl) O O<|J.j O (qAR qBt O O) O O<|J.Z O (qZH O O mnz qBt xB) O xD ?_
  rintro⟨g13,c13,l13⟩ h13
  try dsimp only at h13
  refine J.j O (qEL O O qBt z5_ O xB) O O<|J.b7 ?_
  refine J.a9<|J.u (J.G j1 ?_)
  exact J.g λ_ j2=>J.k 2 O<|J.f (qAB O O) O<|J.f (qAA O O qDh O qJj O) O<|J.f (qAC 0 O O O qPc hl) O<|J.p (qT8 O O O qBt el5) O λg25 _=>J.c j2<|J.H<|J.k 2 O<|J.f (qAB O O) O<|J.f (qAA O O qDh O qJj O) O<|J.a6 (qAT (i:=0) O O O O O qJj O (by exact hoff)) O O λ_ _=>J.a4<|J.d8 hw0 (λ_ _ h=>h) (qJn O) (qAn (g13,c13,l13) O h13 [0,1,2] O xC)
theorem qOH(F:Hp)(g T off:Nat)(l:List Value)(p:Option Addr)(hb:Bld g off l (λ_=>none) [] none 0 p)(hT:liesAt prog prog.depth T (l.length/prog.cellsOf T) off 156 1=true)(n:Nat)(hn:n≤70368744177664):
    Ct prog 111 [.pointer (some ⟨g,off,none⟩),I n] [blk g l T,λ_=>none,F] (λ_:List Value×Hp=> .tuple #[]) (λx=> ∃A c,Bld g off x.1 x.2 ([]) A c (some ⟨g,off,none⟩)∧Upd off l x.1) (λx=> [blk g x.1 T,x.2,F]):=by
  have hoff:off+1<l.length:=(List.getElem?_eq_some_iff.1 hb.a1).1
  have hoff0:off<l.length:=xB
  refine Ct.walk func111 O ntmps111 O (λw0 hw0=>?_)
  refine J.g λ_ j1=>J.b O<|J.p (qAK O O qYC (Ct.useA [blk g l T] [(λ_=>none),F] (A':=λ_:Unit=> [blk g (qBB l off [.pointer (some ⟨g,off,none⟩)]) T]) (new:=λ_=> []) (λF' _=>qD3 F' g T off l p hb.a0 hb.self hT))) O λg5 _=>J.c j1<|J.q λ_ j2=>J.g λ_ j3=>J.b O<|J.f (qAS O O O) O<|J.c j3<|J.e4 O (xD) ?_
  refine J.T j2<|J.q λ_ j4=>J.b1 [blk g (qBB l off [.pointer (some ⟨g,off,none⟩)]) T,(λ_=>none),F] [] (.y 0 (.y 1 (.y 2 (.y 3 (.y 4 (.y 5 (.y 6 (.y 7 (.y 8 (.y 9 (.y 10 (.y 11 (.y 12 .nil))))))))))))) Tryz.wide xF xD ?_
  refine J.L ?_
  refine J.j O (qAB O O) O O<|J.j O (qAA (j:=off+1) O O qDh O qJj O) O O<|J.j O (qAC 0 O O O qPc ((qB2 hoff0 xB).trans hb.a1)) O O<|J.j O (qVm qBt O O) O O<|J.L ?_
  refine J.j O (qAB O O) O O<|J.j O (qAA (j:=off+1) O O qDh O qJj O) O O<|J.j O (qAC 0 O O O qPc ((qB2 hoff0 xB).trans hb.a1)) O O<|J.j O (qAR qBt O O) O O<|J.j O (qA3 (a:=0) (b:=0) O O O xB) O O<|J.L ?_
  refine J.j O (qAS O O O) O O<|J.a9<|J.u (J.G j4 ?_)
  refine J.a0 O (λh21=>?_) (λh21=>?_)
  ·
    refine J.H<|J.k 2 O<|J.p (qAK O O ent (Ct.useA [blk g (qBB l off [.pointer (some ⟨g,off,none⟩)]) T] [λ_=>none,F] (A':=λx:Nat×Nat×List Value=> [blk g (qBB (qBB l off [.pointer (some ⟨g,off,none⟩)]) (off+1) [.slice (some ⟨x.1,0,none⟩) 0 x.2.1]) T]) (new:=λx=> [blk x.1 x.2.2 5]) (λF' _=>qU9 F' g T off (qBB l off [.pointer (some ⟨g,off,none⟩)]) ((qB2 hoff0 xB).trans hb.a1) n hn))) O ?_
    rintro⟨g24,c24,l24⟩ h24
    try dsimp only at h24
    refine J.a4 ?_
    have hbp:=qJg (bs':= []) (A':=some ⟨g24,0,none⟩) (c':=c24) (mr':=blk g24 l24 5) hb (qGn (xs:= []) (rest:=l24) (lo:=0) (hi:=0) O O xD (by simpa using h24.2) (jG _) (.inl O)) (.inr xB)
    simp only [jE] at hbp
    exact J.d8 hw0 (λ_ _ h=>h) (qJn O) (qAn (_,blk g24 l24 5) O ⟨some ⟨g24,0,none⟩,c24,hbp⟩ [0,3,2] O xC)
  refine J.b5 ?_
  have hbp:=qJg (bs':= []) (A':=none) (c':=0) (mr':=λ_=>none) hb qBh.nil (.inl O)
  have e1:=qH1 ((qB2 (v:= .pointer (some ⟨g,off,none⟩)) hoff0 xB).trans hb.a1)
  simp only [jE] at e1 hbp
  rw [e1] at hbp
  exact J.d8 hw0 (λ_ _ h=>h) (qJn O) (qAn (_,λ_=>none) O ⟨none,0,hbp⟩ [0,1,2] O xC)
def qCo(sep:xA):List xA→xA
 | []=> []
 |a::r=>a++(r.map λx=>sep++x).flatten
theorem qKk: ∀ls,qCo [] ls=ls.flatten
 | []=>rfl
 |a::r=>by simp [qCo]
def qDp(ls:List xA):Nat:=(ls.map List.length).sum
theorem qGh(ls:List xA)(k:Nat){s:xA}(h:ls[k]?=some s):qDp (ls.take (k+1))=qDp (ls.take k)+s.length:=by
 obtain ⟨hk,rfl⟩:=List.getElem?_eq_some_iff.1 h
 unfold qDp
 rw [jQ hk,jM,List.sum_append];rfl
theorem qEw(ls:List xA)(k:Nat):qDp (ls.take k)≤qDp ls:=by
 unfold qDp
 conv=>rhs;rw [←za k ls,jM,List.sum_append]
 omega
theorem qD1(sep:xA): ∀(ls:List xA),(qCo sep ls).length=qDp ls+sep.length*(ls.length-1)
 | []=>by simp [qCo,qDp]
 |a::r=>by
  have h: ∀r:List xA,(r.map λx=>sep++x).flatten.length=(r.map List.length).sum+sep.length*r.length:=by
   intro r
   induction r with
   |nil=>rfl
   |cons x r ih=>
    simp only [jd,jc,jA,List.sum_cons,jD,Nat.mul_add,ih]
    omega
  simp [qCo,qDp,h];omega
theorem qIK(sep:xA)(ls:List xA)(k:Nat){s:xA}(h:ls[k+1]?=some s):qCo sep (ls.take (k+2))=qCo sep (ls.take (k+1))++sep++s:=by
 cases ls with
 |nil=>simp at h
 |cons a r=>
  simp only [List.getElem?_cons_succ] at h
  obtain ⟨hk,rfl⟩:=List.getElem?_eq_some_iff.1 h
  simp only [List.take_succ_cons,qCo]
  rw [jQ hk,jM,zM]
  simp only [jd,zV,jc,js,jR,jW]
theorem qIL(sep:xA)(ls:List xA)(k:Nat):(qCo sep (ls.take (k+1))).length≤(qCo sep ls).length:=by
 rw [qD1,qD1]
 have h1:=qEw ls (k+1)
 have h2:(ls.take (k+1)).length≤ls.length:=by simp;omega
 have h3:sep.length*((ls.take (k+1)).length-1)≤sep.length*(ls.length-1):=Nat.mul_le_mul_left _ xB
 omega
theorem qME:liesAt prog prog.depth 156 (2/prog.cellsOf 156) 0 156 1=true:=by kernel_rfl
theorem qWt(a b M:Int)(hb:0<b)(h:a*b+b≤M):a+1≤M/b:=by
 rw [Int.le_ediv_iff_mul_le hb,Int.add_mul];omega
theorem qUh(F:Hp)(A:Option Addr)(n c:Nat)(sep:xA)(hl:Sl F 1 A n c (qAG [])):
    Cz prog 159 [.slice A n c,Str sep] F (Str (qCo sep [])):=by
  have hn:n=0:=hl.1.symm
  subst hn
  refine Ct.walk func159 O ntmps159 O (λw0 hw0=>?_)
  refine J.g λ_ j1=>J.b O<|J.c j1<|J.q λ_ j2=>J.g λ_ j3=>J.b O<|J.f (qAR qAk O O) O<|J.c j3<|J.V<|J.g λ_ j4=>J.f (qAX O O O) O<|J.b O<|J.c j4<|J.c3 ?_
  exact J.g λ_ j5=>J.b O<|J.c j5<|J.A<|J.a8<|J.W<|J.E hw0 O () O trivial [0] O xC
theorem qUg(F:Hp)(A:Option Addr)(n c:Nat)(s:xA)(sep:xA)(hl:Sl F 1 A n c (qAG [s])):
    Cz prog 159 [.slice A n c,Str sep] F (Str (qCo sep [s])):=by
  have hn:n=1:=hl.1.symm
  subst hn
  refine Ct.walk func159 O ntmps159 O (λw0 hw0=>?_)
  refine J.g λ_ j1=>J.b O<|J.c j1<|J.q λ_ j2=>J.g λ_ j3=>J.b O<|J.f (qAR qAk O O) O<|J.c j3<|J.V<|J.g λ_ j4=>J.f (qAX O O O) O<|J.b O<|J.c j4<|J.e4 O (O) ?_
  refine J.g λ_ j5=>J.f (qAX O O O) O<|J.b O<|J.c j5<|J.g1 O (O) ?_
  exact J.g λ_ j6=>J.b O<|J.f (qAF O O O qAk z9_ hl xC) O<|J.f (qAI O O b9_ xD (hl.elem (qAY (k:=0) O))) O<|J.b O<|J.c j6<|J.A<|J.a8<|J.W<|J.E hw0 O () (by simp [qCo]) trivial [0] O xC
theorem qRm(F:Hp)(A:Option Addr)(n c:Nat)(ls:List xA)(sep:xA)(hl:Sl F 1 A n c (qAG ls))(h2:2≤n)(htot:(qCo sep ls).length≤35184372088832)(hn47:n≤70368744177664):
    Cz prog 159 [.slice A n c,Str sep] F (Str (qCo sep ls)):=by
  have hlen:ls.length=n:=by have:=hl.1;simpa [qAG] using this
  have hjl:=qD1 sep ls
  rw [hlen] at hjl
  have hq:(sep.length:Int)*((n:Int)-1)=((sep.length*(n-1):Nat):Int):=by rw [yP];congr 1;omega
  have hB0: ¬0<(sep.length:Int)→sep.length*(n-1)=0:=λh=>by rw [show sep.length=0 by omega,yJ]
  have hsm:sep.length≤35184372088832:=by
    have:sep.length*1≤sep.length*(n-1):=Nat.mul_le_mul_left _ xB
    omega
  have hdiv:(sep.length:Int)+1≤9223372036854775807/((n:Int)-1):=qWt _ _ _ xB (by rw [hq];omega)
  have hnc:=hl.2.1
  obtain ⟨B,hB⟩: ∃B,sep.length*(n-1)=B:=⟨_,rfl⟩
  rw [hB] at hjl hq hB0
  generalize hD:(9223372036854775807:Int)/((n:Int)-1)=D at hdiv
  have H2:(0:Int)≤9223372036854775807∧0<(n:Int)-1∧(9223372036854775807:Int)≤9223372036854775807:=xB
  refine Ct.walk func159 O ntmps159 O (λw0 hw0=>?_)
  refine J.g λ_ j1=>J.b O<|J.c j1<|J.q λ_ j2=>J.g λ_ j3=>J.b O<|J.f (qAR qAk O O) O<|J.c j3<|J.V<|J.g λ_ j4=>J.f (qAX O O O) O<|J.b O<|J.c j4<|J.e4 O (xK) ?_
  refine J.g λ_ j5=>J.f (qAX O O O) O<|J.b O<|J.c j5<|J.e4 O (xK) ?_
  refine J.b5<|J.a3<|J.u (J.G j2 ?_)
  refine J.g λ_ j6=>J.b O<|J.c j6<|J.d4 (λ_:Unit=> [(0,.slice A n c),(1,Str sep),(5,I (B:Int))]) (λ_=> [F]) (λ_=>True) (λ_ j7=>?_) ?_
  ·
    refine J.g λ_ j8=>J.b O<|J.f (qAs u9_ O O) O<|J.f (qAz O O O) O<|J.c j8<|J.a0 O (λh22=>?_) (λh22=>?_)
    ·
      refine J.q λ_ j9=>J.g λ_ j10=>J.b O<|J.f (qAs u9_ O O) O<|J.b O<|J.f (qAR qAk O O) O<|J.f (qA3 O O O xB) O<|J.f ((qIA O O O H2).as (congrArg I hD)) O<|J.f (qBL O O O) O<|J.c j10<|J.e4 O (xK) ?_
      exact J.T j9<|J.H<|J.k 2 O<|J.f (qAs u9_ O O) O<|J.b O<|J.f (qAR qAk O O) O<|J.f (qA3 O O O xB) O<|J.f ((qDe O O O (by rw [hq];omega)).as (v':=I (B:Int)) (by rw [hq])) O<|J.f ((qAQ O O O xB).as (v':=I (B:Int)) xD) O<|J.b O<|J.a4<|J.u<|J.a5 () j7 trivial ⟨O,O,O,trivial⟩ (λ_ h=>h)
    exact J.b5<|J.u<|J.a5 () j7 trivial ⟨O,O,by rw [hB0 h22];rfl,trivial⟩ (λ_ h=>h)
  rintro _ _
  refine J.q λ_ j11=>J.g λ_ j12=>J.b O<|J.f (qAR qAk O O) O<|J.b O<|J.c j12<|J.V<|J.b6 (λk:Nat=> [(0,.slice A n c),(1,Str sep),(5,I (B+qDp (ls.take k):Nat)),(39,.slice A n c),(40,I n),(41,I k)]) (λ_=> [F]) (λk=>k≤n) (λk=>n-k) 0 (jG _) ⟨O,O,O,O,O,O,trivial⟩ (λ_ h=>h) ?_
  intro k hk I1 hI1
  refine J.g λ_ j13=>J.f (qAS O O O) O<|J.c j13<|J.q λ_ j14=>J.a0 O (λh42=>?_) (λh42=>?_)
  ·
    refine J.T j14<|J.q λ_ j15=>J.V<|J.q λ_ j16=>?_
    have hkn:k<n:=xB
    obtain ⟨s,hs⟩: ∃s,ls[k]?=some s:=⟨_,jC xB⟩
    have hst:=qGh ls k hs
    have hst2:=qEw ls (k+1)
    refine J.H<|J.f (qAF O O O qAk z9_ hl hkn) O<|J.f (qAI O O b9_ xD (hl.elem (qAY hs))) O<|J.b O<|J.c j16<|J.q λ_ j17=>J.g λ_ j18=>J.b O<|J.f (qAs u9_ O O) O<|J.b O<|J.f (qA3 O O O xB) O<|J.f (qAz O O O) O<|J.c j18<|J.e4 O (xK) ?_
    refine J.T j17<|J.H<|J.k 2 O<|J.f (qAs u9_ O O) O<|J.f (qAQ O O O xB) O<|J.b O<|J.a4<|J.a3<|J.u (J.G j15 ?_)
    exact J.H<|J.f (qAQ O O O xB) O<|J.b O<|J.a4<|J.u<|J.a5 (k+1) (λx (hx:x≤n∧n-x<n-k)=>hI1 x hx.1 hx.2) ⟨xB,xB⟩ ⟨O,O,by rw [hst];exact congrArg (λz=>some (I z)) xB,O,O,O,trivial⟩ (λ_ h=>h)
  refine J.b3<|J.a1<|J.a1<|J.b4 ?_
  refine J.u (J.G j11 ?_)
  refine J.g λ_ j19=>J.p (qAJ O zeroValue156 O) O λg8 _=>J.d0 [1,2,0] [blk g8 [.pointer none,.slice none 0 0] 156,λ_=>none,F] O xC<|J.c j19<|J.q λ_ j20=>?_
  have hst3:=qEw ls k
  refine J.H<|J.b O<|J.p (qAK O O ent (qOH F g8 156 0 [.pointer none,.slice none 0 0] none ⟨O,.inl O,O,qBh.nil,.inl O⟩ qME _ xB)) O ?_
  rintro⟨l57,m57⟩ ⟨A57,c57,hb57,hu57⟩
  dsimp only at hb57 hu57
  obtain ⟨s0,hs0⟩: ∃s0,ls[0]?=some s0:=⟨_,jC xB⟩
  have hs0l:s0.length≤qDp ls:=by have h1:=qGh ls 0 hs0;have h2:=qEw ls 1;simp only [jX] at h1;omega
  refine J.c j20<|J.g λ_ j21=>J.b O<|J.f (qAF (i:=0) O O O qAk z9_ hl xB) O<|J.f (qAI O O b9_ xD (hl.elem (qAY hs0))) O<|J.p (qAK O O ent (qBS F m57 g8 156 0 l57 [] A57 c57 _ hb57 (by rw [hu57.1];exact qME) s0 xK)) O ?_
  rintro⟨l61,m61⟩ ⟨A61,c61,hb61,hu61⟩
  dsimp only at hb61 hu61
  have hb61:Bld g8 0 l61 m61 (qCo sep (ls.take 1)) A61 c61 (some ⟨g8,0,none⟩):=by
    have e:qCo sep (ls.take 1)= []++s0:=by cases ls with
      |nil=>simp at hs0
      |cons a r=>simp at hs0;subst hs0;simp [qCo]
    rw [e];exact hb61
  refine J.c j21<|J.q λ_ j22=>J.g λ_ j23=>J.b O<|J.f (qDT (l:=1) (h:=n) O O qAk z9_ O O xB) O<|J.f (qAR qAk O O) O<|J.b O<|J.c j23<|J.V<|J.b6 (X:=Nat×List Value×Hp×Option Addr×Nat) (λx=> [(1,Str sep),(8,Ptr g8),(63,_),(64,I (n-1:Nat)),(65,I x.1)]) (λx=> [blk g8 x.2.1 156,x.2.2.1,F]) (λx=>x.1≤n-1∧x.2.1.length=2∧Bld g8 0 x.2.1 x.2.2.1 (qCo sep (ls.take (x.1+1))) x.2.2.2.1 x.2.2.2.2 (some ⟨g8,0,none⟩)) (λx=>n-1-x.1) (0,l61,m61,A61,c61) (⟨jG _,by rw [hu61.1,hu57.1];rfl,hb61⟩) ⟨O,O,O,O,O,trivial⟩ (λ_ h=>h) ?_
  rintro⟨k,l,m,A1,c1⟩ ⟨hk,hll,hb⟩ I3 hI3
  dsimp only at hk hll hb⊢
  have hl2:=hl.cut (lo:=1) (hi:=n) (mx:=c) xB (jK _) hl.2.1
  refine J.g λ_ j24=>J.f (qAS O O O) O<|J.c j24<|J.q λ_ j25=>J.a0 O (λh66=>?_) (λh66=>?_)
  ·
    refine J.T j25<|J.q λ_ j26=>J.V<|J.q λ_ j27=>?_
    have hkn:k+1<n:=xB
    obtain ⟨s,hs⟩: ∃s,ls[k+1]?=some s:=⟨_,jC xB⟩
    have hs2:((((qAG ls).take n).drop 1))[k]?=some [Str s]:=by rw [jv,zF,Nat.add_comm 1 k,if_pos hkn];exact qAY hs
    have hj1:=qIL sep ls (k+1)
    rw [qIK sep ls k hs] at hj1
    simp only [jA] at hj1
    refine J.H<|J.f (qAF O O O qAk z9_ hl2 xB) O<|J.f (qAI O O b9_ xD (hl2.elem hs2)) O<|J.b O<|J.c j27<|J.g λ_ j28=>J.b O<|J.p (qAK O O ent (qBS F m g8 156 0 l _ A1 c1 _ hb (by rw [hll];exact qME) sep xB)) O ?_
    rintro⟨l70,m70⟩ ⟨A70,c70,hb70,hu70⟩
    dsimp only at hb70 hu70
    refine J.c j28<|J.H<|J.b O<|J.p (qAK O O ent (qBS F m70 g8 156 0 l70 _ A70 c70 _ hb70 (by rw [hu70.1,hll];exact qME) s xK)) O ?_
    rintro⟨l72,m72⟩ ⟨A72,c72,hb72,hu72⟩
    dsimp only at hb72 hu72
    rw [←qIK sep ls k hs] at hb72
    refine J.a4<|J.a3<|J.u (J.G j26 ?_)
    refine J.H<|J.f (qAQ O O O xB) O<|J.b O<|J.a4<|J.u<|J.a5 (k+1,l72,m72,A72,c72) (λx (hx:_∧n-1-x.1<n-1-k)=>hI3 x hx.1 hx.2) ⟨⟨by dsimp only;omega,by rw [hu72.1,hu70.1];exact hll,hb72⟩,by dsimp only;omega⟩ ⟨O,O,O,O,O,trivial⟩ (λ_ h=>h)
  refine J.b3<|J.a1<|J.a1<|J.b4 ?_
  refine J.u (J.G j22 ?_)
  refine J.q λ_ j29=>?_
  have hend:qCo sep (ls.take (k+1))=qCo sep ls:=by rw [jf xB]
  have hj1:=qIL sep ls k
  refine J.H<|J.p (qAK O O ent (qET F m g8 156 0 l _ A1 c1 _ hb xB)) O ?_
  rintro m74 h74
  exact J.b O<|J.c j29<|J.A<|J.E hw0 O () (by rw [hend]) trivial [2] O xC
theorem qX2(F:Hp)(A:Option Addr)(n c:Nat)(ls:List xA)(sep:xA)(hl:Sl F 1 A n c (qAG ls))(htot:(qCo sep ls).length≤35184372088832)(hn47:n≤70368744177664):
    Cz prog 159 [.slice A n c,Str sep] F (Str (qCo sep ls)):=by
  have hlen:ls.length=n:=by have:=hl.1;simpa [qAG] using this
  match ls,hl,htot,hlen with
  | [],hl,_,_=>exact qUh F A n c sep hl
  | [s],hl,_,_=>exact qUg F A n c s sep hl
  |a::b::r,hl,htot,hlen=>exact qRm F A n c _ sep hl (by simp at hlen;omega) htot hn47
def small(r:Nat):Nat:=if 65≤r∧r≤90∨913≤r∧r≤937∧r≠930∨1040≤r∧r≤1071 then r+32 else r
def qKh(r:Nat):Nat:=if 97≤small r∧small r≤122 then 1 else if 945≤small r∧small r≤969 then 2 else if 1072≤small r∧small r≤1103 then 4 else 0
def qH2(r:Nat):Bool:=decide (r=46∨r=45∨r=95∨r=64)
def qQK(c:UInt8):Bool:=qH2 c.toNat
def qJo(l:List Nat)(b:Nat):Nat:=l.foldl (λb r=>b|||qKh r) b
def good(b:Nat):Bool:=decide (b=0∨b=1∨b=2∨b=4)
theorem qTc(r:Nat):small r≤r+32:=by unfold small;split<;>omega
theorem qTs{r:Nat}(h:Rn r):Rn (small r):=by
 obtain ⟨h1,h2⟩:=h
 unfold small Rn
 split<;>omega
theorem qMF(r:Nat):qKh r<8:=by
 unfold qKh;repeat' split
 all_goals omega
theorem qSk: ∀(l:List Nat) (b:Nat),b<8→qJo l b<8
 | [],_,h=>h
 |r::l,b,h=>qSk l (b|||qKh r) (Nat.or_lt_two_pow (n:=3) h (qMF r))
theorem qVJ(l m:List Nat)(b:Nat):qJo (l++m) b=qJo m (qJo l b):=List.foldl_append
def spl:xA→xA→List xA
 |cur,[]=> [cur]
 |cur,c::t=>if qQK c then cur::spl [] t else spl (cur++ [c]) t
def qSx:List Nat→List Nat→List (List Nat)
 |cur,[]=> [cur]
 |cur,r::t=>if qH2 r then cur::qSx [] t else qSx (cur++ [r]) t
theorem qWk{c:UInt8}(h:qQK c=true)(cur t:xA):spl cur (c::t)=cur::spl [] t:=by rw [spl,if_pos h]
theorem qGj: ∀(p:xA),(∀c∈p,qQK c=false)→ ∀cur t,spl cur (p++t)=spl (cur++p) t
 | [],_,cur,t=>by rw [jR];rfl
 |c::p,h,cur,t=>by
  rw [zy,spl,if_neg (by rw [h c (.head _)];decide),qGj p (λx hx=>h x (.tail _ hx)),jW];rfl
theorem qMS{r:Nat}(h:Rn r)(hb:128≤r): ∀c∈enc r,128≤c.toNat:=by
  have:=h.1
  intro c hc
  unfold enc at hc
  rw [if_neg xB] at hc
  split at hc
  · rcases List.mem_cons.1 hc with rfl|hc
    · rw [b8 xB];omega
    · rw [List.mem_singleton.1 hc,b8 xB];omega
  split at hc
  · rcases List.mem_cons.1 hc with rfl|hc
    · rw [b8 xB];omega
    rcases List.mem_cons.1 hc with rfl|hc
    · rw [b8 xB];omega
    · rw [List.mem_singleton.1 hc,b8 xB];omega
  · rcases List.mem_cons.1 hc with rfl|hc
    · rw [b8 xB];omega
    rcases List.mem_cons.1 hc with rfl|hc
    · rw [b8 xB];omega
    rcases List.mem_cons.1 hc with rfl|hc
    · rw [b8 xB];omega
    · rw [List.mem_singleton.1 hc,b8 xB];omega
theorem qIv{c:UInt8}(h:128≤c.toNat):qQK c=false:=by unfold qQK qH2;exact decide_eq_false xB
theorem qTT{s:xA}(h:s≠ [])(hs:qH2 (dec s 0).1=true):(dec s 0).2=1∧ ∃c t,s=c::t∧qQK c=true∧c.toNat=(dec s 0).1:=by
  by_cases ho:dec s 0=(65533,1)
  · rw [ho] at hs;exact absurd hs xC
  · obtain ⟨r,t,hr,rfl,hd⟩:=qK2 h ho
    rw [hd] at hs⊢
    dsimp only at hs⊢
    have hr2:r<128:=by unfold qH2 at hs;rw [decide_eq_true_eq] at hs;omega
    rw [qCq hr2]
    refine⟨O,_,_,O,?_,b8 xB⟩
    unfold qQK;rw [b8 xB];exact hs
theorem qTU{s:xA}(h:s≠ [])(hs:qH2 (dec s 0).1=false): ∀c∈s.take (dec s 0).2,qQK c=false:=by
  by_cases ho:dec s 0=(65533,1)
  · rw [ho]
    obtain ⟨x,t,rfl⟩:=List.exists_cons_of_ne_nil h
    intro c hc
    rw [show(x::t).take 1= [x] from rfl,jT] at hc
    subst hc
    refine qIv ?_
    by_cases hx:c.toNat<128
    · have:=qHT (r:=c.toNat) ⟨xB,xB⟩ t
      rw [qCq hx,b8e rfl] at this
      rw [show [c]++t=c::t from rfl,ho] at this
      have:=congrArg Prod.fst this
      dsimp only at this
      omega
    · omega
  · obtain ⟨r,t,hr,rfl,hd⟩:=qK2 h ho
    rw [hd] at hs⊢
    dsimp only at hs⊢
    rw [List.take_left]
    by_cases hr2:r<128
    · rw [qCq hr2]
      intro c hc
      rw [List.mem_singleton.1 hc];unfold qQK;rw [b8 xB];exact hs
    · exact λc hc=>qIv (qMS hr xB c hc)
theorem qQG: ∀(l:List Nat),(∀r∈l,Rn r)→ ∀cur,spl (unr cur) (unr l)=(qSx cur l).map unr
  | [],_,cur=>rfl
  |r::l,h,cur=>by
    have hr:=h r (.head _)
    have ih:=qQG l (λx hx=>h x (.tail _ hx))
    rw [qCb,qSx]
    by_cases hs:qH2 r=true
    · have hr2:r<128:=by unfold qH2 at hs;rw [decide_eq_true_eq] at hs;omega
      rw [if_pos hs,qCq hr2,jd,←ih []]
      rw [show [UInt8.ofNat r]++unr l=UInt8.ofNat r::unr l from rfl,spl,if_pos (by unfold qQK;rw [b8 xB];exact hs)];rfl
    · rw [if_neg hs,←ih,qGj,qOV]
      · rw [show unr [r]=enc r from jR _]
      · by_cases hr2:r<128
        · rw [qCq hr2]
          intro c hc
          rw [List.mem_singleton.1 hc];unfold qQK;rw [b8 xB];exact Bool.eq_false_iff.2 hs
        · exact λc hc=>qIv (qMS hr xB c hc)
theorem qIp: ∀(l cur:List Nat) (p:List Nat),p∈qSx cur l→ ∀r∈p,r∈cur∨r∈l
  | [],cur,p,h,r,hr=>by rw [qSx,jT] at h;subst h;exact .inl hr
  |x::l,cur,p,h,r,hr=>by
    rw [qSx] at h
    split at h
    · rcases List.mem_cons.1 h with rfl|h
      · exact .inl hr
      · rcases qIp l [] p h r hr with h|h
        · cases h
        · exact .inr (.tail _ h)
    · rcases qIp l _ p h r hr with h|h
      · rcases List.mem_append.1 h with h|h
        · exact .inl h
        · rw [List.mem_singleton.1 h];exact .inr (.head _)
      · exact .inr (.tail _ h)
def okR(r:Nat):Bool:=decide (qKh r≠0∨48≤r∧r≤57)||qH2 r
def okP(p:xA):Bool:=decide (p≠ [])&&good (qJo (rl p) 0)
def right(s:xA):Bool:=(rl s).all okR&&(spl [] s).all okP&&decide (s.count 64≤1)
def normal(s:xA):xA×Nat:=
 if vld s=true then(if(rl s).length≤64 then(if right s=true then(unr ((rl s).map small),0) else([],5)) else([],2)) else([],4)
def qVY:Nat→Nat→Bool→List Nat→Bool
  |ats,bits,sm,[]=>sm&&good bits&&decide (ats≤1)
  |ats,bits,sm,r::t=>if qH2 r=true then sm&&good bits&&qVY (if r=64 then ats+1 else ats) 0 false t
      else decide (qKh r≠0∨48≤r∧r≤57)&&qVY ats (bits|||qKh r) true t
theorem qLZ: ∀(l:List Nat) (ats:Nat) (cur:List Nat),
    qVY ats (qJo cur 0) (decide (cur≠ [])) l=(l.all okR&&(qSx cur l).all (λp=>decide (p≠ [])&&good (qJo p 0))&&decide (ats+l.count 64≤1))
  | [],ats,cur=>by
    rw [qVY,qSx,List.all_nil,Bool.true_and,zJ,List.all_nil,Bool.and_true,List.count_nil,zb]
  |r::l,ats,cur=>by
    rw [qVY,qSx]
    by_cases hs:qH2 r=true
    · rw [if_pos hs,if_pos hs]
      have:=qLZ l (if r=64 then ats+1 else ats) []
      rw [show qJo [] 0=0 from rfl,show decide (([]:List Nat)≠ [])=false from rfl] at this
      rw [this,zJ,zJ,show okR r=true from by unfold okR;rw [hs,Bool.or_true]]
      have e:decide ((if r=64 then ats+1 else ats)+l.count 64≤1)=decide (ats+(r::l).count 64≤1):=by
        rw [List.count_cons]
        by_cases h:r=64
        · subst h;rw [if_pos rfl];simp only [beq_self_eq_true,if_true];exact decide_eq_decide.2 xB
        · rw [if_neg h,if_neg (by rw [beq_iff_eq];exact h)];rfl
      rw [e,Bool.true_and]
      cases decide (cur≠ [])<;>cases good (qJo cur 0)<;>cases l.all okR<;>simp
    · rw [if_neg hs,if_neg hs]
      have:=qLZ l ats (cur++ [r])
      rw [qVJ,show qJo [r] (qJo cur 0)=qJo cur 0|||qKh r from rfl,show decide (cur++ [r]≠ [])=true from decide_eq_true xD] at this
      rw [this,zJ,show okR r=decide (qKh r≠0∨48≤r∧r≤57) from by unfold okR;rw [Bool.eq_false_iff.2 hs,Bool.or_false]]
      have e:(r::l).count 64=l.count 64:=by
        rw [List.count_cons,if_neg,zb]
        intro h
        rw [beq_iff_eq] at h;subst h;exact hs O
      rw [e,Bool.and_assoc,Bool.and_assoc,Bool.and_assoc]
theorem qR4{r:Nat}(h:Rn r):(enc r).count 64=if r=64 then 1 else 0:=by
  by_cases hr:r<128
  · rw [qCq hr,List.count_singleton]
    by_cases h4:r=64
    · subst h4;rfl
    · rw [if_neg h4,if_neg]
      rw [beq_iff_eq];intro e
      have:=congrArg UInt8.toNat e
      rw [b8 xB] at this
      exact h4 this
  · rw [if_neg xB]
    refine List.count_eq_zero.2 λhm=>?_
    have:=qMS h xB _ hm
    exact absurd this xC
theorem qJw: ∀(l:List Nat),(∀r∈l,Rn r)→(unr l).count 64=l.count 64
 | [],_=>rfl
 |r::l,h=>by
  rw [qCb,List.count_append,qJw l (λx hx=>h x (.tail _ hx)),qR4 (h r (.head _)),List.count_cons,Nat.add_comm]
  simp only [beq_iff_eq]
theorem qYw{l:List Nat}(h:l≠ []):unr l≠ []:=by
 obtain ⟨r,t,rfl⟩:=List.exists_cons_of_ne_nil h
 rw [qCb];simp [qHO]
theorem qSl{α:Type}{f g:α→Bool}: ∀{l:List α},(∀x∈l,f x=g x)→l.all f=l.all g
 | [],_=>rfl
 |x::l,h=>by rw [zJ,zJ,h x (.head _),qSl (λy hy=>h y (.tail _ hy))]
theorem qQW{l:List Nat}(h: ∀r∈l,Rn r):right (unr l)=qVY 0 0 false l:=by
 have:=qLZ l 0 []
 rw [show qJo [] 0=0 from rfl,show decide (([]:List Nat)≠ [])=false from rfl] at this
 rw [this]
 unfold right
 have e:=qQG l h []
 rw [show unr []= [] from rfl] at e
 rw [qW6 h,e,qJw l h,jX,List.all_map]
 congr 2
 refine qSl λp hp=>?_
 have hp2: ∀r∈p,Rn r:=λr hr=>by
  rcases qIp l [] p hp r hr with h'|h'
  · cases h'
  · exact h r h'
 show okP (unr p)=_
 unfold okP
 rw [qW6 hp2]
 congr 1
 by_cases h0:p= []
 · subst h0;rfl
 · rw [decide_eq_true (qYw h0),decide_eq_true h0]
theorem qO4{l:List Nat}(h: ∀r∈l,Rn r):normal (unr l)=if l.length≤64 then(if qVY 0 0 false l=true then(unr (l.map small),0) else([],5)) else([],2):=by
 unfold normal
 rw [if_pos (qYs h),qW6 h,qQW h]
theorem qHR{s:xA}{p:Nat}(h:p<s.length):s.drop p≠ []:=λe=>by
 have:=congrArg List.length e
 rw [jH,jE] at this;omega
theorem qZt{s:xA}{p:Nat}(h:p<s.length):Rn (dec s p).1:=by
  rw [qEQ xB]
  by_cases ho:dec (s.drop p) 0=(65533,1)
  · rw [ho];exact⟨xC,xC⟩
  · obtain ⟨r,t,hr,_,hd⟩:=qK2 (qHR h) ho
    rw [hd];exact hr
theorem qYE{s:xA}{p:Nat}(h:p<s.length)(hn:(dec s p).1≠65533):(enc (dec s p).1).length=(dec s p).2:=by
 rw [qEQ xB] at hn⊢
 obtain ⟨r,t,hr,_,hd⟩:=qK2 (qHR h) (λho=>by rw [ho] at hn;exact hn O)
 rw [hd]
theorem qTZ{s:xA}{p:Nat}(h:p<s.length)(cur:xA)(hs:qH2 (dec s p).1=true):spl cur (s.drop p)=cur::spl [] (s.drop (qKW s p)):=by
 have hd:=qEQ (s:=s) (pos:=p) xB
 rw [hd] at hs
 obtain ⟨h1,c,t,e,hc,_⟩:=qTT (qHR h) hs
 rw [qDx h,hd,h1,←zx,e,qWk hc];rfl
theorem qHg{s:xA}{p:Nat}(h:p<s.length)(cur:xA)(hs:qH2 (dec s p).1=false):spl cur (s.drop p)=spl (cur++(s.take (p+(dec s p).2)).drop p) (s.drop (qKW s p)):=by
 have hd:=qEQ (s:=s) (pos:=p) xB
 have e:(s.take (p+(dec s p).2)).drop p=(s.drop p).take (dec s p).2:=by rw [List.drop_take];congr 1;omega
 rw [e,qDx h,←zx]
 rw [hd] at hs⊢
 rw [←qGj _ (qTU (qHR h) hs),za]
theorem qUX(ds:List xA)(cur q:xA){n:Nat}(h:n=ds.length):(ds++ [cur]).set n ((ds++ [cur]).getD n []++q)=ds++ [cur++q]:=by
 subst h
 rw [jB,jk (jK _),List.set_append_right _ _ (jK _),zH];rfl
theorem qUA: ∀b,b<8→(b&&&(b-1)=0↔good b=true):=by decide
theorem qUZ(ds:List xA)(cur:xA):(ds++ [cur]).getD ds.length []=cur:=by
 rw [jB,jk (jK _),zH];rfl
theorem qFS: ∀(t cur:xA) (q:xA),q∈spl cur t→q.length≤cur.length+t.length
  | [],cur,q,h=>by rw [spl,jT] at h;subst h;exact jK _
  |c::t,cur,q,h=>by
    rw [spl] at h
    rw [jD]
    split at h
    · rcases List.mem_cons.1 h with rfl|h
      · omega
      · have:=qFS t [] q h;rw [jE] at this;omega
    · have:=qFS t _ q h;rw [jA,jD,jE] at this;omega
theorem qWl(s:xA)(k:Nat):((spl [] s).getD k []).length≤s.length:=by
  by_cases h:k<(spl [] s).length
  · have:=qFS s [] ((spl [] s).getD k []) (by rw [jB,jC h];exact ja h)
    rw [jE] at this;omega
  · rw [jB,ji xB];exact jG _
theorem qTP{l:List xA}{f:xA→Bool}{k:Nat}(h:k<l.length):(l.take (k+1)).all f=((l.take k).all f&&f (l.getD k [])):=by
 rw [List.take_add_one,jB,jC h,List.all_append];simp
theorem qNz{l:List xA}{f:xA→Bool}{k:Nat}(h:k<l.length)(hf:f (l.getD k [])=false):l.all f=false:=by
 rw [jB,jC h] at hf
 rw [List.all_eq_false];exact⟨l[k],ja h,by simpa using hf⟩
theorem qJG{r:Nat}(h:qH2 r=true):okR r=true:=by unfold okR;rw [h,Bool.or_true]
theorem qJF{r:Nat}(h:qKh r≠0∨48≤r∧r≤57):okR r=true:=by unfold okR;rw [decide_eq_true h,Bool.true_or]
theorem qVn{r:Nat}(h:qKh r=0)(h2: ¬(48≤r∧r≤57))(h3:qH2 r=false):okR r=false:=by unfold okR;rw [h3,decide_eq_false xB];rfl
theorem qLk: ∀(t cur:xA),(spl cur t).length≤t.length+1
 | [],cur=>by rw [spl];exact jK _
 |c::t,cur=>by
  rw [spl]
  split
  · have:=qLk t [];rw [jD,jD];omega
  · have:=qLk t (cur++ [c]);rw [jD];omega
def nx(s:xA):Nat×Nat:=if s= []∨dec s 0=(65533,1) then(0,0) else dec s 0
theorem qY5{l:List Nat}(h:l.all (λr=>decide (r<55296))=true): ∀r∈l,Rn r:=λr hr=>by
 have:=List.all_eq_true.1 h r hr
 rw [decide_eq_true_eq] at this
 exact⟨xB,xB⟩
theorem qDA{s:xA}{l:List Nat}{x:xA}{e:Nat}(h:s=unr l)(hr:l.all (λr=>decide (r<55296))=true)(hx:(if l.length≤64 then(if qVY 0 0 false l=true then(unr (l.map small),0) else([],5)) else([],2))=(x,e)):normal s=(x,e):=by
 rw [h,qO4 (qY5 hr)];exact hx
end Go.Proofs.YtcgcjaflllmlpaaGreatDoor