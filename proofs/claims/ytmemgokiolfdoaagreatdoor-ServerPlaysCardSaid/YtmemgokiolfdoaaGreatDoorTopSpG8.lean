/- A part of the proof. -/
import Derived.Test.YtmemgokiolfdoaaGreatDoorTopSpG7
import Derived.Test.YtmemgokiolfdoaaGreatDoorRows
set_option maxRecDepth 100000
set_option maxHeartbeats 1000000
set_option linter.unusedSimpArgs false
set_option linter.unusedVariables false
namespace Go.Proofs.YtmemgokiolfdoaaGreatDoor
open Go Go.Fw Go.Proofs.Tryz
abbrev qBz:= @isAgg102
abbrev qGe:= @isAgg106
abbrev qGd:= @isAgg108
abbrev qGc:= @isAgg168
abbrev qPk:= @isAgg25
abbrev b3_:= @isAgg3
abbrev qDg:= @isAgg302
abbrev qKM:= @isAgg32
abbrev qPu:= @isAgg34
abbrev b4_:= @isAgg4
abbrev qBe:= @isAgg49
abbrev b5_:= @isAgg5
abbrev qB7:= @isAgg50
abbrev qM2:= @isAgg52
abbrev qPt:= @isAgg73
abbrev qHD:= @isAgg87
abbrev b9_:= @isAgg9
abbrev qBF:= @sizeOf102
abbrev qCg:= @sizeOf106
abbrev qD6:= @sizeOf108
abbrev qIH:= @sizeOf114
abbrev qJN:= @sizeOf118
abbrev qJM:= @sizeOf120
abbrev qCM:= @sizeOf124
abbrev qEE:= @sizeOf155
abbrev qED:= @sizeOf168
abbrev qCJ:= @sizeOf242
abbrev qJL:= @sizeOf25
abbrev qIG:= @sizeOf268
abbrev z3_:= @sizeOf3
abbrev qCU:= @sizeOf302
abbrev qDF:= @sizeOf32
abbrev qIV:= @sizeOf34
abbrev qHF:= @sizeOf368
abbrev qHE:= @sizeOf371
abbrev z4_:= @sizeOf4
abbrev qND:= @sizeOf40
abbrev qWM:= @sizeOf47
abbrev qBV:= @sizeOf49
abbrev z5_:= @sizeOf5
abbrev qBs:= @sizeOf50
abbrev qGV:= @sizeOf52
abbrev qTL:= @sizeOf59
abbrev qKQ:= @sizeOf73
abbrev qEa:= @sizeOf87
abbrev z9_:= @sizeOf9
abbrev u0_:= @underlying0
abbrev qDG:= @underlying102
abbrev qCB:= @underlying106
abbrev qCN:= @underlying108
abbrev qJX:= @underlying114
abbrev qCy:= @underlying116
abbrev qDl:= @underlying118
abbrev qJW:= @underlying120
abbrev qD9:= @underlying124
abbrev qGY:= @underlying126
abbrev qQF:= @underlying127
abbrev qBR:= @underlying129
abbrev qMK:= @underlying130
abbrev qIJ:= @underlying140
abbrev qOr:= @underlying144
abbrev qD8:= @underlying146
abbrev qHM:= @underlying148
abbrev qFo:= @underlying155
abbrev qJV:= @underlying160
abbrev qCX:= @underlying165
abbrev qEr:= @underlying168
abbrev qCK:= @underlying173
abbrev qJU:= @underlying222
abbrev qII:= @underlying232
abbrev qQE:= @underlying235
abbrev qMJ:= @underlying237
abbrev qCW:= @underlying242
abbrev qEH:= @underlying244
abbrev qFn:= @underlying268
abbrev qQD:= @underlying274
abbrev qWN:= @underlying28
abbrev u3_:= @underlying3
abbrev qKe:= @underlying302
abbrev qGX:= @underlying314
abbrev qFl:= @underlying32
abbrev qQC:= @underlying336
abbrev qKd:= @underlying34
abbrev qGW:= @underlying357
abbrev qOq:= @underlying368
abbrev qBu:= @underlying371
abbrev qOp:= @underlying378
abbrev qA8:= @underlying385
abbrev u4_:= @underlying4
abbrev qMI:= @underlying40
abbrev qKc:= @underlying403
abbrev qEc:= @underlying42
abbrev qTg:= @underlying44
abbrev qKR:= @underlying47
abbrev qDJ:= @underlying49
abbrev u5_:= @underlying5
abbrev qAg:= @underlying50
abbrev qFk:= @underlying52
abbrev qTf:= @underlying53
abbrev qXH:= @underlying57
abbrev qMH:= @underlying59
abbrev qBo:= @underlying73
abbrev qGL:= @underlying83
abbrev qGK:= @underlying85
abbrev qDj:= @underlying87
abbrev qTe:= @underlying89
abbrev u9_:= @underlying9
abbrev e0_:= @zeroValue0
abbrev qEt:= @zeroValue102
abbrev qIQ:= @zeroValue106
abbrev qLg:= @zeroValue108
abbrev qLf:= @zeroValue148
abbrev qPf:= @zeroValue155
abbrev qMv:= @zeroValue268
abbrev e3_:= @zeroValue3
abbrev qOR:= @zeroValue32
abbrev qYx:= @zeroValue34
abbrev qMu:= @zeroValue371
abbrev e4_:= @zeroValue4
abbrev e5_:= @zeroValue5
abbrev qYw:= @zeroValue52
abbrev qaU:= @zeroValue85
abbrev e9_:= @zeroValue9
theorem ent{f:FuncId}(h:enB prog f=true:=by kernel_rfl):qDi prog f:=qDi.ofB h
theorem qAZ{env:Env}{ms:List Hp}{o:Oper}{f:FuncId}{xs:Array Operand}{vs:yU}{tys:Array TypeId}{X:Type}{val:X->Value}{φ:X->Prop}(ho:o.op= .call {callee:= .value (.func f),args:=xs,argTypes:=tys})(hv:evs env xs.toList=some vs)(h: ∀F,(∀m∈ms,Le m F)->Ct prog f vs [F] val φ (λ_=> [F]))(hf:enB prog f=true:=by kernel_rfl):EOp prog env ms o val φ (λ_=>ms):=qAJ ho hv (ent hf) (Ct.use0 h)
theorem qBx{env:Env}{ms:List Hp}{o:Oper}{f:FuncId}{xs:Array Operand}{vs:yU}{tys:Array TypeId}{X:Type}{val:X->Value}{φ:X->Prop}{new:X->List Hp}(ho:o.op= .call {callee:= .value (.func f),args:=xs,argTypes:=tys})(hv:evs env xs.toList=some vs)(h: ∀F,(∀m∈ms,Le m F)->Ct prog f vs [F] val φ (λx=>F::new x))(hf:enB prog f=true:=by kernel_rfl):EOp prog env ms o val φ (λx=>ms++new x):=qAJ ho hv (ent hf) (Ct.use h)
theorem ye:prog.follows .mixedOrders=true:=by kernel_rfl
theorem el102:qCx prog 102 [.int .u64 0,Str [],Str [],.int .i64 0,Str []] 64:=qCx.of xH O
theorem el3:qCx prog 3 [.int .i64 0] 8:=qCx.of xH O
theorem el5:qCx prog 5 [.int .u8 0] 1:=qCx.of xH O
theorem el9:qCx prog 9 [Str []] 16:=qCx.of xH O
theorem noEsc(v:Value)(w:World):(callFunc 251 #[v]).run prog w= .ok (.value v) w:=by kernel_rfl
theorem qFA:prog.info? 146=some t146:=by kernel_rfl
structure Bld (g off:Nat) (l:yU) (mr:Hp) (bs:xA) (A:yS) (c:Nat) (p:yS):Prop where
 a0:l[off]?=some (.pointer p)
 self:p=none\/p=some ⟨g,off,none⟩
 a1:l[off+1]?=some (.slice A bs.length c)
 row:qBf False mr 5 1 A bs.length c (qAe bs)
 cap:A=none\/0<c
theorem qKG(F:Hp)(g T off:Nat)(l:yU)(hl:l[off]?=some (.pointer none))(hT:liesAt prog prog.depth T (l.length/prog.cellsOf T) off 146 1=true):
    Ct prog 194 [.pointer (some ⟨g,off,none⟩)] [blk g l T,F] (λ_:Unit=> .tuple #[]) (λ_=>True) (λ_=> [blk g (qBS l off [.pointer (some ⟨g,off,none⟩)]) T,F]):=by
  have hoff:off<l.length:=(List.getElem?_eq_some_iff.1 hl).1
  refine y7 func194 O ntmps194 O (λw0 hw0=>?_)
  refine yl λ_ C1=>yh O<|yj (qAB O O) O<|yj (qAA O O qD8 O sizeOf144 O) O<|yj (qAD 0 O O O isAgg144 hl) O<|yj (qBL qOr O O O) O<|yi C1<|vV ?_
  exact yt<|yn 2 O<|yj (qMV O O qOr underlying360 qFA xC (m:=blk g l T) xD (qAk _ _) (by simpa using hoff)) O<|yp (qYD O O noEsc) O λg10 _=>yj (qJp O O underlying360 qOr qFA (m:=blk g l T) xD (qAk _ _) (by simpa using hT)) O<|yj (qAB O O) O<|yj (qAA (j:=off) O O qD8 O sizeOf144 O) O<|vG (qAU (i:=0) (vs:= [.pointer (some ⟨g,off,none⟩)]) O O O O O sizeOf144 O (by simp only [jC,jG];omega)) O O λ_ _=>y8<|vo hw0 (λ_ _ h=>h) (qIj O) (qAf () O yd [0,1] O xC)
theorem qIR(F:Hp)(g T off:Nat)(l:yU)(hl:l[off]?=some (.pointer (some ⟨g,off,none⟩))):
    Ct prog 194 [.pointer (some ⟨g,off,none⟩)] [blk g l T,F] (λ_:Unit=> .tuple #[]) (λ_=>True) (λ_=> [blk g l T,F]):=by
  refine y7 func194 O ntmps194 O (λw0 hw0=>?_)
  refine yl λ_ C1=>yh O<|yj (qAB O O) O<|yj (qAA O O qD8 O sizeOf144 O) O<|yj (qAD 0 O O O isAgg144 hl) O<|yj (qBL qOr O O O) O<|yi C1<|vC ?_
  refine yl λ_ C2=>yh O<|yj (qAB O O) O<|yj (qAA O O qD8 O sizeOf144 O) O<|yj (qAD 0 O O O isAgg144 hl) O<|yh O<|yj (qPG qOr qFA O O O) O<|yi C2<|vC ?_
  exact vP<|vo hw0 (λ_ _ h=>h) (qIj O) (qAf () O yd [0,1] O xC)
theorem qIf{l:yU}{k:Nat}{v:Value}(h:l[k]?=some v):qBS l k [v]=l:=by
 obtain ⟨hk,rfl⟩:=List.getElem?_eq_some_iff.1 h
 unfold qBS
 rw [jM,List.singleton_append,jI,<-j9 hk,zN]
theorem qDX{l:yU}{k:Nat}{v:Value}(hk:k<l.length):(qBS l k [v])[k]?=some v:=by
 unfold qBS
 rw [jM,ja xJ]
 simp [jq (Nat.le_of_lt hk)]
theorem qCE{l:yU}{k j:Nat}{v:Value}(hk:k<l.length)(hj:j≠k):(qBS l k [v])[j]?=l[j]?:=by
  unfold qBS
  rw [jM,List.getElem?_append,List.getElem?_append]
  simp only [jF,jq (Nat.le_of_lt hk),jI]
  by_cases h1:j<k
  . rw [yX h1,zY,yX h1]
  . rw [yW h1,yW xB,js]
    congr 1;omega
theorem qEL{l:yU}{k:Nat}{v:Value}(hk:k<l.length):(qBS l k [v]).length=l.length:=by
 unfold qBS
 simp;omega
theorem qEX(F:Hp)(g T off:Nat)(l:yU)(p:yS)(hl:l[off]?=some (.pointer p))(hp:p=none\/p=some ⟨g,off,none⟩)(hT:liesAt prog prog.depth T (l.length/prog.cellsOf T) off 146 1=true):
    Ct prog 194 [.pointer (some ⟨g,off,none⟩)] [blk g l T,F] (λ_:Unit=> .tuple #[]) (λ_=>True) (λ_=> [blk g (qBS l off [.pointer (some ⟨g,off,none⟩)]) T,F]):=by
  rcases hp with rfl|rfl
  . exact qKG F g T off l hl hT
  . rw [qIf hl];exact qIR F g T off l hl
theorem qYu:qDi prog 194:=qDi.of func194 O xH
def Upd(off:Nat)(l l':yU):Prop:=l'.length=l.length/\ ∀j,j≠off->j≠off+1->l'[j]?=l[j]?
theorem Upd.refl(off:Nat)(l:yU):Upd off l l:=⟨rfl,λ_ _ _=>rfl⟩
theorem qKK{g off:Nat}{l:yU}{mr mr':Hp}{bs bs':xA}{A A':yS}{c c':Nat}{p:yS}(hb:Bld g off l mr bs A c p)(hr:qBf False mr' 5 1 A' bs'.length c' (qAe bs'))(hc:A'=none\/0<c'):
    Bld g off (qBS (qBS l off [.pointer (some ⟨g,off,none⟩)]) (off+1) [.slice A' bs'.length c']) mr' bs' A' c' (some ⟨g,off,none⟩)/\Upd off l (qBS (qBS l off [.pointer (some ⟨g,off,none⟩)]) (off+1) [.slice A' bs'.length c']):=by
  have h1:off+1<l.length:=(List.getElem?_eq_some_iff.1 hb.a1).1
  have h0:off<l.length:=xB
  have hl1:=qEL (v:=Value.pointer (some ⟨g,off,none⟩)) h0
  have h1':off+1<(qBS l off [.pointer (some ⟨g,off,none⟩)]).length:=xB
  refine⟨⟨?_,.inr O,?_,hr,hc⟩,by rw [qEL h1',hl1],λj hj hj'=>?_⟩
  . rw [qCE h1' xB,qDX h0]
  . exact qDX h1'
  . rw [qCE h1' hj',qCE h0 hj]
theorem qXi{m:Hp}{e:TypeId}{A:yS}{n c:Nat}{xs:List yU}(h:qBf False m e 1 A n c xs)(hn:0<n):A=none\/0<c:= .inr (j8 hn h.2.2.1)
theorem qKW(F mr:Hp)(g T off:Nat)(l:yU)(bs:xA)(A:yS)(c:Nat)(p:yS)(hb:Bld g off l mr bs A c p)(hT:liesAt prog prog.depth T (l.length/prog.cellsOf T) off 146 1=true)(b:UInt8)(hlen:bs.length<70368744177664):
    Ct prog 208 [.pointer (some ⟨g,off,none⟩),B8 b] [blk g l T,mr,F] (λ_:yU×Hp=> .nilIface) (λx=> ∃A c,Bld g off x.1 x.2 (bs++ [b]) A c (some ⟨g,off,none⟩)/\Upd off l x.1) (λx=> [blk g x.1 T,x.2,F]):=by
  have hoff:off+1<l.length:=(List.getElem?_eq_some_iff.1 hb.a1).1
  have hoff0:off<l.length:=xB
  refine y7 func208 O ntmps208 O (λw0 hw0=>?_)
  refine yl λ_ C1=>yh O<|yi C1<|yl λ_ C2=>yh O<|yp (qAJ O O qYu (vi [blk g l T] [mr,F] (A':=λ_:Unit=> [blk g (qBS l off [.pointer (some ⟨g,off,none⟩)]) T]) (new:=λ_=> []) (λF' _=>qEX F' g T off l p hb.a0 hb.self hT))) O λg6 _=>yi C2<|yl λ_ C3=>yn 2 O<|yj (qAB O O) O<|yj (qAA (j:=off+1) O O qD8 O qKQ O) O<|yj (qAD 0 O O O qPt ((qCE hoff0 xB).trans hb.a1)) O<|yh O<|yp (qAE (l:= [.tmp 12]) (xs:= [[B8 b]]) O O O O qBo el5 O xC xC xD) O λg13 _=>yp (qAV (i:=1) (m2:=blk g13 [B8 b] 5) O O O qBo qBo el5 O hb.row xD (qAj (q:=True) (xs:= [[B8 b]]) O xD).sl O xB xB) O ?_
  rintro⟨A14,c14,m14⟩ h14
  try dsimp only at h14
  have hbp:=qKK (bs':=bs++ [b]) (A':=A14) (c':=c14) (mr':=m14) hb (by simpa [qAe] using h14) (qXi h14 xB)
  simp only [jA,jI] at hbp
  exact yj (qAB O O) O<|yj (qAA O O qD8 O qKQ O) O<|vG (qAU (i:=0) O O O O O qKQ O (by rw [qEL hoff0];exact hoff)) O O λ_ _=>yi C3<|yl λ_ C4=>yh O<|yi C4<|yr<|yw hw0 O (_,m14) O ⟨A14,c14,hbp⟩ [0,1,2] O xC
theorem qBb(F mr:Hp)(g T off:Nat)(l:yU)(bs:xA)(A:yS)(c:Nat)(p:yS)(hb:Bld g off l mr bs A c p)(hT:liesAt prog prog.depth T (l.length/prog.cellsOf T) off 146 1=true)(s:xA)(hlen:bs.length+s.length<70368744177664):
    Ct prog 111 [.pointer (some ⟨g,off,none⟩),Str s] [blk g l T,mr,F] (λ_:yU×Hp=> .tuple #[I s.length,.nilIface]) (λx=> ∃A c,Bld g off x.1 x.2 (bs++s) A c (some ⟨g,off,none⟩)/\Upd off l x.1) (λx=> [blk g x.1 T,x.2,F]):=by
  have hoff:off+1<l.length:=(List.getElem?_eq_some_iff.1 hb.a1).1
  have hoff0:off<l.length:=xB
  refine y7 func111 O ntmps111 O (λw0 hw0=>?_)
  refine yl λ_ C1=>yn 2 O<|yi C1<|yl λ_ C2=>yh O<|yp (qAJ O O qYu (vi [blk g l T] [mr,F] (A':=λ_:Unit=> [blk g (qBS l off [.pointer (some ⟨g,off,none⟩)]) T]) (new:=λ_=> []) (λF' _=>qEX F' g T off l p hb.a0 hb.self hT))) O λg7 _=>yi C2<|yl λ_ C3=>yn 2 O<|yj (qAB O O) O<|yj (qAA (j:=off+1) O O qD8 O qKQ O) O<|yj (qAD 0 O O O qPt ((qCE hoff0 xB).trans hb.a1)) O<|yh O<|yp (qPI (i:=1) O O O qBo u9_ el5 O hb.row xB xB) O ?_
  rintro⟨A14,c14,m14⟩ h14
  try dsimp only at h14
  obtain ⟨h14,hcap⟩:=h14
  have hbp:=qKK (bs':=bs++s) (A':=A14) (c':=c14) (mr':=m14) hb (by simpa [qAe] using h14) (hcap hb.cap)
  simp only [jA] at hbp
  exact yj (qAB O O) O<|yj (qAA O O qD8 O qKQ O) O<|vG (qAU (i:=0) O O O O O qKQ O (by rw [qEL hoff0];exact hoff)) O O λ_ _=>yi C3<|yl λ_ C4=>yh O<|yj (qAn u9_ O O) O<|yn 2 O<|yi C4<|yr<|vH hw0 (λ_ _ h=>h) (qB5 O O O) (qAf (_,m14) O ⟨A14,c14,hbp⟩ [0,1,2] O xC)
theorem qEq(F mr:Hp)(g T off:Nat)(l:yU)(bs:xA)(A:yS)(c:Nat)(p:yS)(hb:Bld g off l mr bs A c p)(hlen:bs.length<70368744177664):
    Ct prog 113 [.pointer (some ⟨g,off,none⟩)] [blk g l T,mr,F] (λ_:Hp=>Str bs) (λm=>Bld g off l m bs A c p) (λm=> [blk g l T,m,F]):=by
  refine y7 func113 O ntmps113 O (λw0 hw0=>?_)
  refine yl λ_ C1=>yh O<|yi C1<|ym λ_ C2=>vQ [blk g l T,F] [] (.y 0 (.y 1 (.y 2 (.y 3 (.y 4 (.y 5 (.y 6 (.y 7 (.y 8 (.y 9 (.e 10 (.y 11 .nil)))))))))))) ye xF xD ?_
  refine yx ?_
  refine yo O (qAB O O) O O<|yo O (qAA O O qD8 O qKQ O) O O<|yo O (qAD 0 O O O qPt hb.a1) O O<|yo O (qK4 O O hb.cap) O O<|yx ?_
  refine yo O (qAB O O) O O<|yo O (qAA O O qD8 O qKQ O) O O<|yo O (qAD 0 O O O qPt hb.a1) O O<|yo O (qAN qBo O O) O O<|vD O (qHZ (i:=1) O O O underlying307 O O hb.row xB) O xD ?_
  rintro m13 h13
  refine vU ?_
  refine vM<|yq (yu C2 ?_)
  exact yr<|yw hw0 O m13 O ⟨hb.a0,hb.self,hb.a1,h13,hb.cap⟩ [0,1,2] O xC
theorem mnz(v:Value)(w:World):(callFunc 252 #[v]).run prog w=(do let x<-Extern.BytealgMakeNoZero.makeNoZero #[3] #[73] #[v];pure (.value x):Sem Next).run prog w:=by kernel_rfl
theorem qVw(F:Hp)(g T off:Nat)(l:yU)(hl:l[off+1]?=some (.slice none 0 0))(n:Nat)(hn:n<=70368744177664):
    Ct prog 195 [.pointer (some ⟨g,off,none⟩),I n] [blk g l T,F] (λ_:Nat×Nat×yU=> .tuple #[]) (λx=>n<=x.2.1/\x.2.2.length=x.2.1) (λx=> [blk g (qBS l (off+1) [.slice (some ⟨x.1,0,none⟩) 0 x.2.1]) T,F,blk x.1 x.2.2 5]):=by
  have hoff:off+1<l.length:=(List.getElem?_eq_some_iff.1 hl).1
  refine y7 func195 O ntmps195 O (λw0 hw0=>?_)
  refine ym λ_ C1=>vQ [blk g l T,F] [] (.y 0 (.y 1 (.y 2 (.y 3 (.y 4 (.y 5 (.y 6 (.y 7 (.y 9 (.y 10 (.y 11 (.y 12 (.y 13 (.e 8 (.y 14 (.y 15 .nil)))))))))))))))) ye xF xD ?_
  refine yx ?_
  refine yo O (qAB O O) O O<|yo O (qAA O O qD8 O qKQ O) O O<|yo O (qAD 0 O O O qPt hl) O O<|yo O (qWc qBo O O) O O<|yo O (qCA O O O xB) O O<|yx ?_
  refine yo O ((qAM O O O xB).as (v':=I n) xD) O O<|yx ?_
  refine yo O (qAB O O) O O<|yo O (qAA O O qD8 O qKQ O) O O<|yo O (qAD 0 O O O qPt hl) O O<|yo O (qAN qBo O O) O O<|vD O (qZt O O mnz qBo xB) O xD ?_
  rintro⟨g13,c13,l13⟩ h13
  try dsimp only at h13
  refine yo O (qEi O O qBo z5_ O xB) O O<|vU ?_
  refine vM<|yq (yu C1 ?_)
  exact yl λ_ C2=>yn 2 O<|yj (qAB O O) O<|yj (qAA O O qD8 O qKQ O) O<|yj (qAD 0 O O O qPt hl) O<|yp (qUn O O O qBo el5) O λg25 _=>yi C2<|yt<|yn 2 O<|yj (qAB O O) O<|yj (qAA O O qD8 O qKQ O) O<|vG (qAU (i:=0) O O O O O qKQ O (by exact hoff)) O O λ_ _=>y8<|vo hw0 (λ_ _ h=>h) (qIj O) (qAf (g13,c13,l13) O h13 [0,1,2] O xC)
theorem qOf(F:Hp)(g T off:Nat)(l:yU)(p:yS)(hb:Bld g off l (λ_=>none) [] none 0 p)(hT:liesAt prog prog.depth T (l.length/prog.cellsOf T) off 146 1=true)(n:Nat)(hn:n<=70368744177664):
    Ct prog 110 [.pointer (some ⟨g,off,none⟩),I n] [blk g l T,λ_=>none,F] (λ_:yU×Hp=> .tuple #[]) (λx=> ∃A c,Bld g off x.1 x.2 ([]) A c (some ⟨g,off,none⟩)/\Upd off l x.1) (λx=> [blk g x.1 T,x.2,F]):=by
  have hoff:off+1<l.length:=(List.getElem?_eq_some_iff.1 hb.a1).1
  have hoff0:off<l.length:=xB
  refine y7 func110 O ntmps110 O (λw0 hw0=>?_)
  refine yl λ_ C1=>yh O<|yp (qAJ O O qYu (vi [blk g l T] [(λ_=>none),F] (A':=λ_:Unit=> [blk g (qBS l off [.pointer (some ⟨g,off,none⟩)]) T]) (new:=λ_=> []) (λF' _=>qEX F' g T off l p hb.a0 hb.self hT))) O λg5 _=>yi C1<|ym λ_ C2=>yl λ_ C3=>yh O<|yj (qAP O O O) O<|yi C3<|vw O (xD) ?_
  refine yy C2<|ym λ_ C4=>vQ [blk g (qBS l off [.pointer (some ⟨g,off,none⟩)]) T,(λ_=>none),F] [] (.y 0 (.y 1 (.y 2 (.y 3 (.y 4 (.y 5 (.y 6 (.y 7 (.y 8 (.y 9 (.y 10 (.y 11 (.y 12 .nil))))))))))))) ye xF xD ?_
  refine yx ?_
  refine yo O (qAB O O) O O<|yo O (qAA (j:=off+1) O O qD8 O qKQ O) O O<|yo O (qAD 0 O O O qPt ((qCE hoff0 xB).trans hb.a1)) O O<|yo O (qWc qBo O O) O O<|yx ?_
  refine yo O (qAB O O) O O<|yo O (qAA (j:=off+1) O O qD8 O qKQ O) O O<|yo O (qAD 0 O O O qPt ((qCE hoff0 xB).trans hb.a1)) O O<|yo O (qAN qBo O O) O O<|yo O (qAm (a:=0) (b:=0) O O O xB) O O<|yx ?_
  refine yo O (qAP O O O) O O<|vM<|yq (yu C4 ?_)
  refine y1 O (λh21=>?_) (λh21=>?_)
  .
    refine yt<|yn 2 O<|yp (qAJ O O ent (vi [blk g (qBS l off [.pointer (some ⟨g,off,none⟩)]) T] [λ_=>none,F] (A':=λx:Nat×Nat×yU=> [blk g (qBS (qBS l off [.pointer (some ⟨g,off,none⟩)]) (off+1) [.slice (some ⟨x.1,0,none⟩) 0 x.2.1]) T]) (new:=λx=> [blk x.1 x.2.2 5]) (λF' _=>qVw F' g T off (qBS l off [.pointer (some ⟨g,off,none⟩)]) ((qCE hoff0 xB).trans hb.a1) n hn))) O ?_
    rintro⟨g24,c24,l24⟩ h24
    try dsimp only at h24
    refine y8 ?_
    have hbp:=qKK (bs':= []) (A':=some ⟨g24,0,none⟩) (c':=c24) (mr':=blk g24 l24 5) hb (qHT (xs:= []) (rest:=l24) (lo:=0) (hi:=0) O O xD (by simpa using h24.2) (jH _) (.inl O)) (.inr xB)
    simp only [jG] at hbp
    exact vo hw0 (λ_ _ h=>h) (qIj O) (qAf (_,blk g24 l24 5) O ⟨some ⟨g24,0,none⟩,c24,hbp⟩ [0,3,2] O xC)
  refine vP ?_
  have hbp:=qKK (bs':= []) (A':=none) (c':=0) (mr':=λ_=>none) hb qBf.nil (.inl O)
  have e1:=qIf ((qCE (v:= .pointer (some ⟨g,off,none⟩)) hoff0 xB).trans hb.a1)
  simp only [jG] at e1 hbp
  rw [e1] at hbp
  exact vo hw0 (λ_ _ h=>h) (qIj O) (qAf (_,λ_=>none) O ⟨none,0,hbp⟩ [0,1,2] O xC)
def qC5(sep:xA):List xA->xA
 | []=> []
 |a::r=>a++(r.map λx=>sep++x).flatten
theorem qLP: ∀ls,qC5 [] ls=ls.flatten
 | []=>rfl
 |a::r=>by simp [qC5]
def qEJ(ls:List xA):Nat:=(ls.map List.length).sum
theorem qHP(ls:List xA)(k:Nat){s:xA}(h:ls[k]?=some s):qEJ (ls.take (k+1))=qEJ (ls.take k)+s.length:=by
 obtain ⟨hk,rfl⟩:=List.getElem?_eq_some_iff.1 h
 unfold qEJ
 rw [jP hk,jN,yH];rfl
theorem qFH(ls:List xA)(k:Nat):qEJ (ls.take k)<=qEJ ls:=by
 unfold qEJ
 conv=>rhs;rw [<-zN k ls,jN,yH]
 omega
theorem qEU(sep:xA): ∀(ls:List xA),(qC5 sep ls).length=qEJ ls+sep.length*(ls.length-1)
 | []=>by simp [qC5,qEJ]
 |a::r=>by
  have h: ∀r:List xA,(r.map λx=>sep++x).flatten.length=(r.map List.length).sum+sep.length*r.length:=by
   intro r
   induction r with
   |nil=>rfl
   |cons x r ih=>
    simp only [jY,jo,jA,zE,jC,Nat.mul_add,ih]
    omega
  simp [qC5,qEJ,h];omega
theorem qI5(sep:xA)(ls:List xA)(k:Nat){s:xA}(h:ls[k+1]?=some s):qC5 sep (ls.take (k+2))=qC5 sep (ls.take (k+1))++sep++s:=by
 cases ls with
 |nil=>simp at h
 |cons a r=>
  simp only [List.getElem?_cons_succ] at h
  obtain ⟨hk,rfl⟩:=List.getElem?_eq_some_iff.1 h
  simp only [List.take_succ_cons,qC5]
  rw [jP hk,jN,zA]
  simp only [jY,zg,jo,zf,jS,jM]
theorem qI6(sep:xA)(ls:List xA)(k:Nat):(qC5 sep (ls.take (k+1))).length<=(qC5 sep ls).length:=by
 rw [qEU,qEU]
 have h1:=qFH ls (k+1)
 have h2:(ls.take (k+1)).length<=ls.length:=by simp;omega
 have h3:sep.length*((ls.take (k+1)).length-1)<=sep.length*(ls.length-1):=Nat.mul_le_mul_left _ xB
 omega
theorem qMh:liesAt prog prog.depth 146 (2/prog.cellsOf 146) 0 146 1=true:=by kernel_rfl
theorem qXc(a b M:Int)(hb:0<b)(h:a*b+b<=M):a+1<=M/b:=by
 rw [Int.le_ediv_iff_mul_le hb,Int.add_mul];omega
theorem qVQ(F:Hp)(A:yS)(n c:Nat)(sep:xA)(hl:Sl F 1 A n c (qAG [])):
    Cz prog 248 [.slice A n c,Str sep] F (Str (qC5 sep [])):=by
  have hn:n=0:=hl.1.symm
  subst hn
  refine y7 func248 O ntmps248 O (λw0 hw0=>?_)
  refine yl λ_ C1=>yh O<|yi C1<|ym λ_ C2=>yl λ_ C3=>yh O<|yj (qAN qAg O O) O<|yi C3<|yz<|yl λ_ C4=>yj (qAR O O O) O<|yh O<|yi C4<|vV ?_
  exact yl λ_ C5=>yh O<|yi C5<|yr<|vI<|y5<|yw hw0 O () O yd [0] O xC
theorem qVP(F:Hp)(A:yS)(n c:Nat)(s:xA)(sep:xA)(hl:Sl F 1 A n c (qAG [s])):
    Cz prog 248 [.slice A n c,Str sep] F (Str (qC5 sep [s])):=by
  have hn:n=1:=hl.1.symm
  subst hn
  refine y7 func248 O ntmps248 O (λw0 hw0=>?_)
  refine yl λ_ C1=>yh O<|yi C1<|ym λ_ C2=>yl λ_ C3=>yh O<|yj (qAN qAg O O) O<|yi C3<|yz<|yl λ_ C4=>yj (qAR O O O) O<|yh O<|yi C4<|vw O (O) ?_
  refine yl λ_ C5=>yj (qAR O O O) O<|yh O<|yi C5<|wP O (O) ?_
  exact yl λ_ C6=>yh O<|yj (qAC O O O qAg z9_ hl xC) O<|yj (qAH O O b9_ xD (hl.elem (qAa (k:=0) O))) O<|yh O<|yi C6<|yr<|vI<|y5<|yw hw0 O () (by simp [qC5]) yd [0] O xC
theorem qSR(F:Hp)(A:yS)(n c:Nat)(ls:List xA)(sep:xA)(hl:Sl F 1 A n c (qAG ls))(h2:2<=n)(htot:(qC5 sep ls).length<=35184372088832)(hn47:n<=70368744177664):
    Cz prog 248 [.slice A n c,Str sep] F (Str (qC5 sep ls)):=by
  have hlen:ls.length=n:=by have:=hl.1;simpa [qAG] using this
  have hjl:=qEU sep ls
  rw [hlen] at hjl
  have hq:(sep.length:Int)*((n:Int)-1)=((sep.length*(n-1):Nat):Int):=by rw [yQ];congr 1;omega
  have hB0: ¬0<(sep.length:Int)->sep.length*(n-1)=0:=λh=>by rw [show sep.length=0 by omega,yD]
  have hsm:sep.length<=35184372088832:=by
    have:sep.length*1<=sep.length*(n-1):=Nat.mul_le_mul_left _ xB
    omega
  have hdiv:(sep.length:Int)+1<=9223372036854775807/((n:Int)-1):=qXc _ _ _ xB (by rw [hq];omega)
  have hnc:=hl.2.1
  obtain ⟨B,hB⟩: ∃B,sep.length*(n-1)=B:=⟨_,rfl⟩
  rw [hB] at hjl hq hB0
  generalize hD:(9223372036854775807:Int)/((n:Int)-1)=D at hdiv
  have H2:(0:Int)<=9223372036854775807/\0<(n:Int)-1/\(9223372036854775807:Int)<=9223372036854775807:=xB
  refine y7 func248 O ntmps248 O (λw0 hw0=>?_)
  refine yl λ_ C1=>yh O<|yi C1<|ym λ_ C2=>yl λ_ C3=>yh O<|yj (qAN qAg O O) O<|yi C3<|yz<|yl λ_ C4=>yj (qAR O O O) O<|yh O<|yi C4<|vw O (xJ) ?_
  refine yl λ_ C5=>yj (qAR O O O) O<|yh O<|yi C5<|vw O (xJ) ?_
  refine vP<|vB<|yq (yu C2 ?_)
  refine yl λ_ C6=>yh O<|yi C6<|vl (λ_:Unit=> [(0,.slice A n c),(1,Str sep),(5,I (B:Int))]) (λ_=> [F]) (λ_=>True) (λ_ C7=>?_) ?_
  .
    refine yl λ_ C8=>yh O<|yj (qAn u9_ O O) O<|yj (qAs O O O) O<|yi C8<|y1 O (λh22=>?_) (λh22=>?_)
    .
      refine ym λ_ C9=>yl λ_ C10=>yh O<|yj (qAn u9_ O O) O<|yh O<|yj (qAN qAg O O) O<|yj (qAm O O O xB) O<|yj ((qFV O O O H2).as (yY I hD)) O<|yj (qA1 O O O) O<|yi C10<|vw O (xJ) ?_
      exact yy C9<|yt<|yn 2 O<|yj (qAn u9_ O O) O<|yh O<|yj (qAN qAg O O) O<|yj (qAm O O O xB) O<|yj ((qCA O O O (by rw [hq];omega)).as (v':=I (B:Int)) (by rw [hq])) O<|yj ((qAM O O O xB).as (v':=I (B:Int)) xD) O<|yh O<|y8<|yq<|vY () C7 trivial (Sub.of O) (λ_ h=>h)
    exact vP<|yq<|vY () C7 trivial ⟨O,O,by rw [hB0 h22];rfl,yd⟩ (λ_ h=>h)
  rintro _ _
  refine ym λ_ C11=>yl λ_ C12=>yh O<|yj (qAN qAg O O) O<|yh O<|yi C12<|yz<|vN (λk:Nat=> [(0,.slice A n c),(1,Str sep),(5,I (B+qEJ (ls.take k):Nat)),(39,.slice A n c),(40,I n),(41,I k)]) (λ_=> [F]) (λk=>k<=n) (λk=>n-k) 0 (jH _) (Sub.of O) (λ_ h=>h) ?_
  intro k hk I1 hI1
  refine yl λ_ C13=>yj (qAP O O O) O<|yi C13<|ym λ_ C14=>y1 O (λh42=>?_) (λh42=>?_)
  .
    refine yy C14<|ym λ_ C15=>yz<|ym λ_ C16=>?_
    have hkn:k<n:=xB
    obtain ⟨s,hs⟩: ∃s,ls[k]?=some s:=⟨_,jD xB⟩
    have hst:=qHP ls k hs
    have hst2:=qFH ls (k+1)
    refine yt<|yj (qAC O O O qAg z9_ hl hkn) O<|yj (qAH O O b9_ xD (hl.elem (qAa hs))) O<|yh O<|yi C16<|ym λ_ C17=>yl λ_ C18=>yh O<|yj (qAn u9_ O O) O<|yh O<|yj (qAm O O O xB) O<|yj (qAs O O O) O<|yi C18<|vw O (xJ) ?_
    refine yy C17<|yt<|yn 2 O<|yj (qAn u9_ O O) O<|yj (qAM O O O xB) O<|yh O<|y8<|vB<|yq (yu C15 ?_)
    exact yt<|yj (qAM O O O xB) O<|yh O<|y8<|yq<|vE (k+1) hI1 xB ⟨O,O,by rw [hst];exact yY (λz=>some (I z)) xB,O,O,O,yd⟩ (λ_ h=>h)
  refine vK<|y6<|y6<|vL ?_
  refine yq (yu C11 ?_)
  refine yl λ_ C19=>yp (qAO O zeroValue146 O) O λg8 _=>ve [1,2,0] [blk g8 [.pointer none,.slice none 0 0] 146,λ_=>none,F] O xC<|yi C19<|ym λ_ C20=>?_
  have hst3:=qFH ls k
  refine yt<|yh O<|yp (qAJ O O ent (qOf F g8 146 0 [.pointer none,.slice none 0 0] none ⟨O,.inl O,O,qBf.nil,.inl O⟩ qMh _ xB)) O ?_
  rintro⟨l57,m57⟩ ⟨A57,c57,hb57,hu57⟩
  dsimp only at hb57 hu57
  obtain ⟨s0,hs0⟩: ∃s0,ls[0]?=some s0:=⟨_,jD xB⟩
  have hs0l:s0.length<=qEJ ls:=by have h1:=qHP ls 0 hs0;have h2:=qFH ls 1;simp only [jl] at h1;omega
  refine yi C20<|yl λ_ C21=>yh O<|yj (qAC (i:=0) O O O qAg z9_ hl xB) O<|yj (qAH O O b9_ xD (hl.elem (qAa hs0))) O<|yp (qAJ O O ent (qBb F m57 g8 146 0 l57 [] A57 c57 _ hb57 (by rw [hu57.1];exact qMh) s0 xJ)) O ?_
  rintro⟨l61,m61⟩ ⟨A61,c61,hb61,hu61⟩
  dsimp only at hb61 hu61
  have hb61:Bld g8 0 l61 m61 (qC5 sep (ls.take 1)) A61 c61 (some ⟨g8,0,none⟩):=by
    have e:qC5 sep (ls.take 1)= []++s0:=by cases ls with
      |nil=>simp at hs0
      |cons a r=>simp at hs0;subst hs0;simp [qC5]
    rw [e];exact hb61
  refine yi C21<|ym λ_ C22=>yl λ_ C23=>yh O<|yj (qCi (l:=1) (h:=n) O O qAg z9_ O O xB) O<|yj (qAN qAg O O) O<|yh O<|yi C23<|yz<|vN (X:=Nat×yU×Hp×yS×Nat) (λx=> [(1,Str sep),(8,Ptr g8),(63,_),(64,I (n-1:Nat)),(65,I x.1)]) (λx=> [blk g8 x.2.1 146,x.2.2.1,F]) (λx=>x.1<=n-1/\x.2.1.length=2/\Bld g8 0 x.2.1 x.2.2.1 (qC5 sep (ls.take (x.1+1))) x.2.2.2.1 x.2.2.2.2 (some ⟨g8,0,none⟩)) (λx=>n-1-x.1) (0,l61,m61,A61,c61) (⟨jH _,by rw [hu61.1,hu57.1];rfl,hb61⟩) (Sub.of O) (λ_ h=>h) ?_
  rintro⟨k,l,m,A1,c1⟩ ⟨hk,hll,hb⟩ I3 hI3
  dsimp only at hk hll hb⊢
  have hl2:=hl.cut (lo:=1) (hi:=n) (mx:=c) xB (jL _) hl.2.1
  refine yl λ_ C24=>yj (qAP O O O) O<|yi C24<|ym λ_ C25=>y1 O (λh66=>?_) (λh66=>?_)
  .
    refine yy C25<|ym λ_ C26=>yz<|ym λ_ C27=>?_
    have hkn:k+1<n:=xB
    obtain ⟨s,hs⟩: ∃s,ls[k+1]?=some s:=⟨_,jD xB⟩
    have hs2:((((qAG ls).take n).drop 1))[k]?=some [Str s]:=by rw [js,zY,yO 1 k,yX hkn];exact qAa hs
    have hj1:=qI6 sep ls (k+1)
    rw [qI5 sep ls k hs] at hj1
    simp only [jA] at hj1
    refine yt<|yj (qAC O O O qAg z9_ hl2 xB) O<|yj (qAH O O b9_ xD (hl2.elem hs2)) O<|yh O<|yi C27<|yl λ_ C28=>yh O<|yp (qAJ O O ent (qBb F m g8 146 0 l _ A1 c1 _ hb (by rw [hll];exact qMh) sep xB)) O ?_
    rintro⟨l70,m70⟩ ⟨A70,c70,hb70,hu70⟩
    dsimp only at hb70 hu70
    refine yi C28<|yt<|yh O<|yp (qAJ O O ent (qBb F m70 g8 146 0 l70 _ A70 c70 _ hb70 (by rw [hu70.1,hll];exact qMh) s xJ)) O ?_
    rintro⟨l72,m72⟩ ⟨A72,c72,hb72,hu72⟩
    dsimp only at hb72 hu72
    rw [<-qI5 sep ls k hs] at hb72
    refine y8<|vB<|yq (yu C26 ?_)
    refine yt<|yj (qAM O O O xB) O<|yh O<|y8<|yq<|vE (k+1,l72,m72,A72,c72) hI3 ⟨by dsimp only;omega,by rw [hu72.1,hu70.1];exact hll,hb72⟩ (Sub.of O) (λ_ h=>h)
  refine vK<|y6<|y6<|vL ?_
  refine yq (yu C22 ?_)
  refine ym λ_ C29=>?_
  have hend:qC5 sep (ls.take (k+1))=qC5 sep ls:=by rw [jV xB]
  have hj1:=qI6 sep ls k
  refine yt<|yp (qAJ O O ent (qEq F m g8 146 0 l _ A1 c1 _ hb xB)) O ?_
  rintro m74 h74
  exact yh O<|yi C29<|yr<|yw hw0 O () (by rw [hend]) yd [2] O xC
theorem qYj(F:Hp)(A:yS)(n c:Nat)(ls:List xA)(sep:xA)(hl:Sl F 1 A n c (qAG ls))(htot:(qC5 sep ls).length<=35184372088832)(hn47:n<=70368744177664):
    Cz prog 248 [.slice A n c,Str sep] F (Str (qC5 sep ls)):=by
  have hlen:ls.length=n:=by have:=hl.1;simpa [qAG] using this
  match ls,hl,htot,hlen with
  | [],hl,_,_=>exact qVQ F A n c sep hl
  | [s],hl,_,_=>exact qVP F A n c s sep hl
  |a::b::r,hl,htot,hlen=>exact qSR F A n c _ sep hl (by simp at hlen;omega) htot hn47
def small(r:Nat):Nat:=if 65<=r/\r<=90\/913<=r/\r<=937/\r≠930\/1040<=r/\r<=1071 then r+32 else r
def qEB(r:Nat):Nat:=if 97<=small r/\small r<=122 then 1 else if 945<=small r/\small r<=969 then 2 else if 1072<=small r/\small r<=1103 then 4 else 0
def qIg(r:Nat):Bool:=decide (r=46\/r=45\/r=95\/r=64)
def qQf(c:UInt8):Bool:=qIg c.toNat
def qKT(l:yT)(b:Nat):Nat:=l.foldl (λb r=>b|||qEB r) b
def good(b:Nat):Bool:=decide (b=0\/b=1\/b=2\/b=4)
theorem qT3(r:Nat):small r<=r+32:=by unfold small;split<;>omega
theorem qUI{r:Nat}(h:Rn r):Rn (small r):=by
 obtain ⟨h1,h2⟩:=h
 unfold small Rn
 split<;>omega
theorem qMi(r:Nat):qEB r<8:=by
 unfold qEB;repeat' split
 all_goals omega
theorem qTD: ∀(l:yT) (b:Nat),b<8->qKT l b<8
 | [],_,h=>h
 |r::l,b,h=>qTD l (b|||qEB r) (Nat.or_lt_two_pow (n:=3) h (qMi r))
theorem qV6(l m:yT)(b:Nat):qKT (l++m) b=qKT m (qKT l b):=z6
def spl:xA->xA->List xA
 |cur,[]=> [cur]
 |cur,c::t=>if qQf c then cur::spl [] t else spl (cur++ [c]) t
def qTM:yT->yT->List yT
 |cur,[]=> [cur]
 |cur,r::t=>if qIg r then cur::qTM [] t else qTM (cur++ [r]) t
theorem qXU{c:UInt8}(h:qQf c=true)(cur t:xA):spl cur (c::t)=cur::spl [] t:=by rw [spl,yX h]
theorem qHR: ∀(p:xA),(∀c∈p,qQf c=false)-> ∀cur t,spl cur (p++t)=spl (cur++p) t
 | [],_,cur,t=>by rw [jS];rfl
 |c::p,h,cur,t=>by
  rw [yC,spl,yW (by rw [h c (.head _)];decide),qHR p (λx hx=>h x (.tail _ hx)),jM];rfl
theorem qMs{r:Nat}(h:Rn r)(hb:128<=r): ∀c∈enc r,128<=c.toNat:=by
  have:=h.1
  intro c hc
  unfold enc at hc
  rw [yW xB] at hc
  split at hc
  . rcases List.mem_cons.1 hc with rfl|hc
    . rw [b8 xB];omega
    . rw [List.mem_singleton.1 hc,b8 xB];omega
  split at hc
  . rcases List.mem_cons.1 hc with rfl|hc
    . rw [b8 xB];omega
    rcases List.mem_cons.1 hc with rfl|hc
    . rw [b8 xB];omega
    . rw [List.mem_singleton.1 hc,b8 xB];omega
  . rcases List.mem_cons.1 hc with rfl|hc
    . rw [b8 xB];omega
    rcases List.mem_cons.1 hc with rfl|hc
    . rw [b8 xB];omega
    rcases List.mem_cons.1 hc with rfl|hc
    . rw [b8 xB];omega
    . rw [List.mem_singleton.1 hc,b8 xB];omega
theorem qJf{c:UInt8}(h:128<=c.toNat):qQf c=false:=by unfold qQf qIg;exact yb xB
theorem qTt{s:xA}(h:s≠ [])(hs:qIg (dec s 0).1=true):(dec s 0).2=1/\ ∃c t,s=c::t/\qQf c=true/\c.toNat=(dec s 0).1:=by
  by_cases ho:dec s 0=(65533,1)
  . rw [ho] at hs;exact absurd hs xC
  . obtain ⟨r,t,hr,rfl,hd⟩:=qLk h ho
    rw [hd] at hs⊢
    dsimp only at hs⊢
    have hr2:r<128:=by unfold qIg at hs;rw [yZ] at hs;omega
    rw [qC8 hr2]
    refine⟨O,_,_,O,?_,b8 xB⟩
    unfold qQf;rw [b8 xB];exact hs
theorem qTu{s:xA}(h:s≠ [])(hs:qIg (dec s 0).1=false): ∀c∈s.take (dec s 0).2,qQf c=false:=by
  by_cases ho:dec s 0=(65533,1)
  . rw [ho]
    obtain ⟨x,t,rfl⟩:=List.exists_cons_of_ne_nil h
    intro c hc
    rw [show(x::t).take 1= [x] from rfl,ji] at hc
    subst hc
    refine qJf ?_
    by_cases hx:c.toNat<128
    . have:=qH4 (r:=c.toNat) ⟨xB,xB⟩ t
      rw [qC8 hx,b8e rfl] at this
      rw [show [c]++t=c::t from rfl,ho] at this
      have:=yY Prod.fst this
      dsimp only at this
      omega
    . omega
  . obtain ⟨r,t,hr,rfl,hd⟩:=qLk h ho
    rw [hd] at hs⊢
    dsimp only at hs⊢
    rw [List.take_left]
    by_cases hr2:r<128
    . rw [qC8 hr2]
      intro c hc
      rw [List.mem_singleton.1 hc];unfold qQf;rw [b8 xB];exact hs
    . exact λc hc=>qJf (qMs hr xB c hc)
theorem qQX: ∀(l:yT),(∀r∈l,Rn r)-> ∀cur,spl (unr cur) (unr l)=(qTM cur l).map unr
  | [],_,cur=>rfl
  |r::l,h,cur=>by
    have hr:=h r (.head _)
    have ih:=qQX l (λx hx=>h x (.tail _ hx))
    rw [qCh,qTM]
    by_cases hs:qIg r=true
    . have hr2:r<128:=by unfold qIg at hs;rw [yZ] at hs;omega
      rw [yX hs,qC8 hr2,jY,<-ih []]
      rw [show [UInt8.ofNat r]++unr l=UInt8.ofNat r::unr l from rfl,spl,yX (by unfold qQf;rw [b8 xB];exact hs)];rfl
    . rw [yW hs,<-ih,qHR,qOo]
      . rw [show unr [r]=enc r from jS _]
      . by_cases hr2:r<128
        . rw [qC8 hr2]
          intro c hc
          rw [List.mem_singleton.1 hc];unfold qQf;rw [b8 xB];exact Bool.eq_false_iff.2 hs
        . exact λc hc=>qJf (qMs hr xB c hc)
theorem qJc: ∀(l cur:yT) (p:yT),p∈qTM cur l-> ∀r∈p,r∈cur\/r∈l
  | [],cur,p,h,r,hr=>by rw [qTM,ji] at h;subst h;exact .inl hr
  |x::l,cur,p,h,r,hr=>by
    rw [qTM] at h
    split at h
    . rcases List.mem_cons.1 h with rfl|h
      . exact .inl hr
      . rcases qJc l [] p h r hr with h|h
        . cases h
        . exact .inr (.tail _ h)
    . rcases qJc l _ p h r hr with h|h
      . rcases List.mem_append.1 h with h|h
        . exact .inl h
        . rw [List.mem_singleton.1 h];exact .inr (.head _)
      . exact .inr (.tail _ h)
def okR(r:Nat):Bool:=decide (qEB r≠0\/48<=r/\r<=57)||qIg r
def okP(p:xA):Bool:=decide (p≠ [])&&good (qKT (rl p) 0)
def right(s:xA):Bool:=(rl s).all okR&&(spl [] s).all okP&&decide (s.count 64<=1)
def normal(s:xA):xA×Nat:=
 if vld s=true then(if(rl s).length<=64 then(if right s=true then(unr ((rl s).map small),0) else([],5)) else([],2)) else([],4)
def qTa:Nat->Nat->Bool->yT->Bool
  |ats,bits,sm,[]=>sm&&good bits&&decide (ats<=1)
  |ats,bits,sm,r::t=>if qIg r=true then sm&&good bits&&qTa (if r=64 then ats+1 else ats) 0 false t
      else decide (qEB r≠0\/48<=r/\r<=57)&&qTa ats (bits|||qEB r) true t
theorem qL9: ∀(l:yT) (ats:Nat) (cur:yT),
    qTa ats (qKT cur 0) (decide (cur≠ [])) l=(l.all okR&&(qTM cur l).all (λp=>decide (p≠ [])&&good (qKT p 0))&&decide (ats+l.count 64<=1))
  | [],ats,cur=>by
    rw [qTa,qTM,List.all_nil,Bool.true_and,zP,List.all_nil,Bool.and_true,List.count_nil,zc]
  |r::l,ats,cur=>by
    rw [qTa,qTM]
    by_cases hs:qIg r=true
    . rw [yX hs,yX hs]
      have:=qL9 l (if r=64 then ats+1 else ats) []
      rw [show qKT [] 0=0 from rfl,show decide (([]:yT)≠ [])=false from rfl] at this
      rw [this,zP,zP,show okR r=true from by unfold okR;rw [hs,Bool.or_true]]
      have e:decide ((if r=64 then ats+1 else ats)+l.count 64<=1)=decide (ats+(r::l).count 64<=1):=by
        rw [List.count_cons]
        by_cases h:r=64
        . subst h;rw [yX rfl];simp only [beq_self_eq_true,if_true];exact decide_eq_decide.2 xB
        . rw [yW h,yW (by rw [beq_iff_eq];exact h)];rfl
      rw [e,Bool.true_and]
      cases decide (cur≠ [])<;>cases good (qKT cur 0)<;>cases l.all okR<;>simp
    . rw [yW hs,yW hs]
      have:=qL9 l ats (cur++ [r])
      rw [qV6,show qKT [r] (qKT cur 0)=qKT cur 0|||qEB r from rfl,show decide (cur++ [r]≠ [])=true from ya xD] at this
      rw [this,zP,show okR r=decide (qEB r≠0\/48<=r/\r<=57) from by unfold okR;rw [Bool.eq_false_iff.2 hs,Bool.or_false]]
      have e:(r::l).count 64=l.count 64:=by
        rw [List.count_cons,yW,zc]
        intro h
        rw [beq_iff_eq] at h;subst h;exact hs O
      rw [e,Bool.and_assoc,Bool.and_assoc,Bool.and_assoc]
theorem qSg{r:Nat}(h:Rn r):(enc r).count 64=if r=64 then 1 else 0:=by
  by_cases hr:r<128
  . rw [qC8 hr,List.count_singleton]
    by_cases h4:r=64
    . subst h4;rfl
    . rw [yW h4,yW]
      rw [beq_iff_eq];intro e
      have:=yY UInt8.toNat e
      rw [b8 xB] at this
      exact h4 this
  . rw [yW xB]
    refine List.count_eq_zero.2 λhm=>?_
    have:=qMs h xB _ hm
    exact absurd this xC
theorem qKb: ∀(l:yT),(∀r∈l,Rn r)->(unr l).count 64=l.count 64
 | [],_=>rfl
 |r::l,h=>by
  rw [qCh,List.count_append,qKb l (λx hx=>h x (.tail _ hx)),qSg (h r (.head _)),List.count_cons,yO]
  simp only [beq_iff_eq]
theorem qZX{l:yT}(h:l≠ []):unr l≠ []:=by
 obtain ⟨r,t,rfl⟩:=List.exists_cons_of_ne_nil h
 rw [qCh];simp [qH0]
theorem qTE{α:Type}{f g:α->Bool}: ∀{l:List α},(∀x∈l,f x=g x)->l.all f=l.all g
 | [],_=>rfl
 |x::l,h=>by rw [zP,zP,h x (.head _),qTE (λy hy=>h y (.tail _ hy))]
theorem qQq{l:yT}(h: ∀r∈l,Rn r):right (unr l)=qTa 0 0 false l:=by
 have:=qL9 l 0 []
 rw [show qKT [] 0=0 from rfl,show decide (([]:yT)≠ [])=false from rfl] at this
 rw [this]
 unfold right
 have e:=qQX l h []
 rw [show unr []= [] from rfl] at e
 rw [qXo h,e,qKb l h,jl,List.all_map]
 congr 2
 refine qTE λp hp=>?_
 have hp2: ∀r∈p,Rn r:=λr hr=>by
  rcases qJc l [] p hp r hr with h'|h'
  . cases h'
  . exact h r h'
 show okP (unr p)=_
 unfold okP
 rw [qXo hp2]
 congr 1
 by_cases h0:p= []
 . subst h0;rfl
 . rw [ya (qZX h0),ya h0]
theorem qPL{l:yT}(h: ∀r∈l,Rn r):normal (unr l)=if l.length<=64 then(if qTa 0 0 false l=true then(unr (l.map small),0) else([],5)) else([],2):=by
 unfold normal
 rw [yX (qZW h),qXo h,qQq h]
theorem qH2{s:xA}{p:Nat}(h:p<s.length):s.drop p≠ []:=λe=>by
 have:=yY List.length e
 rw [jE,jG] at this;omega
theorem qaY{s:xA}{p:Nat}(h:p<s.length):Rn (dec s p).1:=by
  rw [qEn xB]
  by_cases ho:dec (s.drop p) 0=(65533,1)
  . rw [ho];exact⟨xC,xC⟩
  . obtain ⟨r,t,hr,_,hd⟩:=qLk (qH2 h) ho
    rw [hd];exact hr
theorem qYz{s:xA}{p:Nat}(h:p<s.length)(hn:(dec s p).1≠65533):(enc (dec s p).1).length=(dec s p).2:=by
 rw [qEn xB] at hn⊢
 obtain ⟨r,t,hr,_,hd⟩:=qLk (qH2 h) (λho=>by rw [ho] at hn;exact hn O)
 rw [hd]
theorem qT0{s:xA}{p:Nat}(h:p<s.length)(cur:xA)(hs:qIg (dec s p).1=true):spl cur (s.drop p)=cur::spl [] (s.drop (qLE s p)):=by
 have hd:=qEn (s:=s) (pos:=p) xB
 rw [hd] at hs
 obtain ⟨h1,c,t,e,hc,_⟩:=qTt (qH2 h) hs
 rw [qER h,hd,h1,<-zH,e,qXU hc];rfl
theorem qIL{s:xA}{p:Nat}(h:p<s.length)(cur:xA)(hs:qIg (dec s p).1=false):spl cur (s.drop p)=spl (cur++(s.take (p+(dec s p).2)).drop p) (s.drop (qLE s p)):=by
 have hd:=qEn (s:=s) (pos:=p) xB
 have e:(s.take (p+(dec s p).2)).drop p=(s.drop p).take (dec s p).2:=by rw [List.drop_take];congr 1;omega
 rw [e,qER h,<-zH]
 rw [hd] at hs⊢
 rw [<-qHR _ (qTu (qH2 h) hs),zN]
theorem qVF(ds:List xA)(cur q:xA){n:Nat}(h:n=ds.length):(ds++ [cur]).set n ((ds++ [cur]).getD n []++q)=ds++ [cur++q]:=by
 subst h
 rw [jB,ja (jL _),List.set_append_right _ _ (jL _),zK];rfl
theorem qUq: ∀b,b<8->(b&&&(b-1)=0↔good b=true):=by decide
theorem qVH(ds:List xA)(cur:xA):(ds++ [cur]).getD ds.length []=cur:=by
 rw [jB,ja (jL _),zK];rfl
theorem qFp: ∀(t cur:xA) (q:xA),q∈spl cur t->q.length<=cur.length+t.length
  | [],cur,q,h=>by rw [spl,ji] at h;subst h;exact jL _
  |c::t,cur,q,h=>by
    rw [spl] at h
    rw [jC]
    split at h
    . rcases List.mem_cons.1 h with rfl|h
      . omega
      . have:=qFp t [] q h;rw [jG] at this;omega
    . have:=qFp t _ q h;rw [jA,jC,jG] at this;omega
theorem qXV(s:xA)(k:Nat):((spl [] s).getD k []).length<=s.length:=by
  by_cases h:k<(spl [] s).length
  . have:=qFp s [] ((spl [] s).getD k []) (by rw [jB,jD h];exact jU h)
    rw [jG] at this;omega
  . rw [jB,je xB];exact jH _
theorem qTo{l:List xA}{f:xA->Bool}{k:Nat}(h:k<l.length):(l.take (k+1)).all f=((l.take k).all f&&f (l.getD k [])):=by
 rw [List.take_add_one,jB,jD h,List.all_append];simp
theorem qOS{l:List xA}{f:xA->Bool}{k:Nat}(h:k<l.length)(hf:f (l.getD k [])=false):l.all f=false:=by
 rw [jB,jD h] at hf
 rw [List.all_eq_false];exact⟨l[k],jU h,by simpa using hf⟩
theorem qJz{r:Nat}(h:qIg r=true):okR r=true:=by unfold okR;rw [h,Bool.or_true]
theorem qJy{r:Nat}(h:qEB r≠0\/48<=r/\r<=57):okR r=true:=by unfold okR;rw [ya h,Bool.true_or]
theorem qWd{r:Nat}(h:qEB r=0)(h2: ¬(48<=r/\r<=57))(h3:qIg r=false):okR r=false:=by unfold okR;rw [h3,yb xB];rfl
theorem qMM: ∀(t cur:xA),(spl cur t).length<=t.length+1
 | [],cur=>by rw [spl];exact jL _
 |c::t,cur=>by
  rw [spl]
  split
  . have:=qMM t [];rw [jC,jC];omega
  . have:=qMM t (cur++ [c]);rw [jC];omega
def nx(s:xA):Nat×Nat:=if s= []\/dec s 0=(65533,1) then(0,0) else dec s 0
theorem qZj{l:yT}(h:l.all (λr=>decide (r<55296))=true): ∀r∈l,Rn r:=λr hr=>by
 have:=List.all_eq_true.1 h r hr
 rw [yZ] at this
 exact⟨xB,xB⟩
theorem qDY{s:xA}{l:yT}{x:xA}{e:Nat}(h:s=unr l)(hr:l.all (λr=>decide (r<55296))=true)(hx:(if l.length<=64 then(if qTa 0 0 false l=true then(unr (l.map small),0) else([],5)) else([],2))=(x,e)):normal s=(x,e):=by
 rw [h,qPL (qZj hr)];exact hx
end Go.Proofs.YtmemgokiolfdoaaGreatDoor