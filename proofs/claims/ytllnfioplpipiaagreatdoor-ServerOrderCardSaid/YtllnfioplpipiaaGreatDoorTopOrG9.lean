/- A part of the proof. -/
import Derived.Test.YtllnfioplpipiaaGreatDoorTopOrG8
import Derived.Test.YtllnfioplpipiaaGreatDoorRows
import Derived.Test.YtllnfioplpipiaaGreatDoorTopOrG4
set_option linter.unusedSimpArgs false
set_option linter.unusedVariables false
namespace Go.Proofs.YtllnfioplpipiaaGreatDoor
open Go Go.Fw Go.Proofs.Tryz
set_option maxRecDepth 100000
set_option maxHeartbeats 1000000
abbrev qMN:= @isAgg22
abbrev qCX:= @isAgg230
abbrev qO1:= @isAgg25
abbrev b3_:= @isAgg3
abbrev qMM:= @isAgg32
abbrev b4_:= @isAgg4
abbrev qHt:= @isAgg41
abbrev qFy:= @isAgg43
abbrev qBo:= @isAgg44
abbrev b5_:= @isAgg5
abbrev qML:= @isAgg80
abbrev b9_:= @isAgg9
abbrev qEa:= @sizeOf122
abbrev qCw:= @sizeOf181
abbrev qHq:= @sizeOf22
abbrev qBk:= @sizeOf230
abbrev qKK:= @sizeOf25
abbrev qE4:= @sizeOf286
abbrev qE3:= @sizeOf289
abbrev z3_:= @sizeOf3
abbrev qD3:= @sizeOf32
abbrev qJJ:= @sizeOf34
abbrev z4_:= @sizeOf4
abbrev qF9:= @sizeOf41
abbrev qCR:= @sizeOf43
abbrev qBf:= @sizeOf44
abbrev qMG:= @sizeOf46
abbrev qOx:= @sizeOf48
abbrev z5_:= @sizeOf5
abbrev qHw:= @sizeOf52
abbrev qHv:= @sizeOf80
abbrev qOw:= @sizeOf87
abbrev z9_:= @sizeOf9
abbrev qO5:= @sizeOf91
abbrev qRG:= @sizeOf93
abbrev qFx:= @sizeOf97
abbrev u0_:= @underlying0
abbrev qMh:= @underlying100
abbrev qA7:= @underlying102
abbrev qJW:= @underlying103
abbrev qF2:= @underlying113
abbrev qJV:= @underlying122
abbrev qLb:= @underlying129
abbrev qCt:= @underlying131
abbrev qFC:= @underlying133
abbrev qGy:= @underlying161
abbrev qF1:= @underlying171
abbrev qMg:= @underlying174
abbrev qJU:= @underlying176
abbrev qDU:= @underlying181
abbrev qD5:= @underlying183
abbrev qBV:= @underlying22
abbrev qH5:= @underlying230
abbrev qJT:= @underlying243
abbrev qF0:= @underlying260
abbrev qEb:= @underlying271
abbrev qLa:= @underlying286
abbrev qDh:= @underlying289
abbrev qLZ:= @underlying298
abbrev u3_:= @underlying3
abbrev qH4:= @underlying312
abbrev qH3:= @underlying32
abbrev qMf:= @underlying322
abbrev qMI:= @underlying34
abbrev qT1:= @underlying39
abbrev u4_:= @underlying4
abbrev qEi:= @underlying41
abbrev qKT:= @underlying43
abbrev qAe:= @underlying44
abbrev qH2:= @underlying46
abbrev qD0:= @underlying48
abbrev u5_:= @underlying5
abbrev qGx:= @underlying52
abbrev qRs:= @underlying67
abbrev qFz:= @underlying78
abbrev qDP:= @underlying80
abbrev qPE:= @underlying87
abbrev qFB:= @underlying89
abbrev u9_:= @underlying9
abbrev qGw:= @underlying91
abbrev qRI:= @underlying93
abbrev qKR:= @underlying97
abbrev qMH:= @underlying99
abbrev e0_:= @zeroValue0
abbrev qJ8:= @zeroValue133
abbrev qJ7:= @zeroValue289
abbrev e3_:= @zeroValue3
abbrev qTR:= @zeroValue32
abbrev qUf:= @zeroValue34
abbrev e4_:= @zeroValue4
abbrev qUe:= @zeroValue43
abbrev e5_:= @zeroValue5
abbrev qRe:= @zeroValue52
abbrev e9_:= @zeroValue9
theorem Tryz.wide:prog.follows .mixedOrders=true:=by kernel_rfl
theorem el3:qCQ prog 3 [.int .i64 0] 8:=qCQ.of (by kernel_rfl) rfl
theorem el4:qCQ prog 4 [.bool false] 1:=qCQ.of (by kernel_rfl) rfl
theorem el43:qCQ prog 43 [.int .u64 0,Str [],Str [],.int .i64 0,Str []] 64:=qCQ.of (by kernel_rfl) rfl
theorem el5:qCQ prog 5 [.int .u8 0] 1:=qCQ.of (by kernel_rfl) rfl
theorem el9:qCQ prog 9 [Str []] 16:=qCQ.of (by kernel_rfl) rfl
theorem ent108:qAD prog 108:=qAD.of func108 rfl (by kernel_rfl)
theorem ent115:qAD prog 115:=qAD.of func115 rfl (by kernel_rfl)
theorem ent116:qAD prog 116:=qAD.of func116 rfl (by kernel_rfl)
theorem ent118:qAD prog 118:=qAD.of func118 rfl (by kernel_rfl)
theorem ent119:qAD prog 119:=qAD.of func119 rfl (by kernel_rfl)
theorem ent120:qAD prog 120:=qAD.of func120 rfl (by kernel_rfl)
theorem ent138:qAD prog 138:=qAD.of func138 rfl (by kernel_rfl)
theorem ent144:qAD prog 144:=qAD.of func144 rfl (by kernel_rfl)
theorem ent147:qAD prog 147:=qAD.of func147 rfl (by kernel_rfl)
theorem ent148:qAD prog 148:=qAD.of func148 rfl (by kernel_rfl)
theorem ent154:qAD prog 154:=qAD.of func154 rfl (by kernel_rfl)
theorem ent157:qAD prog 157:=qAD.of func157 rfl (by kernel_rfl)
theorem ent159:qAD prog 159:=qAD.of func159 rfl (by kernel_rfl)
theorem ent167:qAD prog 167:=qAD.of func167 rfl (by kernel_rfl)
theorem ent172:qAD prog 172:=qAD.of func172 rfl (by kernel_rfl)
theorem ent173:qAD prog 173:=qAD.of func173 rfl (by kernel_rfl)
theorem ent203:qAD prog 203:=qAD.of func203 rfl (by kernel_rfl)
theorem ent204:qAD prog 204:=qAD.of func204 rfl (by kernel_rfl)
theorem ent26:qAD prog 26:=qAD.of func26 rfl (by kernel_rfl)
theorem ent27:qAD prog 27:=qAD.of func27 rfl (by kernel_rfl)
theorem ent32:qAD prog 32:=qAD.of func32 rfl (by kernel_rfl)
theorem ent33:qAD prog 33:=qAD.of func33 rfl (by kernel_rfl)
theorem ent39:qAD prog 39:=qAD.of func39 rfl (by kernel_rfl)
theorem ent49:qAD prog 49:=qAD.of func49 rfl (by kernel_rfl)
theorem ent51:qAD prog 51:=qAD.of func51 rfl (by kernel_rfl)
theorem ent52:qAD prog 52:=qAD.of func52 rfl (by kernel_rfl)
theorem ent53:qAD prog 53:=qAD.of func53 rfl (by kernel_rfl)
theorem ent54:qAD prog 54:=qAD.of func54 rfl (by kernel_rfl)
theorem ent58:qAD prog 58:=qAD.of func58 rfl (by kernel_rfl)
theorem ent59:qAD prog 59:=qAD.of func59 rfl (by kernel_rfl)
theorem ent60:qAD prog 60:=qAD.of func60 rfl (by kernel_rfl)
theorem ent77:qAD prog 77:=qAD.of func77 rfl (by kernel_rfl)
theorem ent79:qAD prog 79:=qAD.of func79 rfl (by kernel_rfl)
theorem ent80:qAD prog 80:=qAD.of func80 rfl (by kernel_rfl)
theorem ent81:qAD prog 81:=qAD.of func81 rfl (by kernel_rfl)
theorem ent82:qAD prog 82:=qAD.of func82 rfl (by kernel_rfl)
theorem ent86:qAD prog 86:=qAD.of func86 rfl (by kernel_rfl)
theorem ent91:qAD prog 91:=qAD.of func91 rfl (by kernel_rfl)
theorem ent92:qAD prog 92:=qAD.of func92 rfl (by kernel_rfl)
theorem ent95:qAD prog 95:=qAD.of func95 rfl (by kernel_rfl)
theorem ent96:qAD prog 96:=qAD.of func96 rfl (by kernel_rfl)
theorem ent97:qAD prog 97:=qAD.of func97 rfl (by kernel_rfl)
theorem ent98:qAD prog 98:=qAD.of func98 rfl (by kernel_rfl)
theorem noEsc(v:Value)(w:World):(callFunc 191 #[v]).run prog w= .ok (.value v) w:=by kernel_rfl
theorem qDb:prog.info? 131=some t131:=by kernel_rfl
structure Bld (g off:Nat) (l:List Value) (mr:Hp) (bs:List UInt8) (A:Option Addr) (c:Nat) (p:Option Addr):Prop where
 a0:l[off]?=some (.pointer p)
 self:p=none∨p=some ⟨g,off,none⟩
 a1:l[off+1]?=some (.slice A bs.length c)
 row:qBU False mr 5 1 A bs.length c (qAR bs)
 cap:A=none∨0<c
theorem qHi(F:Hp)(g T off:Nat)(l:List Value)(hl:l[off]?=some (.pointer none))(hT:liesAt prog prog.depth T (l.length/prog.cellsOf T) off 131 1=true):
    Ct prog 146 [.pointer (some ⟨g,off,none⟩)] [blk g l T,F] (λ_:Unit=> .tuple #[]) (λ_=>True) (λ_=> [blk g (qAu l off [.pointer (some ⟨g,off,none⟩)]) T,F]):=by
  have hoff:off<l.length:=(List.getElem?_eq_some_iff.1 hl).1
  refine Ct.walk func146 rfl ntmps146 rfl (λw0 hw0=>?_)
  change J _ [(0,_)] _ _ _
  refine J.g λK1 hK1=>J.b O<|J.f (qAC O O) O<|J.f (qAB (j:=off) O O qCt O sizeOf129 O) O<|J.f (qAE 0 O O O isAgg129 hl) O<|J.f (qA6 qLb O O O) O<|J.c hK1<|J.E 0 6 ?_
  refine J.d0 ?_
  refine J.L<|J.p 2 O<|J.f (qJh O O qLb underlying274 qDb (by decide) (m:=blk g l T) (by simp) (qAV _ _) (by simpa using hoff)) rfl<|J.k (qSh rfl rfl noEsc) rfl λg10 _=>?_
  change J _ _ _ [blk g l T,F] _
  refine J.f (qHO O O underlying274 qLb qDb (m:=blk g l T) (by simp) (qAV _ _) (by simpa using hT)) rfl<|J.f (qAC rfl rfl) rfl<|J.f (qAB (j:=off) rfl rfl qCt rfl sizeOf129 rfl) rfl<|J.b0 (qAZ (i:=0) (vs:= [.pointer (some ⟨g,off,none⟩)]) rfl rfl rfl rfl rfl sizeOf129 rfl (by simp only [List.length_cons,List.length_nil];omega)) rfl rfl λ_ _=>?_
  change J _ _ _ [blk g (qAu l off [.pointer (some ⟨g,off,none⟩)]) T,_] _
  exact J.a7<|J.e0 hw0 (λ_ _ h=>h) (qHr O) (qAn () O trivial [0,1] O (by decide))
theorem qF5(F:Hp)(g T off:Nat)(l:List Value)(hl:l[off]?=some (.pointer (some ⟨g,off,none⟩))):
    Ct prog 146 [.pointer (some ⟨g,off,none⟩)] [blk g l T,F] (λ_:Unit=> .tuple #[]) (λ_=>True) (λ_=> [blk g l T,F]):=by
  refine Ct.walk func146 rfl ntmps146 rfl (λw0 hw0=>?_)
  change J _ [(0,_)] _ _ _
  refine J.g λK1 hK1=>J.b O<|J.f (qAC O O) O<|J.f (qAB (j:=off) O O qCt O sizeOf129 O) O<|J.f (qAE 0 O O O isAgg129 hl) O<|J.f (qA6 qLb O O O) O<|J.c hK1<|J.E 0 6 ?_
  refine J.a5 ?_
  refine J.g λK2 hK2=>J.b O<|J.f (qAC O O) O<|J.f (qAB (j:=off) O O qCt O sizeOf129 O) O<|J.f (qAE 0 O O O isAgg129 hl) O<|J.b O<|J.f (qLw qLb qDb O O O) O<|J.c hK2<|J.u 19 ?_
  refine J.a5 ?_
  exact J.b7<|J.e0 hw0 (λ_ _ h=>h) (qHr O) (qAn () O trivial [0,1] O (by decide))
theorem qGI{l:List Value}{k:Nat}{v:Value}(h:l[k]?=some v):qAu l k [v]=l:=by
 obtain ⟨hk,rfl⟩:=List.getElem?_eq_some_iff.1 h
 unfold qAu
 rw [List.append_assoc,List.singleton_append,List.length_singleton,←List.drop_eq_getElem_cons hk,List.take_append_drop]
theorem qCS{l:List Value}{k:Nat}{v:Value}(hk:k<l.length):(qAu l k [v])[k]?=some v:=by
 unfold qAu
 rw [List.append_assoc,List.getElem?_append_right (by simp;omega)]
 simp [Nat.min_eq_left (Nat.le_of_lt hk)]
theorem qBa{l:List Value}{k j:Nat}{v:Value}(hk:k<l.length)(hj:j≠k):(qAu l k [v])[j]?=l[j]?:=by
  unfold qAu
  rw [List.append_assoc,List.getElem?_append,List.getElem?_append]
  simp only [List.length_take,Nat.min_eq_left (Nat.le_of_lt hk),List.length_singleton]
  by_cases h1:j<k
  · rw [if_pos h1,List.getElem?_take,if_pos h1]
  · rw [if_neg h1,if_neg (by omega),List.getElem?_drop]
    congr 1;omega
theorem qC1{l:List Value}{k:Nat}{v:Value}(hk:k<l.length):(qAu l k [v]).length=l.length:=by
 unfold qAu
 simp;omega
theorem qC7(F:Hp)(g T off:Nat)(l:List Value)(p:Option Addr)(hl:l[off]?=some (.pointer p))(hp:p=none∨p=some ⟨g,off,none⟩)(hT:liesAt prog prog.depth T (l.length/prog.cellsOf T) off 131 1=true):
    Ct prog 146 [.pointer (some ⟨g,off,none⟩)] [blk g l T,F] (λ_:Unit=> .tuple #[]) (λ_=>True) (λ_=> [blk g (qAu l off [.pointer (some ⟨g,off,none⟩)]) T,F]):=by
  rcases hp with rfl|rfl
  · exact qHi F g T off l hl hT
  · rw [qGI hl];exact qF5 F g T off l hl
theorem qTP:qAD prog 146:=qAD.of func146 rfl (by kernel_rfl)
def Upd(off:Nat)(l l':List Value):Prop:=l'.length=l.length∧ ∀j,j≠off→j≠off+1→l'[j]?=l[j]?
theorem Upd.trans{off:Nat}{a b c:List Value}(h:Upd off a b)(h':Upd off b c):Upd off a c:=⟨h'.1.trans h.1,λj h1 h2=>(h'.2 j h1 h2).trans (h.2 j h1 h2)⟩
theorem qHm{g off:Nat}{l:List Value}{mr mr':Hp}{bs bs':List UInt8}{A A':Option Addr}{c c':Nat}{p:Option Addr}(hb:Bld g off l mr bs A c p)(hr:qBU False mr' 5 1 A' bs'.length c' (qAR bs'))(hc:A'=none∨0<c'):
    Bld g off (qAu (qAu l off [.pointer (some ⟨g,off,none⟩)]) (off+1) [.slice A' bs'.length c']) mr' bs' A' c' (some ⟨g,off,none⟩)∧Upd off l (qAu (qAu l off [.pointer (some ⟨g,off,none⟩)]) (off+1) [.slice A' bs'.length c']):=by
  have h1:off+1<l.length:=(List.getElem?_eq_some_iff.1 hb.a1).1
  have h0:off<l.length:=by omega
  have hl1:=qC1 (v:=Value.pointer (some ⟨g,off,none⟩)) h0
  have h1':off+1<(qAu l off [.pointer (some ⟨g,off,none⟩)]).length:=by omega
  refine⟨⟨?_,.inr rfl,?_,hr,hc⟩,by rw [qC1 h1',hl1],λj hj hj'=>?_⟩
  · rw [qBa h1' (by omega),qCS h0]
  · exact qCS h1'
  · rw [qBa h1' hj',qBa h0 hj]
theorem qSF{m:Hp}{e:TypeId}{A:Option Addr}{n c:Nat}{xs:List (List Value)}(h:qBU False m e 1 A n c xs)(hn:0<n):A=none∨0<c:= .inr (Nat.lt_of_lt_of_le hn h.2.2.1)
theorem qHz(F mr:Hp)(g T off:Nat)(l:List Value)(bs:List UInt8)(A:Option Addr)(c:Nat)(p:Option Addr)(hb:Bld g off l mr bs A c p)(hT:liesAt prog prog.depth T (l.length/prog.cellsOf T) off 131 1=true)(b:UInt8)(hlen:bs.length<70368744177664):
    Ct prog 167 [.pointer (some ⟨g,off,none⟩),B8 b] [blk g l T,mr,F] (λ_:List Value×Hp=> .nilIface) (λx=> ∃A c,Bld g off x.1 x.2 (bs++ [b]) A c (some ⟨g,off,none⟩)∧Upd off l x.1) (λx=> [blk g x.1 T,x.2,F]):=by
  have hoff:off+1<l.length:=(List.getElem?_eq_some_iff.1 hb.a1).1
  have hoff0:off<l.length:=by omega
  refine Ct.walk func167 rfl ntmps167 rfl (λw0 hw0=>?_)
  change J _ [(0,_),(1,_)] _ _ _
  refine J.g λK1 hK1=>J.b O<|J.c hK1<|J.E 0 1 ?_
  refine J.g λK2 hK2=>J.b O<|J.k (qAA O O qTP (Ct.useA [blk g l T] [mr,F] (A':=λ_:Unit=> [blk g (qAu l off [.pointer (some ⟨g,off,none⟩)]) T]) (new:=λ_=> []) (λF' _=>qC7 F' g T off l p hb.a0 hb.self hT))) O λg6 _=>?_
  change J _ _ _ [blk g (qAu l off [.pointer (some ⟨g,off,none⟩)]) T,mr,F] _
  refine J.c hK2<|J.E 0 1 ?_
  refine J.g λK3 hK3=>J.p 2 O<|J.f (qAC O O) O<|J.f (qAB (j:=off+1) O O qCt O qHq O) O<|J.f (qAE 0 O O O qMN ((qBa hoff0 (by omega)).trans hb.a1)) O<|J.b O<|J.k (qAF (l:= [.tmp 12]) (xs:= [[B8 b]]) O O O O qBV el5 O (by decide) (by decide) (by simp)) rfl λg13 _=>?_
  change J _ _ _ [_,_,_,blk g13 [B8 b] 5] _
  refine J.k (qAW (i:=1) (m2:=blk g13 [B8 b] 5) (ys:= [[B8 b]]) O O O qBV qBV el5 O hb.row (by simp) (qAk (q:=True) (xs:= [[B8 b]]) rfl (by simp)).sl rfl (by omega) (by omega)) rfl ?_
  rintro⟨A14,c14,m14⟩ h14
  try dsimp only at h14
  change J _ ((14,.slice A14 (bs.length+1) c14)::_) _ [_,m14,_,_] _
  have hbp:=qHm (bs':=bs++ [b]) (A':=A14) (c':=c14) (mr':=m14) hb (by simpa [qAR] using h14) (qSF h14 (by omega))
  simp only [List.length_append,List.length_singleton] at hbp
  refine J.f (qAC O O) O<|J.f (qAB (j:=off+1) O O qCt O qHq O) O<|J.b0 (qAZ (i:=0) (vs:= [.slice A14 (bs.length+1) c14]) O O O O O qHq O (by rw [qC1 hoff0];exact hoff)) rfl rfl λ_ _=>?_
  change J _ _ _ [blk g (qAu (qAu l off [.pointer (some ⟨g,off,none⟩)]) (off+1) [.slice A14 (bs.length+1) c14]) T,_,_,_] _
  refine J.c hK3<|J.c3 [] trivial<|J.g λK4 hK4=>J.b O<|J.c hK4<|J.u 4 ?_
  exact J.D<|J.M hw0 O (_,m14) O ⟨A14,c14,hbp⟩ [0,1,2] O (by decide)
theorem qBC(F mr:Hp)(g T off:Nat)(l:List Value)(bs:List UInt8)(A:Option Addr)(c:Nat)(p:Option Addr)(hb:Bld g off l mr bs A c p)(hT:liesAt prog prog.depth T (l.length/prog.cellsOf T) off 131 1=true)(s:List UInt8)(hlen:bs.length+s.length<70368744177664):
    Ct prog 80 [.pointer (some ⟨g,off,none⟩),Str s] [blk g l T,mr,F] (λ_:List Value×Hp=> .tuple #[I s.length,.nilIface]) (λx=> ∃A c,Bld g off x.1 x.2 (bs++s) A c (some ⟨g,off,none⟩)∧Upd off l x.1) (λx=> [blk g x.1 T,x.2,F]):=by
  have hoff:off+1<l.length:=(List.getElem?_eq_some_iff.1 hb.a1).1
  have hoff0:off<l.length:=by omega
  refine Ct.walk func80 rfl ntmps80 rfl (λw0 hw0=>?_)
  change J _ [(0,_),(1,_)] _ _ _
  refine J.g λK1 hK1=>J.p 2 O<|J.c hK1<|J.E 0 1 ?_
  refine J.g λK2 hK2=>J.b O<|J.k (qAA O O qTP (Ct.useA [blk g l T] [mr,F] (A':=λ_:Unit=> [blk g (qAu l off [.pointer (some ⟨g,off,none⟩)]) T]) (new:=λ_=> []) (λF' _=>qC7 F' g T off l p hb.a0 hb.self hT))) O λg7 _=>?_
  change J _ _ _ [blk g (qAu l off [.pointer (some ⟨g,off,none⟩)]) T,mr,F] _
  refine J.c hK2<|J.E 0 1 ?_
  refine J.g λK3 hK3=>J.p 2 O<|J.f (qAC O O) O<|J.f (qAB (j:=off+1) O O qCt O qHq O) O<|J.f (qAE 0 O O O qMN ((qBa hoff0 (by omega)).trans hb.a1)) O<|J.b O<|J.k (qLy (i:=1) O O O qBV u9_ el5 O hb.row (by omega) (by omega)) O ?_
  rintro⟨A14,c14,m14⟩ h14
  try dsimp only at h14
  change J _ ((14,.slice A14 (bs.length+s.length) c14)::_) _ [_,m14,_] _
  obtain ⟨h14,hcap⟩:=h14
  have hbp:=qHm (bs':=bs++s) (A':=A14) (c':=c14) (mr':=m14) hb (by simpa [qAR] using h14) (hcap hb.cap)
  simp only [List.length_append] at hbp
  refine J.f (qAC O O) O<|J.f (qAB (j:=off+1) O O qCt O qHq O) O<|J.b0 (qAZ (i:=0) (vs:= [.slice A14 (bs.length+s.length) c14]) O O O O O qHq O (by rw [qC1 hoff0];exact hoff)) rfl rfl λ_ _=>?_
  change J _ _ _ [blk g (qAu (qAu l off [.pointer (some ⟨g,off,none⟩)]) (off+1) [.slice A14 (bs.length+s.length) c14]) T,_,_] _
  refine J.c hK3<|J.u 1 ?_
  refine J.g λK4 hK4=>J.b O<|J.f (qAl u9_ O O) O<|J.p 2 O<|J.c hK4<|J.E 4 5 ?_
  exact J.D<|J.b2 hw0 (λ_ _ h=>h) (qB2 O O O) (qAn (_,m14) O ⟨A14,c14,hbp⟩ [0,1,2] O (by decide))
theorem qDN(F mr:Hp)(g T off:Nat)(l:List Value)(bs:List UInt8)(A:Option Addr)(c:Nat)(p:Option Addr)(hb:Bld g off l mr bs A c p)(hlen:bs.length<70368744177664):
    Ct prog 82 [.pointer (some ⟨g,off,none⟩)] [blk g l T,mr,F] (λ_:Hp=>Str bs) (λm=>Bld g off l m bs A c p) (λm=> [blk g l T,m,F]):=by
  refine Ct.walk func82 rfl ntmps82 rfl (λw0 hw0=>?_)
  change J _ [(0,_)] _ _ _
  refine J.g λK1 hK1=>J.b O<|J.c hK1<|J.u 0 ?_
  refine J.j λK2 hK2=>J.c1 [blk g l T,F] [] (.y 0 (.y 1 (.y 2 (.y 3 (.y 4 (.y 5 (.y 6 (.y 7 (.y 8 (.y 9 (.e 10 (.y 11 .nil)))))))))))) Tryz.wide (by decide+kernel) (by simp) ?_
  refine J.T ?_
  refine J.q O (qAC O O) O O<|J.q O (qAB (j:=off+1) O O qCt O qHq O) O O<|J.q O (qAE 0 O O O qMN hb.a1) O O<|J.q O (qIR O O hb.cap) O O<|J.T ?_
  refine J.q O (qAC O O) O O<|J.q O (qAB (j:=off+1) O O qCt O qHq O) O O<|J.q O (qAE 0 O O O qMN hb.a1) O O<|J.q O (qAP qBV O O) O O<|J.a9 O (qFP (i:=1) O O O underlying235 O O hb.row (by omega)) O (by simp) ?_
  rintro m13 h13
  change J _ _ _ [blk g l T,m13,F] _
  refine J.c6 ?_
  refine J.b9<|J.A (J.H hK2 ?_)
  refine J.u 2 ?_
  exact J.D<|J.M hw0 O m13 O ⟨hb.a0,hb.self,hb.a1,h13,hb.cap⟩ [0,1,2] O (by decide)
theorem mnz(v:Value)(w:World):(callFunc 192 #[v]).run prog w=(do let x←Extern.BytealgMakeNoZero.makeNoZero #[3] #[22] #[v];pure (.value x):Sem Next).run prog w:=by kernel_rfl
theorem qQy(F:Hp)(g T off:Nat)(l:List Value)(hl:l[off+1]?=some (.slice none 0 0))(n:Nat)(hn:n≤70368744177664):
    Ct prog 147 [.pointer (some ⟨g,off,none⟩),I n] [blk g l T,F] (λ_:Nat×Nat×List Value=> .tuple #[]) (λx=>n≤x.2.1∧x.2.2.length=x.2.1) (λx=> [blk g (qAu l (off+1) [.slice (some ⟨x.1,0,none⟩) 0 x.2.1]) T,F,blk x.1 x.2.2 5]):=by
  have hoff:off+1<l.length:=(List.getElem?_eq_some_iff.1 hl).1
  refine Ct.walk func147 rfl ntmps147 rfl (λw0 hw0=>?_)
  change J _ [(0,_),(1,_)] _ _ _
  refine J.j λK1 hK1=>J.c1 [blk g l T,F] [] (.y 0 (.y 1 (.y 2 (.y 3 (.y 4 (.y 5 (.y 6 (.y 7 (.y 9 (.y 10 (.y 11 (.y 12 (.y 13 (.e 8 (.y 14 (.y 15 .nil)))))))))))))))) Tryz.wide (by decide+kernel) (by simp) ?_
  refine J.T ?_
  refine J.q O (qAC O O) O O<|J.q O (qAB (j:=off+1) O O qCt O qHq O) O O<|J.q O (qAE 0 O O O qMN hl) O O<|J.q O (qRP qBV O O) O O<|J.q O (qCr (a:=2) (b:=0) O O O (by omega)) O O<|J.T ?_
  refine J.q O ((qAO O O O (by omega)).as (v':=I n) (by simp)) rfl rfl<|J.T ?_
  refine J.q O (qAC O O) O O<|J.q O (qAB (j:=off+1) O O qCt O qHq O) O O<|J.q O (qAE 0 O O O qMN hl) O O<|J.q O (qAP qBV O O) O O<|J.a9 O (qUF O O mnz qBV (by omega)) O (by simp) ?_
  rintro⟨g13,c13,l13⟩ h13
  try dsimp only at h13
  change J _ ((13,.slice (some ⟨g13,0,none⟩) n c13)::_) _ [blk g l T,F,blk g13 l13 5] _
  refine J.q O (qDF (h:=0) O O qBV z5_ O (by omega)) O O<|J.c6 ?_
  refine J.b9<|J.A (J.H hK1 ?_)
  refine J.E 0 4 ?_
  refine J.g λK2 hK2=>J.p 2 O<|J.f (qAC O O) O<|J.f (qAB (j:=off+1) O O qCt O qHq O) O<|J.f (qAE 0 O O O qMN hl) O<|J.k (qP4 O O O qBV el5) O λg25 _=>?_
  change J _ _ _ [_,_,_] _
  refine J.c hK2<|J.E 0 4 ?_
  refine J.L<|J.p 2 O<|J.f (qAC O O) O<|J.f (qAB (j:=off+1) O O qCt O qHq O) O<|J.b0 (qAZ (i:=0) (vs:= [.slice (some ⟨g13,0,none⟩) 0 c13]) O O O O O qHq O (by exact hoff)) O O λ_ _=>?_
  change J _ _ _ [blk g (qAu l (off+1) [.slice (some ⟨g13,0,none⟩) 0 c13]) T,_,_] _
  exact J.a7<|J.e0 hw0 (λ_ _ h=>h) (qHr O) (qAn (g13,c13,l13) O h13 [0,1,2] O (by decide))
theorem qLQ(F:Hp)(g T off:Nat)(l:List Value)(p:Option Addr)(hb:Bld g off l (λ_=>none) [] none 0 p)(hT:liesAt prog prog.depth T (l.length/prog.cellsOf T) off 131 1=true)(n:Nat)(hn:n≤70368744177664):
    Ct prog 79 [.pointer (some ⟨g,off,none⟩),I n] [blk g l T,λ_=>none,F] (λ_:List Value×Hp=> .tuple #[]) (λx=> ∃A c,Bld g off x.1 x.2 ([]) A c (some ⟨g,off,none⟩)∧Upd off l x.1) (λx=> [blk g x.1 T,x.2,F]):=by
  have hoff:off+1<l.length:=(List.getElem?_eq_some_iff.1 hb.a1).1
  have hoff0:off<l.length:=by omega
  refine Ct.walk func79 rfl ntmps79 rfl (λw0 hw0=>?_)
  change J _ [(0,_),(1,_)] _ _ _
  refine J.g λK1 hK1=>J.b O<|J.k (qAA O O qTP (Ct.useA [blk g l T] [(λ_=>none),F] (A':=λ_:Unit=> [blk g (qAu l off [.pointer (some ⟨g,off,none⟩)]) T]) (new:=λ_=> []) (λF' _=>qC7 F' g T off l p hb.a0 hb.self hT))) O λg5 _=>?_
  change J _ _ _ [blk g (qAu l off [.pointer (some ⟨g,off,none⟩)]) T,(λ_=>none),F] _
  refine J.c hK1<|J.E 0 1 ?_
  refine J.j λK2 hK2=>J.g λK3 hK3=>J.b O<|J.f (qAT O O O) O<|J.c hK3<|J.G 0 1 7 ?_
  refine J.e9 O ((by simp)) ?_
  refine J.W hK2<|J.E 0 1 ?_
  refine J.j λK4 hK4=>J.c1 [blk g (qAu l off [.pointer (some ⟨g,off,none⟩)]) T,(λ_=>none),F] [] (.y 0 (.y 1 (.y 2 (.y 3 (.y 4 (.y 5 (.y 6 (.y 7 (.y 8 (.y 9 (.y 10 (.y 11 (.y 12 .nil))))))))))))) Tryz.wide (by decide+kernel) (by simp) ?_
  refine J.T ?_
  refine J.q O (qAC O O) O O<|J.q O (qAB (j:=off+1) O O qCt O qHq O) O O<|J.q O (qAE 0 O O O qMN ((qBa hoff0 (by omega)).trans hb.a1)) O O<|J.q O (qRP qBV O O) O O<|J.T ?_
  refine J.q O (qAC O O) O O<|J.q O (qAB (j:=off+1) O O qCt O qHq O) O O<|J.q O (qAE 0 O O O qMN ((qBa hoff0 (by omega)).trans hb.a1)) O O<|J.q O (qAP qBV O O) O O<|J.q O (qAw (a:=0) (b:=0) O O O (by omega)) O O<|J.T ?_
  refine J.q O (qAT O O O) O O<|J.b9<|J.A (J.H hK4 ?_)
  refine J.G 0 1 21 ?_
  refine J.a2 O (λh21=>?_) (λh21=>?_)
  ·
    refine J.L<|J.p 2 O<|J.k (qAA O O ent147 (Ct.useA [blk g (qAu l off [.pointer (some ⟨g,off,none⟩)]) T] [λ_=>none,F] (A':=λx:Nat×Nat×List Value=> [blk g (qAu (qAu l off [.pointer (some ⟨g,off,none⟩)]) (off+1) [.slice (some ⟨x.1,0,none⟩) 0 x.2.1]) T]) (new:=λx=> [blk x.1 x.2.2 5]) (λF' _=>qQy F' g T off (qAu l off [.pointer (some ⟨g,off,none⟩)]) ((qBa hoff0 (by omega)).trans hb.a1) n hn))) O ?_
    rintro⟨g24,c24,l24⟩ h24
    try dsimp only at h24
    change J _ _ _ [blk g (qAu (qAu l off [.pointer (some ⟨g,off,none⟩)]) (off+1) [.slice (some ⟨g24,0,none⟩) 0 c24]) T,_,_,blk g24 l24 5] _
    refine J.a7 ?_
    have hbp:=qHm (bs':= []) (A':=some ⟨g24,0,none⟩) (c':=c24) (mr':=blk g24 l24 5) hb (qFJ (xs:= []) (rest:=l24) (lo:=0) (hi:=0) rfl rfl (by simp) (by simpa using h24.2) (Nat.zero_le _) (.inl rfl)) (.inr (by omega))
    simp only [List.length_nil] at hbp
    exact J.e0 hw0 (λ_ _ h=>h) (qHr O) (qAn (_,blk g24 l24 5) O ⟨some ⟨g24,0,none⟩,c24,hbp⟩ [0,3,2] O (by decide))
  refine J.b7 ?_
  have hbp:=qHm (bs':= []) (A':=none) (c':=0) (mr':=λ_=>none) hb qBU.nil (.inl rfl)
  have e1:=qGI ((qBa (v:= .pointer (some ⟨g,off,none⟩)) hoff0 (by omega)).trans hb.a1)
  simp only [List.length_nil] at e1 hbp
  rw [e1] at hbp
  exact J.e0 hw0 (λ_ _ h=>h) (qHr O) (qAn (_,λ_=>none) O ⟨none,0,hbp⟩ [0,1,2] O (by decide))
def qB7(sep:List UInt8):List (List UInt8)→List UInt8
 | []=> []
 |a::r=>a++(r.map λx=>sep++x).flatten
theorem qIi: ∀ls,qB7 [] ls=ls.flatten
 | []=>rfl
 |a::r=>by simp [qB7]
def qCz(ls:List (List UInt8)):Nat:=(ls.map List.length).sum
theorem qFE(ls:List (List UInt8))(k:Nat){s:List UInt8}(h:ls[k]?=some s):qCz (ls.take (k+1))=qCz (ls.take k)+s.length:=by
 obtain ⟨hk,rfl⟩:=List.getElem?_eq_some_iff.1 h
 unfold qCz
 rw [List.take_succ_eq_append_getElem hk,List.map_append,List.sum_append];rfl
theorem qDj(ls:List (List UInt8))(k:Nat):qCz (ls.take k)≤qCz ls:=by
 unfold qCz
 conv=>rhs;rw [←List.take_append_drop k ls,List.map_append,List.sum_append]
 omega
theorem qC6(sep:List UInt8): ∀(ls:List (List UInt8)),(qB7 sep ls).length=qCz ls+sep.length*(ls.length-1)
 | []=>by simp [qB7,qCz]
 |a::r=>by
  have h: ∀r:List (List UInt8),(r.map λx=>sep++x).flatten.length=(r.map List.length).sum+sep.length*r.length:=by
   intro r
   induction r with
   |nil=>rfl
   |cons x r ih=>
    simp only [List.map_cons,List.flatten_cons,List.length_append,List.sum_cons,List.length_cons,Nat.mul_add,ih]
    omega
  simp [qB7,qCz,h];omega
theorem qGZ(sep:List UInt8)(ls:List (List UInt8))(k:Nat){s:List UInt8}(h:ls[k+1]?=some s):qB7 sep (ls.take (k+2))=qB7 sep (ls.take (k+1))++sep++s:=by
 cases ls with
 |nil=>simp at h
 |cons a r=>
  simp only [List.getElem?_cons_succ] at h
  obtain ⟨hk,rfl⟩:=List.getElem?_eq_some_iff.1 h
  simp only [List.take_succ_cons,qB7]
  rw [List.take_succ_eq_append_getElem hk,List.map_append,List.flatten_append]
  simp only [List.map_cons,List.map_nil,List.flatten_cons,List.flatten_nil,List.append_nil,List.append_assoc]
theorem qGa(sep:List UInt8)(ls:List (List UInt8))(k:Nat):(qB7 sep (ls.take (k+1))).length≤(qB7 sep ls).length:=by
 rw [qC6,qC6]
 have h1:=qDj ls (k+1)
 have h2:(ls.take (k+1)).length≤ls.length:=by simp;omega
 have h3:sep.length*((ls.take (k+1)).length-1)≤sep.length*(ls.length-1):=Nat.mul_le_mul_left _ (by omega)
 omega
theorem qJw:liesAt prog prog.depth 131 (2/prog.cellsOf 131) 0 131 1=true:=by kernel_rfl
theorem qSB(a b M:Int)(hb:0<b)(h:a*b+b≤M):a+1≤M/b:=by
 rw [Int.le_ediv_iff_mul_le hb,Int.add_mul];omega
theorem qQZ(F:Hp)(A:Option Addr)(n c:Nat)(sep:List UInt8)(hl:Sl F 1 A n c (qAG [])):
    Ct prog 188 [.slice A n c,Str sep] [F] (λ_:Unit=>Str (qB7 sep [])) (λ_=>True) (λ_=> [F]):=by
  have hn:n=0:=hl.1.symm
  subst hn
  refine Ct.walk func188 rfl ntmps188 rfl (λw0 hw0=>?_)
  change J _ [(0,_),(1,_)] _ _ _
  refine J.g λK1 hK1=>J.b O<|J.c hK1<|J.E 0 1 ?_
  refine J.j λK2 hK2=>J.g λK3 hK3=>J.b O<|J.f (qAP qAe O O) O<|J.c hK3<|J.G 0 1 12 ?_
  refine J.V<|J.g λK4 hK4=>J.f (qAY O O O) O<|J.b O<|J.c hK4<|J.O 0 1 12 13 ?_
  refine J.d0 ?_
  refine J.g λK5 hK5=>J.b O<|J.c hK5<|J.u 4 ?_
  exact J.D<|J.b1<|J.a4<|J.M hw0 O () O trivial [0] O (by decide)
theorem qQY(F:Hp)(A:Option Addr)(n c:Nat)(s:List UInt8)(sep:List UInt8)(hl:Sl F 1 A n c (qAG [s])):
    Ct prog 188 [.slice A n c,Str sep] [F] (λ_:Unit=>Str (qB7 sep [s])) (λ_=>True) (λ_=> [F]):=by
  have hn:n=1:=hl.1.symm
  subst hn
  refine Ct.walk func188 rfl ntmps188 rfl (λw0 hw0=>?_)
  change J _ [(0,_),(1,_)] _ _ _
  refine J.g λK1 hK1=>J.b O<|J.c hK1<|J.E 0 1 ?_
  refine J.j λK2 hK2=>J.g λK3 hK3=>J.b O<|J.f (qAP qAe O O) O<|J.c hK3<|J.G 0 1 12 ?_
  refine J.V<|J.g λK4 hK4=>J.f (qAY O O O) O<|J.b O<|J.c hK4<|J.O 0 1 12 13 ?_
  refine J.e9 O (O) ?_
  refine J.g λK5 hK5=>J.f (qAY O O O) O<|J.b O<|J.c hK5<|J.G 0 1 15 ?_
  refine J.h1 O (O) ?_
  refine J.g λK6 hK6=>J.b O<|J.f (qAH (i:=0) O O O qAe z9_ hl (by decide)) O<|J.f (qAJ O O b9_ (by simp) (hl.elem (qAQ (k:=0) rfl))) rfl<|J.b rfl<|J.c hK6<|J.u 4 ?_
  exact J.D<|J.b1<|J.a4<|J.M hw0 O () (by simp [qB7]) trivial [0] rfl (by decide)
theorem qOB(F:Hp)(A:Option Addr)(n c:Nat)(ls:List (List UInt8))(sep:List UInt8)(hl:Sl F 1 A n c (qAG ls))(h2:2≤n)(htot:(qB7 sep ls).length≤35184372088832)(hn47:n≤70368744177664):
    Ct prog 188 [.slice A n c,Str sep] [F] (λ_:Unit=>Str (qB7 sep ls)) (λ_=>True) (λ_=> [F]):=by
  have hlen:ls.length=n:=by have:=hl.1;simpa [qAG] using this
  have hjl:=qC6 sep ls
  rw [hlen] at hjl
  have hq:(sep.length:Int)*((n:Int)-1)=((sep.length*(n-1):Nat):Int):=by rw [Int.natCast_mul];congr 1;omega
  have hB0: ¬0<(sep.length:Int)→sep.length*(n-1)=0:=λh=>by rw [show sep.length=0 by omega,Nat.zero_mul]
  have hsm:sep.length≤35184372088832:=by
    have:sep.length*1≤sep.length*(n-1):=Nat.mul_le_mul_left _ (by omega)
    omega
  have hdiv:(sep.length:Int)+1≤9223372036854775807/((n:Int)-1):=qSB _ _ _ (by omega) (by rw [hq];omega)
  have hnc:=hl.2.1
  obtain ⟨B,hB⟩: ∃B,sep.length*(n-1)=B:=⟨_,rfl⟩
  rw [hB] at hjl hq hB0
  generalize hD:(9223372036854775807:Int)/((n:Int)-1)=D at hdiv
  have H2:(0:Int)≤9223372036854775807∧0<(n:Int)-1∧(9223372036854775807:Int)≤9223372036854775807:=by omega
  refine Ct.walk func188 rfl ntmps188 rfl (λw0 hw0=>?_)
  change J _ [(0,_),(1,_)] _ _ _
  refine J.g λK1 hK1=>J.b O<|J.c hK1<|J.E 0 1 ?_
  refine J.j λK2 hK2=>J.g λK3 hK3=>J.b O<|J.f (qAP qAe O O) O<|J.c hK3<|J.G 0 1 12 ?_
  refine J.V<|J.g λK4 hK4=>J.f (qAY O O O) O<|J.b O<|J.c hK4<|J.O 0 1 12 13 ?_
  refine J.e9 O ((by simp;omega)) ?_
  refine J.g λK5 hK5=>J.f (qAY O O O) O<|J.b O<|J.c hK5<|J.G 0 1 15 ?_
  refine J.e9 O ((by simp;omega)) ?_
  refine J.b7<|J.a6<|J.A (J.H hK2 ?_)
  refine J.E 0 1 ?_
  refine J.g λK6 hK6=>J.b O<|J.c hK6<|J.G 0 1 5 ?_
  refine J.e8 (λ_:Unit=> [(0,.slice A n c),(1,Str sep),(5,I (B:Int))]) (λ_=> [F]) (λ_=>True) (λK7 hK7=>?_) ?_
  ·
    refine J.g λK8 hK8=>J.b O<|J.f (qAl u9_ O O) O<|J.f (qAz O O O) O<|J.c hK8<|J.O 0 1 5 22 ?_
    refine J.a2 O (λh22=>?_) (λh22=>?_)
    ·
      refine J.j λK9 hK9=>J.g λK10 hK10=>J.b O<|J.f (qAl u9_ O O) O<|J.b O<|J.f (qAP qAe O O) O<|J.f (qAw O O O (by omega)) O<|J.f ((qGS O O O H2).as (congrArg I hD)) O<|J.f (qBN O O O) O<|J.c hK10<|J.O 0 1 5 29 ?_
      refine J.e9 O ((by simp;omega)) ?_
      refine J.W hK9<|J.G 0 1 5 ?_
      exact J.L<|J.p 2 O<|J.f (qAl u9_ O O) O<|J.b O<|J.f (qAP qAe O O) O<|J.f (qAw O O O (by omega)) O<|J.f ((qCr O O O (by rw [hq];omega)).as (v':=I (B:Int)) (by rw [hq])) rfl<|J.f ((qAO (a:=0) rfl rfl rfl (by omega)).as (v':=I (B:Int)) (by simp)) rfl<|J.b rfl<|J.a7<|J.A<|J.a8 () hK7 trivial ⟨rfl,rfl,rfl,trivial⟩ (λ_ h=>h)
    exact J.b7<|J.A<|J.a8 () hK7 trivial ⟨O,O,by rw [hB0 h22];rfl,trivial⟩ (λ_ h=>h)
  rintro _ _
  refine J.j λK11 hK11=>J.g λK12 hK12=>J.b O<|J.f (qAP qAe O O) O<|J.b O<|J.c hK12<|J.b8 0 1 5 39 40 41 ?_
  refine J.V<|J.b6 (λk:Nat=> [(0,.slice A n c),(1,Str sep),(5,I ((B+qCz (ls.take k):Nat):Int)),(39,.slice A n c),(40,I n),(41,I k)]) (λ_=> [F]) (λk=>k≤n) (λk=>n-k) 0 (Nat.zero_le _) ⟨O,O,O,O,O,O,trivial⟩ (λ_ h=>h) ?_
  intro k hk I1 hI1
  refine J.g λK13 hK13=>J.f (qAT O O O) O<|J.c hK13<|J.c2 0 1 5 39 40 41 42 ?_
  refine J.j λK14 hK14=>J.a2 O (λh42=>?_) (λh42=>?_)
  ·
    refine J.W hK14<|J.b8 0 1 5 39 40 41 ?_
    refine J.j λK15 hK15=>J.V<|J.j λK16 hK16=>?_
    have hkn:k<n:=by omega
    obtain ⟨s,hs⟩: ∃s,ls[k]?=some s:=⟨_,List.getElem?_eq_getElem (by omega)⟩
    have hst:=qFE ls k hs
    have hst2:=qDj ls (k+1)
    refine J.L<|J.f (qAH (i:=k) O O O qAe z9_ hl hkn) O<|J.f (qAJ O O b9_ (by simp) (hl.elem (qAQ hs))) rfl<|J.b rfl<|J.c hK16<|J.c2 0 1 5 7 39 40 41 ?_
    refine J.j λK17 hK17=>J.g λK18 hK18=>J.b O<|J.f (qAl u9_ O O) O<|J.b O<|J.f (qAw O O O (by omega)) O<|J.f (qAz O O O) O<|J.c hK18<|J.d1 0 1 5 7 39 40 41 49 ?_
    refine J.e9 O ((by simp;omega)) ?_
    refine J.W hK17<|J.c2 0 1 5 7 39 40 41 ?_
    refine J.L<|J.p 2 O<|J.f (qAl u9_ O O) O<|J.f (qAO O O O (by omega)) O<|J.b O<|J.a7<|J.a6<|J.A (J.H hK15 ?_)
    refine J.b8 0 1 5 39 40 41 ?_
    exact J.L<|J.f (qAO O O O (by omega)) O<|J.b O<|J.a7<|J.A<|J.a8 (k+1) (λx (hx:x≤n∧n-x<n-k)=>hI1 x hx.1 hx.2) ⟨by omega,by omega⟩ ⟨O,O,by rw [hst];exact congrArg (λz=>some (I z)) (by omega),rfl,rfl,rfl,trivial⟩ (λ_ h=>h)
  refine J.b4<|J.a1<|J.a1<|J.b5 ?_
  refine J.A (J.H hK11 ?_)
  refine J.G 0 1 5 ?_
  refine J.g λK19 hK19=>J.k (qAN O zeroValue131 O) O λg8 _=>?_
  change J _ _ _ [F,blk g8 _ 131] _
  refine J.d5 [1,2,0] [blk g8 [.pointer none,.slice none 0 0] 131,λ_=>none,F] O (by decide)<|J.c hK19<|J.O 0 1 5 8 ?_
  refine J.j λK20 hK20=>?_
  have hst3:=qDj ls k
  refine J.L<|J.b O<|J.k (qAA O O ent79 (qLQ F g8 131 0 [.pointer none,.slice none 0 0] none ⟨O,.inl O,O,qBU.nil,.inl O⟩ qJw _ (by omega))) O ?_
  rintro⟨l57,m57⟩ ⟨A57,c57,hb57,hu57⟩
  change J _ _ _ [blk g8 l57 131,m57,F] _
  dsimp only at hb57 hu57
  obtain ⟨s0,hs0⟩: ∃s0,ls[0]?=some s0:=⟨_,List.getElem?_eq_getElem (by omega)⟩
  have hs0l:s0.length≤qCz ls:=by have h1:=qFE ls 0 hs0;have h2:=qDj ls 1;simp only [Nat.zero_add] at h1;omega
  refine J.c hK20<|J.G 0 1 8 ?_
  refine J.g λK21 hK21=>J.b O<|J.f (qAH (i:=0) O O O qAe z9_ hl (by omega)) O<|J.f (qAJ O O b9_ (by simp) (hl.elem (qAQ hs0))) rfl<|J.k (qAA rfl rfl ent80 (qBC F m57 g8 131 0 l57 [] A57 c57 _ hb57 (by rw [hu57.1];exact qJw) s0 (by simp;omega))) rfl ?_
  rintro⟨l61,m61⟩ ⟨A61,c61,hb61,hu61⟩
  change J _ _ _ [blk g8 l61 131,m61,_] _
  dsimp only at hb61 hu61
  have hb61:Bld g8 0 l61 m61 (qB7 sep (ls.take 1)) A61 c61 (some ⟨g8,0,none⟩):=by
    have e:qB7 sep (ls.take 1)= []++s0:=by cases ls with
      |nil=>simp at hs0
      |cons a r=>simp at hs0;subst hs0;simp [qB7]
    rw [e];exact hb61
  refine J.c hK21<|J.G 0 1 8 ?_
  refine J.j λK22 hK22=>J.g λK23 hK23=>J.b O<|J.f (qCg (l:=1) (h:=n) O O qAe z9_ O O (by omega)) O<|J.f (qAP qAe O O) O<|J.b O<|J.c hK23<|J.a0 1 8 63 64 65 ?_
  refine J.V<|J.b6 (X:=Nat×List Value×Hp×Option Addr×Nat) (λx=> [(1,Str sep),(8,Ptr g8),(63,_),(64,I (n-1:Nat)),(65,I x.1)]) (λx=> [blk g8 x.2.1 131,x.2.2.1,F]) (λx=>x.1≤n-1∧x.2.1.length=2∧Bld g8 0 x.2.1 x.2.2.1 (qB7 sep (ls.take (x.1+1))) x.2.2.2.1 x.2.2.2.2 (some ⟨g8,0,none⟩)) (λx=>n-1-x.1) (0,l61,m61,A61,c61) (⟨Nat.zero_le _,by rw [hu61.1,hu57.1];rfl,hb61⟩) ⟨rfl,rfl,rfl,rfl,rfl,trivial⟩ (λ_ h=>h) ?_
  rintro⟨k,l,m,A1,c1⟩ ⟨hk,hll,hb⟩ I3 hI3
  dsimp only at hk hll hb⊢
  have hl2:=hl.cut (lo:=1) (hi:=n) (mx:=c) (by omega) (Nat.le_refl _) hl.2.1
  refine J.g λK24 hK24=>J.f (qAT O O O) O<|J.c hK24<|J.b8 1 8 63 64 65 66 ?_
  refine J.j λK25 hK25=>J.a2 O (λh66=>?_) (λh66=>?_)
  ·
    refine J.W hK25<|J.a0 1 8 63 64 65 ?_
    refine J.j λK26 hK26=>J.V<|J.j λK27 hK27=>?_
    have hkn:k+1<n:=by omega
    obtain ⟨s,hs⟩: ∃s,ls[k+1]?=some s:=⟨_,List.getElem?_eq_getElem (by omega)⟩
    have hs2:((((qAG ls).take n).drop 1))[k]?=some [Str s]:=by rw [List.getElem?_drop,List.getElem?_take,Nat.add_comm 1 k,if_pos hkn];exact qAQ hs
    have hj1:=qGa sep ls (k+1)
    rw [qGZ sep ls k hs] at hj1
    simp only [List.length_append] at hj1
    refine J.L<|J.f (qAH (i:=k) O O O qAe z9_ hl2 (by omega)) O<|J.f (qAJ O O b9_ (by simp) (hl2.elem hs2)) rfl<|J.b rfl<|J.c hK27<|J.b8 1 8 10 63 64 65 ?_
    refine J.g λK28 hK28=>J.b O<|J.k (qAA O O ent80 (qBC F m g8 131 0 l _ A1 c1 _ hb (by rw [hll];exact qJw) sep (by omega))) rfl ?_
    rintro⟨l70,m70⟩ ⟨A70,c70,hb70,hu70⟩
    change J _ _ _ [blk g8 l70 131,m70,F] _
    dsimp only at hb70 hu70
    refine J.c hK28<|J.b8 1 8 10 63 64 65 ?_
    refine J.L<|J.b O<|J.k (qAA O O ent80 (qBC F m70 g8 131 0 l70 _ A70 c70 _ hb70 (by rw [hu70.1,hll];exact qJw) s (by simp;omega))) rfl ?_
    rintro⟨l72,m72⟩ ⟨A72,c72,hb72,hu72⟩
    change J _ _ _ [blk g8 l72 131,m72,_] _
    dsimp only at hb72 hu72
    rw [←qGZ sep ls k hs] at hb72
    refine J.a7<|J.a6<|J.A (J.H hK26 ?_)
    refine J.a0 1 8 63 64 65 ?_
    refine J.L<|J.f (qAO O O O (by omega)) O<|J.b O<|J.a7<|J.A<|J.a8 (k+1,l72,m72,A72,c72) (λx (hx:_∧n-1-x.1<n-1-k)=>hI3 x hx.1 hx.2) ⟨⟨by dsimp only;omega,by rw [hu72.1,hu70.1];exact hll,hb72⟩,by dsimp only;omega⟩ ⟨rfl,rfl,rfl,rfl,rfl,trivial⟩ (λ_ h=>h)
  refine J.b4<|J.a1<|J.a1<|J.b5 ?_
  refine J.A (J.H hK22 ?_)
  refine J.u 8 ?_
  refine J.j λK29 hK29=>?_
  have hend:qB7 sep (ls.take (k+1))=qB7 sep ls:=by rw [List.take_of_length_le (by omega)]
  have hj1:=qGa sep ls k
  refine J.L<|J.k (qAA O O ent82 (qDN F m g8 131 0 l _ A1 c1 _ hb (by omega))) O ?_
  rintro m74 h74
  change J _ _ _ [blk g8 l 131,m74,F] _
  refine J.b O<|J.c hK29<|J.u 4 ?_
  exact J.D<|J.M hw0 O () (by rw [hend]) trivial [2] rfl (by decide)
theorem qTG(F:Hp)(A:Option Addr)(n c:Nat)(ls:List (List UInt8))(sep:List UInt8)(hl:Sl F 1 A n c (qAG ls))(htot:(qB7 sep ls).length≤35184372088832)(hn47:n≤70368744177664):
    Ct prog 188 [.slice A n c,Str sep] [F] (λ_:Unit=>Str (qB7 sep ls)) (λ_=>True) (λ_=> [F]):=by
  have hlen:ls.length=n:=by have:=hl.1;simpa [qAG] using this
  match ls,hl,htot,hlen with
  | [],hl,_,_=>exact qQZ F A n c sep hl
  | [s],hl,_,_=>exact qQY F A n c s sep hl
  |a::b::r,hl,htot,hlen=>exact qOB F A n c _ sep hl (by simp at hlen;omega) htot hn47
theorem ent188:qAD prog 188:=qAD.of func188 rfl (by kernel_rfl)
def small(r:Nat):Nat:=if 65≤r∧r≤90∨913≤r∧r≤937∧r≠930∨1040≤r∧r≤1071 then r+32 else r
def qHs(r:Nat):Nat:=if 97≤small r∧small r≤122 then 1 else if 945≤small r∧small r≤969 then 2 else if 1072≤small r∧small r≤1103 then 4 else 0
def qGJ(r:Nat):Bool:=decide (r=46∨r=45∨r=95∨r=64)
def qMy(c:UInt8):Bool:=qGJ c.toNat
def qHu(l:List Nat)(b:Nat):Nat:=l.foldl (λb r=>b|||qHs r) b
def good(b:Nat):Bool:=decide (b=0∨b=1∨b=2∨b=4)
theorem qPV(r:Nat):small r≤r+32:=by unfold small;split<;>omega
theorem qPj{r:Nat}(h:Rn r):Rn (small r):=by
 obtain ⟨h1,h2⟩:=h
 unfold small Rn
 split<;>omega
theorem qJx(r:Nat):qHs r<8:=by
 unfold qHs;repeat' split
 all_goals omega
theorem qOn: ∀(l:List Nat) (b:Nat),b<8→qHu l b<8
 | [],_,h=>h
 |r::l,b,h=>qOn l (b|||qHs r) (Nat.or_lt_two_pow (n:=3) h (qJx r))
theorem qQ6(l m:List Nat)(b:Nat):qHu (l++m) b=qHu m (qHu l b):=List.foldl_append
def spl:List UInt8→List UInt8→List (List UInt8)
 |cur,[]=> [cur]
 |cur,c::t=>if qMy c then cur::spl [] t else spl (cur++ [c]) t
def qOy:List Nat→List Nat→List (List Nat)
 |cur,[]=> [cur]
 |cur,r::t=>if qGJ r then cur::qOy [] t else qOy (cur++ [r]) t
theorem qR4{c:UInt8}(h:qMy c=true)(cur t:List UInt8):spl cur (c::t)=cur::spl [] t:=by rw [spl,if_pos h]
theorem qFG: ∀(p:List UInt8),(∀c∈p,qMy c=false)→ ∀cur t,spl cur (p++t)=spl (cur++p) t
 | [],_,cur,t=>by rw [List.append_nil];rfl
 |c::p,h,cur,t=>by
  rw [List.cons_append,spl,if_neg (by rw [h c (.head _)];decide),qFG p (λx hx=>h x (.tail _ hx)),List.append_assoc];rfl
theorem qJ6{r:Nat}(h:Rn r)(hb:128≤r): ∀c∈enc r,128≤c.toNat:=by
  have:=h.1
  intro c hc
  unfold enc at hc
  rw [if_neg (by omega)] at hc
  split at hc
  · rcases List.mem_cons.1 hc with rfl|hc
    · rw [b8 (by omega)];omega
    · rw [List.mem_singleton.1 hc,b8 (by omega)];omega
  split at hc
  · rcases List.mem_cons.1 hc with rfl|hc
    · rw [b8 (by omega)];omega
    rcases List.mem_cons.1 hc with rfl|hc
    · rw [b8 (by omega)];omega
    · rw [List.mem_singleton.1 hc,b8 (by omega)];omega
  · rcases List.mem_cons.1 hc with rfl|hc
    · rw [b8 (by omega)];omega
    rcases List.mem_cons.1 hc with rfl|hc
    · rw [b8 (by omega)];omega
    rcases List.mem_cons.1 hc with rfl|hc
    · rw [b8 (by omega)];omega
    · rw [List.mem_singleton.1 hc,b8 (by omega)];omega
theorem qG9{c:UInt8}(h:128≤c.toNat):qMy c=false:=by unfold qMy qGJ;exact decide_eq_false (by omega)
theorem qPM{s:List UInt8}(h:s≠ [])(hs:qGJ (dec s 0).1=true):(dec s 0).2=1∧ ∃c t,s=c::t∧qMy c=true∧c.toNat=(dec s 0).1:=by
  by_cases ho:dec s 0=(65533,1)
  · rw [ho] at hs;exact absurd hs (by decide)
  · obtain ⟨r,t,hr,rfl,hd⟩:=qIy h ho
    rw [hd] at hs⊢
    dsimp only at hs⊢
    have hr2:r<128:=by unfold qGJ at hs;rw [decide_eq_true_eq] at hs;omega
    rw [qB9 hr2]
    refine⟨rfl,_,_,rfl,?_,b8 (by omega)⟩
    unfold qMy;rw [b8 (by omega)];exact hs
theorem qPN{s:List UInt8}(h:s≠ [])(hs:qGJ (dec s 0).1=false): ∀c∈s.take (dec s 0).2,qMy c=false:=by
  by_cases ho:dec s 0=(65533,1)
  · rw [ho]
    obtain ⟨x,t,rfl⟩:=List.exists_cons_of_ne_nil h
    intro c hc
    rw [show(x::t).take 1= [x] from rfl,List.mem_singleton] at hc
    subst hc
    refine qG9 ?_
    by_cases hx:c.toNat<128
    · have:=qFo (r:=c.toNat) ⟨by omega,by omega⟩ t
      rw [qB9 hx,b8e rfl] at this
      rw [show [c]++t=c::t from rfl,ho] at this
      have:=congrArg Prod.fst this
      dsimp only at this
      omega
    · omega
  · obtain ⟨r,t,hr,rfl,hd⟩:=qIy h ho
    rw [hd] at hs⊢
    dsimp only at hs⊢
    rw [List.take_left]
    by_cases hr2:r<128
    · rw [qB9 hr2]
      intro c hc
      rw [List.mem_singleton.1 hc];unfold qMy;rw [b8 (by omega)];exact hs
    · exact λc hc=>qG9 (qJ6 hr (by omega) c hc)
theorem qMq: ∀(l:List Nat),(∀r∈l,Rn r)→ ∀cur,spl (unr cur) (unr l)=(qOy cur l).map unr
  | [],_,cur=>rfl
  |r::l,h,cur=>by
    have hr:=h r (.head _)
    have ih:=qMq l (λx hx=>h x (.tail _ hx))
    rw [qBt,qOy]
    by_cases hs:qGJ r=true
    · have hr2:r<128:=by unfold qGJ at hs;rw [decide_eq_true_eq] at hs;omega
      rw [if_pos hs,qB9 hr2,List.map_cons,←ih []]
      rw [show [UInt8.ofNat r]++unr l=UInt8.ofNat r::unr l from rfl,spl,if_pos (by unfold qMy;rw [b8 (by omega)];exact hs)];rfl
    · rw [if_neg hs,←ih,qFG,qLY]
      · rw [show unr [r]=enc r from List.append_nil _]
      · by_cases hr2:r<128
        · rw [qB9 hr2]
          intro c hc
          rw [List.mem_singleton.1 hc];unfold qMy;rw [b8 (by omega)];exact Bool.eq_false_iff.2 hs
        · exact λc hc=>qG9 (qJ6 hr (by omega) c hc)
theorem qG4: ∀(l cur:List Nat) (p:List Nat),p∈qOy cur l→ ∀r∈p,r∈cur∨r∈l
  | [],cur,p,h,r,hr=>by rw [qOy,List.mem_singleton] at h;subst h;exact .inl hr
  |x::l,cur,p,h,r,hr=>by
    rw [qOy] at h
    split at h
    · rcases List.mem_cons.1 h with rfl|h
      · exact .inl hr
      · rcases qG4 l [] p h r hr with h|h
        · cases h
        · exact .inr (.tail _ h)
    · rcases qG4 l _ p h r hr with h|h
      · rcases List.mem_append.1 h with h|h
        · exact .inl h
        · rw [List.mem_singleton.1 h];exact .inr (.head _)
      · exact .inr (.tail _ h)
def okR(r:Nat):Bool:=decide (qHs r≠0∨48≤r∧r≤57)||qGJ r
def okP(p:List UInt8):Bool:=decide (p≠ [])&&good (qHu (rl p) 0)
def right(s:List UInt8):Bool:=(rl s).all okR&&(spl [] s).all okP&&decide (s.count 64≤1)
def normal(s:List UInt8):List UInt8×Nat:=
 if vld s=true then(if(rl s).length≤64 then(if right s=true then(unr ((rl s).map small),0) else([],5)) else([],2)) else([],4)
def qRH:Nat→Nat→Bool→List Nat→Bool
  |ats,bits,sm,[]=>sm&&good bits&&decide (ats≤1)
  |ats,bits,sm,r::t=>if qGJ r=true then sm&&good bits&&qRH (if r=64 then ats+1 else ats) 0 false t
      else decide (qHs r≠0∨48≤r∧r≤57)&&qRH ats (bits|||qHs r) true t
theorem qJP: ∀(l:List Nat) (ats:Nat) (cur:List Nat),
    qRH ats (qHu cur 0) (decide (cur≠ [])) l=(l.all okR&&(qOy cur l).all (λp=>decide (p≠ [])&&good (qHu p 0))&&decide (ats+l.count 64≤1))
  | [],ats,cur=>by
    rw [qRH,qOy,List.all_nil,Bool.true_and,List.all_cons,List.all_nil,Bool.and_true,List.count_nil,Nat.add_zero]
  |r::l,ats,cur=>by
    rw [qRH,qOy]
    by_cases hs:qGJ r=true
    · rw [if_pos hs,if_pos hs]
      have:=qJP l (if r=64 then ats+1 else ats) []
      rw [show qHu [] 0=0 from rfl,show decide (([]:List Nat)≠ [])=false from rfl] at this
      rw [this,List.all_cons,List.all_cons,show okR r=true from by unfold okR;rw [hs,Bool.or_true]]
      have e:decide ((if r=64 then ats+1 else ats)+l.count 64≤1)=decide (ats+(r::l).count 64≤1):=by
        rw [List.count_cons]
        by_cases h:r=64
        · subst h;rw [if_pos rfl];simp only [beq_self_eq_true,if_true];exact decide_eq_decide.2 (by omega)
        · rw [if_neg h,if_neg (by rw [beq_iff_eq];exact h)];rfl
      rw [e,Bool.true_and]
      cases decide (cur≠ [])<;>cases good (qHu cur 0)<;>cases l.all okR<;>simp
    · rw [if_neg hs,if_neg hs]
      have:=qJP l ats (cur++ [r])
      rw [qQ6,show qHu [r] (qHu cur 0)=qHu cur 0|||qHs r from rfl,show decide (cur++ [r]≠ [])=true from decide_eq_true (by simp)] at this
      rw [this,List.all_cons,show okR r=decide (qHs r≠0∨48≤r∧r≤57) from by unfold okR;rw [Bool.eq_false_iff.2 hs,Bool.or_false]]
      have e:(r::l).count 64=l.count 64:=by
        rw [List.count_cons,if_neg,Nat.add_zero]
        intro h
        rw [beq_iff_eq] at h;subst h;exact hs rfl
      rw [e,Bool.and_assoc,Bool.and_assoc,Bool.and_assoc]
theorem qOP{r:Nat}(h:Rn r):(enc r).count 64=if r=64 then 1 else 0:=by
  by_cases hr:r<128
  · rw [qB9 hr,List.count_singleton]
    by_cases h4:r=64
    · subst h4;rfl
    · rw [if_neg h4,if_neg]
      rw [beq_iff_eq];intro e
      have:=congrArg UInt8.toNat e
      rw [b8 (by omega)] at this
      exact h4 this
  · rw [if_neg (by omega)]
    refine List.count_eq_zero.2 λhm=>?_
    have:=qJ6 h (by omega) _ hm
    exact absurd this (by decide)
theorem qH1: ∀(l:List Nat),(∀r∈l,Rn r)→(unr l).count 64=l.count 64
 | [],_=>rfl
 |r::l,h=>by
  rw [qBt,List.count_append,qH1 l (λx hx=>h x (.tail _ hx)),qOP (h r (.head _)),List.count_cons,Nat.add_comm]
  simp only [beq_iff_eq]
theorem qT0{l:List Nat}(h:l≠ []):unr l≠ []:=by
 obtain ⟨r,t,rfl⟩:=List.exists_cons_of_ne_nil h
 rw [qBt];simp [qFk]
theorem qOo{α:Type}{f g:α→Bool}: ∀{l:List α},(∀x∈l,f x=g x)→l.all f=l.all g
 | [],_=>rfl
 |x::l,h=>by rw [List.all_cons,List.all_cons,h x (.head _),qOo (λy hy=>h y (.tail _ hy))]
theorem qM6{l:List Nat}(h: ∀r∈l,Rn r):right (unr l)=qRH 0 0 false l:=by
 have:=qJP l 0 []
 rw [show qHu [] 0=0 from rfl,show decide (([]:List Nat)≠ [])=false from rfl] at this
 rw [this]
 unfold right
 have e:=qMq l h []
 rw [show unr []= [] from rfl] at e
 rw [qSL h,e,qH1 l h,Nat.zero_add,List.all_map]
 congr 2
 refine qOo λp hp=>?_
 have hp2: ∀r∈p,Rn r:=λr hr=>by
  rcases qG4 l [] p hp r hr with h'|h'
  · cases h'
  · exact h r h'
 show okP (unr p)=_
 unfold okP
 rw [qSL hp2]
 congr 1
 by_cases h0:p= []
 · subst h0;rfl
 · rw [decide_eq_true (qT0 h0),decide_eq_true h0]
theorem qL0{l:List Nat}(h: ∀r∈l,Rn r):normal (unr l)=if l.length≤64 then(if qRH 0 0 false l=true then(unr (l.map small),0) else([],5)) else([],2):=by
 unfold normal
 rw [if_pos (qTz h),qSL h,qM6 h]
theorem qFm{s:List UInt8}{p:Nat}(h:p<s.length):s.drop p≠ []:=λe=>by
 have:=congrArg List.length e
 rw [List.length_drop,List.length_nil] at this;omega
theorem qUh{s:List UInt8}{p:Nat}(h:p<s.length):Rn (dec s p).1:=by
  rw [qDJ (by omega)]
  by_cases ho:dec (s.drop p) 0=(65533,1)
  · rw [ho];exact⟨by decide,by decide⟩
  · obtain ⟨r,t,hr,_,hd⟩:=qIy (qFm h) ho
    rw [hd];exact hr
theorem qTT{s:List UInt8}{p:Nat}(h:p<s.length)(hn:(dec s p).1≠65533):(enc (dec s p).1).length=(dec s p).2:=by
 rw [qDJ (by omega)] at hn⊢
 obtain ⟨r,t,hr,_,hd⟩:=qIy (qFm h) (λho=>by rw [ho] at hn;exact hn rfl)
 rw [hd]
theorem qPR{s:List UInt8}{p:Nat}(h:p<s.length)(cur:List UInt8)(hs:qGJ (dec s p).1=true):spl cur (s.drop p)=cur::spl [] (s.drop (qFX s p)):=by
 have hd:=qDJ (s:=s) (pos:=p) (by omega)
 rw [hd] at hs
 obtain ⟨h1,c,t,e,hc,_⟩:=qPM (qFm h) hs
 rw [qC3 h,hd,h1,←List.drop_drop,e,qR4 hc];rfl
theorem qF3{s:List UInt8}{p:Nat}(h:p<s.length)(cur:List UInt8)(hs:qGJ (dec s p).1=false):spl cur (s.drop p)=spl (cur++(s.take (p+(dec s p).2)).drop p) (s.drop (qFX s p)):=by
 have hd:=qDJ (s:=s) (pos:=p) (by omega)
 have e:(s.take (p+(dec s p).2)).drop p=(s.drop p).take (dec s p).2:=by rw [List.drop_take];congr 1;omega
 rw [e,qC3 h,←List.drop_drop]
 rw [hd] at hs⊢
 rw [←qFG _ (qPN (qFm h) hs),List.take_append_drop]
theorem qQP(ds:List (List UInt8))(cur q:List UInt8){n:Nat}(h:n=ds.length):(ds++ [cur]).set n ((ds++ [cur]).getD n []++q)=ds++ [cur++q]:=by
 subst h
 rw [List.getD_eq_getElem?_getD,List.getElem?_append_right (Nat.le_refl _),List.set_append_right _ _ (Nat.le_refl _),Nat.sub_self];rfl
theorem qP7: ∀b,b<8→(b&&&(b-1)=0↔good b=true):=by decide
theorem qQR(ds:List (List UInt8))(cur:List UInt8):(ds++ [cur]).getD ds.length []=cur:=by
 rw [List.getD_eq_getElem?_getD,List.getElem?_append_right (Nat.le_refl _),Nat.sub_self];rfl
theorem qD6: ∀(t cur:List UInt8) (q:List UInt8),q∈spl cur t→q.length≤cur.length+t.length
  | [],cur,q,h=>by rw [spl,List.mem_singleton] at h;subst h;exact Nat.le_refl _
  |c::t,cur,q,h=>by
    rw [spl] at h
    rw [List.length_cons]
    split at h
    · rcases List.mem_cons.1 h with rfl|h
      · omega
      · have:=qD6 t [] q h;rw [List.length_nil] at this;omega
    · have:=qD6 t _ q h;rw [List.length_append,List.length_cons,List.length_nil] at this;omega
theorem qR5(s:List UInt8)(k:Nat):((spl [] s).getD k []).length≤s.length:=by
  by_cases h:k<(spl [] s).length
  · have:=qD6 s [] ((spl [] s).getD k []) (by rw [List.getD_eq_getElem?_getD,List.getElem?_eq_getElem h];exact List.getElem_mem h)
    rw [List.length_nil] at this;omega
  · rw [List.getD_eq_getElem?_getD,List.getElem?_eq_none (by omega)];exact Nat.zero_le _
theorem qPJ{l:List (List UInt8)}{f:List UInt8→Bool}{k:Nat}(h:k<l.length):(l.take (k+1)).all f=((l.take k).all f&&f (l.getD k [])):=by
 rw [List.take_add_one,List.getD_eq_getElem?_getD,List.getElem?_eq_getElem h,List.all_append];simp
theorem qLF{l:List (List UInt8)}{f:List UInt8→Bool}{k:Nat}(h:k<l.length)(hf:f (l.getD k [])=false):l.all f=false:=by
 rw [List.getD_eq_getElem?_getD,List.getElem?_eq_getElem h] at hf
 rw [List.all_eq_false];exact⟨l[k],List.getElem_mem h,by simpa using hf⟩
theorem qHT{r:Nat}(h:qGJ r=true):okR r=true:=by unfold okR;rw [h,Bool.or_true]
theorem qHS{r:Nat}(h:qHs r≠0∨48≤r∧r≤57):okR r=true:=by unfold okR;rw [decide_eq_true h,Bool.true_or]
theorem qRQ{r:Nat}(h:qHs r=0)(h2: ¬(48≤r∧r≤57))(h3:qGJ r=false):okR r=false:=by unfold okR;rw [h3,decide_eq_false (by omega)];rfl
theorem qJZ: ∀(t cur:List UInt8),(spl cur t).length≤t.length+1
 | [],cur=>by rw [spl];exact Nat.le_refl _
 |c::t,cur=>by
  rw [spl]
  split
  · have:=qJZ t [];rw [List.length_cons,List.length_cons];omega
  · have:=qJZ t (cur++ [c]);rw [List.length_cons];omega
def nx(s:List UInt8):Nat×Nat:=if s= []∨dec s 0=(65533,1) then(0,0) else dec s 0
theorem qT7{l:List Nat}(h:l.all (λr=>decide (r<55296))=true): ∀r∈l,Rn r:=λr hr=>by
 have:=List.all_eq_true.1 h r hr
 rw [decide_eq_true_eq] at this
 exact⟨by omega,by omega⟩
theorem qDH{s:List UInt8}{l:List Nat}{x:List UInt8}{e:Nat}(h:s=unr l)(hr:l.all (λr=>decide (r<55296))=true)(hx:(if l.length≤64 then(if qRH 0 0 false l=true then(unr (l.map small),0) else([],5)) else([],2))=(x,e)):normal s=(x,e):=by
 rw [h,qL0 (qT7 hr)];exact hx
end Go.Proofs.YtllnfioplpipiaaGreatDoor
