/- A part of the proof. -/
import Derived.Test.YtcgcjaflllmlpaaGreatDoorTopCfG8
import Derived.Test.YtcgcjaflllmlpaaGreatDoorRows
import Derived.Test.YtcgcjaflllmlpaaGreatDoorTopCfG4
set_option linter.unusedSimpArgs false
set_option linter.unusedVariables false
namespace Go.Proofs.YtcgcjaflllmlpaaGreatDoor
open Go Go.Fw Go.Proofs.Tryz
set_option maxRecDepth 100000
set_option maxHeartbeats 1000000
abbrev qC3:= @isAgg253
abbrev qSO:= @isAgg26
abbrev qSN:= @isAgg28
abbrev b3_:= @isAgg3
abbrev qEz:= @isAgg31
abbrev qB8:= @isAgg32
abbrev qDT:= @isAgg34
abbrev qOr:= @isAgg35
abbrev b4_:= @isAgg4
abbrev b5_:= @isAgg5
abbrev qF1:= @isAgg53
abbrev qNh:= @isAgg59
abbrev qEV:= @isAgg61
abbrev qKq:= @isAgg72
abbrev qO0:= @isAgg80
abbrev b9_:= @isAgg9
abbrev qHA:= @sizeOf132
abbrev qFZ:= @sizeOf153
abbrev qDY:= @sizeOf216
abbrev qB9:= @sizeOf253
abbrev qNn:= @sizeOf26
abbrev qMI:= @sizeOf28
abbrev qF4:= @sizeOf281
abbrev z3_:= @sizeOf3
abbrev qF3:= @sizeOf308
abbrev qD9:= @sizeOf31
abbrev qBs:= @sizeOf32
abbrev qBz:= @sizeOf34
abbrev qJS:= @sizeOf35
abbrev qO4:= @sizeOf36
abbrev qUs:= @sizeOf37
abbrev qOu:= @sizeOf38
abbrev z4_:= @sizeOf4
abbrev z5_:= @sizeOf5
abbrev qCl:= @sizeOf53
abbrev qET:= @sizeOf59
abbrev qBy:= @sizeOf61
abbrev qK2:= @sizeOf68
abbrev qHN:= @sizeOf70
abbrev qDV:= @sizeOf72
abbrev qSR:= @sizeOf74
abbrev qSH:= @sizeOf76
abbrev qJM:= @sizeOf80
abbrev z9_:= @sizeOf9
abbrev qUr:= @sizeOf92
abbrev qF2:= @sizeOf95
abbrev u0_:= @underlying0
abbrev qB0:= @underlying101
abbrev qIJ:= @underlying109
abbrev qLK:= @underlying118
abbrev qHD:= @underlying129
abbrev qII:= @underlying132
abbrev qCZ:= @underlying134
abbrev qLJ:= @underlying153
abbrev qNy:= @underlying154
abbrev qDQ:= @underlying156
abbrev qGH:= @underlying158
abbrev qIH:= @underlying198
abbrev qGG:= @underlying207
abbrev qPS:= @underlying210
abbrev qLI:= @underlying212
abbrev qEF:= @underlying216
abbrev qE1:= @underlying218
abbrev qJc:= @underlying253
abbrev qFa:= @underlying255
abbrev qPR:= @underlying26
abbrev qLH:= @underlying271
abbrev qNx:= @underlying277
abbrev qEX:= @underlying281
abbrev qHC:= @underlying286
abbrev qJb:= @underlying294
abbrev u3_:= @underlying3
abbrev qNw:= @underlying308
abbrev qEU:= @underlying31
abbrev qAk:= @underlying32
abbrev qPQ:= @underlying333
abbrev qDW:= @underlying34
abbrev qFP:= @underlying35
abbrev qXt:= @underlying36
abbrev qSe:= @underlying37
abbrev qC7:= @underlying38
abbrev u4_:= @underlying4
abbrev qG8:= @underlying40
abbrev qJa:= @underlying47
abbrev u5_:= @underlying5
abbrev qVe:= @underlying50
abbrev qFj:= @underlying51
abbrev qDs:= @underlying53
abbrev qSd:= @underlying55
abbrev qLG:= @underlying59
abbrev qJN:= @underlying61
abbrev qJZ:= @underlying68
abbrev qFi:= @underlying70
abbrev qNv:= @underlying72
abbrev qLF:= @underlying74
abbrev qGF:= @underlying76
abbrev qBl:= @underlying80
abbrev qSc:= @underlying89
abbrev u9_:= @underlying9
abbrev qUx:= @underlying92
abbrev qLE:= @underlying95
abbrev qOw:= @underlying96
abbrev qXs:= @underlying97
abbrev qCV:= @underlying99
abbrev e0_:= @zeroValue0
abbrev qKb:= @zeroValue158
abbrev qL5:= @zeroValue281
abbrev e3_:= @zeroValue3
abbrev qRU:= @zeroValue34
abbrev e4_:= @zeroValue4
abbrev e5_:= @zeroValue5
abbrev qOo:= @zeroValue53
abbrev qYu:= @zeroValue59
abbrev qOn:= @zeroValue61
abbrev qOy:= @zeroValue72
abbrev e9_:= @zeroValue9
theorem Tryz.wide:prog.follows .mixedOrders=true:=by kernel_rfl
theorem el3:qCe prog 3 [.int .i64 0] 8:=qCe.of (by kernel_rfl) rfl
theorem el5:qCe prog 5 [.int .u8 0] 1:=qCe.of (by kernel_rfl) rfl
theorem el61:qCe prog 61 [.int .u64 0,Str [],Str [],.int .i64 0,Str []] 64:=qCe.of (by kernel_rfl) rfl
theorem el9:qCe prog 9 [Str []] 16:=qCe.of (by kernel_rfl) rfl
theorem ent100:qAD prog 100:=qAD.of func100 rfl (by kernel_rfl)
theorem ent101:qAD prog 101:=qAD.of func101 rfl (by kernel_rfl)
theorem ent104:qAD prog 104:=qAD.of func104 rfl (by kernel_rfl)
theorem ent105:qAD prog 105:=qAD.of func105 rfl (by kernel_rfl)
theorem ent106:qAD prog 106:=qAD.of func106 rfl (by kernel_rfl)
theorem ent109:qAD prog 109:=qAD.of func109 rfl (by kernel_rfl)
theorem ent111:qAD prog 111:=qAD.of func111 rfl (by kernel_rfl)
theorem ent112:qAD prog 112:=qAD.of func112 rfl (by kernel_rfl)
theorem ent113:qAD prog 113:=qAD.of func113 rfl (by kernel_rfl)
theorem ent114:qAD prog 114:=qAD.of func114 rfl (by kernel_rfl)
theorem ent118:qAD prog 118:=qAD.of func118 rfl (by kernel_rfl)
theorem ent125:qAD prog 125:=qAD.of func125 rfl (by kernel_rfl)
theorem ent126:qAD prog 126:=qAD.of func126 rfl (by kernel_rfl)
theorem ent129:qAD prog 129:=qAD.of func129 rfl (by kernel_rfl)
theorem ent132:qAD prog 132:=qAD.of func132 rfl (by kernel_rfl)
theorem ent134:qAD prog 134:=qAD.of func134 rfl (by kernel_rfl)
theorem ent135:qAD prog 135:=qAD.of func135 rfl (by kernel_rfl)
theorem ent136:qAD prog 136:=qAD.of func136 rfl (by kernel_rfl)
theorem ent147:qAD prog 147:=qAD.of func147 rfl (by kernel_rfl)
theorem ent154:qAD prog 154:=qAD.of func154 rfl (by kernel_rfl)
theorem ent155:qAD prog 155:=qAD.of func155 rfl (by kernel_rfl)
theorem ent162:qAD prog 162:=qAD.of func162 rfl (by kernel_rfl)
theorem ent165:qAD prog 165:=qAD.of func165 rfl (by kernel_rfl)
theorem ent168:qAD prog 168:=qAD.of func168 rfl (by kernel_rfl)
theorem ent169:qAD prog 169:=qAD.of func169 rfl (by kernel_rfl)
theorem ent175:qAD prog 175:=qAD.of func175 rfl (by kernel_rfl)
theorem ent178:qAD prog 178:=qAD.of func178 rfl (by kernel_rfl)
theorem ent193:qAD prog 193:=qAD.of func193 rfl (by kernel_rfl)
theorem ent194:qAD prog 194:=qAD.of func194 rfl (by kernel_rfl)
theorem ent210:qAD prog 210:=qAD.of func210 rfl (by kernel_rfl)
theorem ent30:qAD prog 30:=qAD.of func30 rfl (by kernel_rfl)
theorem ent31:qAD prog 31:=qAD.of func31 rfl (by kernel_rfl)
theorem ent33:qAD prog 33:=qAD.of func33 rfl (by kernel_rfl)
theorem ent35:qAD prog 35:=qAD.of func35 rfl (by kernel_rfl)
theorem ent41:qAD prog 41:=qAD.of func41 rfl (by kernel_rfl)
theorem ent44:qAD prog 44:=qAD.of func44 rfl (by kernel_rfl)
theorem ent49:qAD prog 49:=qAD.of func49 rfl (by kernel_rfl)
theorem ent50:qAD prog 50:=qAD.of func50 rfl (by kernel_rfl)
theorem ent51:qAD prog 51:=qAD.of func51 rfl (by kernel_rfl)
theorem ent56:qAD prog 56:=qAD.of func56 rfl (by kernel_rfl)
theorem ent57:qAD prog 57:=qAD.of func57 rfl (by kernel_rfl)
theorem ent61:qAD prog 61:=qAD.of func61 rfl (by kernel_rfl)
theorem ent67:qAD prog 67:=qAD.of func67 rfl (by kernel_rfl)
theorem ent68:qAD prog 68:=qAD.of func68 rfl (by kernel_rfl)
theorem ent78:qAD prog 78:=qAD.of func78 rfl (by kernel_rfl)
theorem ent83:qAD prog 83:=qAD.of func83 rfl (by kernel_rfl)
theorem ent84:qAD prog 84:=qAD.of func84 rfl (by kernel_rfl)
theorem ent93:qAD prog 93:=qAD.of func93 rfl (by kernel_rfl)
theorem ent96:qAD prog 96:=qAD.of func96 rfl (by kernel_rfl)
theorem noEsc(v:Value)(w:World):(callFunc 198 #[v]).run prog w= .ok (.value v) w:=by kernel_rfl
theorem qEO:prog.info? 156=some t156:=by kernel_rfl
structure Bld (g off:Nat) (l:List Value) (mr:Hp) (bs:List UInt8) (A:Option Addr) (c:Nat) (p:Option Addr):Prop where
 a0:l[off]?=some (.pointer p)
 self:p=none∨p=some ⟨g,off,none⟩
 a1:l[off+1]?=some (.slice A bs.length c)
 row:qBb False mr 5 1 A bs.length c (qAf bs)
 cap:A=none∨0<c
theorem qJE(F:Hp)(g T off:Nat)(l:List Value)(hl:l[off]?=some (.pointer none))(hT:liesAt prog prog.depth T (l.length/prog.cellsOf T) off 156 1=true):
    Ct prog 167 [.pointer (some ⟨g,off,none⟩)] [blk g l T,F] (λ_:Unit=> .tuple #[]) (λ_=>True) (λ_=> [blk g (qBC l off [.pointer (some ⟨g,off,none⟩)]) T,F]):=by
  have hoff:off<l.length:=(List.getElem?_eq_some_iff.1 hl).1
  refine Ct.walk func167 rfl ntmps167 rfl (λw0 hw0=>?_)
  refine J.f λ_ j1=>J.b O<|J.g (qAC O O) O<|J.g (qAA O O qDQ O sizeOf154 O) O<|J.g (qAE 0 O O O isAgg154 hl) O<|J.g (qA6 qNy O O O) O<|J.c j1<|J.c4 ?_
  exact J.H<|J.q 2 O<|J.g (qLX O O qNy underlying297 qEO (by decide) (m:=blk g l T) (by simp) (qAb _ _) (by simpa using hoff)) rfl<|J.p (qWg rfl rfl noEsc) rfl λg10 _=>J.g (qIm rfl rfl underlying297 qNy qEO (m:=blk g l T) (by simp) (qAb _ _) (by simpa using hT)) rfl<|J.g (qAC rfl rfl) rfl<|J.g (qAA (j:=off) rfl rfl qDQ rfl sizeOf154 rfl) rfl<|J.a6 (qAW (i:=0) (vs:= [.pointer (some ⟨g,off,none⟩)]) rfl rfl rfl rfl rfl sizeOf154 rfl (by simp only [jD,jE];omega)) rfl rfl λ_ _=>J.a3<|J.d7 hw0 (λ_ _ h=>h) (qJP rfl) (qAq () rfl trivial [0,1] rfl (by decide))
theorem qHI(F:Hp)(g T off:Nat)(l:List Value)(hl:l[off]?=some (.pointer (some ⟨g,off,none⟩))):
    Ct prog 167 [.pointer (some ⟨g,off,none⟩)] [blk g l T,F] (λ_:Unit=> .tuple #[]) (λ_=>True) (λ_=> [blk g l T,F]):=by
  refine Ct.walk func167 rfl ntmps167 rfl (λw0 hw0=>?_)
  refine J.f λ_ j1=>J.b O<|J.g (qAC O O) O<|J.g (qAA O O qDQ O sizeOf154 O) O<|J.g (qAE 0 O O O isAgg154 hl) O<|J.g (qA6 qNy O O O) O<|J.c j1<|J.a1 ?_
  refine J.f λ_ j2=>J.b O<|J.g (qAC O O) O<|J.g (qAA O O qDQ O sizeOf154 O) O<|J.g (qAE 0 O O O isAgg154 hl) O<|J.b O<|J.g (qOP qNy qEO O O O) O<|J.c j2<|J.a1 ?_
  exact J.b5<|J.d7 hw0 (λ_ _ h=>h) (qJP O) (qAq () O trivial [0,1] O (by decide))
theorem qHY{l:List Value}{k:Nat}{v:Value}(h:l[k]?=some v):qBC l k [v]=l:=by
 obtain ⟨hk,rfl⟩:=List.getElem?_eq_some_iff.1 h
 unfold qBC
 rw [jV,List.singleton_append,jH,←zE hk,zZ]
theorem qCw{l:List Value}{k:Nat}{v:Value}(hk:k<l.length):(qBC l k [v])[k]?=some v:=by
 unfold qBC
 rw [jV,ji (by simp;omega)]
 simp [jn (Nat.le_of_lt hk)]
theorem qBu{l:List Value}{k j:Nat}{v:Value}(hk:k<l.length)(hj:j≠k):(qBC l k [v])[j]?=l[j]?:=by
  unfold qBC
  rw [jV,List.getElem?_append,List.getElem?_append]
  simp only [jF,jn (Nat.le_of_lt hk),jH]
  by_cases h1:j<k
  · rw [if_pos h1,zF,if_pos h1]
  · rw [if_neg h1,if_neg (by omega),jt]
    congr 1;omega
theorem qCv{l:List Value}{k:Nat}{v:Value}(hk:k<l.length):(qBC l k [v]).length=l.length:=by
 unfold qBC
 simp;omega
theorem qDm(F:Hp)(g T off:Nat)(l:List Value)(p:Option Addr)(hl:l[off]?=some (.pointer p))(hp:p=none∨p=some ⟨g,off,none⟩)(hT:liesAt prog prog.depth T (l.length/prog.cellsOf T) off 156 1=true):
    Ct prog 167 [.pointer (some ⟨g,off,none⟩)] [blk g l T,F] (λ_:Unit=> .tuple #[]) (λ_=>True) (λ_=> [blk g (qBC l off [.pointer (some ⟨g,off,none⟩)]) T,F]):=by
  rcases hp with rfl|rfl
  · exact qJE F g T off l hl hT
  · rw [qHY hl];exact qHI F g T off l hl
theorem qXL:qAD prog 167:=qAD.of func167 rfl (by kernel_rfl)
def Upd(off:Nat)(l l':List Value):Prop:=l'.length=l.length∧ ∀j,j≠off→j≠off+1→l'[j]?=l[j]?
theorem Upd.trans{off:Nat}{a b c:List Value}(h:Upd off a b)(h':Upd off b c):Upd off a c:=⟨h'.1.trans h.1,λj h1 h2=>(h'.2 j h1 h2).trans (h.2 j h1 h2)⟩
theorem qJJ{g off:Nat}{l:List Value}{mr mr':Hp}{bs bs':List UInt8}{A A':Option Addr}{c c':Nat}{p:Option Addr}(hb:Bld g off l mr bs A c p)(hr:qBb False mr' 5 1 A' bs'.length c' (qAf bs'))(hc:A'=none∨0<c'):
    Bld g off (qBC (qBC l off [.pointer (some ⟨g,off,none⟩)]) (off+1) [.slice A' bs'.length c']) mr' bs' A' c' (some ⟨g,off,none⟩)∧Upd off l (qBC (qBC l off [.pointer (some ⟨g,off,none⟩)]) (off+1) [.slice A' bs'.length c']):=by
  have h1:off+1<l.length:=(List.getElem?_eq_some_iff.1 hb.a1).1
  have h0:off<l.length:=by omega
  have hl1:=qCv (v:=Value.pointer (some ⟨g,off,none⟩)) h0
  have h1':off+1<(qBC l off [.pointer (some ⟨g,off,none⟩)]).length:=by omega
  refine⟨⟨?_,.inr rfl,?_,hr,hc⟩,by rw [qCv h1',hl1],λj hj hj'=>?_⟩
  · rw [qBu h1' (by omega),qCw h0]
  · exact qCw h1'
  · rw [qBu h1' hj',qBu h0 hj]
theorem qV8{m:Hp}{e:TypeId}{A:Option Addr}{n c:Nat}{xs:List (List Value)}(h:qBb False m e 1 A n c xs)(hn:0<n):A=none∨0<c:= .inr (zK hn h.2.2.1)
theorem qJW(F mr:Hp)(g T off:Nat)(l:List Value)(bs:List UInt8)(A:Option Addr)(c:Nat)(p:Option Addr)(hb:Bld g off l mr bs A c p)(hT:liesAt prog prog.depth T (l.length/prog.cellsOf T) off 156 1=true)(b:UInt8)(hlen:bs.length<70368744177664):
    Ct prog 136 [.pointer (some ⟨g,off,none⟩),B8 b] [blk g l T,mr,F] (λ_:List Value×Hp=> .nilIface) (λx=> ∃A c,Bld g off x.1 x.2 (bs++ [b]) A c (some ⟨g,off,none⟩)∧Upd off l x.1) (λx=> [blk g x.1 T,x.2,F]):=by
  have hoff:off+1<l.length:=(List.getElem?_eq_some_iff.1 hb.a1).1
  have hoff0:off<l.length:=by omega
  refine Ct.walk func136 rfl ntmps136 rfl (λw0 hw0=>?_)
  refine J.f λ_ j1=>J.b O<|J.c j1<|J.f λ_ j2=>J.b O<|J.p (qAB O O qXL (Ct.useA [blk g l T] [mr,F] (A':=λ_:Unit=> [blk g (qBC l off [.pointer (some ⟨g,off,none⟩)]) T]) (new:=λ_=> []) (λF' _=>qDm F' g T off l p hb.a0 hb.self hT))) O λg6 _=>J.c j2<|J.f λ_ j3=>J.q 2 O<|J.g (qAC O O) O<|J.g (qAA (j:=off+1) O O qDQ O qJM O) O<|J.g (qAE 0 O O O qO0 ((qBu hoff0 (by omega)).trans hb.a1)) O<|J.b O<|J.p (qAG (l:= [.tmp 12]) (xs:= [[B8 b]]) O O O O qBl el5 O (by decide) (by decide) (by simp)) rfl λg13 _=>J.p (qAV (i:=1) (m2:=blk g13 [B8 b] 5) rfl rfl rfl qBl qBl el5 rfl hb.row (by simp) (qAl (q:=True) (xs:= [[B8 b]]) rfl (by simp)).sl rfl (by omega) (by omega)) rfl ?_
  rintro⟨A14,c14,m14⟩ h14
  try dsimp only at h14
  have hbp:=qJJ (bs':=bs++ [b]) (A':=A14) (c':=c14) (mr':=m14) hb (by simpa [qAf] using h14) (qV8 h14 (by omega))
  simp only [jA,jH] at hbp
  exact J.g (qAC O O) O<|J.g (qAA O O qDQ O qJM O) O<|J.a6 (qAW (i:=0) O O O O O qJM O (by rw [qCv hoff0];exact hoff)) rfl rfl λ_ _=>J.c j3<|J.f λ_ j4=>J.b rfl<|J.c j4<|J.A<|J.E hw0 rfl (_,m14) rfl ⟨A14,c14,hbp⟩ [0,1,2] rfl (by decide)
theorem qBO(F mr:Hp)(g T off:Nat)(l:List Value)(bs:List UInt8)(A:Option Addr)(c:Nat)(p:Option Addr)(hb:Bld g off l mr bs A c p)(hT:liesAt prog prog.depth T (l.length/prog.cellsOf T) off 156 1=true)(s:List UInt8)(hlen:bs.length+s.length<70368744177664):
    Ct prog 112 [.pointer (some ⟨g,off,none⟩),Str s] [blk g l T,mr,F] (λ_:List Value×Hp=> .tuple #[I s.length,.nilIface]) (λx=> ∃A c,Bld g off x.1 x.2 (bs++s) A c (some ⟨g,off,none⟩)∧Upd off l x.1) (λx=> [blk g x.1 T,x.2,F]):=by
  have hoff:off+1<l.length:=(List.getElem?_eq_some_iff.1 hb.a1).1
  have hoff0:off<l.length:=by omega
  refine Ct.walk func112 rfl ntmps112 rfl (λw0 hw0=>?_)
  refine J.f λ_ j1=>J.q 2 O<|J.c j1<|J.f λ_ j2=>J.b O<|J.p (qAB O O qXL (Ct.useA [blk g l T] [mr,F] (A':=λ_:Unit=> [blk g (qBC l off [.pointer (some ⟨g,off,none⟩)]) T]) (new:=λ_=> []) (λF' _=>qDm F' g T off l p hb.a0 hb.self hT))) O λg7 _=>J.c j2<|J.f λ_ j3=>J.q 2 O<|J.g (qAC O O) O<|J.g (qAA (j:=off+1) O O qDQ O qJM O) O<|J.g (qAE 0 O O O qO0 ((qBu hoff0 (by omega)).trans hb.a1)) O<|J.b O<|J.p (qOS (i:=1) O O O qBl u9_ el5 O hb.row (by omega) (by omega)) O ?_
  rintro⟨A14,c14,m14⟩ h14
  try dsimp only at h14
  obtain ⟨h14,hcap⟩:=h14
  have hbp:=qJJ (bs':=bs++s) (A':=A14) (c':=c14) (mr':=m14) hb (by simpa [qAf] using h14) (hcap hb.cap)
  simp only [jA] at hbp
  exact J.g (qAC O O) O<|J.g (qAA O O qDQ O qJM O) O<|J.a6 (qAW (i:=0) O O O O O qJM O (by rw [qCv hoff0];exact hoff)) rfl rfl λ_ _=>J.c j3<|J.f λ_ j4=>J.b rfl<|J.g (qAt u9_ rfl rfl) rfl<|J.q 2 rfl<|J.c j4<|J.A<|J.a9 hw0 (λ_ _ h=>h) (qCG rfl rfl rfl) (qAq (_,m14) rfl ⟨A14,c14,hbp⟩ [0,1,2] rfl (by decide))
theorem qD6(F mr:Hp)(g T off:Nat)(l:List Value)(bs:List UInt8)(A:Option Addr)(c:Nat)(p:Option Addr)(hb:Bld g off l mr bs A c p)(hlen:bs.length<70368744177664):
    Ct prog 114 [.pointer (some ⟨g,off,none⟩)] [blk g l T,mr,F] (λ_:Hp=>Str bs) (λm=>Bld g off l m bs A c p) (λm=> [blk g l T,m,F]):=by
  refine Ct.walk func114 rfl ntmps114 rfl (λw0 hw0=>?_)
  refine J.f λ_ j1=>J.b O<|J.c j1<|J.k λ_ j2=>J.b0 [blk g l T,F] [] (.y 0 (.y 1 (.y 2 (.y 3 (.y 4 (.y 5 (.y 6 (.y 7 (.y 8 (.y 9 (.e 10 (.y 11 .nil)))))))))))) Tryz.wide (by decide+kernel) (by simp) ?_
  refine J.L ?_
  refine J.j O (qAC O O) O O<|J.j O (qAA O O qDQ O qJM O) O O<|J.j O (qAE 0 O O O qO0 hb.a1) O O<|J.j O (qJ5 O O hb.cap) O O<|J.L ?_
  refine J.j O (qAC O O) O O<|J.j O (qAA O O qDQ O qJM O) O O<|J.j O (qAE 0 O O O qO0 hb.a1) O O<|J.j O (qAU qBl O O) O O<|J.Z O (qGc (i:=1) O O O underlying263 O O hb.row (by omega)) O (by simp) ?_
  rintro m13 h13
  refine J.b6 ?_
  refine J.a8<|J.u (J.D j2 ?_)
  exact J.A<|J.E hw0 O m13 O ⟨hb.a0,hb.self,hb.a1,h13,hb.cap⟩ [0,1,2] O (by decide)
theorem mnz(v:Value)(w:World):(callFunc 199 #[v]).run prog w=(do let x←Extern.BytealgMakeNoZero.makeNoZero #[3] #[80] #[v];pure (.value x):Sem Next).run prog w:=by kernel_rfl
theorem qUV(F:Hp)(g T off:Nat)(l:List Value)(hl:l[off+1]?=some (.slice none 0 0))(n:Nat)(hn:n≤70368744177664):
    Ct prog 168 [.pointer (some ⟨g,off,none⟩),I n] [blk g l T,F] (λ_:Nat×Nat×List Value=> .tuple #[]) (λx=>n≤x.2.1∧x.2.2.length=x.2.1) (λx=> [blk g (qBC l (off+1) [.slice (some ⟨x.1,0,none⟩) 0 x.2.1]) T,F,blk x.1 x.2.2 5]):=by
  have hoff:off+1<l.length:=(List.getElem?_eq_some_iff.1 hl).1
  refine Ct.walk func168 rfl ntmps168 rfl (λw0 hw0=>?_)
  refine J.k λ_ j1=>J.b0 [blk g l T,F] [] (.y 0 (.y 1 (.y 2 (.y 3 (.y 4 (.y 5 (.y 6 (.y 7 (.y 9 (.y 10 (.y 11 (.y 12 (.y 13 (.e 8 (.y 14 (.y 15 .nil)))))))))))))))) Tryz.wide (by decide+kernel) (by simp) ?_
  refine J.L ?_
  refine J.j O (qAC O O) O O<|J.j O (qAA O O qDQ O qJM O) O O<|J.j O (qAE 0 O O O qO0 hl) O O<|J.j O (qU5 qBl O O) O O<|J.j O (qDO O O O (by omega)) O O<|J.L ?_
  refine J.j O ((qAS O O O (by omega)).as (v':=I n) (by simp)) rfl rfl<|J.L ?_
  refine J.j O (qAC O O) O O<|J.j O (qAA O O qDQ O qJM O) O O<|J.j O (qAE 0 O O O qO0 hl) O O<|J.j O (qAU qBl O O) O O<|J.Z O (qYO O O mnz qBl (by omega)) O (by simp) ?_
  rintro⟨g13,c13,l13⟩ h13
  try dsimp only at h13
  refine J.j O (qDz O O qBl z5_ O (by omega)) O O<|J.b6 ?_
  refine J.a8<|J.u (J.D j1 ?_)
  exact J.f λ_ j2=>J.q 2 O<|J.g (qAC O O) O<|J.g (qAA O O qDQ O qJM O) O<|J.g (qAE 0 O O O qO0 hl) O<|J.p (qTV O O O qBl el5) O λg25 _=>J.c j2<|J.H<|J.q 2 O<|J.g (qAC O O) O<|J.g (qAA O O qDQ O qJM O) O<|J.a6 (qAW (i:=0) O O O O O qJM O (by exact hoff)) O O λ_ _=>J.a3<|J.d7 hw0 (λ_ _ h=>h) (qJP O) (qAq (g13,c13,l13) O h13 [0,1,2] O (by decide))
theorem qNg(F:Hp)(g T off:Nat)(l:List Value)(p:Option Addr)(hb:Bld g off l (λ_=>none) [] none 0 p)(hT:liesAt prog prog.depth T (l.length/prog.cellsOf T) off 156 1=true)(n:Nat)(hn:n≤70368744177664):
    Ct prog 111 [.pointer (some ⟨g,off,none⟩),I n] [blk g l T,λ_=>none,F] (λ_:List Value×Hp=> .tuple #[]) (λx=> ∃A c,Bld g off x.1 x.2 ([]) A c (some ⟨g,off,none⟩)∧Upd off l x.1) (λx=> [blk g x.1 T,x.2,F]):=by
  have hoff:off+1<l.length:=(List.getElem?_eq_some_iff.1 hb.a1).1
  have hoff0:off<l.length:=by omega
  refine Ct.walk func111 rfl ntmps111 rfl (λw0 hw0=>?_)
  refine J.f λ_ j1=>J.b O<|J.p (qAB O O qXL (Ct.useA [blk g l T] [(λ_=>none),F] (A':=λ_:Unit=> [blk g (qBC l off [.pointer (some ⟨g,off,none⟩)]) T]) (new:=λ_=> []) (λF' _=>qDm F' g T off l p hb.a0 hb.self hT))) O λg5 _=>J.c j1<|J.k λ_ j2=>J.f λ_ j3=>J.b O<|J.g (qAT O O O) O<|J.c j3<|J.e3 O ((by simp)) ?_
  refine J.M j2<|J.k λ_ j4=>J.b0 [blk g (qBC l off [.pointer (some ⟨g,off,none⟩)]) T,(λ_=>none),F] [] (.y 0 (.y 1 (.y 2 (.y 3 (.y 4 (.y 5 (.y 6 (.y 7 (.y 8 (.y 9 (.y 10 (.y 11 (.y 12 .nil))))))))))))) Tryz.wide (by decide+kernel) (by simp) ?_
  refine J.L ?_
  refine J.j O (qAC O O) O O<|J.j O (qAA (j:=off+1) O O qDQ O qJM O) O O<|J.j O (qAE 0 O O O qO0 ((qBu hoff0 (by omega)).trans hb.a1)) O O<|J.j O (qU5 qBl O O) O O<|J.L ?_
  refine J.j O (qAC O O) O O<|J.j O (qAA (j:=off+1) O O qDQ O qJM O) O O<|J.j O (qAE 0 O O O qO0 ((qBu hoff0 (by omega)).trans hb.a1)) O O<|J.j O (qAU qBl O O) O O<|J.j O (qA4 (a:=0) (b:=0) O O O (by omega)) O O<|J.L ?_
  refine J.j O (qAT O O O) O O<|J.a8<|J.u (J.D j4 ?_)
  refine J.W O (λh21=>?_) (λh21=>?_)
  ·
    refine J.H<|J.q 2 O<|J.p (qAB O O ent168 (Ct.useA [blk g (qBC l off [.pointer (some ⟨g,off,none⟩)]) T] [λ_=>none,F] (A':=λx:Nat×Nat×List Value=> [blk g (qBC (qBC l off [.pointer (some ⟨g,off,none⟩)]) (off+1) [.slice (some ⟨x.1,0,none⟩) 0 x.2.1]) T]) (new:=λx=> [blk x.1 x.2.2 5]) (λF' _=>qUV F' g T off (qBC l off [.pointer (some ⟨g,off,none⟩)]) ((qBu hoff0 (by omega)).trans hb.a1) n hn))) O ?_
    rintro⟨g24,c24,l24⟩ h24
    try dsimp only at h24
    refine J.a3 ?_
    have hbp:=qJJ (bs':= []) (A':=some ⟨g24,0,none⟩) (c':=c24) (mr':=blk g24 l24 5) hb (qGP (xs:= []) (rest:=l24) (lo:=0) (hi:=0) rfl rfl (by simp) (by simpa using h24.2) (jG _) (.inl rfl)) (.inr (by omega))
    simp only [jE] at hbp
    exact J.d7 hw0 (λ_ _ h=>h) (qJP O) (qAq (_,blk g24 l24 5) O ⟨some ⟨g24,0,none⟩,c24,hbp⟩ [0,3,2] O (by decide))
  refine J.b5 ?_
  have hbp:=qJJ (bs':= []) (A':=none) (c':=0) (mr':=λ_=>none) hb qBb.nil (.inl rfl)
  have e1:=qHY ((qBu (v:= .pointer (some ⟨g,off,none⟩)) hoff0 (by omega)).trans hb.a1)
  simp only [jE] at e1 hbp
  rw [e1] at hbp
  exact J.d7 hw0 (λ_ _ h=>h) (qJP O) (qAq (_,λ_=>none) O ⟨none,0,hbp⟩ [0,1,2] O (by decide))
def qCa(sep:List UInt8):List (List UInt8)→List UInt8
 | []=> []
 |a::r=>a++(r.map λx=>sep++x).flatten
theorem qKN: ∀ls,qCa [] ls=ls.flatten
 | []=>rfl
 |a::r=>by simp [qCa]
def qDa(ls:List (List UInt8)):Nat:=(ls.map List.length).sum
theorem qGJ(ls:List (List UInt8))(k:Nat){s:List UInt8}(h:ls[k]?=some s):qDa (ls.take (k+1))=qDa (ls.take k)+s.length:=by
 obtain ⟨hk,rfl⟩:=List.getElem?_eq_some_iff.1 h
 unfold qDa
 rw [jP hk,jM,List.sum_append];rfl
theorem qEZ(ls:List (List UInt8))(k:Nat):qDa (ls.take k)≤qDa ls:=by
 unfold qDa
 conv=>rhs;rw [←zZ k ls,jM,List.sum_append]
 omega
theorem qDl(sep:List UInt8): ∀(ls:List (List UInt8)),(qCa sep ls).length=qDa ls+sep.length*(ls.length-1)
 | []=>by simp [qCa,qDa]
 |a::r=>by
  have h: ∀r:List (List UInt8),(r.map λx=>sep++x).flatten.length=(r.map List.length).sum+sep.length*r.length:=by
   intro r
   induction r with
   |nil=>rfl
   |cons x r ih=>
    simp only [jZ,ja,jA,List.sum_cons,jD,Nat.mul_add,ih]
    omega
  simp [qCa,qDa,h];omega
theorem qHs(sep:List UInt8)(ls:List (List UInt8))(k:Nat){s:List UInt8}(h:ls[k+1]?=some s):qCa sep (ls.take (k+2))=qCa sep (ls.take (k+1))++sep++s:=by
 cases ls with
 |nil=>simp at h
 |cons a r=>
  simp only [List.getElem?_cons_succ] at h
  obtain ⟨hk,rfl⟩:=List.getElem?_eq_some_iff.1 h
  simp only [List.take_succ_cons,qCa]
  rw [jP hk,jM,zM]
  simp only [jZ,zT,ja,jx,jQ,jV]
theorem qHt(sep:List UInt8)(ls:List (List UInt8))(k:Nat):(qCa sep (ls.take (k+1))).length≤(qCa sep ls).length:=by
 rw [qDl,qDl]
 have h1:=qEZ ls (k+1)
 have h2:(ls.take (k+1)).length≤ls.length:=by simp;omega
 have h3:sep.length*((ls.take (k+1)).length-1)≤sep.length*(ls.length-1):=Nat.mul_le_mul_left _ (by omega)
 omega
theorem qLp:liesAt prog prog.depth 156 (2/prog.cellsOf 156) 0 156 1=true:=by kernel_rfl
theorem qV2(a b M:Int)(hb:0<b)(h:a*b+b≤M):a+1≤M/b:=by
 rw [Int.le_ediv_iff_mul_le hb,Int.add_mul];omega
theorem qT3(F:Hp)(A:Option Addr)(n c:Nat)(sep:List UInt8)(hl:Sl F 1 A n c (qAI [])):
    Cz prog 159 [.slice A n c,Str sep] F (Str (qCa sep [])):=by
  have hn:n=0:=hl.1.symm
  subst hn
  refine Ct.walk func159 rfl ntmps159 rfl (λw0 hw0=>?_)
  refine J.f λ_ j1=>J.b O<|J.c j1<|J.k λ_ j2=>J.f λ_ j3=>J.b O<|J.g (qAU qAk O O) O<|J.c j3<|J.O<|J.f λ_ j4=>J.g (qAg O O O) O<|J.b O<|J.c j4<|J.c4 ?_
  exact J.f λ_ j5=>J.b O<|J.c j5<|J.A<|J.a7<|J.V<|J.E hw0 O () O trivial [0] O (by decide)
theorem qT2(F:Hp)(A:Option Addr)(n c:Nat)(s:List UInt8)(sep:List UInt8)(hl:Sl F 1 A n c (qAI [s])):
    Cz prog 159 [.slice A n c,Str sep] F (Str (qCa sep [s])):=by
  have hn:n=1:=hl.1.symm
  subst hn
  refine Ct.walk func159 rfl ntmps159 rfl (λw0 hw0=>?_)
  refine J.f λ_ j1=>J.b O<|J.c j1<|J.k λ_ j2=>J.f λ_ j3=>J.b O<|J.g (qAU qAk O O) O<|J.c j3<|J.O<|J.f λ_ j4=>J.g (qAg O O O) O<|J.b O<|J.c j4<|J.e3 O (O) ?_
  refine J.f λ_ j5=>J.g (qAg O O O) O<|J.b O<|J.c j5<|J.g0 O (O) ?_
  exact J.f λ_ j6=>J.b O<|J.g (qAH O O O qAk z9_ hl (by decide)) O<|J.g (qAJ O O b9_ (by simp) (hl.elem (qAa (k:=0) rfl))) rfl<|J.b rfl<|J.c j6<|J.A<|J.a7<|J.V<|J.E hw0 rfl () (by simp [qCa]) trivial [0] rfl (by decide)
theorem qQ9(F:Hp)(A:Option Addr)(n c:Nat)(ls:List (List UInt8))(sep:List UInt8)(hl:Sl F 1 A n c (qAI ls))(h2:2≤n)(htot:(qCa sep ls).length≤35184372088832)(hn47:n≤70368744177664):
    Cz prog 159 [.slice A n c,Str sep] F (Str (qCa sep ls)):=by
  have hlen:ls.length=n:=by have:=hl.1;simpa [qAI] using this
  have hjl:=qDl sep ls
  rw [hlen] at hjl
  have hq:(sep.length:Int)*((n:Int)-1)=((sep.length*(n-1):Nat):Int):=by rw [yM];congr 1;omega
  have hB0: ¬0<(sep.length:Int)→sep.length*(n-1)=0:=λh=>by rw [show sep.length=0 by omega,yG]
  have hsm:sep.length≤35184372088832:=by
    have:sep.length*1≤sep.length*(n-1):=Nat.mul_le_mul_left _ (by omega)
    omega
  have hdiv:(sep.length:Int)+1≤9223372036854775807/((n:Int)-1):=qV2 _ _ _ (by omega) (by rw [hq];omega)
  have hnc:=hl.2.1
  obtain ⟨B,hB⟩: ∃B,sep.length*(n-1)=B:=⟨_,rfl⟩
  rw [hB] at hjl hq hB0
  generalize hD:(9223372036854775807:Int)/((n:Int)-1)=D at hdiv
  have H2:(0:Int)≤9223372036854775807∧0<(n:Int)-1∧(9223372036854775807:Int)≤9223372036854775807:=by omega
  refine Ct.walk func159 rfl ntmps159 rfl (λw0 hw0=>?_)
  refine J.f λ_ j1=>J.b O<|J.c j1<|J.k λ_ j2=>J.f λ_ j3=>J.b O<|J.g (qAU qAk O O) O<|J.c j3<|J.O<|J.f λ_ j4=>J.g (qAg O O O) O<|J.b O<|J.c j4<|J.e3 O ((by simp;omega)) ?_
  refine J.f λ_ j5=>J.g (qAg O O O) O<|J.b O<|J.c j5<|J.e3 O ((by simp;omega)) ?_
  refine J.b5<|J.a2<|J.u (J.D j2 ?_)
  refine J.f λ_ j6=>J.b O<|J.c j6<|J.d4 (λ_:Unit=> [(0,.slice A n c),(1,Str sep),(5,I (B:Int))]) (λ_=> [F]) (λ_=>True) (λ_ j7=>?_) ?_
  ·
    refine J.f λ_ j8=>J.b O<|J.g (qAt u9_ O O) O<|J.g (qA5 O O O) O<|J.c j8<|J.W O (λh22=>?_) (λh22=>?_)
    ·
      refine J.k λ_ j9=>J.f λ_ j10=>J.b O<|J.g (qAt u9_ O O) O<|J.b O<|J.g (qAU qAk O O) O<|J.g (qA4 O O O (by omega)) O<|J.g ((qHh O O O H2).as (congrArg I hD)) O<|J.g (qBA O O O) O<|J.c j10<|J.e3 O ((by simp;omega)) ?_
      exact J.M j9<|J.H<|J.q 2 O<|J.g (qAt u9_ O O) O<|J.b O<|J.g (qAU qAk O O) O<|J.g (qA4 O O O (by omega)) O<|J.g ((qDO O O O (by rw [hq];omega)).as (v':=I (B:Int)) (by rw [hq])) rfl<|J.g ((qAS rfl rfl rfl (by omega)).as (v':=I (B:Int)) (by simp)) rfl<|J.b rfl<|J.a3<|J.u<|J.a4 () j7 trivial ⟨rfl,rfl,rfl,trivial⟩ (λ_ h=>h)
    exact J.b5<|J.u<|J.a4 () j7 trivial ⟨O,O,by rw [hB0 h22];rfl,trivial⟩ (λ_ h=>h)
  rintro _ _
  refine J.k λ_ j11=>J.f λ_ j12=>J.b O<|J.g (qAU qAk O O) O<|J.b O<|J.c j12<|J.O<|J.b4 (λk:Nat=> [(0,.slice A n c),(1,Str sep),(5,I ((B+qDa (ls.take k):Nat):Int)),(39,.slice A n c),(40,I n),(41,I k)]) (λ_=> [F]) (λk=>k≤n) (λk=>n-k) 0 (jG _) ⟨O,O,O,O,O,O,trivial⟩ (λ_ h=>h) ?_
  intro k hk I1 hI1
  refine J.f λ_ j13=>J.g (qAT O O O) O<|J.c j13<|J.k λ_ j14=>J.W O (λh42=>?_) (λh42=>?_)
  ·
    refine J.M j14<|J.k λ_ j15=>J.O<|J.k λ_ j16=>?_
    have hkn:k<n:=by omega
    obtain ⟨s,hs⟩: ∃s,ls[k]?=some s:=⟨_,jC (by omega)⟩
    have hst:=qGJ ls k hs
    have hst2:=qEZ ls (k+1)
    refine J.H<|J.g (qAH O O O qAk z9_ hl hkn) O<|J.g (qAJ O O b9_ (by simp) (hl.elem (qAa hs))) rfl<|J.b rfl<|J.c j16<|J.k λ_ j17=>J.f λ_ j18=>J.b rfl<|J.g (qAt u9_ rfl rfl) rfl<|J.b rfl<|J.g (qA4 rfl rfl rfl (by omega)) rfl<|J.g (qA5 rfl rfl rfl) rfl<|J.c j18<|J.e3 rfl ((by simp;omega)) ?_
    refine J.M j17<|J.H<|J.q 2 O<|J.g (qAt u9_ O O) O<|J.g (qAS O O O (by omega)) O<|J.b O<|J.a3<|J.a2<|J.u (J.D j15 ?_)
    exact J.H<|J.g (qAS O O O (by omega)) O<|J.b O<|J.a3<|J.u<|J.a4 (k+1) (λx (hx:x≤n∧n-x<n-k)=>hI1 x hx.1 hx.2) ⟨by omega,by omega⟩ ⟨O,O,by rw [hst];exact congrArg (λz=>some (I z)) (by omega),rfl,rfl,rfl,trivial⟩ (λ_ h=>h)
  refine J.b2<|J.a0<|J.a0<|J.b3 ?_
  refine J.u (J.D j11 ?_)
  refine J.f λ_ j19=>J.p (qAL O zeroValue156 O) O λg8 _=>J.c7 [1,2,0] [blk g8 [.pointer none,.slice none 0 0] 156,λ_=>none,F] O (by decide)<|J.c j19<|J.k λ_ j20=>?_
  have hst3:=qEZ ls k
  refine J.H<|J.b O<|J.p (qAB O O ent111 (qNg F g8 156 0 [.pointer none,.slice none 0 0] none ⟨O,.inl O,O,qBb.nil,.inl O⟩ qLp _ (by omega))) O ?_
  rintro⟨l57,m57⟩ ⟨A57,c57,hb57,hu57⟩
  dsimp only at hb57 hu57
  obtain ⟨s0,hs0⟩: ∃s0,ls[0]?=some s0:=⟨_,jC (by omega)⟩
  have hs0l:s0.length≤qDa ls:=by have h1:=qGJ ls 0 hs0;have h2:=qEZ ls 1;simp only [jj] at h1;omega
  refine J.c j20<|J.f λ_ j21=>J.b O<|J.g (qAH (i:=0) O O O qAk z9_ hl (by omega)) O<|J.g (qAJ O O b9_ (by simp) (hl.elem (qAa hs0))) rfl<|J.p (qAB rfl rfl ent112 (qBO F m57 g8 156 0 l57 [] A57 c57 _ hb57 (by rw [hu57.1];exact qLp) s0 (by simp;omega))) rfl ?_
  rintro⟨l61,m61⟩ ⟨A61,c61,hb61,hu61⟩
  dsimp only at hb61 hu61
  have hb61:Bld g8 0 l61 m61 (qCa sep (ls.take 1)) A61 c61 (some ⟨g8,0,none⟩):=by
    have e:qCa sep (ls.take 1)= []++s0:=by cases ls with
      |nil=>simp at hs0
      |cons a r=>simp at hs0;subst hs0;simp [qCa]
    rw [e];exact hb61
  refine J.c j21<|J.k λ_ j22=>J.f λ_ j23=>J.b O<|J.g (qDE (l:=1) (h:=n) O O qAk z9_ O O (by omega)) O<|J.g (qAU qAk O O) O<|J.b O<|J.c j23<|J.O<|J.b4 (X:=Nat×List Value×Hp×Option Addr×Nat) (λx=> [(1,Str sep),(8,Ptr g8),(63,_),(64,I (n-1:Nat)),(65,I x.1)]) (λx=> [blk g8 x.2.1 156,x.2.2.1,F]) (λx=>x.1≤n-1∧x.2.1.length=2∧Bld g8 0 x.2.1 x.2.2.1 (qCa sep (ls.take (x.1+1))) x.2.2.2.1 x.2.2.2.2 (some ⟨g8,0,none⟩)) (λx=>n-1-x.1) (0,l61,m61,A61,c61) (⟨jG _,by rw [hu61.1,hu57.1];rfl,hb61⟩) ⟨rfl,rfl,rfl,rfl,rfl,trivial⟩ (λ_ h=>h) ?_
  rintro⟨k,l,m,A1,c1⟩ ⟨hk,hll,hb⟩ I3 hI3
  dsimp only at hk hll hb⊢
  have hl2:=hl.cut (lo:=1) (hi:=n) (mx:=c) (by omega) (jK _) hl.2.1
  refine J.f λ_ j24=>J.g (qAT O O O) O<|J.c j24<|J.k λ_ j25=>J.W O (λh66=>?_) (λh66=>?_)
  ·
    refine J.M j25<|J.k λ_ j26=>J.O<|J.k λ_ j27=>?_
    have hkn:k+1<n:=by omega
    obtain ⟨s,hs⟩: ∃s,ls[k+1]?=some s:=⟨_,jC (by omega)⟩
    have hs2:((((qAI ls).take n).drop 1))[k]?=some [Str s]:=by rw [jt,zF,Nat.add_comm 1 k,if_pos hkn];exact qAa hs
    have hj1:=qHt sep ls (k+1)
    rw [qHs sep ls k hs] at hj1
    simp only [jA] at hj1
    refine J.H<|J.g (qAH O O O qAk z9_ hl2 (by omega)) O<|J.g (qAJ O O b9_ (by simp) (hl2.elem hs2)) rfl<|J.b rfl<|J.c j27<|J.f λ_ j28=>J.b rfl<|J.p (qAB rfl rfl ent112 (qBO F m g8 156 0 l _ A1 c1 _ hb (by rw [hll];exact qLp) sep (by omega))) rfl ?_
    rintro⟨l70,m70⟩ ⟨A70,c70,hb70,hu70⟩
    dsimp only at hb70 hu70
    refine J.c j28<|J.H<|J.b O<|J.p (qAB O O ent112 (qBO F m70 g8 156 0 l70 _ A70 c70 _ hb70 (by rw [hu70.1,hll];exact qLp) s (by simp;omega))) rfl ?_
    rintro⟨l72,m72⟩ ⟨A72,c72,hb72,hu72⟩
    dsimp only at hb72 hu72
    rw [←qHs sep ls k hs] at hb72
    refine J.a3<|J.a2<|J.u (J.D j26 ?_)
    refine J.H<|J.g (qAS O O O (by omega)) O<|J.b O<|J.a3<|J.u<|J.a4 (k+1,l72,m72,A72,c72) (λx (hx:_∧n-1-x.1<n-1-k)=>hI3 x hx.1 hx.2) ⟨⟨by dsimp only;omega,by rw [hu72.1,hu70.1];exact hll,hb72⟩,by dsimp only;omega⟩ ⟨rfl,rfl,rfl,rfl,rfl,trivial⟩ (λ_ h=>h)
  refine J.b2<|J.a0<|J.a0<|J.b3 ?_
  refine J.u (J.D j22 ?_)
  refine J.k λ_ j29=>?_
  have hend:qCa sep (ls.take (k+1))=qCa sep ls:=by rw [jc (by omega)]
  have hj1:=qHt sep ls k
  refine J.H<|J.p (qAB O O ent114 (qD6 F m g8 156 0 l _ A1 c1 _ hb (by omega))) O ?_
  rintro m74 h74
  exact J.b O<|J.c j29<|J.A<|J.E hw0 O () (by rw [hend]) trivial [2] rfl (by decide)
theorem qXC(F:Hp)(A:Option Addr)(n c:Nat)(ls:List (List UInt8))(sep:List UInt8)(hl:Sl F 1 A n c (qAI ls))(htot:(qCa sep ls).length≤35184372088832)(hn47:n≤70368744177664):
    Cz prog 159 [.slice A n c,Str sep] F (Str (qCa sep ls)):=by
  have hlen:ls.length=n:=by have:=hl.1;simpa [qAI] using this
  match ls,hl,htot,hlen with
  | [],hl,_,_=>exact qT3 F A n c sep hl
  | [s],hl,_,_=>exact qT2 F A n c s sep hl
  |a::b::r,hl,htot,hlen=>exact qQ9 F A n c _ sep hl (by simp at hlen;omega) htot hn47
theorem ent159:qAD prog 159:=qAD.of func159 rfl (by kernel_rfl)
def small(r:Nat):Nat:=if 65≤r∧r≤90∨913≤r∧r≤937∧r≠930∨1040≤r∧r≤1071 then r+32 else r
def qKK(r:Nat):Nat:=if 97≤small r∧small r≤122 then 1 else if 945≤small r∧small r≤969 then 2 else if 1072≤small r∧small r≤1103 then 4 else 0
def qHZ(r:Nat):Bool:=decide (r=46∨r=45∨r=95∨r=64)
def qPj(c:UInt8):Bool:=qHZ c.toNat
def qJR(l:List Nat)(b:Nat):Nat:=l.foldl (λb r=>b|||qKK r) b
def good(b:Nat):Bool:=decide (b=0∨b=1∨b=2∨b=4)
theorem qSx(r:Nat):small r≤r+32:=by unfold small;split<;>omega
theorem qTE{r:Nat}(h:Rn r):Rn (small r):=by
 obtain ⟨h1,h2⟩:=h
 unfold small Rn
 split<;>omega
theorem qLq(r:Nat):qKK r<8:=by
 unfold qKK;repeat' split
 all_goals omega
theorem qR5: ∀(l:List Nat) (b:Nat),b<8→qJR l b<8
 | [],_,h=>h
 |r::l,b,h=>qR5 l (b|||qKK r) (Nat.or_lt_two_pow (n:=3) h (qLq r))
theorem qUf(l m:List Nat)(b:Nat):qJR (l++m) b=qJR m (qJR l b):=List.foldl_append
def spl:List UInt8→List UInt8→List (List UInt8)
 |cur,[]=> [cur]
 |cur,c::t=>if qPj c then cur::spl [] t else spl (cur++ [c]) t
def qSJ:List Nat→List Nat→List (List Nat)
 |cur,[]=> [cur]
 |cur,r::t=>if qHZ r then cur::qSJ [] t else qSJ (cur++ [r]) t
theorem qVt{c:UInt8}(h:qPj c=true)(cur t:List UInt8):spl cur (c::t)=cur::spl [] t:=by rw [spl,if_pos h]
theorem qGL: ∀(p:List UInt8),(∀c∈p,qPj c=false)→ ∀cur t,spl cur (p++t)=spl (cur++p) t
 | [],_,cur,t=>by rw [jQ];rfl
 |c::p,h,cur,t=>by
  rw [zu,spl,if_neg (by rw [h c (.head _)];decide),qGL p (λx hx=>h x (.tail _ hx)),jV];rfl
theorem qL3{r:Nat}(h:Rn r)(hb:128≤r): ∀c∈enc r,128≤c.toNat:=by
  have:=h.1
  intro c hc
  unfold enc at hc
  rw [if_neg (by omega)] at hc
  split at hc
  · rcases List.mem_cons.1 hc with rfl|hc
    · rw [b8 (by omega)];omega
    · rw [List.mem_singleton.1 hc,b8 (by omega)];omega
  split at hc
  · rcases List.mem_cons.1 hc with rfl|hc
    · rw [b8 (by omega)];omega
    rcases List.mem_cons.1 hc with rfl|hc
    · rw [b8 (by omega)];omega
    · rw [List.mem_singleton.1 hc,b8 (by omega)];omega
  · rcases List.mem_cons.1 hc with rfl|hc
    · rw [b8 (by omega)];omega
    rcases List.mem_cons.1 hc with rfl|hc
    · rw [b8 (by omega)];omega
    rcases List.mem_cons.1 hc with rfl|hc
    · rw [b8 (by omega)];omega
    · rw [List.mem_singleton.1 hc,b8 (by omega)];omega
theorem qIT{c:UInt8}(h:128≤c.toNat):qPj c=false:=by unfold qPj qHZ;exact decide_eq_false (by omega)
theorem qSo{s:List UInt8}(h:s≠ [])(hs:qHZ (dec s 0).1=true):(dec s 0).2=1∧ ∃c t,s=c::t∧qPj c=true∧c.toNat=(dec s 0).1:=by
  by_cases ho:dec s 0=(65533,1)
  · rw [ho] at hs;exact absurd hs (by decide)
  · obtain ⟨r,t,hr,rfl,hd⟩:=qKf h ho
    rw [hd] at hs⊢
    dsimp only at hs⊢
    have hr2:r<128:=by unfold qHZ at hs;rw [decide_eq_true_eq] at hs;omega
    rw [qCb hr2]
    refine⟨rfl,_,_,rfl,?_,b8 (by omega)⟩
    unfold qPj;rw [b8 (by omega)];exact hs
theorem qSp{s:List UInt8}(h:s≠ [])(hs:qHZ (dec s 0).1=false): ∀c∈s.take (dec s 0).2,qPj c=false:=by
  by_cases ho:dec s 0=(65533,1)
  · rw [ho]
    obtain ⟨x,t,rfl⟩:=List.exists_cons_of_ne_nil h
    intro c hc
    rw [show(x::t).take 1= [x] from rfl,jR] at hc
    subst hc
    refine qIT ?_
    by_cases hx:c.toNat<128
    · have:=qGy (r:=c.toNat) ⟨by omega,by omega⟩ t
      rw [qCb hx,b8e rfl] at this
      rw [show [c]++t=c::t from rfl,ho] at this
      have:=congrArg Prod.fst this
      dsimp only at this
      omega
    · omega
  · obtain ⟨r,t,hr,rfl,hd⟩:=qKf h ho
    rw [hd] at hs⊢
    dsimp only at hs⊢
    rw [List.take_left]
    by_cases hr2:r<128
    · rw [qCb hr2]
      intro c hc
      rw [List.mem_singleton.1 hc];unfold qPj;rw [b8 (by omega)];exact hs
    · exact λc hc=>qIT (qL3 hr (by omega) c hc)
theorem qPf: ∀(l:List Nat),(∀r∈l,Rn r)→ ∀cur,spl (unr cur) (unr l)=(qSJ cur l).map unr
  | [],_,cur=>rfl
  |r::l,h,cur=>by
    have hr:=h r (.head _)
    have ih:=qPf l (λx hx=>h x (.tail _ hx))
    rw [qCP,qSJ]
    by_cases hs:qHZ r=true
    · have hr2:r<128:=by unfold qHZ at hs;rw [decide_eq_true_eq] at hs;omega
      rw [if_pos hs,qCb hr2,jZ,←ih []]
      rw [show [UInt8.ofNat r]++unr l=UInt8.ofNat r::unr l from rfl,spl,if_pos (by unfold qPj;rw [b8 (by omega)];exact hs)];rfl
    · rw [if_neg hs,←ih,qGL,qNu]
      · rw [show unr [r]=enc r from jQ _]
      · by_cases hr2:r<128
        · rw [qCb hr2]
          intro c hc
          rw [List.mem_singleton.1 hc];unfold qPj;rw [b8 (by omega)];exact Bool.eq_false_iff.2 hs
        · exact λc hc=>qIT (qL3 hr (by omega) c hc)
theorem qIN: ∀(l cur:List Nat) (p:List Nat),p∈qSJ cur l→ ∀r∈p,r∈cur∨r∈l
  | [],cur,p,h,r,hr=>by rw [qSJ,jR] at h;subst h;exact .inl hr
  |x::l,cur,p,h,r,hr=>by
    rw [qSJ] at h
    split at h
    · rcases List.mem_cons.1 h with rfl|h
      · exact .inl hr
      · rcases qIN l [] p h r hr with h|h
        · cases h
        · exact .inr (.tail _ h)
    · rcases qIN l _ p h r hr with h|h
      · rcases List.mem_append.1 h with h|h
        · exact .inl h
        · rw [List.mem_singleton.1 h];exact .inr (.head _)
      · exact .inr (.tail _ h)
def okR(r:Nat):Bool:=decide (qKK r≠0∨48≤r∧r≤57)||qHZ r
def okP(p:List UInt8):Bool:=decide (p≠ [])&&good (qJR (rl p) 0)
def right(s:List UInt8):Bool:=(rl s).all okR&&(spl [] s).all okP&&decide (s.count 64≤1)
def normal(s:List UInt8):List UInt8×Nat:=
 if vld s=true then(if(rl s).length≤64 then(if right s=true then(unr ((rl s).map small),0) else([],5)) else([],2)) else([],4)
def qUt:Nat→Nat→Bool→List Nat→Bool
  |ats,bits,sm,[]=>sm&&good bits&&decide (ats≤1)
  |ats,bits,sm,r::t=>if qHZ r=true then sm&&good bits&&qUt (if r=64 then ats+1 else ats) 0 false t
      else decide (qKK r≠0∨48≤r∧r≤57)&&qUt ats (bits|||qKK r) true t
theorem qLA: ∀(l:List Nat) (ats:Nat) (cur:List Nat),
    qUt ats (qJR cur 0) (decide (cur≠ [])) l=(l.all okR&&(qSJ cur l).all (λp=>decide (p≠ [])&&good (qJR p 0))&&decide (ats+l.count 64≤1))
  | [],ats,cur=>by
    rw [qUt,qSJ,List.all_nil,Bool.true_and,zJ,List.all_nil,Bool.and_true,List.count_nil,za]
  |r::l,ats,cur=>by
    rw [qUt,qSJ]
    by_cases hs:qHZ r=true
    · rw [if_pos hs,if_pos hs]
      have:=qLA l (if r=64 then ats+1 else ats) []
      rw [show qJR [] 0=0 from rfl,show decide (([]:List Nat)≠ [])=false from rfl] at this
      rw [this,zJ,zJ,show okR r=true from by unfold okR;rw [hs,Bool.or_true]]
      have e:decide ((if r=64 then ats+1 else ats)+l.count 64≤1)=decide (ats+(r::l).count 64≤1):=by
        rw [List.count_cons]
        by_cases h:r=64
        · subst h;rw [if_pos rfl];simp only [beq_self_eq_true,if_true];exact decide_eq_decide.2 (by omega)
        · rw [if_neg h,if_neg (by rw [beq_iff_eq];exact h)];rfl
      rw [e,Bool.true_and]
      cases decide (cur≠ [])<;>cases good (qJR cur 0)<;>cases l.all okR<;>simp
    · rw [if_neg hs,if_neg hs]
      have:=qLA l ats (cur++ [r])
      rw [qUf,show qJR [r] (qJR cur 0)=qJR cur 0|||qKK r from rfl,show decide (cur++ [r]≠ [])=true from decide_eq_true (by simp)] at this
      rw [this,zJ,show okR r=decide (qKK r≠0∨48≤r∧r≤57) from by unfold okR;rw [Bool.eq_false_iff.2 hs,Bool.or_false]]
      have e:(r::l).count 64=l.count 64:=by
        rw [List.count_cons,if_neg,za]
        intro h
        rw [beq_iff_eq] at h;subst h;exact hs rfl
      rw [e,Bool.and_assoc,Bool.and_assoc,Bool.and_assoc]
theorem qRR{r:Nat}(h:Rn r):(enc r).count 64=if r=64 then 1 else 0:=by
  by_cases hr:r<128
  · rw [qCb hr,List.count_singleton]
    by_cases h4:r=64
    · subst h4;rfl
    · rw [if_neg h4,if_neg]
      rw [beq_iff_eq];intro e
      have:=congrArg UInt8.toNat e
      rw [b8 (by omega)] at this
      exact h4 this
  · rw [if_neg (by omega)]
    refine List.count_eq_zero.2 λhm=>?_
    have:=qL3 h (by omega) _ hm
    exact absurd this (by decide)
theorem qJY: ∀(l:List Nat),(∀r∈l,Rn r)→(unr l).count 64=l.count 64
 | [],_=>rfl
 |r::l,h=>by
  rw [qCP,List.count_append,qJY l (λx hx=>h x (.tail _ hx)),qRR (h r (.head _)),List.count_cons,Nat.add_comm]
  simp only [beq_iff_eq]
theorem qX6{l:List Nat}(h:l≠ []):unr l≠ []:=by
 obtain ⟨r,t,rfl⟩:=List.exists_cons_of_ne_nil h
 rw [qCP];simp [qGu]
theorem qR6{α:Type}{f g:α→Bool}: ∀{l:List α},(∀x∈l,f x=g x)→l.all f=l.all g
 | [],_=>rfl
 |x::l,h=>by rw [zJ,zJ,h x (.head _),qR6 (λy hy=>h y (.tail _ hy))]
theorem qPw{l:List Nat}(h: ∀r∈l,Rn r):right (unr l)=qUt 0 0 false l:=by
 have:=qLA l 0 []
 rw [show qJR [] 0=0 from rfl,show decide (([]:List Nat)≠ [])=false from rfl] at this
 rw [this]
 unfold right
 have e:=qPf l h []
 rw [show unr []= [] from rfl] at e
 rw [qWF h,e,qJY l h,jj,List.all_map]
 congr 2
 refine qR6 λp hp=>?_
 have hp2: ∀r∈p,Rn r:=λr hr=>by
  rcases qIN l [] p hp r hr with h'|h'
  · cases h'
  · exact h r h'
 show okP (unr p)=_
 unfold okP
 rw [qWF hp2]
 congr 1
 by_cases h0:p= []
 · subst h0;rfl
 · rw [decide_eq_true (qX6 h0),decide_eq_true h0]
theorem qOU{l:List Nat}(h: ∀r∈l,Rn r):normal (unr l)=if l.length≤64 then(if qUt 0 0 false l=true then(unr (l.map small),0) else([],5)) else([],2):=by
 unfold normal
 rw [if_pos (qX2 h),qWF h,qPw h]
theorem qGw{s:List UInt8}{p:Nat}(h:p<s.length):s.drop p≠ []:=λe=>by
 have:=congrArg List.length e
 rw [jI,jE] at this;omega
theorem qYw{s:List UInt8}{p:Nat}(h:p<s.length):Rn (dec s p).1:=by
  rw [qD4 (by omega)]
  by_cases ho:dec (s.drop p) 0=(65533,1)
  · rw [ho];exact⟨by decide,by decide⟩
  · obtain ⟨r,t,hr,_,hd⟩:=qKf (qGw h) ho
    rw [hd];exact hr
theorem qXN{s:List UInt8}{p:Nat}(h:p<s.length)(hn:(dec s p).1≠65533):(enc (dec s p).1).length=(dec s p).2:=by
 rw [qD4 (by omega)] at hn⊢
 obtain ⟨r,t,hr,_,hd⟩:=qKf (qGw h) (λho=>by rw [ho] at hn;exact hn rfl)
 rw [hd]
theorem qSu{s:List UInt8}{p:Nat}(h:p<s.length)(cur:List UInt8)(hs:qHZ (dec s p).1=true):spl cur (s.drop p)=cur::spl [] (s.drop (qKA s p)):=by
 have hd:=qD4 (s:=s) (pos:=p) (by omega)
 rw [hd] at hs
 obtain ⟨h1,c,t,e,hc,_⟩:=qSo (qGw h) hs
 rw [qDh h,hd,h1,←zt,e,qVt hc];rfl
theorem qHE{s:List UInt8}{p:Nat}(h:p<s.length)(cur:List UInt8)(hs:qHZ (dec s p).1=false):spl cur (s.drop p)=spl (cur++(s.take (p+(dec s p).2)).drop p) (s.drop (qKA s p)):=by
 have hd:=qD4 (s:=s) (pos:=p) (by omega)
 have e:(s.take (p+(dec s p).2)).drop p=(s.drop p).take (dec s p).2:=by rw [List.drop_take];congr 1;omega
 rw [e,qDh h,←zt]
 rw [hd] at hs⊢
 rw [←qGL _ (qSp (qGw h) hs),zZ]
theorem qTt(ds:List (List UInt8))(cur q:List UInt8){n:Nat}(h:n=ds.length):(ds++ [cur]).set n ((ds++ [cur]).getD n []++q)=ds++ [cur++q]:=by
 subst h
 rw [jB,ji (jK _),List.set_append_right _ _ (jK _),zH];rfl
theorem qTX: ∀b,b<8→(b&&&(b-1)=0↔good b=true):=by decide
theorem qTv(ds:List (List UInt8))(cur:List UInt8):(ds++ [cur]).getD ds.length []=cur:=by
 rw [jB,ji (jK _),zH];rfl
theorem qE2: ∀(t cur:List UInt8) (q:List UInt8),q∈spl cur t→q.length≤cur.length+t.length
  | [],cur,q,h=>by rw [spl,jR] at h;subst h;exact jK _
  |c::t,cur,q,h=>by
    rw [spl] at h
    rw [jD]
    split at h
    · rcases List.mem_cons.1 h with rfl|h
      · omega
      · have:=qE2 t [] q h;rw [jE] at this;omega
    · have:=qE2 t _ q h;rw [jA,jD,jE] at this;omega
theorem qVu(s:List UInt8)(k:Nat):((spl [] s).getD k []).length≤s.length:=by
  by_cases h:k<(spl [] s).length
  · have:=qE2 s [] ((spl [] s).getD k []) (by rw [jB,jC h];exact jX h)
    rw [jE] at this;omega
  · rw [jB,jg (by omega)];exact jG _
theorem qSk{l:List (List UInt8)}{f:List UInt8→Bool}{k:Nat}(h:k<l.length):(l.take (k+1)).all f=((l.take k).all f&&f (l.getD k [])):=by
 rw [List.take_add_one,jB,jC h,List.all_append];simp
theorem qNW{l:List (List UInt8)}{f:List UInt8→Bool}{k:Nat}(h:k<l.length)(hf:f (l.getD k [])=false):l.all f=false:=by
 rw [jB,jC h] at hf
 rw [List.all_eq_false];exact⟨l[k],jX h,by simpa using hf⟩
theorem qIr{r:Nat}(h:qHZ r=true):okR r=true:=by unfold okR;rw [h,Bool.or_true]
theorem qIq{r:Nat}(h:qKK r≠0∨48≤r∧r≤57):okR r=true:=by unfold okR;rw [decide_eq_true h,Bool.true_or]
theorem qU6{r:Nat}(h:qKK r=0)(h2: ¬(48≤r∧r≤57))(h3:qHZ r=false):okR r=false:=by unfold okR;rw [h3,decide_eq_false (by omega)];rfl
theorem qLM: ∀(t cur:List UInt8),(spl cur t).length≤t.length+1
 | [],cur=>by rw [spl];exact jK _
 |c::t,cur=>by
  rw [spl]
  split
  · have:=qLM t [];rw [jD,jD];omega
  · have:=qLM t (cur++ [c]);rw [jD];omega
def nx(s:List UInt8):Nat×Nat:=if s= []∨dec s 0=(65533,1) then(0,0) else dec s 0
theorem qYC{l:List Nat}(h:l.all (λr=>decide (r<55296))=true): ∀r∈l,Rn r:=λr hr=>by
 have:=List.all_eq_true.1 h r hr
 rw [decide_eq_true_eq] at this
 exact⟨by omega,by omega⟩
theorem qD3{s:List UInt8}{l:List Nat}{x:List UInt8}{e:Nat}(h:s=unr l)(hr:l.all (λr=>decide (r<55296))=true)(hx:(if l.length≤64 then(if qUt 0 0 false l=true then(unr (l.map small),0) else([],5)) else([],2))=(x,e)):normal s=(x,e):=by
 rw [h,qOU (qYC hr)];exact hx
end Go.Proofs.YtcgcjaflllmlpaaGreatDoor
