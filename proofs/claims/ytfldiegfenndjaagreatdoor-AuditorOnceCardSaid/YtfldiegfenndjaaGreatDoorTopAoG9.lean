/- A part of the proof. -/
import Derived.Test.YtfldiegfenndjaaGreatDoorTopAoG8
import Derived.Test.YtfldiegfenndjaaGreatDoorRows
import Derived.Test.YtfldiegfenndjaaGreatDoorTopAoG4
set_option linter.unusedSimpArgs false
set_option linter.unusedVariables false
namespace Go.Proofs.YtfldiegfenndjaaGreatDoor
open Go Go.Fw Go.Proofs.Tryz
set_option maxRecDepth 100000
set_option maxHeartbeats 1000000
abbrev qE1:= @isAgg221
abbrev qDF:= @isAgg246
abbrev b3_:= @isAgg3
abbrev qMa:= @isAgg30
abbrev qCZ:= @isAgg36
abbrev qCR:= @isAgg37
abbrev qE0:= @isAgg39
abbrev b4_:= @isAgg4
abbrev b5_:= @isAgg5
abbrev qGM:= @isAgg52
abbrev qKI:= @isAgg58
abbrev qOf:= @isAgg88
abbrev b9_:= @isAgg9
abbrev qGW:= @sizeOf133
abbrev qEh:= @sizeOf148
abbrev qFF:= @sizeOf155
abbrev qFe:= @sizeOf162
abbrev qBG:= @sizeOf221
abbrev qCB:= @sizeOf246
abbrev z3_:= @sizeOf3
abbrev qJV:= @sizeOf30
abbrev qEg:= @sizeOf303
abbrev qCG:= @sizeOf36
abbrev qCA:= @sizeOf37
abbrev qCj:= @sizeOf39
abbrev z4_:= @sizeOf4
abbrev z5_:= @sizeOf5
abbrev qE5:= @sizeOf50
abbrev qCi:= @sizeOf52
abbrev qMY:= @sizeOf54
abbrev qGV:= @sizeOf58
abbrev qLZ:= @sizeOf79
abbrev qHH:= @sizeOf88
abbrev z9_:= @sizeOf9
abbrev qHL:= @underlying133
abbrev qBu:= @underlying135
abbrev qLh:= @underlying137
abbrev qMr:= @underlying143
abbrev qEE:= @underlying145
abbrev qGa:= @underlying148
abbrev qGZ:= @underlying155
abbrev qLg:= @underlying162
abbrev qMq:= @underlying164
abbrev qJd:= @underlying166
abbrev qGY:= @underlying171
abbrev qMp:= @underlying184
abbrev qDJ:= @underlying186
abbrev qFi:= @underlying188
abbrev qB4:= @underlying216
abbrev qBH:= @underlying221
abbrev qBX:= @underlying223
abbrev qMo:= @underlying226
abbrev qHK:= @underlying229
abbrev qLf:= @underlying246
abbrev qFG:= @underlying248
abbrev qGX:= @underlying267
abbrev qIJ:= @underlying284
abbrev u3_:= @underlying3
abbrev qBW:= @underlying303
abbrev qII:= @underlying309
abbrev qTK:= @underlying33
abbrev qED:= @underlying36
abbrev qAh:= @underlying37
abbrev qEC:= @underlying39
abbrev qOr:= @underlying40
abbrev u5_:= @underlying5
abbrev qLe:= @underlying50
abbrev qCa:= @underlying52
abbrev qMZ:= @underlying54
abbrev qDI:= @underlying58
abbrev qRU:= @underlying67
abbrev qTS:= @underlying70
abbrev qKV:= @underlying73
abbrev qTR:= @underlying74
abbrev qRT:= @underlying77
abbrev qGS:= @underlying79
abbrev qTQ:= @underlying80
abbrev qTJ:= @underlying87
abbrev qBm:= @underlying88
abbrev qQf:= @underlying89
abbrev u9_:= @underlying9
abbrev qLd:= @underlying90
abbrev qTI:= @underlying92
abbrev qTP:= @underlying94
abbrev qTH:= @underlying97
abbrev qHw:= @zeroValue148
abbrev qKB:= @zeroValue188
abbrev qHv:= @zeroValue221
abbrev qKA:= @zeroValue303
abbrev qTL:= @zeroValue39
abbrev qLK:= @zeroValue50
abbrev qHu:= @zeroValue52
abbrev e9_:= @zeroValue9
theorem Tryz.wide:prog.follows .mixedOrders=true:=by kernel_rfl
theorem el3:qCv prog 3 [.int .i64 0] 8:=qCv.of (by kernel_rfl) rfl
theorem el5:qCv prog 5 [.int .u8 0] 1:=qCv.of (by kernel_rfl) rfl
theorem el9:qCv prog 9 [Str []] 16:=qCv.of (by kernel_rfl) rfl
theorem ent106:qAE prog 106:=qAE.of func106 rfl (by kernel_rfl)
theorem ent108:qAE prog 108:=qAE.of func108 rfl (by kernel_rfl)
theorem ent109:qAE prog 109:=qAE.of func109 rfl (by kernel_rfl)
theorem ent11:qAE prog 11:=qAE.of func11 rfl (by kernel_rfl)
theorem ent110:qAE prog 110:=qAE.of func110 rfl (by kernel_rfl)
theorem ent111:qAE prog 111:=qAE.of func111 rfl (by kernel_rfl)
theorem ent118:qAE prog 118:=qAE.of func118 rfl (by kernel_rfl)
theorem ent125:qAE prog 125:=qAE.of func125 rfl (by kernel_rfl)
theorem ent126:qAE prog 126:=qAE.of func126 rfl (by kernel_rfl)
theorem ent127:qAE prog 127:=qAE.of func127 rfl (by kernel_rfl)
theorem ent137:qAE prog 137:=qAE.of func137 rfl (by kernel_rfl)
theorem ent138:qAE prog 138:=qAE.of func138 rfl (by kernel_rfl)
theorem ent139:qAE prog 139:=qAE.of func139 rfl (by kernel_rfl)
theorem ent143:qAE prog 143:=qAE.of func143 rfl (by kernel_rfl)
theorem ent153:qAE prog 153:=qAE.of func153 rfl (by kernel_rfl)
theorem ent156:qAE prog 156:=qAE.of func156 rfl (by kernel_rfl)
theorem ent158:qAE prog 158:=qAE.of func158 rfl (by kernel_rfl)
theorem ent169:qAE prog 169:=qAE.of func169 rfl (by kernel_rfl)
theorem ent171:qAE prog 171:=qAE.of func171 rfl (by kernel_rfl)
theorem ent177:qAE prog 177:=qAE.of func177 rfl (by kernel_rfl)
theorem ent21:qAE prog 21:=qAE.of func21 rfl (by kernel_rfl)
theorem ent214:qAE prog 214:=qAE.of func214 rfl (by kernel_rfl)
theorem ent22:qAE prog 22:=qAE.of func22 rfl (by kernel_rfl)
theorem ent25:qAE prog 25:=qAE.of func25 rfl (by kernel_rfl)
theorem ent31:qAE prog 31:=qAE.of func31 rfl (by kernel_rfl)
theorem ent33:qAE prog 33:=qAE.of func33 rfl (by kernel_rfl)
theorem ent35:qAE prog 35:=qAE.of func35 rfl (by kernel_rfl)
theorem ent37:qAE prog 37:=qAE.of func37 rfl (by kernel_rfl)
theorem ent38:qAE prog 38:=qAE.of func38 rfl (by kernel_rfl)
theorem ent43:qAE prog 43:=qAE.of func43 rfl (by kernel_rfl)
theorem ent45:qAE prog 45:=qAE.of func45 rfl (by kernel_rfl)
theorem ent47:qAE prog 47:=qAE.of func47 rfl (by kernel_rfl)
theorem ent49:qAE prog 49:=qAE.of func49 rfl (by kernel_rfl)
theorem ent57:qAE prog 57:=qAE.of func57 rfl (by kernel_rfl)
theorem ent59:qAE prog 59:=qAE.of func59 rfl (by kernel_rfl)
theorem ent63:qAE prog 63:=qAE.of func63 rfl (by kernel_rfl)
theorem ent64:qAE prog 64:=qAE.of func64 rfl (by kernel_rfl)
theorem ent66:qAE prog 66:=qAE.of func66 rfl (by kernel_rfl)
theorem ent70:qAE prog 70:=qAE.of func70 rfl (by kernel_rfl)
theorem ent75:qAE prog 75:=qAE.of func75 rfl (by kernel_rfl)
theorem ent82:qAE prog 82:=qAE.of func82 rfl (by kernel_rfl)
theorem ent83:qAE prog 83:=qAE.of func83 rfl (by kernel_rfl)
theorem ent84:qAE prog 84:=qAE.of func84 rfl (by kernel_rfl)
theorem ent85:qAE prog 85:=qAE.of func85 rfl (by kernel_rfl)
theorem ent86:qAE prog 86:=qAE.of func86 rfl (by kernel_rfl)
theorem ent98:qAE prog 98:=qAE.of func98 rfl (by kernel_rfl)
theorem noEsc(v:Value)(w:World):(callFunc 188 #[v]).run prog w= .ok (.value v) w:=by kernel_rfl
theorem qD4:prog.info? 186=some t186:=by kernel_rfl
structure Bld (g off:Nat) (l:List Value) (mr:Hp) (bs:List UInt8) (A:Option Addr) (c:Nat) (p:Option Addr):Prop where
 a0:l[off]?=some (.pointer p)
 self:p=none∨p=some ⟨g,off,none⟩
 a1:l[off+1]?=some (.slice A bs.length c)
 row:qBc False mr 5 1 A bs.length c (qAR bs)
 cap:A=none∨0<c
theorem qHz(F:Hp)(g T off:Nat)(l:List Value)(hl:l[off]?=some (.pointer none))(hT:liesAt prog prog.depth T (l.length/prog.cellsOf T) off 186 1=true):
    Ct prog 155 [.pointer (some ⟨g,off,none⟩)] [blk g l T,F] (λ_:Unit=> .tuple #[]) (λ_=>True) (λ_=> [blk g (qA6 l off [.pointer (some ⟨g,off,none⟩)]) T,F]):=by
  have hoff:off<l.length:=(List.getElem?_eq_some_iff.1 hl).1
  refine Ct.walk func155 rfl ntmps155 rfl (λw0 hw0=>?_)
  refine J.g λK1 hK1=>J.b V<|J.f (qAC V V) V<|J.f (qAA V V qDJ V sizeOf184 V) V<|J.f (qAD 0 V V V isAgg184 hl) V<|J.f (qA1 qMp V V V) V<|J.c hK1<|J.E 0 6 ?_
  refine J.c7 ?_
  exact J.H<|J.j 2 V<|J.f (qJp V V qMp underlying294 qD4 (by decide) (m:=blk g l T) (by simp) (qAX _ _) (by simpa using hoff)) rfl<|J.q (qSH rfl rfl noEsc) rfl λg10 _=>J.f (qHe rfl rfl underlying294 qMp qD4 (m:=blk g l T) (by simp) (qAX _ _) (by simpa using hT)) rfl<|J.f (qAC rfl rfl) rfl<|J.f (qAA (j:=off) rfl rfl qDJ rfl sizeOf184 rfl) rfl<|J.b1 (qAV (i:=0) (vs:= [.pointer (some ⟨g,off,none⟩)]) rfl rfl rfl rfl rfl sizeOf184 rfl (by simp only [jD,jH];omega)) rfl rfl λ_ _=>J.a8<|J.e7 hw0 (λ_ _ h=>h) (qJX rfl) (qAj () rfl trivial [0,1] rfl (by decide))
theorem qGe(F:Hp)(g T off:Nat)(l:List Value)(hl:l[off]?=some (.pointer (some ⟨g,off,none⟩))):
    Ct prog 155 [.pointer (some ⟨g,off,none⟩)] [blk g l T,F] (λ_:Unit=> .tuple #[]) (λ_=>True) (λ_=> [blk g l T,F]):=by
  refine Ct.walk func155 rfl ntmps155 rfl (λw0 hw0=>?_)
  refine J.g λK1 hK1=>J.b V<|J.f (qAC V V) V<|J.f (qAA V V qDJ V sizeOf184 V) V<|J.f (qAD 0 V V V isAgg184 hl) V<|J.f (qA1 qMp V V V) V<|J.c hK1<|J.E 0 6 ?_
  refine J.a5 ?_
  refine J.g λK2 hK2=>J.b V<|J.f (qAC V V) V<|J.f (qAA V V qDJ V sizeOf184 V) V<|J.f (qAD 0 V V V isAgg184 hl) V<|J.b V<|J.f (qL5 qMp qD4 V V V) V<|J.c hK2<|J.A 19 ?_
  refine J.a5 ?_
  exact J.c0<|J.e7 hw0 (λ_ _ h=>h) (qJX V) (qAj () V trivial [0,1] V (by decide))
theorem qGp{l:List Value}{k:Nat}{v:Value}(h:l[k]?=some v):qA6 l k [v]=l:=by
 obtain ⟨hk,rfl⟩:=List.getElem?_eq_some_iff.1 h
 unfold qA6
 rw [jT,List.singleton_append,jP,←zw hk,jy]
theorem qCl{l:List Value}{k:Nat}{v:Value}(hk:k<l.length):(qA6 l k [v])[k]?=some v:=by
 unfold qA6
 rw [jT,jb (by simp;omega)]
 simp [jl (Nat.le_of_lt hk)]
theorem qBn{l:List Value}{k j:Nat}{v:Value}(hk:k<l.length)(hj:j≠k):(qA6 l k [v])[j]?=l[j]?:=by
  unfold qA6
  rw [jT,zi,zi]
  simp only [jE,jl (Nat.le_of_lt hk),jP]
  by_cases h1:j<k
  · rw [if_pos h1,js,if_pos h1]
  · rw [if_neg h1,if_neg (by omega),jt]
    congr 1;omega
theorem qDM{l:List Value}{k:Nat}{v:Value}(hk:k<l.length):(qA6 l k [v]).length=l.length:=by
 unfold qA6
 simp;omega
theorem qDY(F:Hp)(g T off:Nat)(l:List Value)(p:Option Addr)(hl:l[off]?=some (.pointer p))(hp:p=none∨p=some ⟨g,off,none⟩)(hT:liesAt prog prog.depth T (l.length/prog.cellsOf T) off 186 1=true):
    Ct prog 155 [.pointer (some ⟨g,off,none⟩)] [blk g l T,F] (λ_:Unit=> .tuple #[]) (λ_=>True) (λ_=> [blk g (qA6 l off [.pointer (some ⟨g,off,none⟩)]) T,F]):=by
  rcases hp with rfl|rfl
  · exact qHz F g T off l hl hT
  · rw [qGp hl];exact qGe F g T off l hl
theorem qSx:qAE prog 155:=qAE.of func155 rfl (by kernel_rfl)
def Upd(off:Nat)(l l':List Value):Prop:=l'.length=l.length∧ ∀j,j≠off→j≠off+1→l'[j]?=l[j]?
theorem Upd.refl(off:Nat)(l:List Value):Upd off l l:=⟨rfl,λ_ _ _=>rfl⟩
theorem Upd.trans{off:Nat}{a b c:List Value}(h:Upd off a b)(h':Upd off b c):Upd off a c:=⟨h'.1.trans h.1,λj h1 h2=>(h'.2 j h1 h2).trans (h.2 j h1 h2)⟩
theorem qH4{g off:Nat}{l:List Value}{mr mr':Hp}{bs bs':List UInt8}{A A':Option Addr}{c c':Nat}{p:Option Addr}(hb:Bld g off l mr bs A c p)(hr:qBc False mr' 5 1 A' bs'.length c' (qAR bs'))(hc:A'=none∨0<c'):
    Bld g off (qA6 (qA6 l off [.pointer (some ⟨g,off,none⟩)]) (off+1) [.slice A' bs'.length c']) mr' bs' A' c' (some ⟨g,off,none⟩)∧Upd off l (qA6 (qA6 l off [.pointer (some ⟨g,off,none⟩)]) (off+1) [.slice A' bs'.length c']):=by
  have h1:off+1<l.length:=(List.getElem?_eq_some_iff.1 hb.a1).1
  have h0:off<l.length:=by omega
  have hl1:=qDM (v:=Value.pointer (some ⟨g,off,none⟩)) h0
  have h1':off+1<(qA6 l off [.pointer (some ⟨g,off,none⟩)]).length:=by omega
  refine⟨⟨?_,.inr rfl,?_,hr,hc⟩,by rw [qDM h1',hl1],λj hj hj'=>?_⟩
  · rw [qBn h1' (by omega),qCl h0]
  · exact qCl h1'
  · rw [qBn h1' hj',qBn h0 hj]
theorem qRv{m:Hp}{e:TypeId}{A:Option Addr}{n c:Nat}{xs:List (List Value)}(h:qBc False m e 1 A n c xs)(hn:0<n):A=none∨0<c:= .inr (jx hn h.2.2.1)
theorem qIE(F mr:Hp)(g T off:Nat)(l:List Value)(bs:List UInt8)(A:Option Addr)(c:Nat)(p:Option Addr)(hb:Bld g off l mr bs A c p)(hT:liesAt prog prog.depth T (l.length/prog.cellsOf T) off 186 1=true)(b:UInt8)(hlen:bs.length<70368744177664):
    Ct prog 139 [.pointer (some ⟨g,off,none⟩),B8 b] [blk g l T,mr,F] (λ_:List Value×Hp=> .nilIface) (λx=> ∃A c,Bld g off x.1 x.2 (bs++ [b]) A c (some ⟨g,off,none⟩)∧Upd off l x.1) (λx=> [blk g x.1 T,x.2,F]):=by
  have hoff:off+1<l.length:=(List.getElem?_eq_some_iff.1 hb.a1).1
  have hoff0:off<l.length:=by omega
  refine Ct.walk func139 rfl ntmps139 rfl (λw0 hw0=>?_)
  refine J.g λK1 hK1=>J.b V<|J.c hK1<|J.E 0 1 ?_
  refine J.g λK2 hK2=>J.b V<|J.q (qAB V V qSx (Ct.useA [blk g l T] [mr,F] (A':=λ_:Unit=> [blk g (qA6 l off [.pointer (some ⟨g,off,none⟩)]) T]) (new:=λ_=> []) (λF' _=>qDY F' g T off l p hb.a0 hb.self hT))) V λg6 _=>J.c hK2<|J.E 0 1 ?_
  refine J.g λK3 hK3=>J.j 2 V<|J.f (qAC V V) V<|J.f (qAA (j:=off+1) V V qDJ V qHH V) V<|J.f (qAD 0 V V V qOf ((qBn hoff0 (by omega)).trans hb.a1)) V<|J.b V<|J.q (qAJ (l:= [.tmp 12]) (xs:= [[B8 b]]) V V V V qBm el5 V (by decide) (by decide) (by simp)) rfl λg13 _=>J.q (qAa (i:=1) (m2:=blk g13 [B8 b] 5) rfl rfl rfl qBm qBm el5 rfl hb.row (by simp) (qAs (q:=True) (xs:= [[B8 b]]) rfl (by simp)).sl rfl (by omega) (by omega)) rfl ?_
  rintro⟨A14,c14,m14⟩ h14
  try dsimp only at h14
  have hbp:=qH4 (bs':=bs++ [b]) (A':=A14) (c':=c14) (mr':=m14) hb (by simpa [qAR] using h14) (qRv h14 (by omega))
  simp only [jA,jP] at hbp
  refine J.f (qAC V V) V<|J.f (qAA V V qDJ V qHH V) V<|J.b1 (qAV (i:=0) V V V V V qHH V (by rw [qDM hoff0];exact hoff)) rfl rfl λ_ _=>J.c hK3<|J.d0 [] trivial<|J.g λK4 hK4=>J.b rfl<|J.c hK4<|J.A 4 ?_
  exact J.D<|J.Z hw0 V (_,m14) V ⟨A14,c14,hbp⟩ [0,1,2] V (by decide)
theorem qBD(F mr:Hp)(g T off:Nat)(l:List Value)(bs:List UInt8)(A:Option Addr)(c:Nat)(p:Option Addr)(hb:Bld g off l mr bs A c p)(hT:liesAt prog prog.depth T (l.length/prog.cellsOf T) off 186 1=true)(s:List UInt8)(hlen:bs.length+s.length<70368744177664):
    Ct prog 109 [.pointer (some ⟨g,off,none⟩),Str s] [blk g l T,mr,F] (λ_:List Value×Hp=> .tuple #[I s.length,.nilIface]) (λx=> ∃A c,Bld g off x.1 x.2 (bs++s) A c (some ⟨g,off,none⟩)∧Upd off l x.1) (λx=> [blk g x.1 T,x.2,F]):=by
  have hoff:off+1<l.length:=(List.getElem?_eq_some_iff.1 hb.a1).1
  have hoff0:off<l.length:=by omega
  refine Ct.walk func109 rfl ntmps109 rfl (λw0 hw0=>?_)
  refine J.g λK1 hK1=>J.j 2 V<|J.c hK1<|J.E 0 1 ?_
  refine J.g λK2 hK2=>J.b V<|J.q (qAB V V qSx (Ct.useA [blk g l T] [mr,F] (A':=λ_:Unit=> [blk g (qA6 l off [.pointer (some ⟨g,off,none⟩)]) T]) (new:=λ_=> []) (λF' _=>qDY F' g T off l p hb.a0 hb.self hT))) V λg7 _=>J.c hK2<|J.E 0 1 ?_
  refine J.g λK3 hK3=>J.j 2 V<|J.f (qAC V V) V<|J.f (qAA (j:=off+1) V V qDJ V qHH V) V<|J.f (qAD 0 V V V qOf ((qBn hoff0 (by omega)).trans hb.a1)) V<|J.b V<|J.q (qL8 (i:=1) V V V qBm u9_ el5 V hb.row (by omega) (by omega)) V ?_
  rintro⟨A14,c14,m14⟩ h14
  try dsimp only at h14
  obtain ⟨h14,hcap⟩:=h14
  have hbp:=qH4 (bs':=bs++s) (A':=A14) (c':=c14) (mr':=m14) hb (by simpa [qAR] using h14) (hcap hb.cap)
  simp only [jA] at hbp
  refine J.f (qAC V V) V<|J.f (qAA V V qDJ V qHH V) V<|J.b1 (qAV (i:=0) V V V V V qHH V (by rw [qDM hoff0];exact hoff)) rfl rfl λ_ _=>J.c hK3<|J.A 1 ?_
  refine J.g λK4 hK4=>J.b V<|J.f (qAg u9_ V V) V<|J.j 2 V<|J.c hK4<|J.E 4 5 ?_
  exact J.D<|J.b4 hw0 (λ_ _ h=>h) (qDe V V V) (qAj (_,m14) V ⟨A14,c14,hbp⟩ [0,1,2] V (by decide))
theorem qDj(F mr:Hp)(g T off:Nat)(l:List Value)(bs:List UInt8)(A:Option Addr)(c:Nat)(p:Option Addr)(hb:Bld g off l mr bs A c p)(hlen:bs.length<70368744177664):
    Ct prog 111 [.pointer (some ⟨g,off,none⟩)] [blk g l T,mr,F] (λ_:Hp=>Str bs) (λm=>Bld g off l m bs A c p) (λm=> [blk g l T,m,F]):=by
  refine Ct.walk func111 rfl ntmps111 rfl (λw0 hw0=>?_)
  refine J.g λK1 hK1=>J.b V<|J.c hK1<|J.A 0 ?_
  refine J.k λK2 hK2=>J.b7 [blk g l T,F] [] (.y 0 (.y 1 (.y 2 (.y 3 (.y 4 (.y 5 (.y 6 (.y 7 (.y 8 (.y 9 (.e 10 (.y 11 .nil)))))))))))) Tryz.wide (by decide+kernel) (by simp) ?_
  refine J.L ?_
  refine J.p V (qAC V V) V V<|J.p V (qAA V V qDJ V qHH V) V V<|J.p V (qAD 0 V V V qOf hb.a1) V V<|J.p V (qIh V V hb.cap) V V<|J.L ?_
  refine J.p V (qAC V V) V V<|J.p V (qAA V V qDJ V qHH V) V V<|J.p V (qAD 0 V V V qOf hb.a1) V V<|J.p V (qAY qBm V V) V V<|J.b2 V (qFx (i:=1) V V V underlying265 V V hb.row (by omega)) V (by simp) ?_
  rintro m13 h13
  refine J.c3 ?_
  refine J.b3<|J.u (J.M hK2 ?_)
  refine J.A 2 ?_
  exact J.D<|J.Z hw0 V m13 V ⟨hb.a0,hb.self,hb.a1,h13,hb.cap⟩ [0,1,2] V (by decide)
theorem mnz(v:Value)(w:World):(callFunc 189 #[v]).run prog w=(do let x←Extern.BytealgMakeNoZero.makeNoZero #[3] #[88] #[v];pure (.value x):Sem Next).run prog w:=by kernel_rfl
theorem qQP(F:Hp)(g T off:Nat)(l:List Value)(hl:l[off+1]?=some (.slice none 0 0))(n:Nat)(hn:n≤70368744177664):
    Ct prog 156 [.pointer (some ⟨g,off,none⟩),I n] [blk g l T,F] (λ_:Nat×Nat×List Value=> .tuple #[]) (λx=>n≤x.2.1∧x.2.2.length=x.2.1) (λx=> [blk g (qA6 l (off+1) [.slice (some ⟨x.1,0,none⟩) 0 x.2.1]) T,F,blk x.1 x.2.2 5]):=by
  have hoff:off+1<l.length:=(List.getElem?_eq_some_iff.1 hl).1
  refine Ct.walk func156 rfl ntmps156 rfl (λw0 hw0=>?_)
  refine J.k λK1 hK1=>J.b7 [blk g l T,F] [] (.y 0 (.y 1 (.y 2 (.y 3 (.y 4 (.y 5 (.y 6 (.y 7 (.y 9 (.y 10 (.y 11 (.y 12 (.y 13 (.e 8 (.y 14 (.y 15 .nil)))))))))))))))) Tryz.wide (by decide+kernel) (by simp) ?_
  refine J.L ?_
  refine J.p V (qAC V V) V V<|J.p V (qAA V V qDJ V qHH V) V V<|J.p V (qAD 0 V V V qOf hl) V V<|J.p V (qQq qBm V V) V V<|J.p V (qB6 V V V (by omega)) V V<|J.L ?_
  refine J.p V ((qAQ V V V (by omega)).as (v':=I n) (by simp)) rfl rfl<|J.L ?_
  refine J.p V (qAC V V) V V<|J.p V (qAA V V qDJ V qHH V) V V<|J.p V (qAD 0 V V V qOf hl) V V<|J.p V (qAY qBm V V) V V<|J.b2 V (qTp V V mnz qBm (by omega)) V (by simp) ?_
  rintro⟨g13,c13,l13⟩ h13
  try dsimp only at h13
  refine J.p V (qDg V V qBm z5_ V (by omega)) V V<|J.c3 ?_
  refine J.b3<|J.u (J.M hK1 ?_)
  refine J.E 0 4 ?_
  refine J.g λK2 hK2=>J.j 2 V<|J.f (qAC V V) V<|J.f (qAA V V qDJ V qHH V) V<|J.f (qAD 0 V V V qOf hl) V<|J.q (qPf V V V qBm el5) V λg25 _=>J.c hK2<|J.E 0 4 ?_
  exact J.H<|J.j 2 V<|J.f (qAC V V) V<|J.f (qAA V V qDJ V qHH V) V<|J.b1 (qAV (i:=0) V V V V V qHH V (by exact hoff)) V V λ_ _=>J.a8<|J.e7 hw0 (λ_ _ h=>h) (qJX V) (qAj (g13,c13,l13) V h13 [0,1,2] V (by decide))
theorem qLU(F:Hp)(g T off:Nat)(l:List Value)(p:Option Addr)(hb:Bld g off l (λ_=>none) [] none 0 p)(hT:liesAt prog prog.depth T (l.length/prog.cellsOf T) off 186 1=true)(n:Nat)(hn:n≤70368744177664):
    Ct prog 108 [.pointer (some ⟨g,off,none⟩),I n] [blk g l T,λ_=>none,F] (λ_:List Value×Hp=> .tuple #[]) (λx=> ∃A c,Bld g off x.1 x.2 ([]) A c (some ⟨g,off,none⟩)∧Upd off l x.1) (λx=> [blk g x.1 T,x.2,F]):=by
  have hoff:off+1<l.length:=(List.getElem?_eq_some_iff.1 hb.a1).1
  have hoff0:off<l.length:=by omega
  refine Ct.walk func108 rfl ntmps108 rfl (λw0 hw0=>?_)
  refine J.g λK1 hK1=>J.b V<|J.q (qAB V V qSx (Ct.useA [blk g l T] [(λ_=>none),F] (A':=λ_:Unit=> [blk g (qA6 l off [.pointer (some ⟨g,off,none⟩)]) T]) (new:=λ_=> []) (λF' _=>qDY F' g T off l p hb.a0 hb.self hT))) V λg5 _=>J.c hK1<|J.E 0 1 ?_
  refine J.k λK2 hK2=>J.g λK3 hK3=>J.b V<|J.f (qAT V V V) V<|J.c hK3<|J.G 0 1 7 ?_
  refine J.f7 V ((by simp)) ?_
  refine J.W hK2<|J.E 0 1 ?_
  refine J.k λK4 hK4=>J.b7 [blk g (qA6 l off [.pointer (some ⟨g,off,none⟩)]) T,(λ_=>none),F] [] (.y 0 (.y 1 (.y 2 (.y 3 (.y 4 (.y 5 (.y 6 (.y 7 (.y 8 (.y 9 (.y 10 (.y 11 (.y 12 .nil))))))))))))) Tryz.wide (by decide+kernel) (by simp) ?_
  refine J.L ?_
  refine J.p V (qAC V V) V V<|J.p V (qAA (j:=off+1) V V qDJ V qHH V) V V<|J.p V (qAD 0 V V V qOf ((qBn hoff0 (by omega)).trans hb.a1)) V V<|J.p V (qQq qBm V V) V V<|J.L ?_
  refine J.p V (qAC V V) V V<|J.p V (qAA (j:=off+1) V V qDJ V qHH V) V V<|J.p V (qAD 0 V V V qOf ((qBn hoff0 (by omega)).trans hb.a1)) V V<|J.p V (qAY qBm V V) V V<|J.p V (qAn (a:=0) (b:=0) V V V (by omega)) V V<|J.L ?_
  refine J.p V (qAT V V V) V V<|J.b3<|J.u (J.M hK4 ?_)
  refine J.G 0 1 21 ?_
  refine J.a4 V (λh21=>?_) (λh21=>?_)
  ·
    refine J.H<|J.j 2 V<|J.q (qAB V V ent156 (Ct.useA [blk g (qA6 l off [.pointer (some ⟨g,off,none⟩)]) T] [λ_=>none,F] (A':=λx:Nat×Nat×List Value=> [blk g (qA6 (qA6 l off [.pointer (some ⟨g,off,none⟩)]) (off+1) [.slice (some ⟨x.1,0,none⟩) 0 x.2.1]) T]) (new:=λx=> [blk x.1 x.2.2 5]) (λF' _=>qQP F' g T off (qA6 l off [.pointer (some ⟨g,off,none⟩)]) ((qBn hoff0 (by omega)).trans hb.a1) n hn))) V ?_
    rintro⟨g24,c24,l24⟩ h24
    try dsimp only at h24
    refine J.a8 ?_
    have hbp:=qH4 (bs':= []) (A':=some ⟨g24,0,none⟩) (c':=c24) (mr':=blk g24 l24 5) hb (qFp (xs:= []) (rest:=l24) (lo:=0) (hi:=0) rfl rfl (by simp) (by simpa using h24.2) (jF _) (.inl rfl)) (.inr (by omega))
    simp only [jH] at hbp
    exact J.e7 hw0 (λ_ _ h=>h) (qJX V) (qAj (_,blk g24 l24 5) V ⟨some ⟨g24,0,none⟩,c24,hbp⟩ [0,3,2] V (by decide))
  refine J.c0 ?_
  have hbp:=qH4 (bs':= []) (A':=none) (c':=0) (mr':=λ_=>none) hb qBc.nil (.inl rfl)
  have e1:=qGp ((qBn (v:= .pointer (some ⟨g,off,none⟩)) hoff0 (by omega)).trans hb.a1)
  simp only [jH] at e1 hbp
  rw [e1] at hbp
  exact J.e7 hw0 (λ_ _ h=>h) (qJX V) (qAj (_,λ_=>none) V ⟨none,0,hbp⟩ [0,1,2] V (by decide))
def qCM(sep:List UInt8):List (List UInt8)→List UInt8
 | []=> []
 |a::r=>a++(r.map λx=>sep++x).flatten
theorem qIu: ∀ls,qCM [] ls=ls.flatten
 | []=>rfl
 |a::r=>by simp [qCM]
def qDL(ls:List (List UInt8)):Nat:=(ls.map List.length).sum
theorem qFm(ls:List (List UInt8))(k:Nat){s:List UInt8}(h:ls[k]?=some s):qDL (ls.take (k+1))=qDL (ls.take k)+s.length:=by
 obtain ⟨hk,rfl⟩:=List.getElem?_eq_some_iff.1 h
 unfold qDL
 rw [jO hk,jM,List.sum_append];rfl
theorem qEG(ls:List (List UInt8))(k:Nat):qDL (ls.take k)≤qDL ls:=by
 unfold qDL
 conv=>rhs;rw [←jy k ls,jM,List.sum_append]
 omega
theorem qDW(sep:List UInt8): ∀(ls:List (List UInt8)),(qCM sep ls).length=qDL ls+sep.length*(ls.length-1)
 | []=>by simp [qCM,qDL]
 |a::r=>by
  have h: ∀r:List (List UInt8),(r.map λx=>sep++x).flatten.length=(r.map List.length).sum+sep.length*r.length:=by
   intro r
   induction r with
   |nil=>rfl
   |cons x r ih=>
    simp only [jR,jW,jA,List.sum_cons,jD,Nat.mul_add,ih]
    omega
  simp [qCM,qDL,h];omega
theorem qG7(sep:List UInt8)(ls:List (List UInt8))(k:Nat){s:List UInt8}(h:ls[k+1]?=some s):qCM sep (ls.take (k+2))=qCM sep (ls.take (k+1))++sep++s:=by
 cases ls with
 |nil=>simp at h
 |cons a r=>
  simp only [z6] at h
  obtain ⟨hk,rfl⟩:=List.getElem?_eq_some_iff.1 h
  simp only [List.take_succ_cons,qCM]
  rw [jO hk,jM,zc]
  simp only [jR,zT,jW,jw,jS,jT]
theorem qG8(sep:List UInt8)(ls:List (List UInt8))(k:Nat):(qCM sep (ls.take (k+1))).length≤(qCM sep ls).length:=by
 rw [qDW,qDW]
 have h1:=qEG ls (k+1)
 have h2:(ls.take (k+1)).length≤ls.length:=by simp;omega
 have h3:sep.length*((ls.take (k+1)).length-1)≤sep.length*(ls.length-1):=Nat.mul_le_mul_left _ (by omega)
 omega
theorem qJ0:liesAt prog prog.depth 186 (2/prog.cellsOf 186) 0 186 1=true:=by kernel_rfl
theorem qRm(a b M:Int)(hb:0<b)(h:a*b+b≤M):a+1≤M/b:=by
 rw [Int.le_ediv_iff_mul_le hb,Int.add_mul];omega
theorem qP3(F:Hp)(A:Option Addr)(n c:Nat)(sep:List UInt8)(hl:Sl F 1 A n c (qAH [])):
    Ct prog 140 [.slice A n c,Str sep] [F] (λ_:Unit=>Str (qCM sep [])) (λ_=>True) (λ_=> [F]):=by
  have hn:n=0:=hl.1.symm
  subst hn
  refine Ct.walk func140 rfl ntmps140 rfl (λw0 hw0=>?_)
  refine J.g λK1 hK1=>J.b V<|J.c hK1<|J.E 0 1 ?_
  refine J.k λK2 hK2=>J.g λK3 hK3=>J.b V<|J.f (qAY qAh V V) V<|J.c hK3<|J.G 0 1 12 ?_
  refine J.a1<|J.g λK4 hK4=>J.f (qAS V V V) V<|J.b V<|J.c hK4<|J.O 0 1 12 13 ?_
  refine J.c7 ?_
  refine J.g λK5 hK5=>J.b V<|J.c hK5<|J.A 4 ?_
  exact J.D<|J.b6<|J.a7<|J.Z hw0 V () V trivial [0] V (by decide)
theorem qP2(F:Hp)(A:Option Addr)(n c:Nat)(s:List UInt8)(sep:List UInt8)(hl:Sl F 1 A n c (qAH [s])):
    Ct prog 140 [.slice A n c,Str sep] [F] (λ_:Unit=>Str (qCM sep [s])) (λ_=>True) (λ_=> [F]):=by
  have hn:n=1:=hl.1.symm
  subst hn
  refine Ct.walk func140 rfl ntmps140 rfl (λw0 hw0=>?_)
  refine J.g λK1 hK1=>J.b V<|J.c hK1<|J.E 0 1 ?_
  refine J.k λK2 hK2=>J.g λK3 hK3=>J.b V<|J.f (qAY qAh V V) V<|J.c hK3<|J.G 0 1 12 ?_
  refine J.a1<|J.g λK4 hK4=>J.f (qAS V V V) V<|J.b V<|J.c hK4<|J.O 0 1 12 13 ?_
  refine J.f7 V (V) ?_
  refine J.g λK5 hK5=>J.f (qAS V V V) V<|J.b V<|J.c hK5<|J.G 0 1 15 ?_
  refine J.h4 V (V) ?_
  refine J.g λK6 hK6=>J.b V<|J.f (qAF V V V qAh z9_ hl (by decide)) V<|J.f (qAL V V b9_ (by simp) (hl.elem (qAZ (k:=0) rfl))) rfl<|J.b rfl<|J.c hK6<|J.A 4 ?_
  exact J.D<|J.b6<|J.a7<|J.Z hw0 V () (by simp [qCM]) trivial [0] rfl (by decide)
theorem qOA(F:Hp)(A:Option Addr)(n c:Nat)(ls:List (List UInt8))(sep:List UInt8)(hl:Sl F 1 A n c (qAH ls))(h2:2≤n)(htot:(qCM sep ls).length≤35184372088832)(hn47:n≤70368744177664):
    Ct prog 140 [.slice A n c,Str sep] [F] (λ_:Unit=>Str (qCM sep ls)) (λ_=>True) (λ_=> [F]):=by
  have hlen:ls.length=n:=by have:=hl.1;simpa [qAH] using this
  have hjl:=qDW sep ls
  rw [hlen] at hjl
  have hq:(sep.length:Int)*((n:Int)-1)=((sep.length*(n-1):Nat):Int):=by rw [yA];congr 1;omega
  have hB0: ¬0<(sep.length:Int)→sep.length*(n-1)=0:=λh=>by rw [show sep.length=0 by omega,zg]
  have hsm:sep.length≤35184372088832:=by
    have:sep.length*1≤sep.length*(n-1):=Nat.mul_le_mul_left _ (by omega)
    omega
  have hdiv:(sep.length:Int)+1≤9223372036854775807/((n:Int)-1):=qRm _ _ _ (by omega) (by rw [hq];omega)
  have hnc:=hl.2.1
  obtain ⟨B,hB⟩: ∃B,sep.length*(n-1)=B:=⟨_,rfl⟩
  rw [hB] at hjl hq hB0
  generalize hD:(9223372036854775807:Int)/((n:Int)-1)=D at hdiv
  have H2:(0:Int)≤9223372036854775807∧0<(n:Int)-1∧(9223372036854775807:Int)≤9223372036854775807:=by omega
  refine Ct.walk func140 rfl ntmps140 rfl (λw0 hw0=>?_)
  refine J.g λK1 hK1=>J.b V<|J.c hK1<|J.E 0 1 ?_
  refine J.k λK2 hK2=>J.g λK3 hK3=>J.b V<|J.f (qAY qAh V V) V<|J.c hK3<|J.G 0 1 12 ?_
  refine J.a1<|J.g λK4 hK4=>J.f (qAS V V V) V<|J.b V<|J.c hK4<|J.O 0 1 12 13 ?_
  refine J.f7 V ((by simp;omega)) ?_
  refine J.g λK5 hK5=>J.f (qAS V V V) V<|J.b V<|J.c hK5<|J.G 0 1 15 ?_
  refine J.f7 V ((by simp;omega)) ?_
  refine J.c0<|J.b0<|J.u (J.M hK2 ?_)
  refine J.E 0 1 ?_
  refine J.g λK6 hK6=>J.b V<|J.c hK6<|J.G 0 1 5 ?_
  refine J.d9 (λ_:Unit=> [(0,.slice A n c),(1,Str sep),(5,I (B:Int))]) (λ_=> [F]) (λ_=>True) (λK7 hK7=>?_) ?_
  ·
    refine J.g λK8 hK8=>J.b V<|J.f (qAg u9_ V V) V<|J.f (qA5 V V V) V<|J.c hK8<|J.O 0 1 5 22 ?_
    refine J.a4 V (λh22=>?_) (λh22=>?_)
    ·
      refine J.k λK9 hK9=>J.g λK10 hK10=>J.b V<|J.f (qAg u9_ V V) V<|J.b V<|J.f (qAY qAh V V) V<|J.f (qAn V V V (by omega)) V<|J.f ((qGv V V V H2).as (congrArg I hD)) V<|J.f (qA9 V V V) V<|J.c hK10<|J.O 0 1 5 29 ?_
      refine J.f7 V ((by simp;omega)) ?_
      refine J.W hK9<|J.G 0 1 5 ?_
      exact J.H<|J.j 2 V<|J.f (qAg u9_ V V) V<|J.b V<|J.f (qAY qAh V V) V<|J.f (qAn V V V (by omega)) V<|J.f ((qB6 V V V (by rw [hq];omega)).as (v':=I (B:Int)) (by rw [hq])) rfl<|J.f ((qAQ rfl rfl rfl (by omega)).as (v':=I (B:Int)) (by simp)) rfl<|J.b rfl<|J.a8<|J.u<|J.a9 () hK7 trivial ⟨rfl,rfl,rfl,trivial⟩ (λ_ h=>h)
    exact J.c0<|J.u<|J.a9 () hK7 trivial ⟨V,V,by rw [hB0 h22];rfl,trivial⟩ (λ_ h=>h)
  rintro _ _
  refine J.k λK11 hK11=>J.g λK12 hK12=>J.b V<|J.f (qAY qAh V V) V<|J.b V<|J.c hK12<|J.b5 0 1 5 39 40 41 ?_
  refine J.a1<|J.c1 (λk:Nat=> [(0,.slice A n c),(1,Str sep),(5,I ((B+qDL (ls.take k):Nat):Int)),(39,.slice A n c),(40,I n),(41,I k)]) (λ_=> [F]) (λk=>k≤n) (λk=>n-k) 0 (jF _) ⟨V,V,V,V,V,V,trivial⟩ (λ_ h=>h) ?_
  intro k hk I1 hI1
  refine J.g λK13 hK13=>J.f (qAT V V V) V<|J.c hK13<|J.c5 0 1 5 39 40 41 42 ?_
  refine J.k λK14 hK14=>J.a4 V (λh42=>?_) (λh42=>?_)
  ·
    refine J.W hK14<|J.b5 0 1 5 39 40 41 ?_
    refine J.k λK15 hK15=>J.a1<|J.k λK16 hK16=>?_
    have hkn:k<n:=by omega
    obtain ⟨s,hs⟩: ∃s,ls[k]?=some s:=⟨_,jC (by omega)⟩
    have hst:=qFm ls k hs
    have hst2:=qEG ls (k+1)
    refine J.H<|J.f (qAF V V V qAh z9_ hl hkn) V<|J.f (qAL V V b9_ (by simp) (hl.elem (qAZ hs))) rfl<|J.b rfl<|J.c hK16<|J.c5 0 1 5 7 39 40 41 ?_
    refine J.k λK17 hK17=>J.g λK18 hK18=>J.b V<|J.f (qAg u9_ V V) V<|J.b V<|J.f (qAn V V V (by omega)) V<|J.f (qA5 V V V) V<|J.c hK18<|J.d6 0 1 5 7 39 40 41 49 ?_
    refine J.f7 V ((by simp;omega)) ?_
    refine J.W hK17<|J.c5 0 1 5 7 39 40 41 ?_
    refine J.H<|J.j 2 V<|J.f (qAg u9_ V V) V<|J.f (qAQ V V V (by omega)) V<|J.b V<|J.a8<|J.b0<|J.u (J.M hK15 ?_)
    refine J.b5 0 1 5 39 40 41 ?_
    exact J.H<|J.f (qAQ V V V (by omega)) V<|J.b V<|J.a8<|J.u<|J.a9 (k+1) (λx (hx:x≤n∧n-x<n-k)=>hI1 x hx.1 hx.2) ⟨by omega,by omega⟩ ⟨V,V,by rw [hst];exact congrArg (λz=>some (I z)) (by omega),rfl,rfl,rfl,trivial⟩ (λ_ h=>h)
  refine J.b8<|J.a6<|J.a6<|J.b9 ?_
  refine J.u (J.M hK11 ?_)
  refine J.G 0 1 5 ?_
  refine J.g λK19 hK19=>J.q (qAO V zeroValue186 V) V λg8 _=>J.d4 [1,2,0] [blk g8 [.pointer none,.slice none 0 0] 186,λ_=>none,F] V (by decide)<|J.c hK19<|J.O 0 1 5 8 ?_
  refine J.k λK20 hK20=>?_
  have hst3:=qEG ls k
  refine J.H<|J.b V<|J.q (qAB V V ent108 (qLU F g8 186 0 [.pointer none,.slice none 0 0] none ⟨V,.inl V,V,qBc.nil,.inl V⟩ qJ0 _ (by omega))) V ?_
  rintro⟨l57,m57⟩ ⟨A57,c57,hb57,hu57⟩
  dsimp only at hb57 hu57
  obtain ⟨s0,hs0⟩: ∃s0,ls[0]?=some s0:=⟨_,jC (by omega)⟩
  have hs0l:s0.length≤qDL ls:=by have h1:=qFm ls 0 hs0;have h2:=qEG ls 1;simp only [jn] at h1;omega
  refine J.c hK20<|J.G 0 1 8 ?_
  refine J.g λK21 hK21=>J.b V<|J.f (qAF (i:=0) V V V qAh z9_ hl (by omega)) V<|J.f (qAL V V b9_ (by simp) (hl.elem (qAZ hs0))) rfl<|J.q (qAB rfl rfl ent109 (qBD F m57 g8 186 0 l57 [] A57 c57 _ hb57 (by rw [hu57.1];exact qJ0) s0 (by simp;omega))) rfl ?_
  rintro⟨l61,m61⟩ ⟨A61,c61,hb61,hu61⟩
  dsimp only at hb61 hu61
  have hb61:Bld g8 0 l61 m61 (qCM sep (ls.take 1)) A61 c61 (some ⟨g8,0,none⟩):=by
    have e:qCM sep (ls.take 1)= []++s0:=by cases ls with
      |nil=>simp at hs0
      |cons a r=>simp at hs0;subst hs0;simp [qCM]
    rw [e];exact hb61
  refine J.c hK21<|J.G 0 1 8 ?_
  refine J.k λK22 hK22=>J.g λK23 hK23=>J.b V<|J.f (qC4 (l:=1) (h:=n) V V qAh z9_ V V (by omega)) V<|J.f (qAY qAh V V) V<|J.b V<|J.c hK23<|J.a0 1 8 63 64 65 ?_
  refine J.a1<|J.c1 (X:=Nat×List Value×Hp×Option Addr×Nat) (λx=> [(1,Str sep),(8,Ptr g8),(63,_),(64,I (n-1:Nat)),(65,I x.1)]) (λx=> [blk g8 x.2.1 186,x.2.2.1,F]) (λx=>x.1≤n-1∧x.2.1.length=2∧Bld g8 0 x.2.1 x.2.2.1 (qCM sep (ls.take (x.1+1))) x.2.2.2.1 x.2.2.2.2 (some ⟨g8,0,none⟩)) (λx=>n-1-x.1) (0,l61,m61,A61,c61) (⟨jF _,by rw [hu61.1,hu57.1];rfl,hb61⟩) ⟨rfl,rfl,rfl,rfl,rfl,trivial⟩ (λ_ h=>h) ?_
  rintro⟨k,l,m,A1,c1⟩ ⟨hk,hll,hb⟩ I3 hI3
  dsimp only at hk hll hb⊢
  have hl2:=hl.cut (lo:=1) (hi:=n) (mx:=c) (by omega) (jJ _) hl.2.1
  refine J.g λK24 hK24=>J.f (qAT V V V) V<|J.c hK24<|J.b5 1 8 63 64 65 66 ?_
  refine J.k λK25 hK25=>J.a4 V (λh66=>?_) (λh66=>?_)
  ·
    refine J.W hK25<|J.a0 1 8 63 64 65 ?_
    refine J.k λK26 hK26=>J.a1<|J.k λK27 hK27=>?_
    have hkn:k+1<n:=by omega
    obtain ⟨s,hs⟩: ∃s,ls[k+1]?=some s:=⟨_,jC (by omega)⟩
    have hs2:((((qAH ls).take n).drop 1))[k]?=some [Str s]:=by rw [jt,js,Nat.add_comm 1 k,if_pos hkn];exact qAZ hs
    have hj1:=qG8 sep ls (k+1)
    rw [qG7 sep ls k hs] at hj1
    simp only [jA] at hj1
    refine J.H<|J.f (qAF V V V qAh z9_ hl2 (by omega)) V<|J.f (qAL V V b9_ (by simp) (hl2.elem hs2)) rfl<|J.b rfl<|J.c hK27<|J.b5 1 8 10 63 64 65 ?_
    refine J.g λK28 hK28=>J.b V<|J.q (qAB V V ent109 (qBD F m g8 186 0 l _ A1 c1 _ hb (by rw [hll];exact qJ0) sep (by omega))) rfl ?_
    rintro⟨l70,m70⟩ ⟨A70,c70,hb70,hu70⟩
    dsimp only at hb70 hu70
    refine J.c hK28<|J.b5 1 8 10 63 64 65 ?_
    refine J.H<|J.b V<|J.q (qAB V V ent109 (qBD F m70 g8 186 0 l70 _ A70 c70 _ hb70 (by rw [hu70.1,hll];exact qJ0) s (by simp;omega))) rfl ?_
    rintro⟨l72,m72⟩ ⟨A72,c72,hb72,hu72⟩
    dsimp only at hb72 hu72
    rw [←qG7 sep ls k hs] at hb72
    refine J.a8<|J.b0<|J.u (J.M hK26 ?_)
    refine J.a0 1 8 63 64 65 ?_
    refine J.H<|J.f (qAQ V V V (by omega)) V<|J.b V<|J.a8<|J.u<|J.a9 (k+1,l72,m72,A72,c72) (λx (hx:_∧n-1-x.1<n-1-k)=>hI3 x hx.1 hx.2) ⟨⟨by dsimp only;omega,by rw [hu72.1,hu70.1];exact hll,hb72⟩,by dsimp only;omega⟩ ⟨rfl,rfl,rfl,rfl,rfl,trivial⟩ (λ_ h=>h)
  refine J.b8<|J.a6<|J.a6<|J.b9 ?_
  refine J.u (J.M hK22 ?_)
  refine J.A 8 ?_
  refine J.k λK29 hK29=>?_
  have hend:qCM sep (ls.take (k+1))=qCM sep ls:=by rw [jV (by omega)]
  have hj1:=qG8 sep ls k
  refine J.H<|J.q (qAB V V ent111 (qDj F m g8 186 0 l _ A1 c1 _ hb (by omega))) V ?_
  rintro m74 h74
  refine J.b V<|J.c hK29<|J.A 4 ?_
  exact J.D<|J.Z hw0 V () (by rw [hend]) trivial [2] rfl (by decide)
theorem qSp(F:Hp)(A:Option Addr)(n c:Nat)(ls:List (List UInt8))(sep:List UInt8)(hl:Sl F 1 A n c (qAH ls))(htot:(qCM sep ls).length≤35184372088832)(hn47:n≤70368744177664):
    Ct prog 140 [.slice A n c,Str sep] [F] (λ_:Unit=>Str (qCM sep ls)) (λ_=>True) (λ_=> [F]):=by
  have hlen:ls.length=n:=by have:=hl.1;simpa [qAH] using this
  match ls,hl,htot,hlen with
  | [],hl,_,_=>exact qP3 F A n c sep hl
  | [s],hl,_,_=>exact qP2 F A n c s sep hl
  |a::b::r,hl,htot,hlen=>exact qOA F A n c _ sep hl (by simp at hlen;omega) htot hn47
theorem ent140:qAE prog 140:=qAE.of func140 rfl (by kernel_rfl)
end Go.Proofs.YtfldiegfenndjaaGreatDoor
