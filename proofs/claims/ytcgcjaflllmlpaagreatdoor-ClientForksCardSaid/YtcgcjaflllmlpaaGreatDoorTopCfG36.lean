/- A part of the proof. -/
import Derived.Test.YtcgcjaflllmlpaaGreatDoorTopCfG8
import Derived.Test.YtcgcjaflllmlpaaGreatDoorTopCfG17
import Derived.Test.YtcgcjaflllmlpaaGreatDoorTopCfG16
import Derived.Test.YtcgcjaflllmlpaaGreatDoorTopCfG28
set_option linter.unusedSimpArgs false
set_option linter.unusedVariables false
namespace Go.Proofs.YtcgcjaflllmlpaaGreatDoor
open Go Go.Fw Go.Proofs.Tryz
set_option maxRecDepth 100000
set_option maxHeartbeats 1000000
theorem ent15:qAD prog 15:=qAD.of func15 rfl (by kernel_rfl)
theorem ent45:qAD prog 45:=qAD.of func45 rfl (by kernel_rfl)
theorem ent99:qAD prog 99:=qAD.of func99 rfl (by kernel_rfl)
def qBd(v:Nat)(o r:List UInt8)(h:Int)(p:List UInt8):Int:=if v<1∨4294967295<v then 13 else if qBH o r h=0∧p.length=16 then 0 else 10
def qBG(v:Nat)(o r:List UInt8)(h:Int)(p:List UInt8):List UInt8:=if qBd v o r h p=0 then Sha.numB (UInt64.ofNat v) 4++qBL o r h++p else []
def enV(v:Nat)(o r:List UInt8)(h:Int)(p:List UInt8):Value:= .tuple #[Str (qBG v o r h p),I (qBd v o r h p)]
theorem qRS{v:Nat}{o r:List UInt8}{h:Int}{p:List UInt8}{e:Int}(he:qBd v o r h p=e)(h0:e≠0):Value.tuple #[Str [],I e]=enV v o r h p:=by
 unfold enV qBG
 rw [he,if_neg h0]
theorem qYt{v:Nat}{o r:List UInt8}{h:Int}{p:List UInt8}(hv:v<1∨4294967295<v):qBd v o r h p=13:=if_pos hv
theorem qP5{o r:List UInt8}{h:Int}(he: ¬qBH o r h=0):qBH o r h=10:=by
 unfold qBH at he⊢
 split at he
 · omega
 · rename_i h1;rw [if_neg h1]
theorem en_10{v:Nat}{o r:List UInt8}{h:Int}{p:List UInt8}(h1: ¬v<1)(h2: ¬4294967295<v)(he: ¬qBH o r h=0):qBd v o r h p=10:=by
 unfold qBd
 rw [if_neg (by omega),if_neg (λe=>he e.1)]
theorem qYr{v:Nat}{o r:List UInt8}{h:Int}{p:List UInt8}(h1: ¬v<1)(h2: ¬4294967295<v)(he:qBH o r h=0):
    Value.tuple #[Str (if qCH (okF p 16) 10 0=0 then qLB p 16 (Sha.numB (UInt64.ofNat v) 4++qBL o r h) 0 else []),I (qCH (okF p 16) 10 0)]=enV v o r h p:=by
  unfold enV qBG
  by_cases h3:p.length=16
  · have e:qBd v o r h p=0:=by unfold qBd;rw [if_neg (by omega),if_pos ⟨he,h3⟩]
    rw [e,qLh h3,qB2,if_pos rfl,if_pos rfl,qGB h3]
  · have e:qBd v o r h p=10:=by unfold qBd;rw [if_neg (by omega),if_neg (λe=>h3 e.2)]
    have e2:qCH (okF p 16) 10 0=10:=by rw [okF_f h3];rfl
    rw [e,e2,if_neg (by decide),if_neg (by decide)]
theorem qHz(F:Hp)(v:Nat)(o r:List UInt8)(h:Int)(p:List UInt8)(hv:v<18446744073709551616)(ho:o.length≤1048576)(hr:r.length≤1048576)(hp:p.length≤1048576):
    Cz prog 45 [.agg #[N64 v,Str o,Str r,I h,Str p]] F (enV v o r h p):=by
  refine Ct.walk func45 rfl ntmps45 rfl (λw0 hw0=>?_)
  refine J.f λ_ j1=>J.p (qAd O O O) O λg1 _=>J.q 2 O<|J.c j1 ?_
  refine J.k λ_ j2=>J.f λ_ j3=>J.T 0 qJN qD9 O O O O O<|J.a5 1 qEz O O O O O<|J.g (qAT O O O) O<|J.b O<|J.b9 (d:=10) O (λh10=>?_) (λh10=>?_)
  ·
    refine J.q 4 O<|J.c j3 ?_
    refine J.c4 ?_
    refine J.f λ_ j4=>J.q 2 O<|J.c j4 ?_
    exact J.A<|J.V<|J.a9 hw0 (λ_ _ h=>h) (qCG O O O) (qAq () (qRS (qYt (by omega)) (by decide)) trivial [0] O (by decide))
  refine J.G (qAA O O qJN O qD9 O) O<|J.G (qAE 1 O O O qEz O) O<|J.G (qA5 O O O) O<|J.b O<|J.c j3 ?_
  refine J.W O (λh14=>?_) (λh14=>?_)
  ·
    refine J.f λ_ j5=>J.q 2 O<|J.c j5 ?_
    exact J.A<|J.V<|J.a9 hw0 (λ_ _ h=>h) (qCG O O O) (qAq () (qRS (qYt (by omega)) (by decide)) trivial [0] O (by decide))
  refine J.M j2 ?_
  refine J.f λ_ j6=>J.T 1 qJN qET O O O O O<|J.g (qEj 1 O O qNh qET (vs:= [Str o,Str r,I h]) O (qAR.blk 1 (λj u hj=>by match j with|0=>exact hj|1=>exact hj|2=>exact hj)) rfl) rfl<|J.p (qAB rfl rfl ent100 (Ct.use0 (λF' hF=>qDy F' o r h ho hr))) rfl λg18 _=>J.q 5 rfl<|J.c j6 ?_
  refine J.k λ_ j7=>J.f λ_ j8=>J.b O<|J.g (qAe O O O) O<|J.c j8 ?_
  refine J.W O (λh22=>?_) (λh22=>?_)
  ·
    refine J.f λ_ j9=>J.q 3 O<|J.c j9 ?_
    exact J.A<|J.V<|J.a9 hw0 (λ_ _ h=>h) (qCG O O O) (qAq () (qRS ((en_10 (by omega) (by omega) (by omega)).trans (qP5 (by omega)).symm) (by omega)) trivial [0] O (by decide))
  refine J.M j7 ?_
  refine J.k λ_ j10=>?_
  have hk0:qBH o r h=0:=by omega
  have hkl:=qE6 hk0
  refine J.H<|J.p (qAL O qKb O) O λg6 _=>J.c j10 ?_
  refine J.k λ_ j11=>J.b0 [blk g1 [N64 v,Str o,Str r,I h,Str p] 61] [] (.y 0 (.y 1 (.y 3 (.y 5 (.y 6 (.e 2 (.e 4 (.e 7 (.e 8 (.y 9 (.y 10 (.y 11 (.y 12 .nil))))))))))))) Tryz.wide (by decide+kernel) (by simp) ?_
  refine J.j O (qAA O O qJN O qD9 O) O O<|J.j O (qAE 0 O O O qEz O) O O<|J.L ?_
  refine J.j O (qAA O O qJN O z9_ O) O O<|J.j O (qAE 0 O O O b9_ O) O O<|J.Z O (qAB O O ent67 (Ct.use1 2 O (λF' _=>qLi F' (blk g6 [.pointer none,.slice none 0 0,I 0] 158) g6 [] 0 (qF5 g6) (by decide) v hv 4 (by omega) (by omega)))) O (by simp) ?_
  rintro m26 hw26
  rw [qHH (size:=4) hv (by omega),qB2,qCX (qHH (size:=4) hv (by omega)),jq] at hw26
  refine J.Z O (qAB O O ent101 (Ct.use1 2 O (λF' _=>qDH F' m26 g6 (Sha.numB (UInt64.ofNat v) 4) 0 hw26 (by rw [Sha.numB_length];omega) (qBL o r h) (by omega) 33))) rfl (by simp) ?_
  rintro m28 hw28
  rw [qGB hkl,qLh hkl,qB2] at hw28
  refine J.Z O (qAB O O ent101 (Ct.use1 2 O (λF' _=>qDH F' m28 g6 ((Sha.numB (UInt64.ofNat v) 4)++qBL o r h) 0 hw28 (by rw [jA,Sha.numB_length];omega) p (by omega) 16))) rfl (by simp) ?_
  rintro m31 hw31
  refine J.Z O (qAB O O ent68 (Ct.use1 2 O (λF' _=>qDJ F' m31 g6 (qLB p 16 ((Sha.numB (UInt64.ofNat v) 4)++qBL o r h) 0) (qCH (okF p 16) 10 0) hw31 (by have:=qDr p 16 ((Sha.numB (UInt64.ofNat v) 4)++qBL o r h) 0;rw [jA,Sha.numB_length] at this;omega)))) rfl (by simp) ?_
  rintro m32 hw32
  refine J.c3 (Str (if qCH (okF p 16) 10 0=0 then qLB p 16 ((Sha.numB (UInt64.ofNat v) 4)++qBL o r h) 0 else [])) ?_
  refine J.c3 (I (qCH (okF p 16) 10 0)) ?_
  refine J.b6 ?_
  refine J.b6 ?_
  refine J.a8<|J.u (J.D j11 ?_)
  exact J.A<|J.a9 hw0 (λ_ _ h=>h) (qCG O O O) (qAq () (qYr (by omega) (by omega) hk0) trivial [0] O (by decide))
def deE(s:List UInt8):Int:=if s.length<53 then 3 else if 53<s.length then 2 else if 6<(s.getD 36 0).toNat then 4 else if qFC (s.take 4)<1 then 13 else 0
def deN(s:List UInt8):Nat:=if deE s=0 then qFC (s.take 4) else 0
def qCs(v:Nat)(o r:List UInt8)(h:Int)(p:List UInt8):List UInt8:=if qBd v o r h p=0 then Sha.tagged 12 [qBG v o r h p] else []
theorem qCE{v:Nat}{o r:List UInt8}{h:Int}{p:List UInt8}(he:qBd v o r h p=0):(qBG v o r h p).length=53:=by
  unfold qBG
  rw [if_pos he]
  unfold qBd at he
  split at he
  · omega
  · split at he
    · rename_i h2
      rw [jA,jA,Sha.numB_length,qE6 h2.1,h2.2]
    · omega
structure En where
 v:Nat
 o:List UInt8
 r:List UInt8
 h:Int
 p:List UInt8
 deriving DecidableEq
def En.cells(x:En):List Value:= [N64 x.v,Str x.o,Str x.r,I x.h,Str x.p]
def En.good(x:En):Prop:=x.v<18446744073709551616∧x.o.length≤1048576∧x.r.length≤1048576∧x.p.length≤1048576
def En.val(x:En):List UInt8:=qCs x.v x.o x.r x.h x.p
def En.next(x y:En):Int:=if x.v=18446744073709551615∨y.v≠x.v+1 then 13 else if x.val= []∨y.p≠x.val then 15 else 0
def En.chain:List En→Int
 | []=>0
 | [_]=>0
 |x::y::r=>if x.next y≠0 then x.next y else En.chain (y::r)
def En.hist:List En→Int
 | []=>20
 |x::r=>if x.v≠1 then 13 else if x.p≠qAm then 15 else En.chain (x::r)
theorem qEs(F:Hp)(hK:KF F)(v:Nat)(o r:List UInt8)(h:Int)(p:List UInt8)(hv:v<18446744073709551616)(ho:o.length≤1048576)(hr:r.length≤1048576)(hp:p.length≤1048576):
    Cz prog 15 [.agg #[N64 v,Str o,Str r,I h,Str p]] F (Str (qCs v o r h p)):=by
  refine Ct.walk func15 rfl ntmps15 rfl (λw0 hw0=>?_)
  refine J.f λ_ j1=>J.p (qAd O O O) O λg1 _=>J.b O<|J.c j1 ?_
  refine J.f λ_ j2=>J.b7 1 qEV qBy O O O O O<|J.p (qAB O O ent45 (Ct.use0 (λF' hF=>qHz F' v o r h p hv ho hr hp))) O λg7 _=>J.q 5 O<|J.c j2 ?_
  refine J.k λ_ j3=>J.f λ_ j4=>J.b O<|J.g (qAe O O O) O<|J.c j4 ?_
  refine J.W O (λh11=>?_) (λh11=>?_)
  ·
    refine J.f λ_ j5=>J.b O<|J.c j5 ?_
    exact J.A<|J.V<|J.E hw0 O () (by unfold qCs;rw [if_neg (by omega)]) trivial [0] rfl (by decide)
  refine J.M j3 ?_
  refine J.k λ_ j6=>?_
  have he0:qBd v o r h p=0:=by omega
  refine J.H<|J.b O<|J.p (qAG (l:= [.tmp 12]) (xs:= [[Str (qBG v o r h p)]]) O O O O qAk el9 O (by decide) (by decide) (by simp)) rfl λg13 _=>J.p (qAB rfl rfl ent46 (Ct.use0 (λF' hF=>qA3 F' (hK.mono (Fa hF)) 12 (some ⟨g13,0,none⟩) 1 1 [qBG v o r h p] ((slS [qBG v o r h p] rfl).mono (hF (blk g13 (([qBG v o r h p]:List (List UInt8)).map λs=>Str s) 9) (by simp))) (by have:=qCE he0;simp [this]) (by decide)))) rfl λg14 _=>J.b rfl<|J.c j6 ?_
  exact J.A<|J.E hw0 O () (by unfold qCs;rw [if_pos he0]) trivial [0] rfl (by decide)
theorem qFt(F:Hp)(hK:KF F)(s:List UInt8)(hs:s.length≤1048576):
    Cz prog 39 [Str s] F (Str (Sha.tagged 11 [s])):=by
  refine Ct.walk func39 rfl ntmps39 rfl (λw0 hw0=>?_)
  refine J.f λ_ j1=>J.b O<|J.c j1 ?_
  refine J.f λ_ j2=>J.b O<|J.p (qAG (l:= [.tmp 3]) (xs:= [[Str (s)]]) O O O O qAk el9 O (by decide) (by decide) (by simp)) rfl λg4 _=>J.p (qAB rfl rfl ent46 (Ct.use0 (λF' hF=>qA3 F' (hK.mono (Fa hF)) 11 (some ⟨g4,0,none⟩) 1 1 [s] ((slS [s] rfl).mono (hF (blk g4 (([s]:List (List UInt8)).map λs=>Str s) 9) (by simp))) (by simp;omega) (by decide)))) rfl λg5 _=>J.b rfl<|J.c j2 ?_
  exact J.A<|J.E hw0 O () O trivial [0] O (by decide)
theorem qUF(F:Hp)(hK:KF F)(x y:En)(hx:x.good)(hy:y.good):
    Cz prog 99 [.agg x.cells.toArray,.agg y.cells.toArray] F (I (x.next y)):=by
  obtain ⟨hx1,hx2,hx3,hx4⟩:=hx
  obtain ⟨hy1,hy2,hy3,hy4⟩:=hy
  have hxv:x.val=qCs x.v x.o x.r x.h x.p:=rfl
  refine Ct.walk func99 rfl ntmps99 rfl (λw0 hw0=>?_)
  refine J.f λ_ j1=>J.p (qAd O O O) O λg2 _=>J.p (qAd O O O) O λg3 _=>?_
  change J _ _ _ [_,_,blk g3 [N64 y.v,Str y.o,Str y.r,I y.h,Str y.p] 61] _
  refine J.b O<|J.c j1 ?_
  refine J.k λ_ j2=>J.f λ_ j3=>J.b7 1 qEV qBy O O O O O<|J.p (qAB O O ent15 (Ct.use0 (λF' hF=>qEs F' (hK.mono (Fa hF)) x.v x.o x.r x.h x.p hx1 hx2 hx3 hx4))) O λg7 _=>J.b O<|J.c j3 ?_
  refine J.O<|J.f λ_ j4=>J.T 0 qJN qD9 O O O O O<|J.a5 1 qEz O O O O O<|J.g (qAg O O O) O<|J.b O<|J.b9 (d:=12) O (λh12=>?_) (λh12=>?_)
  ·
    refine J.q 8 O<|J.c j4 ?_
    refine J.c4 ?_
    refine J.f λ_ j5=>J.b O<|J.c j5 ?_
    exact J.A<|J.a7<|J.V<|J.E hw0 O () (congrArg I (by unfold En.next;rw [if_pos (by omega)])) trivial [0] rfl (by decide)
  refine J.G (qAA (j:=0) O O qJN O qD9 O) O<|J.G (qAE 2 O O O qEz O) O<|J.G (qAA (j:=0) O O qJN O qD9 O) O<|J.G (qAE 1 O O O qEz O) O<|J.G (qGg (b:=1) O O O (by omega)) O<|J.G (qAe O O O) O<|J.q 2 O<|J.c j4 ?_
  refine J.W O (λh8=>?_) (λh8=>?_)
  ·
    refine J.f λ_ j6=>J.b O<|J.c j6 ?_
    exact J.A<|J.a7<|J.V<|J.E hw0 O () (congrArg I (by unfold En.next;rw [if_pos (by omega)])) trivial [0] rfl (by decide)
  refine J.f λ_ j7=>J.b O<|J.g (qBS O O O) O<|J.b O<|J.b9 (d:=23) O (λh23=>?_) (λh23=>?_)
  ·
    refine J.q 6 O<|J.c j7 ?_
    refine J.c4 ?_
    refine J.f λ_ j8=>J.b O<|J.c j8 ?_
    exact J.A<|J.a7<|J.V<|J.E hw0 O () (congrArg I (by unfold En.next;rw [if_neg (by omega),if_pos (.inl h23)])) trivial [0] rfl (by decide)
  refine J.G (qAA (j:=4) O O qJN O z9_ O) O<|J.G (qAE 2 O O O b9_ O) O<|J.b O<|J.G (qEC O O O) O<|J.q 2 O<|J.c j7 ?_
  refine J.W O (λh20=>?_) (λh20=>?_)
  ·
    refine J.f λ_ j9=>J.b O<|J.c j9 ?_
    exact J.A<|J.a7<|J.V<|J.E hw0 O () (congrArg I (by unfold En.next;rw [if_neg (by omega),if_pos (.inr h20)])) trivial [0] rfl (by decide)
  refine J.b5<|J.a2<|J.u (J.D j2 ?_)
  refine J.f λ_ j10=>J.b O<|J.c j10 ?_
  exact J.A<|J.E hw0 O () (congrArg I (by unfold En.next;rw [if_neg (by omega),if_neg (λe=>e.elim h23 h20)])) trivial [0] rfl (by decide)
def qBt:En:=⟨0,[],[],0,[]⟩
theorem qF0{l:List En}{j:Nat}(h:j<l.length):(l.map En.cells)[j]?=some (l.getD j qBt).cells:=by rw [jO,qAj qBt h];rfl
theorem qEr{l:List En}(h:0<l.length):En.hist l=if(l.getD 0 qBt).v≠1 then 13 else if(l.getD 0 qBt).p≠qAm then 15 else En.chain l:=by
 cases l with
 |nil=>simp at h
 |cons x r=>rfl
theorem qH2{l:List En}{k:Nat}(h:k+1<l.length):En.chain (l.drop k)=if(l.getD k qBt).next (l.getD (k+1) qBt)≠0 then(l.getD k qBt).next (l.getD (k+1) qBt) else En.chain (l.drop (k+1)):=by
 rw [zE (show k<l.length by omega),zE h]
 rw [jB,jB,jC (show k<l.length by omega),jC h];rfl
theorem qRh{l:List En}{k:Nat}(h:k+1=l.length):En.chain (l.drop k)=0:=by
 rw [zE (show k<l.length by omega),jp (by omega)];rfl
theorem qKV{l:List En}{k:Nat}(hg: ∀x∈l,x.good)(h:k<l.length):(l.getD k qBt).good:=by
 rw [jB,jC h]
 exact hg _ (jX h)
theorem qKa(F:Hp)(A:Option Addr)(c:Nat):
    Cz prog 43 [.slice A 0 c] F (I 20):=by
  refine Ct.walk func43 rfl ntmps43 rfl (λw0 hw0=>?_)
  refine J.f λ_ j1=>J.b O<|J.c j1 ?_
  refine J.k λ_ j2=>J.O<|J.f λ_ j3=>J.b O<|J.g (qAU qFj O O) O<|J.g ((qAg O O O).yes (by decide)) O<|J.b O<|J.c j3 ?_
  refine J.c4 ?_
  refine J.f λ_ j4=>J.b O<|J.c j4 ?_
  exact J.A<|J.a7<|J.V<|J.E hw0 O () O trivial [0] O (by decide)
theorem qCT(F:Hp)(hK:KF F)(l:List En)(hg: ∀x∈l,x.good)(g o c:Nat)(hl:Sl F 5 (some ⟨g,o,none⟩) l.length c (l.map En.cells))(hn:0<l.length)(hn2:l.length≤1073741824):
    Cz prog 43 [.slice (some ⟨g,o,none⟩) l.length c] F (I (En.hist l)):=by
  refine Ct.walk func43 rfl ntmps43 rfl (λw0 hw0=>?_)
  refine J.f λ_ j1=>J.b O<|J.c j1 ?_
  refine J.k λ_ j2=>J.O<|J.f λ_ j3=>J.b O<|J.g (qAU qFj O O) O<|J.g ((qAg O O O).no (by omega)) O<|J.b O<|J.c j3 ?_
  refine J.a1 ?_
  refine J.f λ_ j4=>J.b O<|J.g (qAH O O O qFj qBy hl (hn)) O<|J.g ((qAA (g:=g) O O qJN O qD9 O)) O<|J.g (qAJ O O qEz (m:=F) (by simp) (hl.cell (i:=0) (x:=(l.getD 0 qBt).cells) (qF0 hn) (k:=0) (v:=N64 (l.getD 0 qBt).v) rfl)) rfl<|J.g (qAe rfl rfl rfl) rfl<|J.b rfl<|J.c j4 ?_
  refine J.W O (λh9=>?_) (λh9=>?_)
  ·
    refine J.f λ_ j5=>J.b O<|J.c j5 ?_
    exact J.A<|J.a7<|J.V<|J.E hw0 O () (congrArg I (by rw [qEr hn,if_pos (by omega)])) trivial [0] rfl (by decide)
  refine J.k λ_ j6=>J.b0 [F] [] (.y 0 (.y 1 (.y 2 (.y 3 (.e 4 (.y 5 (.y 6 .nil))))))) Tryz.wide (by decide+kernel) (by simp) ?_
  refine J.L ?_
  refine J.j O (qAH O O O qFj qBy hl (hn)) O O<|J.j O ((qAA (g:=g) O O qJN O z9_ O)) O O<|J.j O (qAJ O O b9_ (m:=F) (by simp) (hl.cell (i:=0) (x:=(l.getD 0 qBt).cells) (qF0 hn) (k:=4) (v:=Str (l.getD 0 qBt).p) rfl)) rfl rfl<|J.Z rfl (qAB rfl rfl ent50 (Ct.use0 (λF' hF=>qGR F' 16 (by decide) (by decide)))) rfl (by simp) λg20 _=>J.j rfl (qEC rfl rfl rfl) rfl rfl<|J.b6 ?_
  refine J.a8<|J.u (J.D j6 ?_)
  refine J.W O (λh15=>?_) (λh15=>?_)
  ·
    change(l.getD 0 qBt).p≠qAm at h15
    refine J.f λ_ j7=>J.b O<|J.c j7 ?_
    exact J.A<|J.a7<|J.V<|J.E hw0 O () (congrArg I (by rw [qEr hn,if_neg (by omega),if_pos h15])) trivial [0] rfl (by decide)
  change¬(l.getD 0 qBt).p≠qAm at h15
  refine J.b5<|J.a2<|J.u (J.D j2 ?_)
  refine J.k λ_ j8=>J.f λ_ j9=>J.b O<|J.g (qAU qFj O O) O<|J.g (qA4 O O O (by omega)) O<|J.b O<|J.c j9 ?_
  refine J.O<|J.b4 (X:=Nat) (λk=> [(0,.slice (some ⟨g,o,none⟩) l.length c),(24,I ((l.length:Int)-1)),(25,I k)]) (λ_=> [F]) (λk=>k+1≤l.length∧En.chain (l.drop k)=En.chain l) (λk=>l.length-k) 0 (⟨by omega,O⟩) ⟨O,O,O,trivial⟩ (λ_ h=>h) ?_
  intro k ⟨hk,hch⟩ I0 hI0
  refine J.f λ_ j10=>J.g (qAT O O O) O<|J.c j10 ?_
  refine J.k λ_ j11=>J.W O (λh26=>?_) (λh26=>?_)
  ·
    refine J.M j11 ?_
    refine J.k λ_ j12=>J.O<|J.f λ_ j13=>J.q 2 O<|J.c j13 ?_
    refine J.k λ_ j14=>J.b0 [F] [] (.y 0 (.y 1 (.y 2 (.y 3 (.y 4 (.y 5 (.y 6 (.y 7 (.y 8 (.e 9 (.y 10 .nil))))))))))) Tryz.wide (by decide+kernel) (by simp) ?_
    refine J.L ?_
    refine J.L ?_
    refine J.j O (qAH O O O qFj qBy hl (by omega)) O O<|J.j O (qAX O O qEV qBy (m:=F) (by simp) (hl.elem (qF0 (by omega))) rfl) rfl rfl<|J.L ?_
    refine J.L ?_
    refine J.j O ((qAS O O O (by omega)).nat (k+1) (by omega)) O O<|J.j O (qAH O O O qFj qBy hl (by omega)) O O<|J.j O (qAX O O qEV qBy (m:=F) (by simp) (hl.elem (qF0 (by omega))) rfl) rfl rfl<|J.Z rfl (qAB rfl rfl ent99 (Ct.use0 (λF' hF=>qUF F' (hK.mono (Fa hF)) (l.getD k qBt) (l.getD (k+1) qBt) (qKV hg (by omega)) (qKV hg (by omega))))) rfl (by simp) λg37 _=>J.b6 ?_
    refine J.a8<|J.u (J.D j14 ?_)
    refine J.f λ_ j15=>J.b O<|J.g (qAe O O O) O<|J.c j15 ?_
    refine J.W O (λh39=>?_) (λh39=>?_)
    ·
      refine J.f λ_ j16=>J.q 2 O<|J.c j16 ?_
      exact J.A<|J.a7<|J.V<|J.V<|J.a7<|J.V<|J.E hw0 O () (congrArg I (by rw [qEr hn,if_neg (by omega),if_neg h15,←hch,qH2 (l:=l) (k:=k) (by omega),if_pos (by omega)])) trivial [0] rfl (by decide)
    refine J.b5<|J.a2<|J.u (J.D j12 ?_)
    exact J.H<|J.g ((qAS O O O (by omega)).nat (k+1) (by omega)) O<|J.b O<|J.a3<|J.u<|J.a4 (k+1) (λx (hx:_∧l.length-x<l.length-k)=>hI0 x hx.1 hx.2) ⟨⟨by omega,by have:=qH2 (l:=l) (k:=k) (by omega);rw [if_neg (by omega)] at this;rw [←this];exact hch⟩,by omega⟩ ⟨rfl,rfl,rfl,trivial⟩ (λ_ h=>h)
  refine J.b2<|J.a0<|J.a0<|J.b3 ?_
  refine J.u (J.D j8 ?_)
  refine J.k λ_ j17=>?_
  have hce:=qRh (l:=l) (k:=k) (by omega)
  refine J.H<|J.b O<|J.c j17 ?_
  exact J.A<|J.E hw0 O () (congrArg I (by rw [qEr hn,if_neg (by omega),if_neg h15,←hch,hce])) trivial [0] rfl (by decide)
theorem qL4(F:Hp)(hK:KF F)(l:List En)(hg: ∀x∈l,x.good)(A:Option Addr)(n c:Nat)(hl:Sl F 5 A n c (l.map En.cells))(hn2:n≤1073741824):
    Cz prog 43 [.slice A n c] F (I (En.hist l)):=by
  have hln:l.length=n:=by have:=hl.1;rwa [jN] at this
  subst hln
  cases l with
  |nil=>exact qKa F A c
  |cons x r=>
    obtain ⟨g,o,rfl⟩:=hl.at (by rw [jD];omega)
    exact qCT F hK (x::r) hg g o c hl (by rw [jD];omega) hn2
theorem en_0{v:Nat}{o r:List UInt8}{h:Int}{p:List UInt8}(h1: ¬v<1)(h2: ¬4294967295<v)(h3: ¬h<0)(h4: ¬6<h)(ho:o.length=16)(hr:r.length=16)(hp:p.length=16):qBd v o r h p=0∧qBG v o r h p=Sha.numB (UInt64.ofNat v) 4++o++r++ [UInt8.ofNat h.toNat]++p:=by
 have hq:qGS o r h:=⟨by omega,by omega,ho,hr⟩
 have e:qBd v o r h p=0:=by
  unfold qBd qBH
  rw [if_neg (by omega),if_pos hq,if_pos ⟨rfl,hp⟩]
 refine⟨e,?_⟩
 unfold qBG qBL
 rw [if_pos e,if_pos hq]
 simp
theorem qKZ{v:Nat}{o r:List UInt8}{h:Int}{p:List UInt8}(he:qBd v o r h p=0):1≤v∧v≤4294967295∧(0≤h∧h≤6)∧o.length=16∧r.length=16∧p.length=16:=by
  unfold qBd at he
  split at he
  · omega
  · split at he
    · rename_i h1 h2
      have h3:=h2.1
      unfold qBH at h3
      split at h3
      · rename_i h4
        have h5:=h4
        unfold qGS at h5
        omega
      · omega
    · omega
theorem ent34:qAD prog 34:=qAD.of func34 rfl (by kernel_rfl)
theorem ent62:qAD prog 62:=qAD.of func62 rfl (by kernel_rfl)
attribute [local irreducible] Sha.tagged Wo.pub Wo.publicOf Wo.signs Wo.ends Wo.digs Wo.walk Wo.opn Mk.root Mk.path Mk.climb Xm.root sgC sgP qBG qBd
theorem qFu(F:Hp)(v:Nat)(o r:List UInt8)(h:Int)(p:List UInt8)(hv:v<18446744073709551616)(ho:o.length≤1048576)(hr:r.length≤1048576)(hp:p.length≤1048576):Cz prog 45 [.agg #[N64 (v),Str (o),Str (r),I (h),Str (p)]] F (.tuple #[Str (qBG v o r h p),I (qBd v o r h p)]):=qHz F v o r h p hv ho hr hp
def qFb(s:List UInt8)(v:Nat)(o r:List UInt8)(h:Int)(p:List UInt8):List UInt8:=Sha.tagged 13 [s,qBG v o r h p]
theorem qMq(s:List UInt8)(v:Nat)(o r:List UInt8)(h:Int)(p:List UInt8):(qFb s v o r h p).length=16:=Sha.tagged_length _ _
theorem qIZ(F:Hp)(hK:KF F)(s:List UInt8)(hsl:s.length≤1000000)(v:Nat)(o r:List UInt8)(h:Int)(p:List UInt8)(hE:qBd v o r h p=0):Cz prog 62 [Str (s),.agg #[N64 (v),Str (o),Str (r),I (h),Str (p)]] F (Str (qFb (s) (v) (o) (r) (h) (p))):=by
 obtain ⟨e1,e2,⟨e3,e4⟩,e5,e6,e7⟩:=qKZ hE
 have el:=qCE hE
 refine Ct.walk func62 rfl ntmps62 rfl (λw0 hw0=>?_)
 refine J.f λ_ j1=>J.p (qAd O O O) O λg3 _=>J.b O<|J.c j1 ?_
 refine J.f λ_ j2=>J.b7 1 qEV qBy O O O O O<|J.p (qAB O O ent45 (Ct.use0 (λF' hF=>qFu F' v o r h p (by first|assumption|omega) (by first|assumption|omega) (by first|assumption|omega) (by first|assumption|omega)))) O λg9 _=>J.q 5 O<|J.c j2 ?_
 refine J.k λ_ j3=>J.f λ_ j4=>J.b O<|J.g ((qAe O O O).no (by omega)) O<|J.c j4 ?_
 refine J.a1 ?_
 refine J.M j3 ?_
 refine J.f λ_ j5=>J.q 2 O<|J.p (qAG (l:= [.tmp 14,.tmp 15]) (xs:= [[Str (s)],[Str (qBG (v) (o) (r) (h) (p))]]) O O O O qAk el9 O (by decide) (by decide) (by simp)) rfl λg16 _=>J.p (qAB rfl rfl ent46 (Ct.use0 (λF' hF=>qA3 F' (hK.mo hF) 13 (some ⟨g16,0,none⟩) 2 2 ([s,qBG (v) (o) (r) (h) (p)]) (((qBD (q:=True) (qAI [s,qBG (v) (o) (r) (h) (p)]) rfl (by simp [qAI]) rfl).sl).mono (hF (blk g16 [Str (s),Str (qBG (v) (o) (r) (h) (p))] 9) (by simp))) (by first|(simp;omega)|(simp;done)|decide) (by omega)))) rfl λg17 _=>J.b rfl<|J.c j5 ?_
 exact J.A<|J.E hw0 O () (by unfold qFb;rfl) trivial [0] O (by decide)
theorem qTO(F:Hp)(hK:KF F)(g:Nat)(seed:List UInt8)(kh:Nat)(hk:qUo F g seed kh)(hs6:seed.length≤1048576)(h6:kh≤6)(i:Nat)(hi:i<2^kh)(s:List UInt8)(hsl:s.length≤1000000)(v:Nat)(o r:List UInt8)(h:Int)(p:List UInt8)(hE:qBd v o r h p=0):Ct prog 24 [Ptr g,I ((i:Nat):Int),Str s,.agg #[N64 (v),Str (o),Str (r),I (h),Str (p)]] [F] (λx:(Option Addr×Nat×Hp)×(Option Addr×Nat×Hp)=> .tuple #[.agg #[Str s,N64 v,Str o,Str r,I h,Str p,I ((i:Nat):Int),.slice x.1.1 (sgC seed i (qFb (s) (v) (o) (r) (h) (p))).length x.1.2.1,.slice x.2.1 (sgP seed kh i).length x.2.2.1],I ((0:Nat):Int)]) (λx=>Row x.1.2.2 9 1 x.1.1 (sgC seed i (qFb (s) (v) (o) (r) (h) (p))).length x.1.2.1 (qAI (sgC seed i (qFb (s) (v) (o) (r) (h) (p))))∧Row x.2.2.2 9 1 x.2.1 (sgP seed kh i).length x.2.2.1 (qAI (sgP seed kh i))) (λx=> [F,x.1.2.2,x.2.2.2]):=by
 obtain ⟨e1,e2,⟨e3,e4⟩,e5,e6,e7⟩:=qKZ hE
 have el:=qCE hE
 have eml:=qMq s v o r h p
 refine Ct.walk func24 rfl ntmps24 rfl (λw0 hw0=>?_)
 refine J.f λ_ j1=>J.p (qAd O O O) O λg7 _=>J.p (qAL O zeroValue101 O) O λg8 _=>J.b O<|J.c j1 ?_
 refine J.k λ_ j2=>J.f λ_ j3=>J.b7 1 qEV qBy O O O O O<|J.p (qAB O O ent45 (Ct.use0 (λF' hF=>qFu F' v o r h p (by first|assumption|omega) (by first|assumption|omega) (by first|assumption|omega) (by first|assumption|omega)))) O λg16 _=>J.q 5 O<|J.c j3 ?_
 refine J.f λ_ j4=>J.b O<|J.g ((qAe O O O).no (by omega)) O<|J.c j4 ?_
 refine J.a1 ?_
 refine J.M j2 ?_
 refine J.f λ_ j5=>J.q 3 O<|J.b7 1 qEV qBy O O O O O<|J.p (qAB O O ent62 (Ct.use0 (λF' hF=>qIZ F' (hK.mo hF) s (by first|assumption|omega) v o r h p (by first|assumption|omega)))) O λg28 _=>J.p (qAB O O ent34 (Ct.use (λF' hF=>qJT F' (hK.mo hF) g seed kh (hk.mono (Fa hF)) (by first|assumption|decide) (by first|assumption|decide) i (by omega) (qFb (s) (v) (o) (r) (h) (p)) (by omega)))) O ?_
 rintro⟨⟨A29,c29,m29⟩,⟨B29,d29,n29⟩⟩ ⟨h29,k29⟩
 refine J.q 3 O<|J.p (qAL O zeroValue68 O) O λg12 _=>J.a6 (qAF (i:=5) (l:= [I 0,.slice none 0 0,.slice none 0 0]) (vs:= [I ((i:Nat):Int),.slice A29 ((sgC seed i (qFb (s) (v) (o) (r) (h) (p))).length) c29,.slice B29 ((sgP seed kh i).length) d29]) O O O O O qK2 O O) O O λ_ _=>J.b O<|J.c j5 ?_
 refine J.k λ_ j6=>J.f λ_ j7=>J.b O<|J.g ((qAe O O O).no (by decide)) O<|J.c j7 ?_
 refine J.a1 ?_
 refine J.M j6 ?_
 refine J.f λ_ j8=>J.b O<|J.b7 1 qEV qBy O O O O O<|J.b7 5 isAgg68 qK2 O O O O O<|J.g (qAK (places:= [(0,1),(1,5),(6,3)]) (r:= [Str (s),N64 (v),Str (o),Str (r),I (h),Str (p),I ((i:Nat):Int),.slice A29 ((sgC seed i (qFb (s) (v) (o) (r) (h) (p))).length) c29,.slice B29 ((sgP seed kh i).length) d29]) O O O qB0 zeroValue101 (λ_=>by kernel_rfl) (by kernel_rfl)) O<|J.a6 (qAF (i:=2) (l:= [Str [],.int .u64 0,Str [],Str [],I 0,Str [],I 0,.slice none 0 0,.slice none 0 0]) (vs:= [Str (s),N64 (v),Str (o),Str (r),I (h),Str (p),I ((i:Nat):Int),.slice A29 ((sgC seed i (qFb (s) (v) (o) (r) (h) (p))).length) c29,.slice B29 ((sgP seed kh i).length) d29]) O O O O O sizeOf101 O O) O O λ_ _=>J.b O<|J.c j8 ?_
 exact J.A<|J.a9 hw0 (λ_ _ h=>h) (rv2 O (RV.blkA 2 O O isAgg101 sizeOf101) O) (qAq ((A29,c29,m29),(B29,d29,n29)) O ⟨h29,k29⟩ [0,3,4] O (by decide))
end Go.Proofs.YtcgcjaflllmlpaaGreatDoor
namespace Go.Proofs.YtcgcjaflllmlpaaGreatDoor
open Go Go.Fw Go.Proofs.Tryz
set_option maxRecDepth 100000
set_option maxHeartbeats 1000000
theorem ent133:qAD prog 133:=qAD.of func133 rfl (by kernel_rfl)
attribute [local irreducible] Sha.tagged Wo.pub Wo.publicOf Wo.signs Wo.ends Wo.digs Wo.walk Wo.opn Mk.root Mk.path Mk.climb Xm.root sgC sgP qBG qBd sgB
theorem qS2(F:Hp)(i:Nat)(A1:Option Addr)(n1 c1:Nat)(ch:List (List UInt8))(hch:Sl F 1 A1 n1 c1 (qAI ch))(A2:Option Addr)(n2 c2:Nat)(pt:List (List UInt8))(hpt:Sl F 1 A2 n2 c2 (qAI pt))(hi:i≤63)(h35:ch.length=35)(hn6:pt.length≤6)(hc16: ∀s∈ch,s.length=16)(hp16: ∀s∈pt,s.length=16):Cz prog 133 [.agg #[I ((i:Nat):Int),.slice A1 n1 c1,.slice A2 n2 c2]] F (.tuple #[Str (sgB i ch pt),I ((0:Nat):Int)]):=by
 have e1:ch.length=n1:=by have:=hch.1;simpa [qAI] using this
 have e2:pt.length=n2:=by have:=hpt.1;simpa [qAI] using this
 rw [h35] at e1
 subst e1
 exact qN8 F i A1 c1 ch hch A2 n2 c2 pt hpt hi (by omega) hc16 hp16
def u1(s:List UInt8):RS:=(⟨s,0⟩:RS).textR
def u2(s:List UInt8):RS:=(u1 s).textR
def u3(s:List UInt8):RS:=(u2 s).textR
def upB(a b c:List UInt8):List UInt8:=tb a++tb b++tb c
theorem qIG(a b c:List UInt8):(upB a b c).length=6+a.length+b.length+c.length:=by unfold upB;simp only [jA,qFQ];omega
theorem qJ2(F:Hp)(s:List UInt8)(hs4:s.length≤4096)(v:Nat)(o r:List UInt8)(h:Int)(p:List UInt8)(hE:qBd v o r h p=0)(i:Nat)(A1:Option Addr)(n1 c1:Nat)(ch:List (List UInt8))(hch:Sl F 1 A1 n1 c1 (qAI ch))(A2:Option Addr)(n2 c2:Nat)(pt:List (List UInt8))(hpt:Sl F 1 A2 n2 c2 (qAI pt))(hi:i≤63)(h35:ch.length=35)(hn6:pt.length≤6)(hc16: ∀s∈ch,s.length=16)(hp16: ∀s∈pt,s.length=16):Cz prog 65 [.agg #[Str (s),N64 (v),Str (o),Str (r),I (h),Str (p),I ((i:Nat):Int),.slice A1 n1 c1,.slice A2 n2 c2]] F (.tuple #[Str (upB (s) (qBG (v) (o) (r) (h) (p)) (sgB (i) (ch) (pt))),I ((0:Nat):Int)]):=by
 obtain ⟨e1,e2,⟨e3,e4⟩,e5,e6,e7⟩:=qKZ hE
 have el:=qCE hE
 have hsg:=qIS (i:=i) hc16 hp16 h35
 have hul:=qIG s (qBG v o r h p) (sgB i ch pt)
 refine Ct.walk func65 rfl ntmps65 rfl (λw0 hw0=>?_)
 refine J.f λ_ j1=>J.p (qAd O O O) O λg1 _=>J.q 2 O<|J.c j1 ?_
 refine J.f λ_ j2=>J.T 1 qB0 qBy O O O O O<|J.g (qAX O O qEV qBy (m:=blk g1 [Str (s),N64 (v),Str (o),Str (r),I (h),Str (p),I ((i:Nat):Int),.slice A1 n1 c1,.slice A2 n2 c2] 101) (by simp) (qAR.blk0.sub 1 5) rfl) rfl<|J.p (qAB rfl rfl ent45 (Ct.use0 (λF' hF=>qFu F' v o r h p (by first|assumption|omega) (by first|assumption|omega) (by first|assumption|omega) (by first|assumption|omega)))) rfl λg11 _=>J.q 5 rfl<|J.c j2 ?_
 refine J.k λ_ j3=>J.f λ_ j4=>J.b O<|J.g ((qAe O O O).no (by omega)) O<|J.c j4 ?_
 refine J.a1 ?_
 refine J.M j3 ?_
 refine J.f λ_ j5=>J.T 6 qB0 qK2 O O O O O<|J.g (qAX O O isAgg68 qK2 (m:=blk g1 [Str (s),N64 (v),Str (o),Str (r),I (h),Str (p),I ((i:Nat):Int),.slice A1 n1 c1,.slice A2 n2 c2] 101) (by simp) (qAR.blk0.sub 6 3) rfl) rfl<|J.p (qAB rfl rfl ent133 (Ct.use0 (λF' hF=>qS2 F' i A1 n1 c1 ch (hch.mono (Fa hF)) A2 n2 c2 pt (hpt.mono (Fa hF)) (by first|assumption|omega) (by first|assumption|omega) (by first|assumption|omega) (by first|assumption|omega) (by first|assumption|omega)))) rfl λg20 _=>J.q 5 rfl<|J.c j5 ?_
 refine J.k λ_ j6=>J.f λ_ j7=>J.b O<|J.g ((qAe O O O).no (by decide)) O<|J.c j7 ?_
 refine J.a1 ?_
 refine J.M j6 ?_
 refine J.f λ_ j8=>J.p (qAL O qKb O) O λg7 _=>J.c j8 ?_
 refine J.f λ_ j9=>J.T 0 qB0 z9_ O O O O O<|J.a5 1 b9_ O O O O O<|J.p (qAB O O ent134 (Ct.use1 2 O (λF' hF=>qIK F' (blk g7 [.pointer none,.slice none 0 0,I 0] 158) g7 ([]) (wtrN g7) (by first|decide|omega|(simp only [jA,jD,jE,jH,Sha.numB_length,qFQ]<;>omega)) s (by first|decide|omega|assumption)))) rfl ?_
 rintro m28 hw28
 rw [jq] at hw28
 refine J.b O<|J.p (qAB O O ent134 (Ct.use1 2 O (λF' hF=>qIK F' m28 g7 (tb (s)) hw28 (by first|decide|omega|(simp only [jA,jD,jE,jH,Sha.numB_length,qFQ]<;>omega)) (qBG (v) (o) (r) (h) (p)) (by first|decide|omega|assumption)))) rfl ?_
 rintro m30 hw30
 refine J.b O<|J.p (qAB O O ent134 (Ct.use1 2 O (λF' hF=>qIK F' m30 g7 (tb (s)++tb (qBG (v) (o) (r) (h) (p))) hw30 (by first|decide|omega|(simp only [jA,jD,jE,jH,Sha.numB_length,qFQ]<;>omega)) (sgB (i) (ch) (pt)) (by first|decide|omega|assumption)))) rfl ?_
 rintro m32 hw32
 refine J.p (qAB O O ent68 (Ct.use1 2 O (λF' hF=>qKl F' m32 g7 (upB (s) (qBG (v) (o) (r) (h) (p)) (sgB (i) (ch) (pt))) hw32 (by first|decide|omega|(simp only [jA,jD,jE,jH,Sha.numB_length,qFQ]<;>omega))))) rfl ?_
 rintro m33 hw33
 refine J.q 4 O<|J.c j9 ?_
 exact J.A<|J.a9 hw0 (λ_ _ h=>h) (qCG O O O) (qAq () O trivial [0] O (by decide))
end Go.Proofs.YtcgcjaflllmlpaaGreatDoor
