/- A part of the proof. -/
import Derived.Test.YtcgcjaflllmlpaaGreatDoorTopCkG32
set_option maxRecDepth 100000
set_option maxHeartbeats 1000000
set_option linter.unusedSimpArgs false
set_option linter.unusedVariables false
namespace Go.Proofs.YtcgcjaflllmlpaaGreatDoor
open Go Go.Fw Go.Proofs.Tryz
def qBf(v:Nat)(o r:xA)(h:Int)(p:xA):Int:=if v<1∨4294967295<v then 13 else if qBJ o r h=0∧p.length=16 then 0 else 10
def qBI(v:Nat)(o r:xA)(h:Int)(p:xA):xA:=if qBf v o r h p=0 then Sha.numB (UInt64.ofNat v) 4++qBM o r h++p else []
def enV(v:Nat)(o r:xA)(h:Int)(p:xA):Value:= .tuple #[Str (qBI v o r h p),I (qBf v o r h p)]
theorem qR5{v:Nat}{o r:xA}{h:Int}{p:xA}{e:Int}(he:qBf v o r h p=e)(h0:e≠0):Value.tuple #[Str [],I e]=enV v o r h p:=by
 unfold enV qBI
 rw [he,if_neg h0]
theorem qZq{v:Nat}{o r:xA}{h:Int}{p:xA}(hv:v<1∨4294967295<v):qBf v o r h p=13:=if_pos hv
theorem qQe{o r:xA}{h:Int}(he: ¬qBJ o r h=0):qBJ o r h=10:=by
 unfold qBJ at he⊢
 split at he
 · omega
 · rename_i h1;rw [if_neg h1]
theorem en_10{v:Nat}{o r:xA}{h:Int}{p:xA}(h1: ¬v<1)(h2: ¬4294967295<v)(he: ¬qBJ o r h=0):qBf v o r h p=10:=by
 unfold qBf
 rw [if_neg xB,if_neg (λe=>he e.1)]
theorem qZo{v:Nat}{o r:xA}{h:Int}{p:xA}(h1: ¬v<1)(h2: ¬4294967295<v)(he:qBJ o r h=0):
    Value.tuple #[Str (if qCU (okF p 16) 10 0=0 then qLa p 16 (Sha.numB (UInt64.ofNat v) 4++qBM o r h) 0 else []),I (qCU (okF p 16) 10 0)]=enV v o r h p:=by
  unfold enV qBI
  by_cases h3:p.length=16
  · have e:qBf v o r h p=0:=by unfold qBf;rw [if_neg xB,if_pos ⟨he,h3⟩]
    rw [e,qL6 h3,qCB,if_pos rfl,if_pos rfl,qGb h3]
  · have e:qBf v o r h p=10:=by unfold qBf;rw [if_neg xB,if_neg (λe=>h3 e.2)]
    have e2:qCU (okF p 16) 10 0=10:=by rw [okF_f h3];rfl
    rw [e,e2,if_neg xC,if_neg xC]
theorem qIQ(F:Hp)(v:Nat)(o r:xA)(h:Int)(p:xA)(hv:v<18446744073709551616)(ho:o.length≤1048576)(hr:r.length≤1048576)(hp:p.length≤1048576):
    Cz prog 45 [.agg #[N64 v,Str o,Str r,I h,Str p]] F (enV v o r h p):=by
  refine Ct.walk func45 O ntmps45 O (λw0 hw0=>?_)
  refine J.g λ_ j1=>J.p (qAZ O O O) O λg1 _=>J.k 2 O<|J.c j1 ?_
  refine J.q λ_ j2=>J.g λ_ j3=>J.M 0 qFQ qEW O O O O O<|J.a7 1 qFM O O O O O<|J.f (qAS O O O) O<|J.b O<|J.b9 (d:=10) O (λh10=>?_) (λh10=>?_)
  ·
    refine J.k 4 O<|J.c j3 ?_
    refine J.c3 ?_
    refine J.g λ_ j4=>J.k 2 O<|J.c j4 ?_
    exact J.A<|J.W<|J.b0 hw0 (λ_ _ h=>h) (qCK O O O) (qAn () (qR5 (qZq xB) xC) trivial [0] O xC)
  refine J.D (qAA O O qFQ O qEW O) O<|J.D (qAC 1 O O O qFM O) O<|J.D (qAz O O O) O<|J.b O<|J.c j3 ?_
  refine J.a0 O (λh14=>?_) (λh14=>?_)
  ·
    refine J.g λ_ j5=>J.k 2 O<|J.c j5 ?_
    exact J.A<|J.W<|J.b0 hw0 (λ_ _ h=>h) (qCK O O O) (qAn () (qR5 (qZq xB) xC) trivial [0] O xC)
  refine J.T j2 ?_
  refine J.g λ_ j6=>J.M 1 qFQ qEA O O O O O<|J.f (qE6 1 O O qLS qEA (vs:= [Str o,Str r,I h]) O (qAM.blk 1 (λj u hj=>by match j with|0=>exact hj|1=>exact hj|2=>exact hj)) O) O<|J.p (qAa O O (λF' hF=>qEI F' o r h ho hr)) O λg18 _=>J.k 5 O<|J.c j6 ?_
  refine J.q λ_ j7=>J.g λ_ j8=>J.b O<|J.f (qAe O O O) O<|J.c j8 ?_
  refine J.a0 O (λh22=>?_) (λh22=>?_)
  ·
    refine J.g λ_ j9=>J.k 3 O<|J.c j9 ?_
    exact J.A<|J.W<|J.b0 hw0 (λ_ _ h=>h) (qCK O O O) (qAn () (qR5 ((en_10 xB xB xB).trans (qQe xB).symm) xB) trivial [0] O xC)
  refine J.T j7 ?_
  refine J.q λ_ j10=>?_
  have hk0:qBJ o r h=0:=xB
  have hkl:=qFW hk0
  refine J.H<|J.p (qAJ O qKy O) O λg6 _=>J.c j10 ?_
  refine J.q λ_ j11=>J.b1 [blk g1 [N64 v,Str o,Str r,I h,Str p] 61] [] (.y 0 (.y 1 (.y 3 (.y 5 (.y 6 (.e 2 (.e 4 (.e 7 (.e 8 (.y 9 (.y 10 (.y 11 (.y 12 .nil))))))))))))) Tryz.wide xF xD ?_
  refine J.j O (qAA O O qFQ O qEW O) O O<|J.j O (qAC 0 O O O qFM O) O O<|J.L ?_
  refine J.j O (qAA O O qFQ O z9_ O) O O<|J.j O (qAC 0 O O O b9_ O) O O<|J.Z O (qAK O O ent (Ct.use1 2 O (λF' _=>qL7 F' (blk g6 [.pointer none,.slice none 0 0,I 0] 158) g6 [] 0 (qGV g6) xC v hv 4 xB xB))) O xD ?_
  rintro m26 hw26
  rw [qHj (size:=4) hv xB,qCB,qCm (qHj (size:=4) hv xB),jq] at hw26
  refine J.Z O (qAK O O ent (Ct.use1 2 O (λF' _=>qDY F' m26 g6 (Sha.numB (UInt64.ofNat v) 4) 0 hw26 (by rw [Sha.numB_length];omega) (qBM o r h) xB 33))) O xD ?_
  rintro m28 hw28
  rw [qGb hkl,qL6 hkl,qCB] at hw28
  refine J.Z O (qAK O O ent (Ct.use1 2 O (λF' _=>qDY F' m28 g6 ((Sha.numB (UInt64.ofNat v) 4)++qBM o r h) 0 hw28 (by rw [jA,Sha.numB_length];omega) p xB 16))) O xD ?_
  rintro m31 hw31
  refine J.Z O (qAK O O ent (Ct.use1 2 O (λF' _=>qDa F' m31 g6 (qLa p 16 ((Sha.numB (UInt64.ofNat v) 4)++qBM o r h) 0) (qCU (okF p 16) 10 0) hw31 (by have:=qEB p 16 ((Sha.numB (UInt64.ofNat v) 4)++qBM o r h) 0;rw [jA,Sha.numB_length] at this;omega)))) O xD ?_
  rintro m32 hw32
  refine J.c2 (Str (if qCU (okF p 16) 10 0=0 then qLa p 16 ((Sha.numB (UInt64.ofNat v) 4)++qBM o r h) 0 else [])) ?_
  refine J.c2 (I (qCU (okF p 16) 10 0)) ?_
  refine J.b7 ?_
  refine J.b7 ?_
  refine J.a9<|J.u (J.G j11 ?_)
  exact J.A<|J.b0 hw0 (λ_ _ h=>h) (qCK O O O) (qAn () (qZo xB xB hk0) trivial [0] O xC)
def deE(s:xA):Int:=if s.length<53 then 3 else if 53<s.length then 2 else if 6<(s.getD 36 0).toNat then 4 else if qFb (s.take 4)<1 then 13 else 0
def deN(s:xA):Nat:=if deE s=0 then qFb (s.take 4) else 0
def qCV(v:Nat)(o r:xA)(h:Int)(p:xA):xA:=if qBf v o r h p=0 then Sha.tagged 12 [qBI v o r h p] else []
theorem qCS{v:Nat}{o r:xA}{h:Int}{p:xA}(he:qBf v o r h p=0):(qBI v o r h p).length=53:=by
  unfold qBI
  rw [if_pos he]
  unfold qBf at he
  split at he
  · omega
  · split at he
    · rename_i h2
      rw [jA,jA,Sha.numB_length,qFW h2.1,h2.2]
    · omega
structure En where
 v:Nat
 o:xA
 r:xA
 h:Int
 p:xA
 deriving DecidableEq
def En.cells(x:En):List Value:= [N64 x.v,Str x.o,Str x.r,I x.h,Str x.p]
def En.good(x:En):Prop:=x.v<18446744073709551616∧x.o.length≤1048576∧x.r.length≤1048576∧x.p.length≤1048576
def En.val(x:En):xA:=qCV x.v x.o x.r x.h x.p
def En.next(x y:En):Int:=if x.v=18446744073709551615∨y.v≠x.v+1 then 13 else if x.val= []∨y.p≠x.val then 15 else 0
def En.chain:List En→Int
 | []=>0
 | [_]=>0
 |x::y::r=>if x.next y≠0 then x.next y else En.chain (y::r)
def En.hist:List En→Int
 | []=>20
 |x::r=>if x.v≠1 then 13 else if x.p≠qAh then 15 else En.chain (x::r)
theorem qDC(F:Hp)(hK:KF F)(v:Nat)(o r:xA)(h:Int)(p:xA)(hv:v<18446744073709551616)(ho:o.length≤1048576)(hr:r.length≤1048576)(hp:p.length≤1048576):
    Cz prog 15 [.agg #[N64 v,Str o,Str r,I h,Str p]] F (Str (qCV v o r h p)):=by
  refine Ct.walk func15 O ntmps15 O (λw0 hw0=>?_)
  refine J.g λ_ j1=>J.p (qAZ O O O) O λg1 _=>J.b O<|J.c j1 ?_
  refine J.g λ_ j2=>J.b8 1 qC6 qBY O O O O O<|J.p (qAa O O (λF' hF=>qIQ F' v o r h p hv ho hr hp)) O λg7 _=>J.k 5 O<|J.c j2 ?_
  refine J.q λ_ j3=>J.g λ_ j4=>J.b O<|J.f (qAe O O O) O<|J.c j4 ?_
  refine J.a0 O (λh11=>?_) (λh11=>?_)
  ·
    refine J.g λ_ j5=>J.b O<|J.c j5 ?_
    exact J.A<|J.W<|J.E hw0 O () (by unfold qCV;rw [if_neg xB]) trivial [0] O xC
  refine J.T j3 ?_
  refine J.q λ_ j6=>?_
  have he0:qBf v o r h p=0:=xB
  refine J.H<|J.b O<|J.p (qAE (l:= [.tmp 12]) (xs:= [[Str (qBI v o r h p)]]) O O O O qAk el9 O xC xC xD) O λg13 _=>J.p (qAa O O (λF' hF=>qA6 F' (hK.mono (Fa hF)) 12 (some ⟨g13,0,none⟩) 1 1 [qBI v o r h p] ((slS [qBI v o r h p] O).mono (hF (blk g13 (([qBI v o r h p]:List xA).map λs=>Str s) 9) xD)) (by have:=qCS he0;simp [this]) xC)) O λg14 _=>J.b O<|J.c j6 ?_
  exact J.A<|J.E hw0 O () (by unfold qCV;rw [if_pos he0]) trivial [0] O xC
theorem qFG(F:Hp)(hK:KF F)(s:xA)(hs:s.length≤1048576):
    Cz prog 39 [Str s] F (Str (Sha.tagged 11 [s])):=by
  refine Ct.walk func39 O ntmps39 O (λw0 hw0=>?_)
  refine J.g λ_ j1=>J.b O<|J.c j1 ?_
  refine J.g λ_ j2=>J.b O<|J.p (qAE (l:= [.tmp 3]) (xs:= [[Str (s)]]) O O O O qAk el9 O xC xC xD) O λg4 _=>J.p (qAa O O (λF' hF=>qA6 F' (hK.mono (Fa hF)) 11 (some ⟨g4,0,none⟩) 1 1 [s] ((slS [s] O).mono (hF (blk g4 (([s]:List xA).map λs=>Str s) 9) xD)) xK xC)) O λg5 _=>J.b O<|J.c j2 ?_
  exact J.A<|J.E hw0 O () O trivial [0] O xC
theorem qUt(F:Hp)(hK:KF F)(x y:En)(hx:x.good)(hy:y.good):
    Cz prog 99 [.agg x.cells.toArray,.agg y.cells.toArray] F (I (x.next y)):=by
  obtain ⟨hx1,hx2,hx3,hx4⟩:=hx
  obtain ⟨hy1,hy2,hy3,hy4⟩:=hy
  have hxv:x.val=qCV x.v x.o x.r x.h x.p:=rfl
  refine Ct.walk func99 O ntmps99 O (λw0 hw0=>?_)
  refine J.g λ_ j1=>J.p (qAZ O O O) O λg2 _=>J.p (qAZ O O O) O λg3 _=>?_
  change J _ _ _ [_,_,blk g3 [N64 y.v,Str y.o,Str y.r,I y.h,Str y.p] 61] _
  refine J.b O<|J.c j1 ?_
  refine J.q λ_ j2=>J.g λ_ j3=>J.b8 1 qC6 qBY O O O O O<|J.p (qAa O O (λF' hF=>qDC F' (hK.mono (Fa hF)) x.v x.o x.r x.h x.p hx1 hx2 hx3 hx4)) O λg7 _=>J.b O<|J.c j3 ?_
  refine J.V<|J.g λ_ j4=>J.M 0 qFQ qEW O O O O O<|J.a7 1 qFM O O O O O<|J.f (qAX O O O) O<|J.b O<|J.b9 (d:=12) O (λh12=>?_) (λh12=>?_)
  ·
    refine J.k 8 O<|J.c j4 ?_
    refine J.c3 ?_
    refine J.g λ_ j5=>J.b O<|J.c j5 ?_
    exact J.A<|J.a8<|J.W<|J.E hw0 O () (congrArg I (by unfold En.next;rw [if_pos xB])) trivial [0] O xC
  refine J.D (qAA (j:=0) O O qFQ O qEW O) O<|J.D (qAC 2 O O O qFM O) O<|J.D (qAA (j:=0) O O qFQ O qEW O) O<|J.D (qAC 1 O O O qFM O) O<|J.D (qG8 (b:=1) O O O xB) O<|J.D (qAe O O O) O<|J.k 2 O<|J.c j4 ?_
  refine J.a0 O (λh8=>?_) (λh8=>?_)
  ·
    refine J.g λ_ j6=>J.b O<|J.c j6 ?_
    exact J.A<|J.a8<|J.W<|J.E hw0 O () (congrArg I (by unfold En.next;rw [if_pos xB])) trivial [0] O xC
  refine J.g λ_ j7=>J.b O<|J.f (qBA O O O) O<|J.b O<|J.b9 (d:=23) O (λh23=>?_) (λh23=>?_)
  ·
    refine J.k 6 O<|J.c j7 ?_
    refine J.c3 ?_
    refine J.g λ_ j8=>J.b O<|J.c j8 ?_
    exact J.A<|J.a8<|J.W<|J.E hw0 O () (congrArg I (by unfold En.next;rw [if_neg xB,if_pos (.inl h23)])) trivial [0] O xC
  refine J.D (qAA (j:=4) O O qFQ O z9_ O) O<|J.D (qAC 2 O O O b9_ O) O<|J.b O<|J.D (qDv O O O) O<|J.k 2 O<|J.c j7 ?_
  refine J.a0 O (λh20=>?_) (λh20=>?_)
  ·
    refine J.g λ_ j9=>J.b O<|J.c j9 ?_
    exact J.A<|J.a8<|J.W<|J.E hw0 O () (congrArg I (by unfold En.next;rw [if_neg xB,if_pos (.inr h20)])) trivial [0] O xC
  refine J.b5<|J.a3<|J.u (J.G j2 ?_)
  refine J.g λ_ j10=>J.b O<|J.c j10 ?_
  exact J.A<|J.E hw0 O () (congrArg I (by unfold En.next;rw [if_neg xB,if_neg (λe=>e.elim h23 h20)])) trivial [0] O xC
def qA9:En:=⟨0,[],[],0,[]⟩
theorem qGQ{l:List En}{j:Nat}(h:j<l.length):(l.map En.cells)[j]?=some (l.getD j qA9).cells:=by rw [jN,qAi qA9 h];rfl
theorem qFF{l:List En}(h:0<l.length):En.hist l=if(l.getD 0 qA9).v≠1 then 13 else if(l.getD 0 qA9).p≠qAh then 15 else En.chain l:=by
 cases l with
 |nil=>simp at h
 |cons x r=>rfl
theorem qIU{l:List En}{k:Nat}(h:k+1<l.length):En.chain (l.drop k)=if(l.getD k qA9).next (l.getD (k+1) qA9)≠0 then(l.getD k qA9).next (l.getD (k+1) qA9) else En.chain (l.drop (k+1)):=by
 rw [zE (show k<l.length by omega),zE h]
 rw [jB,jB,jC (show k<l.length by omega),jC h];rfl
theorem qSL{l:List En}{k:Nat}(h:k+1=l.length):En.chain (l.drop k)=0:=by
 rw [zE (show k<l.length by omega),jr xB];rfl
theorem qKs{l:List En}{k:Nat}(hg: ∀x∈l,x.good)(h:k<l.length):(l.getD k qA9).good:=by
 rw [jB,jC h]
 exact hg _ (ja h)
theorem qKx(F:Hp)(A:Option Addr)(c:Nat):
    Cz prog 43 [.slice A 0 c] F (I 20):=by
  refine Ct.walk func43 O ntmps43 O (λw0 hw0=>?_)
  refine J.g λ_ j1=>J.b O<|J.c j1 ?_
  refine J.q λ_ j2=>J.V<|J.g λ_ j3=>J.b O<|J.f (qAR qDJ O O) O<|J.f ((qAX O O O).yes xC) O<|J.b O<|J.c j3 ?_
  refine J.c3 ?_
  refine J.g λ_ j4=>J.b O<|J.c j4 ?_
  exact J.A<|J.a8<|J.W<|J.E hw0 O () O trivial [0] O xC
theorem qCg(F:Hp)(hK:KF F)(l:List En)(hg: ∀x∈l,x.good)(g o c:Nat)(hl:Sl F 5 (some ⟨g,o,none⟩) l.length c (l.map En.cells))(hn:0<l.length)(hn2:l.length≤1073741824):
    Cz prog 43 [.slice (some ⟨g,o,none⟩) l.length c] F (I (En.hist l)):=by
  refine Ct.walk func43 O ntmps43 O (λw0 hw0=>?_)
  refine J.g λ_ j1=>J.b O<|J.c j1 ?_
  refine J.q λ_ j2=>J.V<|J.g λ_ j3=>J.b O<|J.f (qAR qDJ O O) O<|J.f ((qAX O O O).no xB) O<|J.b O<|J.c j3 ?_
  refine J.a2 ?_
  refine J.g λ_ j4=>J.b O<|J.f (qAF O O O qDJ qBY hl (hn)) O<|J.f ((qAA (g:=g) O O qFQ O qEW O)) O<|J.f (qAI O O qFM (m:=F) xD (hl.cell (i:=0) (x:=(l.getD 0 qA9).cells) (qGQ hn) (k:=0) (v:=N64 (l.getD 0 qA9).v) O)) O<|J.f (qAe O O O) O<|J.b O<|J.c j4 ?_
  refine J.a0 O (λh9=>?_) (λh9=>?_)
  ·
    refine J.g λ_ j5=>J.b O<|J.c j5 ?_
    exact J.A<|J.a8<|J.W<|J.E hw0 O () (congrArg I (by rw [qFF hn,if_pos xB])) trivial [0] O xC
  refine J.q λ_ j6=>J.b1 [F] [] (.y 0 (.y 1 (.y 2 (.y 3 (.e 4 (.y 5 (.y 6 .nil))))))) Tryz.wide xF xD ?_
  refine J.L ?_
  refine J.j O (qAF O O O qDJ qBY hl (hn)) O O<|J.j O ((qAA (g:=g) O O qFQ O z9_ O)) O O<|J.j O (qAI O O b9_ (m:=F) xD (hl.cell (i:=0) (x:=(l.getD 0 qA9).cells) (qGQ hn) (k:=4) (v:=Str (l.getD 0 qA9).p) O)) O O<|J.Z O (qAa O O (λF' hF=>qGp F' 16 xC xC)) O xD λg20 _=>J.j O (qDv O O O) O O<|J.b7 ?_
  refine J.a9<|J.u (J.G j6 ?_)
  refine J.a0 O (λh15=>?_) (λh15=>?_)
  ·
    change(l.getD 0 qA9).p≠qAh at h15
    refine J.g λ_ j7=>J.b O<|J.c j7 ?_
    exact J.A<|J.a8<|J.W<|J.E hw0 O () (congrArg I (by rw [qFF hn,if_neg xB,if_pos h15])) trivial [0] O xC
  change¬(l.getD 0 qA9).p≠qAh at h15
  refine J.b5<|J.a3<|J.u (J.G j2 ?_)
  refine J.q λ_ j8=>J.g λ_ j9=>J.b O<|J.f (qAR qDJ O O) O<|J.f (qA3 O O O xB) O<|J.b O<|J.c j9 ?_
  refine J.V<|J.b6 (X:=Nat) (λk=> [(0,.slice (some ⟨g,o,none⟩) l.length c),(24,I ((l.length:Int)-1)),(25,I k)]) (λ_=> [F]) (λk=>k+1≤l.length∧En.chain (l.drop k)=En.chain l) (λk=>l.length-k) 0 (⟨xB,O⟩) ⟨O,O,O,trivial⟩ (λ_ h=>h) ?_
  intro k ⟨hk,hch⟩ I0 hI0
  refine J.g λ_ j10=>J.f (qAS O O O) O<|J.c j10 ?_
  refine J.q λ_ j11=>J.a0 O (λh26=>?_) (λh26=>?_)
  ·
    refine J.T j11 ?_
    refine J.q λ_ j12=>J.V<|J.g λ_ j13=>J.k 2 O<|J.c j13 ?_
    refine J.q λ_ j14=>J.b1 [F] [] (.y 0 (.y 1 (.y 2 (.y 3 (.y 4 (.y 5 (.y 6 (.y 7 (.y 8 (.e 9 (.y 10 .nil))))))))))) Tryz.wide xF xD ?_
    refine J.L ?_
    refine J.L ?_
    refine J.j O (qAF O O O qDJ qBY hl xB) O O<|J.j O (qAV O O qC6 qBY (m:=F) xD (hl.elem (qGQ xB)) O) O O<|J.L ?_
    refine J.L ?_
    refine J.j O ((qAQ O O O xB).nat (k+1) xB) O O<|J.j O (qAF O O O qDJ qBY hl xB) O O<|J.j O (qAV O O qC6 qBY (m:=F) xD (hl.elem (qGQ xB)) O) O O<|J.Z O (qAa O O (λF' hF=>qUt F' (hK.mono (Fa hF)) (l.getD k qA9) (l.getD (k+1) qA9) (qKs hg xB) (qKs hg xB))) O xD λg37 _=>J.b7 ?_
    refine J.a9<|J.u (J.G j14 ?_)
    refine J.g λ_ j15=>J.b O<|J.f (qAe O O O) O<|J.c j15 ?_
    refine J.a0 O (λh39=>?_) (λh39=>?_)
    ·
      refine J.g λ_ j16=>J.k 2 O<|J.c j16 ?_
      exact J.A<|J.a8<|J.W<|J.W<|J.a8<|J.W<|J.E hw0 O () (congrArg I (by rw [qFF hn,if_neg xB,if_neg h15,←hch,qIU (l:=l) (k:=k) xB,if_pos xB])) trivial [0] O xC
    refine J.b5<|J.a3<|J.u (J.G j12 ?_)
    exact J.H<|J.f ((qAQ O O O xB).nat (k+1) xB) O<|J.b O<|J.a4<|J.u<|J.a5 (k+1) (λx (hx:_∧l.length-x<l.length-k)=>hI0 x hx.1 hx.2) ⟨⟨xB,by have:=qIU (l:=l) (k:=k) xB;rw [if_neg xB] at this;rw [←this];exact hch⟩,xB⟩ ⟨O,O,O,trivial⟩ (λ_ h=>h)
  refine J.b3<|J.a1<|J.a1<|J.b4 ?_
  refine J.u (J.G j8 ?_)
  refine J.q λ_ j17=>?_
  have hce:=qSL (l:=l) (k:=k) xB
  refine J.H<|J.b O<|J.c j17 ?_
  exact J.A<|J.E hw0 O () (congrArg I (by rw [qFF hn,if_neg xB,if_neg h15,←hch,hce])) trivial [0] O xC
theorem qHQ(F:Hp)(hK:KF F)(l:List En)(hg: ∀x∈l,x.good)(A:Option Addr)(n c:Nat)(hl:Sl F 5 A n c (l.map En.cells))(hn2:n≤1073741824):
    Cz prog 43 [.slice A n c] F (I (En.hist l)):=by
  have hln:l.length=n:=by have:=hl.1;rwa [jO] at this
  subst hln
  cases l with
  |nil=>exact qKx F A c
  |cons x r=>
    obtain ⟨g,o,rfl⟩:=hl.at (by rw [jD];omega)
    exact qCg F hK (x::r) hg g o c hl (by rw [jD];omega) hn2
theorem en_0{v:Nat}{o r:xA}{h:Int}{p:xA}(h1: ¬v<1)(h2: ¬4294967295<v)(h3: ¬h<0)(h4: ¬6<h)(ho:o.length=16)(hr:r.length=16)(hp:p.length=16):qBf v o r h p=0∧qBI v o r h p=Sha.numB (UInt64.ofNat v) 4++o++r++ [UInt8.ofNat h.toNat]++p:=by
 have hq:qGr o r h:=⟨xB,xB,ho,hr⟩
 have e:qBf v o r h p=0:=by
  unfold qBf qBJ
  rw [if_neg xB,if_pos hq,if_pos ⟨rfl,hp⟩]
 refine⟨e,?_⟩
 unfold qBI qBM
 rw [if_pos e,if_pos hq]
 simp
theorem qYe(a b:Nat):(((a:Int)==(b:Int))=decide (a=b)):=by
 by_cases h:a=b
 · simp [h]
 · rw [decide_eq_false h,beq_eq_false_iff_ne];omega
theorem eqEn(x y:En)(w:World):(Op.equalIn 10000 61 (.agg x.cells.toArray) (.agg y.cells.toArray)).run prog w= .ok (decide (x=y)) w:=by
 have uu:=qEd
 have au:=qFM
 have us:=u9_
 have ag:=b9_
 have ap:=qLS
 have zp:=qEA
 have hS:prog.underlying 61=some (.struct (prog.fieldsOf 61)):=xI
 have hp:prog.stoodInHeld 61=false:=xI
 rw [show(10000:Nat)=9999+1 from rfl,run_equalIn_struct w 9999 61 _ _ hS hp]
 simp only [Program.fieldsOf,qFQ]
 obtain ⟨v,o,r,h,p⟩:=x
 obtain ⟨v',o',r',h',p'⟩:=y
 have hi: ∀(a b:Int) (w:World),(Op.equalIn 9999 31 (.int .u64 a) (.int .u64 b)).run prog w= .ok (a==b) w:=λa b w=>run_equalIn_int w 9998 31 .u64 .u64 a b uu
 have hs: ∀(a b:xA) (w:World),(Op.equalIn 9999 9 (Str a) (Str b)).run prog w= .ok (decide (a=b)) w:=λa b w=>by rw [run_equalIn_string w 9998 9 _ _ us,qFL]
 have hq:=qZm 9997 o r o' r' h h'
 simp only [Op.eqFields,En.cells]
 simp [part,au,ag,ap,zp,hi,hs,qYe,hq]
 by_cases h1:v=v'<;>by_cases h2:p=p'<;>by_cases h3:o=o'<;>by_cases h4:r=r'<;>by_cases h5:h=h'<;>simp [h1,h2,h3,h4,h5]
theorem qKw{v:Nat}{o r:xA}{h:Int}{p:xA}(he:qBf v o r h p=0):1≤v∧v≤4294967295∧(0≤h∧h≤6)∧o.length=16∧r.length=16∧p.length=16:=by
  unfold qBf at he
  split at he
  · omega
  · split at he
    · rename_i h1 h2
      have h3:=h2.1
      unfold qBJ at h3
      split at h3
      · rename_i h4
        have h5:=h4
        unfold qGr at h5
        omega
      · omega
    · omega
attribute [local irreducible] Sha.tagged Wo.pub Wo.publicOf Wo.signs Wo.ends Wo.digs Wo.walk Wo.opn Mk.root Mk.path Mk.climb Xm.root sgC sgP qBI qBf
theorem qGK(F:Hp)(v:Nat)(o r:xA)(h:Int)(p:xA)(hv:v<18446744073709551616)(ho:o.length≤1048576)(hr:r.length≤1048576)(hp:p.length≤1048576):Cz prog 45 [.agg #[N64 (v),Str (o),Str (r),I (h),Str (p)]] F (.tuple #[Str (qBI v o r h p),I (qBf v o r h p)]):=qIQ F v o r h p hv ho hr hp
def qFz(s:xA)(v:Nat)(o r:xA)(h:Int)(p:xA):xA:=Sha.tagged 13 [s,qBI v o r h p]
theorem qNH(s:xA)(v:Nat)(o r:xA)(h:Int)(p:xA):(qFz s v o r h p).length=16:=Sha.tagged_length _ _
theorem qI1(F:Hp)(hK:KF F)(s:xA)(hsl:s.length≤1000000)(v:Nat)(o r:xA)(h:Int)(p:xA)(hE:qBf v o r h p=0):Cz prog 62 [Str (s),.agg #[N64 (v),Str (o),Str (r),I (h),Str (p)]] F (Str (qFz (s) (v) (o) (r) (h) (p))):=by
 obtain ⟨e1,e2,⟨e3,e4⟩,e5,e6,e7⟩:=qKw hE
 have el:=qCS hE
 refine Ct.walk func62 O ntmps62 O (λw0 hw0=>?_)
 refine J.g λ_ j1=>J.p (qAZ O O O) O λg3 _=>J.b O<|J.c j1 ?_
 refine J.g λ_ j2=>J.b8 1 qC6 qBY O O O O O<|J.p (qAa O O (λF' hF=>qGK F' v o r h p xH xH xH xH)) O λg9 _=>J.k 5 O<|J.c j2 ?_
 refine J.q λ_ j3=>J.g λ_ j4=>J.b O<|J.f ((qAe O O O).no xB) O<|J.c j4 ?_
 refine J.a2 ?_
 refine J.T j3 ?_
 refine J.g λ_ j5=>J.k 2 O<|J.p (qAE (l:= [.tmp 14,.tmp 15]) (xs:= [[Str (s)],[Str (qBI (v) (o) (r) (h) (p))]]) O O O O qAk el9 O xC xC xD) O λg16 _=>J.p (qAa O O (λF' hF=>qA6 F' (hK.mo hF) 13 (some ⟨g16,0,none⟩) 2 2 ([s,qBI (v) (o) (r) (h) (p)]) (((qA7 (q:=True) (qAG [s,qBI (v) (o) (r) (h) (p)]) O (by simp [qAG]) O).sl).mono (hF (blk g16 [Str (s),Str (qBI (v) (o) (r) (h) (p))] 9) xD)) (by first|(simp;omega)|(simp;done)|decide) xB)) O λg17 _=>J.b O<|J.c j5 ?_
 exact J.A<|J.E hw0 O () (by unfold qFz;rfl) trivial [0] O xC
theorem qT2(F:Hp)(hK:KF F)(g:Nat)(seed:xA)(kh:Nat)(hk:qVS F g seed kh)(hs6:seed.length≤1048576)(h6:kh≤6)(i:Nat)(hi:i<2^kh)(s:xA)(hsl:s.length≤1000000)(v:Nat)(o r:xA)(h:Int)(p:xA)(hE:qBf v o r h p=0):Ct prog 24 [Ptr g,I (i:Nat),Str s,.agg #[N64 (v),Str (o),Str (r),I (h),Str (p)]] [F] (λx:(Option Addr×Nat×Hp)×(Option Addr×Nat×Hp)=> .tuple #[.agg #[Str s,N64 v,Str o,Str r,I h,Str p,I (i:Nat),.slice x.1.1 (sgC seed i (qFz (s) (v) (o) (r) (h) (p))).length x.1.2.1,.slice x.2.1 (sgP seed kh i).length x.2.2.1],I (0:Nat)]) (λx=>Row x.1.2.2 9 1 x.1.1 (sgC seed i (qFz (s) (v) (o) (r) (h) (p))).length x.1.2.1 (qAG (sgC seed i (qFz (s) (v) (o) (r) (h) (p))))∧Row x.2.2.2 9 1 x.2.1 (sgP seed kh i).length x.2.2.1 (qAG (sgP seed kh i))) (λx=> [F,x.1.2.2,x.2.2.2]):=by
 obtain ⟨e1,e2,⟨e3,e4⟩,e5,e6,e7⟩:=qKw hE
 have el:=qCS hE
 have eml:=qNH s v o r h p
 refine Ct.walk func24 O ntmps24 O (λw0 hw0=>?_)
 refine J.g λ_ j1=>J.p (qAZ O O O) O λg7 _=>J.p (qAJ O zeroValue101 O) O λg8 _=>J.b O<|J.c j1 ?_
 refine J.q λ_ j2=>J.g λ_ j3=>J.b8 1 qC6 qBY O O O O O<|J.p (qAa O O (λF' hF=>qGK F' v o r h p xH xH xH xH)) O λg16 _=>J.k 5 O<|J.c j3 ?_
 refine J.g λ_ j4=>J.b O<|J.f ((qAe O O O).no xB) O<|J.c j4 ?_
 refine J.a2 ?_
 refine J.T j2 ?_
 refine J.g λ_ j5=>J.k 3 O<|J.b8 1 qC6 qBY O O O O O<|J.p (qAa O O (λF' hF=>qI1 F' (hK.mo hF) s xH v o r h p xH)) O λg28 _=>J.p (qBr O O (λF' hF=>qJq F' (hK.mo hF) g seed kh (hk.mono (Fa hF)) (by first|assumption|decide) (by first|assumption|decide) i xB (qFz (s) (v) (o) (r) (h) (p)) xB)) O ?_
 rintro⟨⟨A29,c29,m29⟩,⟨B29,d29,n29⟩⟩ ⟨h29,k29⟩
 refine J.k 3 O<|J.p (qAJ O zeroValue68 O) O λg12 _=>J.a6 (qAD (i:=5) (l:= [I 0,.slice none 0 0,.slice none 0 0]) (vs:= [I (i:Nat),.slice A29 ((sgC seed i (qFz (s) (v) (o) (r) (h) (p))).length) c29,.slice B29 ((sgP seed kh i).length) d29]) O O O O O qLO O O) O O λ_ _=>J.b O<|J.c j5 ?_
 refine J.q λ_ j6=>J.g λ_ j7=>J.b O<|J.f ((qAe O O O).no xC) O<|J.c j7 ?_
 refine J.a2 ?_
 refine J.T j6 ?_
 refine J.g λ_ j8=>J.b O<|J.b8 1 qC6 qBY O O O O O<|J.b8 5 isAgg68 qLO O O O O O<|J.f (qAH (places:= [(0,1),(1,5),(6,3)]) (r:= [Str (s),N64 (v),Str (o),Str (r),I (h),Str (p),I (i:Nat),.slice A29 ((sgC seed i (qFz (s) (v) (o) (r) (h) (p))).length) c29,.slice B29 ((sgP seed kh i).length) d29]) O O O qB7 zeroValue101 (λ_=>xI) xI) O<|J.a6 (qAD (i:=2) (l:= [Str [],.int .u64 0,Str [],Str [],I 0,Str [],I 0,.slice none 0 0,.slice none 0 0]) (vs:= [Str (s),N64 (v),Str (o),Str (r),I (h),Str (p),I (i:Nat),.slice A29 ((sgC seed i (qFz (s) (v) (o) (r) (h) (p))).length) c29,.slice B29 ((sgP seed kh i).length) d29]) O O O O O sizeOf101 O O) O O λ_ _=>J.b O<|J.c j8 ?_
 exact J.A<|J.b0 hw0 (λ_ _ h=>h) (rv2 O (RV.blkA 2 O O isAgg101 sizeOf101) O) (qAn ((A29,c29,m29),(B29,d29,n29)) O ⟨h29,k29⟩ [0,3,4] O xC)
end Go.Proofs.YtcgcjaflllmlpaaGreatDoor
namespace Go.Proofs.YtcgcjaflllmlpaaGreatDoor
open Go Go.Fw Go.Proofs.Tryz
attribute [local irreducible] Sha.tagged Wo.pub Wo.publicOf Wo.signs Wo.ends Wo.digs Wo.walk Wo.opn Mk.root Mk.path Mk.climb Xm.root sgC sgP qBI qBf sgB
theorem qTh(F:Hp)(i:Nat)(A1:Option Addr)(n1 c1:Nat)(ch:List xA)(hch:Sl F 1 A1 n1 c1 (qAG ch))(A2:Option Addr)(n2 c2:Nat)(pt:List xA)(hpt:Sl F 1 A2 n2 c2 (qAG pt))(hi:i≤63)(h35:ch.length=35)(hn6:pt.length≤6)(hc16: ∀s∈ch,s.length=16)(hp16: ∀s∈pt,s.length=16):Cz prog 133 [.agg #[I (i:Nat),.slice A1 n1 c1,.slice A2 n2 c2]] F (.tuple #[Str (sgB i ch pt),I (0:Nat)]):=by
 have e1:ch.length=n1:=by have:=hch.1;simpa [qAG] using this
 have e2:pt.length=n2:=by have:=hpt.1;simpa [qAG] using this
 rw [h35] at e1
 subst e1
 exact qOj F i A1 c1 ch hch A2 n2 c2 pt hpt hi xB hc16 hp16
def u1(s:xA):RS:=(⟨s,0⟩:RS).textR
def u2(s:xA):RS:=(u1 s).textR
def u3(s:xA):RS:=(u2 s).textR
def upB(a b c:xA):xA:=tb a++tb b++tb c
theorem qIi(a b c:xA):(upB a b c).length=6+a.length+b.length+c.length:=by unfold upB;simp only [jA,qFo];omega
theorem qKN(F:Hp)(s:xA)(hs4:s.length≤4096)(v:Nat)(o r:xA)(h:Int)(p:xA)(hE:qBf v o r h p=0)(i:Nat)(A1:Option Addr)(n1 c1:Nat)(ch:List xA)(hch:Sl F 1 A1 n1 c1 (qAG ch))(A2:Option Addr)(n2 c2:Nat)(pt:List xA)(hpt:Sl F 1 A2 n2 c2 (qAG pt))(hi:i≤63)(h35:ch.length=35)(hn6:pt.length≤6)(hc16: ∀s∈ch,s.length=16)(hp16: ∀s∈pt,s.length=16):Cz prog 65 [.agg #[Str (s),N64 (v),Str (o),Str (r),I (h),Str (p),I (i:Nat),.slice A1 n1 c1,.slice A2 n2 c2]] F (.tuple #[Str (upB (s) (qBI (v) (o) (r) (h) (p)) (sgB (i) (ch) (pt))),I (0:Nat)]):=by
 obtain ⟨e1,e2,⟨e3,e4⟩,e5,e6,e7⟩:=qKw hE
 have el:=qCS hE
 have hsg:=qIu (i:=i) hc16 hp16 h35
 have hul:=qIi s (qBI v o r h p) (sgB i ch pt)
 refine Ct.walk func65 O ntmps65 O (λw0 hw0=>?_)
 refine J.g λ_ j1=>J.p (qAZ O O O) O λg1 _=>J.k 2 O<|J.c j1 ?_
 refine J.g λ_ j2=>J.M 1 qB7 qBY O O O O O<|J.f (qAV O O qC6 qBY (m:=blk g1 [Str (s),N64 (v),Str (o),Str (r),I (h),Str (p),I (i:Nat),.slice A1 n1 c1,.slice A2 n2 c2] 101) xD (qAM.blk0.sub 1 5) O) O<|J.p (qAa O O (λF' hF=>qGK F' v o r h p xH xH xH xH)) O λg11 _=>J.k 5 O<|J.c j2 ?_
 refine J.q λ_ j3=>J.g λ_ j4=>J.b O<|J.f ((qAe O O O).no xB) O<|J.c j4 ?_
 refine J.a2 ?_
 refine J.T j3 ?_
 refine J.g λ_ j5=>J.M 6 qB7 qLO O O O O O<|J.f (qAV O O isAgg68 qLO (m:=blk g1 [Str (s),N64 (v),Str (o),Str (r),I (h),Str (p),I (i:Nat),.slice A1 n1 c1,.slice A2 n2 c2] 101) xD (qAM.blk0.sub 6 3) O) O<|J.p (qAa O O (λF' hF=>qTh F' i A1 n1 c1 ch (hch.mono (Fa hF)) A2 n2 c2 pt (hpt.mono (Fa hF)) xH xH xH xH xH)) O λg20 _=>J.k 5 O<|J.c j5 ?_
 refine J.q λ_ j6=>J.g λ_ j7=>J.b O<|J.f ((qAe O O O).no xC) O<|J.c j7 ?_
 refine J.a2 ?_
 refine J.T j6 ?_
 refine J.g λ_ j8=>J.p (qAJ O qKy O) O λg7 _=>J.c j8 ?_
 refine J.g λ_ j9=>J.M 0 qB7 z9_ O O O O O<|J.a7 1 b9_ O O O O O<|J.p (qAK O O ent (Ct.use1 2 O (λF' hF=>qIm F' (blk g7 [.pointer none,.slice none 0 0,I 0] 158) g7 ([]) (wtrN g7) (by first|decide|omega|(simp only [jA,jD,jE,jI,Sha.numB_length,qFo]<;>omega)) s xM))) O ?_
 rintro m28 hw28
 rw [jq] at hw28
 refine J.b O<|J.p (qAK O O ent (Ct.use1 2 O (λF' hF=>qIm F' m28 g7 (tb (s)) hw28 (by first|decide|omega|(simp only [jA,jD,jE,jI,Sha.numB_length,qFo]<;>omega)) (qBI (v) (o) (r) (h) (p)) xM))) O ?_
 rintro m30 hw30
 refine J.b O<|J.p (qAK O O ent (Ct.use1 2 O (λF' hF=>qIm F' m30 g7 (tb (s)++tb (qBI (v) (o) (r) (h) (p))) hw30 (by first|decide|omega|(simp only [jA,jD,jE,jI,Sha.numB_length,qFo]<;>omega)) (sgB (i) (ch) (pt)) xM))) O ?_
 rintro m32 hw32
 refine J.p (qAK O O ent (Ct.use1 2 O (λF' hF=>qK9 F' m32 g7 (upB (s) (qBI (v) (o) (r) (h) (p)) (sgB (i) (ch) (pt))) hw32 (by first|decide|omega|(simp only [jA,jD,jE,jI,Sha.numB_length,qFo]<;>omega))))) O ?_
 rintro m33 hw33
 refine J.k 4 O<|J.c j9 ?_
 exact J.A<|J.b0 hw0 (λ_ _ h=>h) (qCK O O O) (qAn () O trivial [0] O xC)
end Go.Proofs.YtcgcjaflllmlpaaGreatDoor