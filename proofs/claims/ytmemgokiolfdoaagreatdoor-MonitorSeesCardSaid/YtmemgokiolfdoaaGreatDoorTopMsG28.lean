/- A part of the proof. -/
import Derived.Test.YtmemgokiolfdoaaGreatDoorTopMsG21
set_option maxRecDepth 100000
set_option maxHeartbeats 1000000
set_option linter.unusedSimpArgs false
set_option linter.unusedVariables false
namespace Go.Proofs.YtmemgokiolfdoaaGreatDoor
open Go Go.Fw Go.Proofs.Tryz
def qBX(v:Nat)(o r:xA)(h:Int)(p:xA):Int:=if v<1∨4294967295<v then 13 else if qBN o r h=0∧p.length=16 then 0 else 10
def qBH(v:Nat)(o r:xA)(h:Int)(p:xA):xA:=if qBX v o r h p=0 then Sha.numB (UInt64.ofNat v) 4++qBd o r h++p else []
def enV(v:Nat)(o r:xA)(h:Int)(p:xA):Value:= .tuple #[Str (qBH v o r h p),I (qBX v o r h p)]
theorem qSB{v:Nat}{o r:xA}{h:Int}{p:xA}{e:Int}(he:qBX v o r h p=e)(h0:e≠0):Value.tuple #[Str [],I e]=enV v o r h p:=by
 unfold enV qBH
 rw [he,if_neg h0]
theorem qZq{v:Nat}{o r:xA}{h:Int}{p:xA}(hv:v<1∨4294967295<v):qBX v o r h p=13:=if_pos hv
theorem qQj{o r:xA}{h:Int}(he: ¬qBN o r h=0):qBN o r h=10:=by
 unfold qBN at he⊢
 split at he
 · omega
 · rename_i h1;rw [if_neg h1]
theorem en_10{v:Nat}{o r:xA}{h:Int}{p:xA}(h1: ¬v<1)(h2: ¬4294967295<v)(he: ¬qBN o r h=0):qBX v o r h p=10:=by
 unfold qBX
 rw [if_neg xB,if_neg (λe=>he e.1)]
theorem qZp{v:Nat}{o r:xA}{h:Int}{p:xA}(h1: ¬v<1)(h2: ¬4294967295<v)(he:qBN o r h=0):
    Value.tuple #[Str (if qCV (okF p 16) 10 0=0 then qLu p 16 (Sha.numB (UInt64.ofNat v) 4++qBd o r h) 0 else []),I (qCV (okF p 16) 10 0)]=enV v o r h p:=by
  unfold enV qBH
  by_cases h3:p.length=16
  · have e:qBX v o r h p=0:=by unfold qBX;rw [if_neg xB,if_pos ⟨he,h3⟩]
    rw [e,qMM h3,qCB,if_pos rfl,if_pos rfl,qGk h3]
  · have e:qBX v o r h p=10:=by unfold qBX;rw [if_neg xB,if_neg (λe=>h3 e.2)]
    have e2:qCV (okF p 16) 10 0=10:=by rw [okF_f h3];rfl
    rw [e,e2,if_neg xC,if_neg xC]
theorem qIf(F:Hp)(v:Nat)(o r:xA)(h:Int)(p:xA)(hv:v<18446744073709551616)(ho:o.length≤1048576)(hr:r.length≤1048576)(hp:p.length≤1048576):
    Cz prog 107 [.agg #[N64 v,Str o,Str r,I h,Str p]] F (enV v o r h p):=by
  refine Ct.walk func107 O ntmps107 O (λw0 hw0=>?_)
  refine J.f λ_ j1=>J.q (qAb O O O) O λg1 _=>J.p 2 O<|J.c j1 ?_
  refine J.k λ_ j2=>J.f λ_ j3=>J.W 0 qCA qDs O O O O O<|J.a6 1 qEv O O O O O<|J.g (qAS O O O) O<|J.b O<|J.b9 (d:=10) O (λh10=>?_) (λh10=>?_)
  ·
    refine J.p 4 O<|J.c j3 ?_
    refine J.c3 ?_
    refine J.f λ_ j4=>J.p 2 O<|J.c j4 ?_
    exact J.A<|J.V<|J.a9 hw0 (λ_ _ h=>h) (qBw O O O) (qAg () (qSB (qZq xB) xC) trivial [0] O xC)
  refine J.G (qAA O O qCA O qDs O) O<|J.G (qAD 1 O O O qEv O) O<|J.G (qA5 O O O) O<|J.b O<|J.c j3 ?_
  refine J.Z O (λh14=>?_) (λh14=>?_)
  ·
    refine J.f λ_ j5=>J.p 2 O<|J.c j5 ?_
    exact J.A<|J.V<|J.a9 hw0 (λ_ _ h=>h) (qBw O O O) (qAg () (qSB (qZq xB) xC) trivial [0] O xC)
  refine J.M j2 ?_
  refine J.f λ_ j6=>J.W 1 qCA qCT O O O O O<|J.g (qFC 1 O O qGb qCT (vs:= [Str o,Str r,I h]) O (qAG.blk 1 (λj u hj=>by match j with|0=>exact hj|1=>exact hj|2=>exact hj)) O) O<|J.q (qAZ O O (λF' hF=>qEP F' o r h ho hr)) O λg18 _=>J.p 5 O<|J.c j6 ?_
  refine J.k λ_ j7=>J.f λ_ j8=>J.b O<|J.g (qAV O O O) O<|J.c j8 ?_
  refine J.Z O (λh22=>?_) (λh22=>?_)
  ·
    refine J.f λ_ j9=>J.p 3 O<|J.c j9 ?_
    exact J.A<|J.V<|J.a9 hw0 (λ_ _ h=>h) (qBw O O O) (qAg () (qSB ((en_10 xB xB xB).trans (qQj xB).symm) xB) trivial [0] O xC)
  refine J.M j7 ?_
  refine J.k λ_ j10=>?_
  have hk0:qBN o r h=0:=xB
  have hkl:=qFa hk0
  refine J.H<|J.q (qAJ O qLI O) O λg6 _=>J.c j10 ?_
  refine J.k λ_ j11=>J.b1 [blk g1 [N64 v,Str o,Str r,I h,Str p] 102] [] (.y 0 (.y 1 (.y 3 (.y 5 (.y 6 (.e 2 (.e 4 (.e 7 (.e 8 (.y 9 (.y 10 (.y 11 (.y 12 .nil))))))))))))) Tryz.wide xF xD ?_
  refine J.j O (qAA O O qCA O qDs O) O O<|J.j O (qAD 0 O O O qEv O) O O<|J.L ?_
  refine J.j O (qAA O O qCA O z9_ O) O O<|J.j O (qAD 0 O O O b9_ O) O O<|J.a1 O (qAK O O ent (Ct.use1 2 O (λF' _=>qMN F' (blk g6 [.pointer none,.slice none 0 0,I 0] 148) g6 [] 0 (qGe g6) xC v hv 4 xB xB))) O xD ?_
  rintro m26 hw26
  rw [qHv (size:=4) hv xB,qCB,qCq (qHv (size:=4) hv xB),jr] at hw26
  refine J.a1 O (qAK O O ent (Ct.use1 2 O (λF' _=>qDc F' m26 g6 (Sha.numB (UInt64.ofNat v) 4) 0 hw26 (by rw [Sha.numB_length];omega) (qBd o r h) xB 33))) O xD ?_
  rintro m28 hw28
  rw [qGk hkl,qMM hkl,qCB] at hw28
  refine J.a1 O (qAK O O ent (Ct.use1 2 O (λF' _=>qDc F' m28 g6 ((Sha.numB (UInt64.ofNat v) 4)++qBd o r h) 0 hw28 (by rw [jA,Sha.numB_length];omega) p xB 16))) O xD ?_
  rintro m31 hw31
  refine J.a1 O (qAK O O ent (Ct.use1 2 O (λF' _=>qDf F' m31 g6 (qLu p 16 ((Sha.numB (UInt64.ofNat v) 4)++qBd o r h) 0) (qCV (okF p 16) 10 0) hw31 (by have:=qEH p 16 ((Sha.numB (UInt64.ofNat v) 4)++qBd o r h) 0;rw [jA,Sha.numB_length] at this;omega)))) O xD ?_
  rintro m32 hw32
  refine J.c7 (Str (if qCV (okF p 16) 10 0=0 then qLu p 16 ((Sha.numB (UInt64.ofNat v) 4)++qBd o r h) 0 else [])) ?_
  refine J.c7 (I (qCV (okF p 16) 10 0)) ?_
  refine J.b7 ?_
  refine J.b7 ?_
  refine J.b0<|J.u (J.D j11 ?_)
  exact J.A<|J.a9 hw0 (λ_ _ h=>h) (qBw O O O) (qAg () (qZp xB xB hk0) trivial [0] O xC)
def deE(s:xA):Int:=if s.length<53 then 3 else if 53<s.length then 2 else if 6<(s.getD 36 0).toNat then 4 else if qFe (s.take 4)<1 then 13 else 0
def deN(s:xA):Nat:=if deE s=0 then qFe (s.take 4) else 0
def qCO(v:Nat)(o r:xA)(h:Int)(p:xA):xA:=if qBX v o r h p=0 then Sha.tagged 12 [qBH v o r h p] else []
theorem qB8{v:Nat}{o r:xA}{h:Int}{p:xA}(he:qBX v o r h p=0):(qBH v o r h p).length=53:=by
  unfold qBH
  rw [if_pos he]
  unfold qBX at he
  split at he
  · omega
  · split at he
    · rename_i h2
      rw [jA,jA,Sha.numB_length,qFa h2.1,h2.2]
    · omega
structure En where
 v:Nat
 o:xA
 r:xA
 h:Int
 p:xA
 deriving DecidableEq
def En.cells(x:En):List Value:= [N64 x.v,Str x.o,Str x.r,I x.h,Str x.p]
def En.good(x:En):Prop:=x.v<18446744073709551616∧x.o.length≤1048576∧x.r.length≤1048576∧x.p.length≤1048576
def En.val(x:En):xA:=qCO x.v x.o x.r x.h x.p
def En.next(x y:En):Int:=if x.v=18446744073709551615∨y.v≠x.v+1 then 13 else if x.val= []∨y.p≠x.val then 15 else 0
def En.chain:List En→Int
 | []=>0
 | [_]=>0
 |x::y::r=>if x.next y≠0 then x.next y else En.chain (y::r)
def En.hist:List En→Int
 | []=>20
 |x::r=>if x.v≠1 then 13 else if x.p≠qAk then 15 else En.chain (x::r)
theorem qEA(F:Hp)(hK:qAG F ⟨3,0,none⟩ (Sha.K.map W32))(v:Nat)(o r:xA)(h:Int)(p:xA)(hv:v<18446744073709551616)(ho:o.length≤1048576)(hr:r.length≤1048576)(hp:p.length≤1048576):
    Cz prog 42 [.agg #[N64 v,Str o,Str r,I h,Str p]] F (Str (qCO v o r h p)):=by
  refine Ct.walk func42 O ntmps42 O (λw0 hw0=>?_)
  refine J.f λ_ j1=>J.q (qAb O O O) O λg1 _=>J.b O<|J.c j1 ?_
  refine J.f λ_ j2=>J.c0 1 qBB qAj O O O O O<|J.q (qAZ O O (λF' hF=>qIf F' v o r h p hv ho hr hp)) O λg7 _=>J.p 5 O<|J.c j2 ?_
  refine J.k λ_ j3=>J.f λ_ j4=>J.b O<|J.g (qAV O O O) O<|J.c j4 ?_
  refine J.Z O (λh11=>?_) (λh11=>?_)
  ·
    refine J.f λ_ j5=>J.b O<|J.c j5 ?_
    exact J.A<|J.V<|J.E hw0 O () (by unfold qCO;rw [if_neg xB]) trivial [0] O xC
  refine J.M j3 ?_
  refine J.k λ_ j6=>?_
  have he0:qBX v o r h p=0:=xB
  refine J.H<|J.b O<|J.q (qAE (l:= [.tmp 12]) (xs:= [[Str (qBH v o r h p)]]) O O O O qAn el9 O xC xC xD) O λg13 _=>J.q (qAZ O O (λF' hF=>qA3 F' (hK.mono (Fa hF)) 12 (some ⟨g13,0,none⟩) 1 1 [qBH v o r h p] ((slS [qBH v o r h p] O).mono (hF (blk g13 (([qBH v o r h p]:List xA).map λs=>Str s) 9) xD)) (by have:=qB8 he0;simp [this]) xC)) O λg14 _=>J.b O<|J.c j6 ?_
  exact J.A<|J.E hw0 O () (by unfold qCO;rw [if_pos he0]) trivial [0] O xC
theorem qGT(F:Hp)(hK:qAG F ⟨3,0,none⟩ (Sha.K.map W32))(s:xA)(hs:s.length≤1048576):
    Cz prog 41 [Str s] F (Str (Sha.tagged 11 [s])):=by
  refine Ct.walk func41 O ntmps41 O (λw0 hw0=>?_)
  refine J.f λ_ j1=>J.b O<|J.c j1 ?_
  refine J.f λ_ j2=>J.b O<|J.q (qAE (l:= [.tmp 3]) (xs:= [[Str (s)]]) O O O O qAn el9 O xC xC xD) O λg4 _=>J.q (qAZ O O (λF' hF=>qA3 F' (hK.mono (Fa hF)) 11 (some ⟨g4,0,none⟩) 1 1 [s] ((slS [s] O).mono (hF (blk g4 (([s]:List xA).map λs=>Str s) 9) xD)) xJ xC)) O λg5 _=>J.b O<|J.c j2 ?_
  exact J.A<|J.E hw0 O () O trivial [0] O xC
theorem qGS(F:Hp)(hK:qAG F ⟨3,0,none⟩ (Sha.K.map W32))(x y:En)(hx:x.good)(hy:y.good):
    Cz prog 156 [.agg x.cells.toArray,.agg y.cells.toArray] F (I (x.next y)):=by
  obtain ⟨hx1,hx2,hx3,hx4⟩:=hx
  obtain ⟨hy1,hy2,hy3,hy4⟩:=hy
  have hxv:x.val=qCO x.v x.o x.r x.h x.p:=rfl
  refine Ct.walk func156 O ntmps156 O (λw0 hw0=>?_)
  refine J.f λ_ j1=>J.q (qAb O O O) O λg2 _=>J.q (qAb O O O) O λg3 _=>?_
  change J _ _ _ [_,_,blk g3 [N64 y.v,Str y.o,Str y.r,I y.h,Str y.p] 102] _
  refine J.b O<|J.c j1 ?_
  refine J.k λ_ j2=>J.f λ_ j3=>J.c0 1 qBB qAj O O O O O<|J.q (qAZ O O (λF' hF=>qEA F' (hK.mono (Fa hF)) x.v x.o x.r x.h x.p hx1 hx2 hx3 hx4)) O λg7 _=>J.b O<|J.c j3 ?_
  refine J.T<|J.f λ_ j4=>J.W 0 qCA qDs O O O O O<|J.a6 1 qEv O O O O O<|J.g (qAe O O O) O<|J.b O<|J.b9 (d:=12) O (λh12=>?_) (λh12=>?_)
  ·
    refine J.p 8 O<|J.c j4 ?_
    refine J.c3 ?_
    refine J.f λ_ j5=>J.b O<|J.c j5 ?_
    exact J.A<|J.a5<|J.V<|J.E hw0 O () (congrArg I (by unfold En.next;rw [if_pos xB])) trivial [0] O xC
  refine J.G (qAA (j:=0) O O qCA O qDs O) O<|J.G (qAD 2 O O O qEv O) O<|J.G (qAA (j:=0) O O qCA O qDs O) O<|J.G (qAD 1 O O O qEv O) O<|J.G (qHD (b:=1) O O O xB) O<|J.G (qAV O O O) O<|J.p 2 O<|J.c j4 ?_
  refine J.Z O (λh8=>?_) (λh8=>?_)
  ·
    refine J.f λ_ j6=>J.b O<|J.c j6 ?_
    exact J.A<|J.a5<|J.V<|J.E hw0 O () (congrArg I (by unfold En.next;rw [if_pos xB])) trivial [0] O xC
  refine J.f λ_ j7=>J.b O<|J.g (qBY O O O) O<|J.b O<|J.b9 (d:=23) O (λh23=>?_) (λh23=>?_)
  ·
    refine J.p 6 O<|J.c j7 ?_
    refine J.c3 ?_
    refine J.f λ_ j8=>J.b O<|J.c j8 ?_
    exact J.A<|J.a5<|J.V<|J.E hw0 O () (congrArg I (by unfold En.next;rw [if_neg xB,if_pos (.inl h23)])) trivial [0] O xC
  refine J.G (qAA (j:=4) O O qCA O z9_ O) O<|J.G (qAD 2 O O O b9_ O) O<|J.b O<|J.G (qDH O O O) O<|J.p 2 O<|J.c j7 ?_
  refine J.Z O (λh20=>?_) (λh20=>?_)
  ·
    refine J.f λ_ j9=>J.b O<|J.c j9 ?_
    exact J.A<|J.a5<|J.V<|J.E hw0 O () (congrArg I (by unfold En.next;rw [if_neg xB,if_pos (.inr h20)])) trivial [0] O xC
  refine J.b2<|J.a2<|J.u (J.D j2 ?_)
  refine J.f λ_ j10=>J.b O<|J.c j10 ?_
  exact J.A<|J.E hw0 O () (congrArg I (by unfold En.next;rw [if_neg xB,if_neg (λe=>e.elim h23 h20)])) trivial [0] O xC
def qAz:En:=⟨0,[],[],0,[]⟩
theorem qGZ{l:List En}{j:Nat}(h:j<l.length):(l.map En.cells)[j]?=some (l.getD j qAz).cells:=by rw [jN,qAi qAz h];rfl
theorem qD9{l:List En}(h:0<l.length):En.hist l=if(l.getD 0 qAz).v≠1 then 13 else if(l.getD 0 qAz).p≠qAk then 15 else En.chain l:=by
 cases l with
 |nil=>simp at h
 |cons x r=>rfl
theorem qFv{l:List En}{k:Nat}(h:k+1<l.length):En.chain (l.drop k)=if(l.getD k qAz).next (l.getD (k+1) qAz)≠0 then(l.getD k qAz).next (l.getD (k+1) qAz) else En.chain (l.drop (k+1)):=by
 rw [zD (show k<l.length by omega),zD h]
 rw [jB,jB,jC (show k<l.length by omega),jC h];rfl
theorem qLS{l:List En}{k:Nat}(h:k+1=l.length):En.chain (l.drop k)=0:=by
 rw [zD (show k<l.length by omega),js xB];rfl
theorem qLB{l:List En}{k:Nat}(hg: ∀x∈l,x.good)(h:k<l.length):(l.getD k qAz).good:=by
 rw [jB,jC h]
 exact hg _ (jQ h)
theorem qLH(F:Hp)(A:Option Addr)(c:Nat):
    Cz prog 83 [.slice A 0 c] F (I 20):=by
  refine Ct.walk func83 O ntmps83 O (λw0 hw0=>?_)
  refine J.f λ_ j1=>J.b O<|J.c j1 ?_
  refine J.k λ_ j2=>J.T<|J.f λ_ j3=>J.b O<|J.g (qAO qCK O O) O<|J.g ((qAe O O O).yes xC) O<|J.b O<|J.c j3 ?_
  refine J.c3 ?_
  refine J.f λ_ j4=>J.b O<|J.c j4 ?_
  exact J.A<|J.a5<|J.V<|J.E hw0 O () O trivial [0] O xC
theorem qBg(F:Hp)(hK:qAG F ⟨3,0,none⟩ (Sha.K.map W32))(l:List En)(hg: ∀x∈l,x.good)(g o c:Nat)(hl:Sl F 5 (some ⟨g,o,none⟩) l.length c (l.map En.cells))(hn:0<l.length)(hn2:l.length≤1073741824):
    Cz prog 83 [.slice (some ⟨g,o,none⟩) l.length c] F (I (En.hist l)):=by
  refine Ct.walk func83 O ntmps83 O (λw0 hw0=>?_)
  refine J.f λ_ j1=>J.b O<|J.c j1 ?_
  refine J.k λ_ j2=>J.T<|J.f λ_ j3=>J.b O<|J.g (qAO qCK O O) O<|J.g ((qAe O O O).no xB) O<|J.b O<|J.c j3 ?_
  refine J.a3 ?_
  refine J.f λ_ j4=>J.b O<|J.g (qAF O O O qCK qAj hl (hn)) O<|J.g ((qAA (g:=g) O O qCA O qDs O)) O<|J.g (qAI O O qEv (m:=F) xD (hl.cell (i:=0) (x:=(l.getD 0 qAz).cells) (qGZ hn) (k:=0) (v:=N64 (l.getD 0 qAz).v) O)) O<|J.g (qAV O O O) O<|J.b O<|J.c j4 ?_
  refine J.Z O (λh9=>?_) (λh9=>?_)
  ·
    refine J.f λ_ j5=>J.b O<|J.c j5 ?_
    exact J.A<|J.a5<|J.V<|J.E hw0 O () (congrArg I (by rw [qD9 hn,if_pos xB])) trivial [0] O xC
  refine J.k λ_ j6=>J.b1 [F] [] (.y 0 (.y 1 (.y 2 (.y 3 (.e 4 (.y 5 (.y 6 .nil))))))) Tryz.wide xF xD ?_
  refine J.L ?_
  refine J.j O (qAF O O O qCK qAj hl (hn)) O O<|J.j O ((qAA (g:=g) O O qCA O z9_ O)) O O<|J.j O (qAI O O b9_ (m:=F) xD (hl.cell (i:=0) (x:=(l.getD 0 qAz).cells) (qGZ hn) (k:=4) (v:=Str (l.getD 0 qAz).p) O)) O O<|J.a1 O (qAZ O O (λF' hF=>qGy F' 16 xC xC)) O xD λg20 _=>J.j O (qDH O O O) O O<|J.b7 ?_
  refine J.b0<|J.u (J.D j6 ?_)
  refine J.Z O (λh15=>?_) (λh15=>?_)
  ·
    change(l.getD 0 qAz).p≠qAk at h15
    refine J.f λ_ j7=>J.b O<|J.c j7 ?_
    exact J.A<|J.a5<|J.V<|J.E hw0 O () (congrArg I (by rw [qD9 hn,if_neg xB,if_pos h15])) trivial [0] O xC
  change¬(l.getD 0 qAz).p≠qAk at h15
  refine J.b2<|J.a2<|J.u (J.D j2 ?_)
  refine J.k λ_ j8=>J.f λ_ j9=>J.b O<|J.g (qAO qCK O O) O<|J.g (qA4 O O O xB) O<|J.b O<|J.c j9 ?_
  refine J.T<|J.b5 (X:=Nat) (λk=> [(0,.slice (some ⟨g,o,none⟩) l.length c),(24,I ((l.length:Int)-1)),(25,I k)]) (λ_=> [F]) (λk=>k+1≤l.length∧En.chain (l.drop k)=En.chain l) (λk=>l.length-k) 0 (⟨xB,O⟩) ⟨O,O,O,trivial⟩ (λ_ h=>h) ?_
  intro k ⟨hk,hch⟩ I0 hI0
  refine J.f λ_ j10=>J.g (qAS O O O) O<|J.c j10 ?_
  refine J.k λ_ j11=>J.Z O (λh26=>?_) (λh26=>?_)
  ·
    refine J.M j11 ?_
    refine J.k λ_ j12=>J.T<|J.f λ_ j13=>J.p 2 O<|J.c j13 ?_
    refine J.k λ_ j14=>J.b1 [F] [] (.y 0 (.y 1 (.y 2 (.y 3 (.y 4 (.y 5 (.y 6 (.y 7 (.y 8 (.e 9 (.y 10 .nil))))))))))) Tryz.wide xF xD ?_
    refine J.L ?_
    refine J.L ?_
    refine J.j O (qAF O O O qCK qAj hl xB) O O<|J.j O (qAP O O qBB qAj (m:=F) xD (hl.elem (qGZ xB)) O) O O<|J.L ?_
    refine J.L ?_
    refine J.j O ((qAR O O O xB).nat (k+1) xB) O O<|J.j O (qAF O O O qCK qAj hl xB) O O<|J.j O (qAP O O qBB qAj (m:=F) xD (hl.elem (qGZ xB)) O) O O<|J.a1 O (qAZ O O (λF' hF=>qGS F' (hK.mono (Fa hF)) (l.getD k qAz) (l.getD (k+1) qAz) (qLB hg xB) (qLB hg xB))) O xD λg37 _=>J.b7 ?_
    refine J.b0<|J.u (J.D j14 ?_)
    refine J.f λ_ j15=>J.b O<|J.g (qAV O O O) O<|J.c j15 ?_
    refine J.Z O (λh39=>?_) (λh39=>?_)
    ·
      refine J.f λ_ j16=>J.p 2 O<|J.c j16 ?_
      exact J.A<|J.a5<|J.V<|J.V<|J.a5<|J.V<|J.E hw0 O () (congrArg I (by rw [qD9 hn,if_neg xB,if_neg h15,←hch,qFv (l:=l) (k:=k) xB,if_pos xB])) trivial [0] O xC
    refine J.b2<|J.a2<|J.u (J.D j12 ?_)
    exact J.H<|J.g ((qAR O O O xB).nat (k+1) xB) O<|J.b O<|J.a4<|J.u<|J.a8 (k+1) (λx (hx:_∧l.length-x<l.length-k)=>hI0 x hx.1 hx.2) ⟨⟨xB,by have:=qFv (l:=l) (k:=k) xB;rw [if_neg xB] at this;rw [←this];exact hch⟩,xB⟩ ⟨O,O,O,trivial⟩ (λ_ h=>h)
  refine J.b3<|J.a0<|J.a0<|J.b4 ?_
  refine J.u (J.D j8 ?_)
  refine J.k λ_ j17=>?_
  have hce:=qLS (l:=l) (k:=k) xB
  refine J.H<|J.b O<|J.c j17 ?_
  exact J.A<|J.E hw0 O () (congrArg I (by rw [qD9 hn,if_neg xB,if_neg h15,←hch,hce])) trivial [0] O xC
theorem qMh(F:Hp)(hK:qAG F ⟨3,0,none⟩ (Sha.K.map W32))(l:List En)(hg: ∀x∈l,x.good)(A:Option Addr)(n c:Nat)(hl:Sl F 5 A n c (l.map En.cells))(hn2:n≤1073741824):
    Cz prog 83 [.slice A n c] F (I (En.hist l)):=by
  have hln:l.length=n:=by have:=hl.1;rwa [jP] at this
  subst hln
  cases l with
  |nil=>exact qLH F A c
  |cons x r=>
    obtain ⟨g,o,rfl⟩:=hl.at (by rw [jD];omega)
    exact qBg F hK (x::r) hg g o c hl (by rw [jD];omega) hn2
theorem en_0{v:Nat}{o r:xA}{h:Int}{p:xA}(h1: ¬v<1)(h2: ¬4294967295<v)(h3: ¬h<0)(h4: ¬6<h)(ho:o.length=16)(hr:r.length=16)(hp:p.length=16):qBX v o r h p=0∧qBH v o r h p=Sha.numB (UInt64.ofNat v) 4++o++r++ [UInt8.ofNat h.toNat]++p:=by
 have hq:qGz o r h:=⟨xB,xB,ho,hr⟩
 have e:qBX v o r h p=0:=by
  unfold qBX qBN
  rw [if_neg xB,if_pos hq,if_pos ⟨rfl,hp⟩]
 refine⟨e,?_⟩
 unfold qBH qBd
 rw [if_pos e,if_pos hq]
 simp
theorem qYZ(a b:Nat):(((a:Int)==(b:Int))=decide (a=b)):=by
 by_cases h:a=b
 · simp [h]
 · rw [decide_eq_false h,beq_eq_false_iff_ne];omega
theorem eqEn(x y:En)(w:World):(Op.equalIn 10000 102 (.agg x.cells.toArray) (.agg y.cells.toArray)).run prog w= .ok (decide (x=y)) w:=by
 have uu:=qEV
 have au:=qEv
 have us:=u9_
 have ag:=b9_
 have ap:=qGb
 have zp:=qCT
 have hS:prog.underlying 102=some (.struct (prog.fieldsOf 102)):=xI
 have hp:prog.stoodInHeld 102=false:=xI
 rw [show(10000:Nat)=9999+1 from rfl,run_equalIn_struct w 9999 102 _ _ hS hp]
 simp only [Program.fieldsOf,qCA]
 obtain ⟨v,o,r,h,p⟩:=x
 obtain ⟨v',o',r',h',p'⟩:=y
 have hi: ∀(a b:Int) (w:World),(Op.equalIn 9999 49 (.int .u64 a) (.int .u64 b)).run prog w= .ok (a==b) w:=λa b w=>run_equalIn_int w 9998 49 .u64 .u64 a b uu
 have hs: ∀(a b:xA) (w:World),(Op.equalIn 9999 9 (Str a) (Str b)).run prog w= .ok (decide (a=b)) w:=λa b w=>by rw [run_equalIn_string w 9998 9 _ _ us,qFR]
 have hq:=qZn 9997 o r o' r' h h'
 simp only [Op.eqFields,En.cells]
 simp [part,au,ag,ap,zp,hi,hs,qYZ,hq]
 by_cases h1:v=v'<;>by_cases h2:p=p'<;>by_cases h3:o=o'<;>by_cases h4:r=r'<;>by_cases h5:h=h'<;>simp [h1,h2,h3,h4,h5]
namespace Wo
def place(leaf chain step:Nat):xA:= [UInt8.ofNat (leaf/2^24),UInt8.ofNat (leaf/2^16),UInt8.ofNat (leaf/2^8),UInt8.ofNat leaf,UInt8.ofNat chain,UInt8.ofNat step]
def step(opn:xA)(leaf chain k:Nat)(x:xA):xA:=Sha.tagged 2 [opn,place leaf chain k,x]
def walk(opn:xA)(leaf chain a:Nat)(x:xA):Nat→xA
 |0=>x
 |n+1=>step opn leaf chain (a+n) (walk opn leaf chain a x n)
def secret(seed:xA)(leaf chain:Nat):xA:=Sha.tagged 1 [seed,place leaf chain 0]
def opn(seed:xA):xA:=Sha.tagged 3 [seed]
def nibs(s:xA):List Nat:=s.flatMap λb=> [b.toNat/16,b.toNat%16]
def left(s:xA):Nat:=(s.map λb=>30-b.toNat/16-b.toNat%16).sum
def digs(s:xA):List Nat:=nibs s++ [left s/256,left s/16%16,left s%16]
def signs(seed:xA)(leaf:Nat)(ds:List Nat)(k:Nat):List xA:=(List.range k).map λi=>walk (opn seed) leaf i 0 (secret seed leaf i) (ds.getD i 0)
def ends(op:xA)(leaf:Nat)(ds:List Nat)(sig:List xA)(k:Nat):List xA:=(List.range k).map λi=>walk op leaf i (ds.getD i 0) (sig.getD i []) (15-ds.getD i 0)
def publicOf(op:xA)(leaf:Nat)(e:List xA):xA:=Sha.tagged 4 ([op,place leaf 0 0]++e)
def tops(seed:xA)(leaf:Nat)(k:Nat):List xA:=(List.range k).map λi=>walk (opn seed) leaf i 0 (secret seed leaf i) 15
def pub(seed:xA)(leaf:Nat):xA:=publicOf (opn seed) leaf (tops seed leaf 35)
theorem qGq(a:xA)(b c d:Nat)(x:xA):(step a b c d x).length=16:=Sha.tagged_length _ _
theorem secret_length(a:xA)(b c:Nat):(secret a b c).length=16:=Sha.tagged_length _ _
theorem opn_length(a:xA):(opn a).length=16:=Sha.tagged_length _ _
theorem walk_small(o:xA)(leaf chain a:Nat)(x:xA)(h:x.length≤1048576): ∀n,(walk o leaf chain a x n).length≤1048576
 |0=>h
 |n+1=>by rw [walk,qGq];decide
theorem walk_16(o:xA)(leaf chain a:Nat)(x:xA)(h:x.length=16): ∀n,(walk o leaf chain a x n).length=16
 |0=>h
 |n+1=>qGq _ _ _ _ _
theorem walk_add(o:xA)(leaf chain a:Nat)(x:xA)(n:Nat): ∀m,walk o leaf chain (a+n) (walk o leaf chain a x n) m=walk o leaf chain a x (n+m)
 |0=>rfl
 |m+1=>by rw [walk,walk_add o leaf chain a x n m,←Nat.add_assoc,walk,Nat.add_assoc]
theorem place_length(a b c:Nat):(place a b c).length=6:=rfl
theorem nibs_snoc(s:xA)(k:Nat)(h:k<s.length):nibs (s.take (k+1))=nibs (s.take k)++ [(s.getD k 0).toNat/16,(s.getD k 0).toNat%16]:=by
 unfold nibs
 rw [jK h,List.flatMap_append,jB,jC h];simp
theorem left_snoc(s:xA)(k:Nat)(h:k<s.length):left (s.take (k+1))=left (s.take k)+(30-(s.getD k 0).toNat/16-(s.getD k 0).toNat%16):=by
 unfold left
 rw [jK h,jO,List.sum_append,jB,jC h];simp
theorem qMP(s:xA):(nibs s).length=2*s.length:=by
 unfold nibs
 induction s with
 |nil=>rfl
 |cons a l ih=>rw [List.flatMap_cons,jA,ih];simp;omega
theorem left_le(s:xA):left s≤30*s.length:=by
 unfold left
 induction s with
 |nil=>simp
 |cons a l ih=>rw [jb,List.sum_cons,jD];omega
theorem digs_length(s:xA):(digs s).length=2*s.length+3:=by unfold digs;rw [jA,qMP];rfl
theorem digs_le(s:xA)(h:s.length≤16)(i:Nat):(digs s).getD i 0≤15:=by
  have hl:=left_le s
  have: ∀x∈digs s,x≤15:=λx hx=>by
    unfold digs nibs at hx
    rcases List.mem_append.1 hx with hx|hx
    · obtain ⟨b,_,hb⟩:=List.mem_flatMap.1 hx
      have:=b.toNat_lt
      simp only [zM,zE,or_false] at hb
      omega
    · simp only [zM,zE,or_false] at hx
      omega
  by_cases hi:i<(digs s).length
  · rw [jB,jC hi];exact this _ (jQ _)
  · rw [jB,jd xB];decide
theorem signs_succ(seed:xA)(leaf:Nat)(ds:List Nat)(k:Nat):signs seed leaf ds (k+1)=signs seed leaf ds k++ [walk (opn seed) leaf k 0 (secret seed leaf k) (ds.getD k 0)]:=by simp [signs,jx]
theorem ends_succ(op:xA)(leaf:Nat)(ds:List Nat)(sig:List xA)(k:Nat):ends op leaf ds sig (k+1)=ends op leaf ds sig k++ [walk op leaf k (ds.getD k 0) (sig.getD k []) (15-ds.getD k 0)]:=by simp [ends,jx]
theorem tops_succ(seed:xA)(leaf:Nat)(k:Nat):tops seed leaf (k+1)=tops seed leaf k++ [walk (opn seed) leaf k 0 (secret seed leaf k) 15]:=by simp [tops,jx]
theorem qQF(seed:xA)(leaf:Nat)(ds:List Nat)(k i:Nat)(h:i<k):(signs seed leaf ds k).getD i []=walk (opn seed) leaf i 0 (secret seed leaf i) (ds.getD i 0):=by
 unfold signs
 rw [jB,jN,zB h];rfl
theorem tops_small(seed:xA)(leaf:Nat)(k:Nat): ∀s∈tops seed leaf k,s.length≤16:=λs hs=>by
 simp only [tops,zU] at hs
 obtain ⟨i,_,rfl⟩:=hs
 rw [walk_16 _ _ _ _ _ (secret_length _ _ _)];exact jJ _
theorem signs_16(seed:xA)(leaf:Nat)(ds:List Nat)(k:Nat): ∀s∈signs seed leaf ds k,s.length=16:=λs hs=>by
 simp only [signs,zU] at hs
 obtain ⟨i,_,rfl⟩:=hs
 rw [walk_16 _ _ _ _ _ (secret_length _ _ _)]
theorem ends_small(op:xA)(leaf:Nat)(ds:List Nat)(sig:List xA)(k:Nat)(hg: ∀s∈sig,s.length≤16): ∀s∈ends op leaf ds sig k,s.length≤1048576:=λs hs=>by
 simp only [ends,zU] at hs
 obtain ⟨i,_,rfl⟩:=hs
 refine walk_small _ _ _ _ _ ?_ _
 by_cases h0:i<sig.length
 · rw [jB,jC h0];exact jg (hg _ (jQ _)) xC
 · rw [jB,jd xB];decide
theorem recovers(seed:xA)(leaf:Nat)(ds:List Nat)(hd: ∀i,ds.getD i 0≤15)(k:Nat):ends (opn seed) leaf ds (signs seed leaf ds k) k=tops seed leaf k:=by
 unfold ends tops
 apply List.map_congr_left
 intro i hi
 rw [List.mem_range] at hi
 rw [qQF _ _ _ _ _ hi]
 have h:=walk_add (opn seed) leaf i 0 (secret seed leaf i) (ds.getD i 0) (15-ds.getD i 0)
 rw [jj] at h
 have:=hd i
 rw [h,show ds.getD i 0+(15-ds.getD i 0)=15 by omega]
theorem qZU: ∀b:Fin 256,(UInt8.ofNat b.val&&&15).toNat=b.val%16∧(UInt8.ofNat (b.val/2^min 4 8)).toNat=b.val/16:=by decide+kernel
theorem lo_eq(b:UInt8):(b&&&15).toNat=b.toNat%16∧(UInt8.ofNat (b.toNat/2^min 4 8)).toNat=b.toNat/16:=by
 have h:=qZU ⟨b.toNat,b.toNat_lt⟩
 simp only [UInt8.ofNat_toNat] at h
 exact h
end Wo
attribute [local irreducible] Sha.tagB Sha.tagged Wo.walk Wo.signs Wo.tops Wo.ends Wo.digs Wo.nibs Wo.left
theorem Wo.walk0(o:xA)(leaf chain a:Nat)(x:xA):Wo.walk o leaf chain a x 0=x:=by unfold Wo.walk;rfl
theorem Wo.walkS(o:xA)(leaf chain a:Nat)(x:xA)(n:Nat):Wo.step o leaf chain (a+n) (Wo.walk o leaf chain a x n)=Wo.walk o leaf chain a x (n+1):=by rw [Wo.walk]
theorem Wo.tops0(a:xA)(b:Nat):Wo.tops a b 0= []:=by unfold Wo.tops;rfl
theorem Wo.signs0(a:xA)(b:Nat)(d:List Nat):Wo.signs a b d 0= []:=by unfold Wo.signs;rfl
theorem Wo.ends0(a:xA)(b:Nat)(d:List Nat)(s:List xA):Wo.ends a b d s 0= []:=by unfold Wo.ends;rfl
theorem Wo.nibs0:Wo.nibs []= []:=by unfold Wo.nibs;rfl
theorem Wo.left0:Wo.left []=0:=by unfold Wo.left;rfl
theorem qVj{a b c:xA}(h1:a.length≤1048576)(h2:b.length≤1048576)(h3:c.length≤1048576): [a,b,c].flatten.length≤3145728:=by simp;omega
theorem qJC(F:Hp)(leaf chain stp:Nat)(h1:leaf<4611686018427387904)(h2:chain<4611686018427387904)(h3:stp<4611686018427387904):
    Cz prog 206 [I leaf,I chain,I stp] F (Str (Wo.place leaf chain stp)):=by
  refine Ct.walk func206 O ntmps206 O (λw0 hw0=>?_)
  exact J.f λ_ j1=>J.b O<|J.c j1<|J.f λ_ j2=>J.b O<|J.g ((qDA O O O ⟨xC,xB⟩).as (v':=I (leaf/2^24:Nat)) (congrArg I xD)) O<|J.g (qAx O O u3_ u5_) O<|J.b O<|J.g ((qDA O O O ⟨xC,xB⟩).as (v':=I (leaf/2^16:Nat)) (congrArg I xD)) O<|J.g (qAx O O u3_ u5_) O<|J.b O<|J.g ((qDA O O O ⟨xC,xB⟩).as (v':=I (leaf/2^8:Nat)) (congrArg I xD)) O<|J.g (qAx O O u3_ u5_) O<|J.b O<|J.g (qAx O O u3_ u5_) O<|J.b O<|J.g (qAx O O u3_ u5_) O<|J.b O<|J.g (qAx O O u3_ u5_) O<|J.q (qAE (l:= [.tmp 9,.tmp 12,.tmp 15,.tmp 17,.tmp 19,.tmp 21]) (xs:= [[B8 (UInt8.ofNat (leaf/2^24))],[B8 (UInt8.ofNat (leaf/2^16))],[B8 (UInt8.ofNat (leaf/2^8))],[B8 (UInt8.ofNat leaf)],[B8 (UInt8.ofNat chain)],[B8 (UInt8.ofNat stp)]]) O O O O qBu el5 O xC xC xD) O λg22 _=>J.g (qB3 O O qBu u5_ u9_ (m:=blk g22 [B8 (UInt8.ofNat (leaf/2^24)),B8 (UInt8.ofNat (leaf/2^16)),B8 (UInt8.ofNat (leaf/2^8)),B8 (UInt8.ofNat leaf),B8 (UInt8.ofNat chain),B8 (UInt8.ofNat stp)] 5) xD (slB (Wo.place leaf chain stp) O)) O<|J.b O<|J.c j2<|J.A<|J.E hw0 O () O trivial [0] O xC
theorem qIq(F:Hp)(hK:qAG F ⟨3,0,none⟩ (Sha.K.map W32))(seed:xA)(hs:seed.length≤1048576):Cz prog 56 [Str seed] F (Str (Wo.opn seed)):=by
 refine Ct.walk func56 O ntmps56 O (λw0 hw0=>?_)
 exact J.f λ_ j1=>J.b O<|J.c j1<|J.f λ_ j2=>J.b O<|J.q (qAE (l:= [.tmp 3]) (xs:= [[Str (seed)]]) O O O O qAn el9 O xC xC xD) O λg4 _=>J.q (qAZ O O (λF' hF=>qA3 F' (hK.mono (Fa hF)) 3 (some ⟨g4,0,none⟩) 1 1 [seed] ((slS [seed] O).mono (hF (blk g4 (([seed]:List xA).map λs=>Str s) 9) xD)) (by simp [Wo.place_length];omega) xC)) O λg5 _=>J.b O<|J.c j2<|J.A<|J.E hw0 O () O trivial [0] O xC
theorem qLv(F:Hp)(hK:qAG F ⟨3,0,none⟩ (Sha.K.map W32))(o:xA)(leaf chain:Nat)(ho:o.length≤1048576)(h1:leaf<4611686018427387904)(h2:chain<4611686018427387904)(x:xA)(hx:x.length≤1048576)(from' to':Int)(a n:Nat)(ha:(a:Int)=max from' 0)(ha2:a<4611686018427387904)(hn:(n:Int)=max (min to' 15-a) 0):
    Cz prog 127 [Str o,I leaf,I chain,I from',I to',Str x] F (Str (Wo.walk o leaf chain a x n)):=by
  refine Ct.walk func127 O ntmps127 O (λw0 hw0=>?_)
  refine J.f λ_ j1=>J.b O<|J.c j1<|J.k λ_ j2=>J.f λ_ j3=>J.b O<|J.g ((qIL O O O).nat (a+0) xB) O<|J.b O<|J.c j3<|J.T<|J.b5 (λk:Nat=> [(0,Str o),(1,I leaf),(2,I chain),(4,I to'),(5,Str (Wo.walk o leaf chain a x k)),(13,I (a+k:Nat))]) (λ_=> [F]) (λk=>k≤n) (λk=>n-k) 0 (jE _) ⟨O,O,O,O,by rw [Wo.walk0];rfl,O,trivial⟩ (λ_ h=>h) ?_
  intro k hk I0 hI0
  have hw:=Wo.walk_small o leaf chain a x hx k
  refine J.k λ_ j4=>J.f λ_ j5=>J.p 2 O<|J.g (qF4 O O O) O<|J.g (qAS O O O) O<|J.c j5<|J.Z O (λh19=>?_) (λh19=>?_)
  ·
    refine J.M j4<|J.k λ_ j6=>J.T<|J.H<|J.p 4 O<|J.q (qAK O O ent (qJC F leaf chain (a+k) h1 h2 xB)) O λg26 _=>J.b O<|J.q (qAE (l:= [.tmp 22,.tmp 26,.tmp 27]) (xs:= [[Str (o)],[Str (Wo.place leaf chain (a+k))],[Str ((Wo.walk o leaf chain a x k))]]) O O O O qAn el9 O xC xC xD) O λg28 _=>J.q (qAZ O O (λF' hF=>qA3 F' (hK.mono (Fa hF)) 2 (some ⟨g28,0,none⟩) 3 3 [o,Wo.place leaf chain (a+k),(Wo.walk o leaf chain a x k)] ((slS [o,Wo.place leaf chain (a+k),(Wo.walk o leaf chain a x k)] O).mono (hF (blk g28 (([o,Wo.place leaf chain (a+k),(Wo.walk o leaf chain a x k)]:List xA).map λs=>Str s) 9) xD)) (by have:=qVj ho (show(Wo.place leaf chain (a+k)).length≤1048576 by rw [Wo.place_length];decide) hw;omega) xC)) O λg29 _=>J.b O<|J.a4<|J.a2<|J.u (J.D j6 ?_)
    exact J.c2 [0] [F] O xC<|J.H<|J.b O<|J.g ((qAR O O O xB).nat (a+(k+1)) xB) O<|J.b O<|J.a4<|J.u<|J.a8 (k+1) (λx (hx:x≤n∧n-x<n-k)=>hI0 x hx.1 hx.2) ⟨xB,xB⟩ ⟨O,O,O,O,by rw [←Wo.walkS];rfl,O,trivial⟩ (λ_ h=>h)
  refine J.b3<|J.a0<|J.a0<|J.b4 ?_
  refine J.u (J.D j2 ?_)
  refine J.k λ_ j7=>?_
  have hkn:n=k:=xB
  subst hkn
  exact J.H<|J.p 2 O<|J.c j7<|J.A<|J.E hw0 O () O trivial [0] O xC
theorem qH3(F:Hp)(hK:qAG F ⟨3,0,none⟩ (Sha.K.map W32))(seed:xA)(leaf chain:Nat)(hs:seed.length≤1048576)(h1:leaf<4611686018427387904)(h2:chain<4611686018427387904):
    Cz prog 128 [Str seed,I leaf,I chain] F (Str (Wo.secret seed leaf chain)):=by
  refine Ct.walk func128 O ntmps128 O (λw0 hw0=>?_)
  exact J.f λ_ j1=>J.b O<|J.c j1<|J.f λ_ j2=>J.p 3 O<|J.q (qAK O O ent (qJC F leaf chain 0 h1 h2 xC)) O λg10 _=>J.q (qAE (l:= [.tmp 7,.tmp 10]) (xs:= [[Str (seed)],[Str (Wo.place leaf chain 0)]]) O O O O qAn el9 O xC xC xD) O λg11 _=>J.q (qAZ O O (λF' hF=>qA3 F' (hK.mono (Fa hF)) 1 (some ⟨g11,0,none⟩) 2 2 [seed,Wo.place leaf chain 0] ((slS [seed,Wo.place leaf chain 0] O).mono (hF (blk g11 (([seed,Wo.place leaf chain 0]:List xA).map λs=>Str s) 9) xD)) (by simp [Wo.place_length];omega) xC)) O λg12 _=>J.b O<|J.c j2<|J.A<|J.E hw0 O () O trivial [0] O xC
theorem qH4(F:Hp)(hK:qAG F ⟨3,0,none⟩ (Sha.K.map W32))(o:xA)(leaf:Nat)(ho:o.length≤1048576)(h1:leaf<4611686018427387904)(A:Option Addr)(n c:Nat)(e:List xA)(he:Sl F 1 A n c (qAH e))(hsm: ∀s∈e,s.length≤1048576)(hn:n≤1024):
    Cz prog 129 [Str o,I leaf,.slice A n c] F (Str (Wo.publicOf o leaf e)):=by
  have hlen:e.length=n:=by have:=he.1;simpa [qAH] using this
  have hfl:=Mk.flat_small hsm
  rw [hlen] at hfl
  refine Ct.walk func129 O ntmps129 O (λw0 hw0=>?_)
  refine J.f λ_ j1=>J.b O<|J.c j1<|J.f λ_ j2=>J.p 2 O<|J.q (qAK O O ent (qJC F leaf 0 0 h1 xC xC)) O λg9 _=>J.q (qAE (l:= [.tmp 7,.tmp 9]) (xs:= [[Str (o)],[Str (Wo.place leaf 0 0)]]) O O O O qAn el9 O xC xC xD) O λg10 _=>J.b O<|J.q (qAX (i:=1) (m2:=F) O O O qAn qAn el9 O (qBO (q:=True) (qAH [o,Wo.place leaf 0 0]) (n:=2) O (by simp [qAH]) O) xD he (qC4 _) xB xB) O ?_
  rintro⟨A12,c12,m12⟩ h12
  try dsimp only at h12
  rw [←qCL] at h12
  exact J.q (qAZ O O (λF' hF=>qA3 F' (hK.mono (Fa hF)) 4 A12 (2+n) c12 ([o,Wo.place leaf 0 0]++e) (h12.sl.mono (Fa hF)) (by simp only [zK,jA,ji,zQ,Wo.place_length,jG];omega) xB)) O λg13 _=>J.b O<|J.c j2<|J.A<|J.E hw0 O () O trivial [0] O xC
theorem qWL(F:Hp)(hK:qAG F ⟨3,0,none⟩ (Sha.K.map W32))(seed:xA)(leaf:Nat)(hs:seed.length≤1048576)(h1:leaf<4611686018427387904):
    Cz prog 54 [Str seed,I leaf] F (Str (Wo.pub seed leaf)):=by
  refine Ct.walk func54 O ntmps54 O (λw0 hw0=>?_)
  refine J.f λ_ j1=>J.b O<|J.c j1<|J.f λ_ j2=>J.b O<|J.q (qAK O O ent (qIq F hK seed hs)) O λg9 _=>J.b O<|J.c j2<|J.f λ_ j3=>J.b O<|J.c j3<|J.k λ_ j4=>J.k λ_ j5=>J.c6 [0,1] [F,(λ_=>none)] O xC<|J.H<|J.b O<|J.c j5<|J.T<|J.b5 (X:=Nat×Option Addr×Nat×Hp) (λx=> [(0,Str seed),(1,I leaf),(5,Str (Wo.opn seed)),(6,.slice x.2.1 x.1 x.2.2.1),(10,I x.1)]) (λx=> [F,x.2.2.2]) (λx=>x.1≤35∧Row x.2.2.2 9 1 x.2.1 x.1 x.2.2.1 (qAH (Wo.tops seed leaf x.1))) (λx=>35-x.1) (0,none,0,λ_=>none) (⟨jE _,by rw [Wo.tops0];exact qBZ.nil⟩) ⟨O,O,O,O,O,trivial⟩ (λ_ h=>h) ?_
  rintro⟨k,A6,c6,m⟩ ⟨hk,hrow⟩ I0 hI0
  dsimp only at hk hrow⊢
  refine J.f λ_ j6=>J.g (qAS O O O) O<|J.c j6<|J.k λ_ j7=>J.Z O (λh11=>?_) (λh11=>?_)
  ·
    refine J.M j7<|J.k λ_ j8=>J.T<|J.f λ_ j9=>J.p 2 O<|J.c j9<|J.H<|J.p 7 O<|J.q (qAZ O O (λF' hF=>qH3 F' (hK.mono (Fa hF)) seed leaf k hs h1 xB)) O λg20 _=>J.q (qAZ O O (λF' hF=>qLv F' (hK.mono (Fa hF)) (Wo.opn seed) leaf k (by rw [Wo.opn_length];decide) h1 xB (Wo.secret seed leaf k) (by rw [Wo.secret_length];decide) 0 15 0 15 xB xB xB)) O λg21 _=>J.q (qAE (l:= [.tmp 21]) (xs:= [[Str ((Wo.walk (Wo.opn seed) leaf k 0 (Wo.secret seed leaf k) 15))]]) O O O O qAn el9 O xC xC xD) O λg22 _=>J.q (qAX (i:=1) (m2:=blk g22 [Str (Wo.walk (Wo.opn seed) leaf k 0 (Wo.secret seed leaf k) 15)] 9) O O O qAn qAn el9 O hrow xD (qAm (q:=True) (xs:=qAH [(Wo.walk (Wo.opn seed) leaf k 0 (Wo.secret seed leaf k) 15)]) O (by simp [qAH])).sl (qC4 _) xB xB) O ?_
    rintro⟨A23,c23,m23⟩ h23
    try dsimp only at h23
    rw [←qCL,←Wo.tops_succ] at h23
    refine J.c2 [0,1] [F,m23] O xC<|J.b O<|J.a4<|J.a2<|J.u (J.D j8 ?_)
    exact J.H<|J.g ((qAR O O O xB).nat (k+1) xB) O<|J.b O<|J.a4<|J.u<|J.a8 (k+1,A23,c23,m23) (λx (hx:_∧35-x.1<35-k)=>hI0 x hx.1 hx.2) ⟨⟨by dsimp only;omega,h23⟩,by dsimp only;omega⟩ ⟨O,O,O,O,O,trivial⟩ (λ_ h=>h)
  refine J.b3<|J.a0<|J.a0<|J.b4 ?_
  refine J.u (J.D j4 ?_)
  refine J.k λ_ j10=>?_
  have hk35:k=35:=xB
  subst hk35
  exact J.H<|J.p 3 O<|J.q (qAZ O O (λF' hF=>qH4 F' (hK.mono (Fa hF)) (Wo.opn seed) leaf (by rw [Wo.opn_length];decide) h1 A6 35 c6 (Wo.tops seed leaf 35) (hrow.sl.mono (Fa hF)) (λs hs=>jg (Wo.tops_small seed leaf 35 s hs) xC) xC)) O λg28 _=>J.b O<|J.c j10<|J.A<|J.E hw0 O () O trivial [0] O xC
theorem qHa(F:Hp)(s:xA)(hs:s.length=16):
    Ct prog 235 [Str s] [F] (λx:Option Addr×Nat×Hp=> .tuple #[.slice x.1 35 x.2.1,I 0]) (λx=>Row x.2.2 3 1 x.1 35 x.2.1 (qBp (Wo.digs s))) (λx=> [F,x.2.2]):=by
  have hll:=Wo.left_le s
  refine Ct.walk func235 O ntmps235 O (λw0 hw0=>?_)
  refine J.f λ_ j1=>J.p 2 O<|J.c j1<|J.k λ_ j2=>J.f λ_ j3=>J.b O<|J.g (qAu u9_ O O) O<|J.g ((qAV O O O).no xB) O<|J.c j3<|J.a3 ?_
  refine J.M j2<|J.f λ_ j4=>J.b O<|J.c j4<|J.k λ_ j5=>J.c6 [0,1] [F,(λ_=>none)] O xC<|J.H<|J.b O<|J.c j5<|J.k λ_ j6=>J.f λ_ j7=>J.b O<|J.g (qAu u9_ O O) O<|J.b O<|J.c j7<|J.T<|J.b5 (X:=Nat×Option Addr×Nat×Hp) (λx=> [(0,Str s),(4,.slice x.2.1 (2*x.1) x.2.2.1),(5,I (Wo.left (s.take x.1):Nat)),(14,I s.length),(15,I x.1)]) (λx=> [F,x.2.2.2]) (λx=>x.1≤16∧Row x.2.2.2 3 1 x.2.1 (2*x.1) x.2.2.1 (qBp (Wo.nibs (s.take x.1)))) (λx=>16-x.1) (0,none,0,λ_=>none) (⟨jE _,by rw [zm,Wo.nibs0];exact qBZ.nil⟩) ⟨O,O,by rw [zm,Wo.left0];rfl,O,O,trivial⟩ (λ_ h=>h) ?_
  rintro⟨k,A4,c4,m⟩ ⟨hk,hrow⟩ I0 hI0
  dsimp only at hk hrow⊢
  have hlk:=Wo.left_le (s.take k)
  rw [jF] at hlk
  refine J.f λ_ j8=>J.g (qAS O O O) O<|J.c j8<|J.k λ_ j9=>J.Z O (λh16=>?_) (λh16=>?_)
  ·
    refine J.M j9<|J.k λ_ j10=>J.T<|J.f λ_ j11=>J.p 2 O<|J.c j11<|J.k λ_ j12=>?_
    have hk16:k<16:=xB
    have hb8:=(s.getD k 0).toNat_lt
    refine J.b1 [F,m] [] (.y 0 (.y 1 (.y 2 (.y 3 (.y 4 (.y 5 (.y 6 (.y 7 (.y 8 (.y 9 (.y 10 (.y 11 .nil)))))))))))) Tryz.wide xF xD ?_
    refine J.L ?_
    refine J.L ?_
    refine J.j O (qBl u9_ O O O (qAi 0 xB)) O O<|J.j O (qME O O O) O O<|J.j O ((qCM O O u5_ u3_).as (v':=I ((s.getD k 0).toNat/16:Nat)) (congrArg (λn:Nat=>I (n:Int)) (Wo.lo_eq (s.getD k 0)).2)) O O<|J.L ?_
    refine J.L ?_
    refine J.j O (qBl u9_ O O O (qAi 0 xB)) O O<|J.j O (qQ8 (b:=15) O O O) O O<|J.j O ((qCM O O u5_ u3_).as (v':=I ((s.getD k 0).toNat%16:Nat)) (congrArg (λn:Nat=>I (n:Int)) (Wo.lo_eq (s.getD k 0)).1)) O O<|J.j O (qEl (l:= [.tmp 22,.tmp 27]) O O O underlying397 el3 zeroValue397 O O (by simp [Value.cells]) (r:= [(s.getD k 0).toNat/16,(s.getD k 0).toNat%16].map λx:Nat=>I (x:Int)) O) O O<|J.L ?_
    refine J.b0<|J.u (J.D j12 ?_)
    refine J.T<|J.b5 (X:=Nat×Option Addr×Nat×Hp) (λx=> [(0,Str s),(4,.slice x.2.1 (2*k+x.1) x.2.2.1),(5,I (Wo.left (s.take k)+(([(s.getD k 0).toNat/16,(s.getD k 0).toNat%16].take x.1).map (15- ·)).sum:Nat)),(14,I s.length),(15,I k),(28,.agg ([(s.getD k 0).toNat/16,(s.getD k 0).toNat%16].map λx:Nat=>I (x:Int)).toArray),(29,I x.1)]) (λx=> [F,x.2.2.2]) (λx=>x.1≤2∧Row x.2.2.2 3 1 x.2.1 (2*k+x.1) x.2.2.1 (qBp ((Wo.nibs (s.take k))++ [(s.getD k 0).toNat/16,(s.getD k 0).toNat%16].take x.1))) (λx=>2-x.1) (0,A4,c4,m) (⟨jE _,by rw [zm,jR];exact hrow⟩) ⟨O,O,O,O,O,O,O,trivial⟩ (λ_ h=>h) ?_
    clear hrow
    rintro⟨j,A4,c4,m⟩ ⟨hj,hrow⟩ I2 hI2
    dsimp only at hj hrow⊢
    refine J.f λ_ j13=>J.g (qAS O O O) O<|J.c j13<|J.k λ_ j14=>J.Z O (λh30=>?_) (λh30=>?_)
    ·
      refine J.M j14<|J.k λ_ j15=>J.T<|J.k λ_ j16=>?_
      have hj2:j<2:=xB
      have hsj:(([(s.getD k 0).toNat/16,(s.getD k 0).toNat%16].take (j+1)).map (15- ·)).sum=(([(s.getD k 0).toNat/16,(s.getD k 0).toNat%16].take j).map (15- ·)).sum+(15-([(s.getD k 0).toNat/16,(s.getD k 0).toNat%16].getD j 0)):=by match j,hj2 with|0,_=>simp|1,_=>simp
      have hdl:([(s.getD k 0).toNat/16,(s.getD k 0).toNat%16].getD j 0)≤15:=by match j,hj2 with|0,_=>(show(s.getD k 0).toNat/16≤15;omega)|1,_=>(show(s.getD k 0).toNat%16≤15;omega)
      have hsl:(([(s.getD k 0).toNat/16,(s.getD k 0).toNat%16].take j).map (15- ·)).sum≤15*j:=by match j,hj2 with|0,_=>simp|1,_=>simp
      refine J.H<|J.g (qJK (i:=j) (v:=I (([(s.getD k 0).toNat/16,(s.getD k 0).toNat%16].getD j 0):Nat)) O O O underlying397 z3_ b3_ xB (by rw [Nat.mul_one];match j,hj2 with|0,_=>rfl|1,_=>rfl)) O<|J.b O<|J.c j16<|J.f λ_ j17=>J.p 2 O<|J.q (qAE (l:= [.tmp 33]) (xs:= [[I (([(s.getD k 0).toNat/16,(s.getD k 0).toNat%16].getD j 0):Nat)]]) O O O O qEa el3 O xC xC xD) O λg34 _=>J.q (qAX (i:=1) (m2:=blk g34 (([([(s.getD k 0).toNat/16,(s.getD k 0).toNat%16].getD j 0)]:List Nat).map λx:Nat=>I (x:Int)) 3) O O O qEa qEa el3 O hrow xD (slN [([(s.getD k 0).toNat/16,(s.getD k 0).toNat%16].getD j 0)] O) (qNd _) xB xB) O ?_
      rintro⟨A35,c35,m35⟩ h35
      try dsimp only at h35
      rw [←qKw] at h35
      refine J.b O<|J.c j17<|J.c2 [0,1] [F,m35] O xC<|J.H<|J.p 2 O<|J.g ((qA4 O O O xB).as (v':=I (15-([(s.getD k 0).toNat/16,(s.getD k 0).toNat%16].getD j 0):Nat)) (congrArg I xB)) O<|J.g ((qAR O O O xB).as (v':=I (Wo.left (s.take k)+(([(s.getD k 0).toNat/16,(s.getD k 0).toNat%16].take (j+1)).map (15- ·)).sum:Nat)) (congrArg I (by rw [hsj];omega))) O<|J.b O<|J.a4<|J.a2<|J.u (J.D j15 ?_)
      exact J.H<|J.g ((qAR O O O xB).nat (j+1) xB) O<|J.b O<|J.a4<|J.u<|J.a8 (j+1,A35,c35,m35) (λx (hx:_∧2-x.1<2-j)=>hI2 x hx.1 hx.2) ⟨⟨by dsimp only;omega,by dsimp only;rw [show [(s.getD k 0).toNat/16,(s.getD k 0).toNat%16].take (j+1)= [(s.getD k 0).toNat/16,(s.getD k 0).toNat%16].take j++ [([(s.getD k 0).toNat/16,(s.getD k 0).toNat%16].getD j 0)] by match j,hj2 with|0,_=>rfl|1,_=>rfl,←jX];exact h35⟩,by dsimp only;omega⟩ ⟨O,O,O,O,O,O,O,trivial⟩ (λ_ h=>h)
    refine J.b3<|J.a0<|J.a0<|J.b4 ?_
    refine J.a2<|J.u (J.D j10 ?_)
    refine J.H<|J.g ((qAR O O O xB).nat (k+1) xB) O<|J.b O<|J.a4<|J.u ?_
    have hj2:j=2:=xB
    subst hj2
    have e1:=Wo.nibs_snoc s k xB
    have e2:=Wo.left_snoc s k xB
    have hb8:=(s.getD k 0).toNat_lt
    have e3:(([(s.getD k 0).toNat/16,(s.getD k 0).toNat%16].take 2).map (15- ·)).sum=(15-(s.getD k 0).toNat/16)+((15-(s.getD k 0).toNat%16)+0):=rfl
    exact J.a8 (k+1,A4,c4,m) (λx (hx:_∧16-x.1<16-k)=>hI0 x hx.1 hx.2) ⟨⟨by dsimp only;omega,by dsimp only;rw [e1];exact hrow⟩,by dsimp only;omega⟩ ⟨O,by rw [show 2*(k+1)=2*k+2 by omega];rfl,by rw [e2];exact congrArg (λn:Nat=>some (I (n:Int))) (by rw [e3];omega),O,O,trivial⟩ (λ_ h=>h)
  refine J.b3<|J.a0<|J.a0<|J.b4 ?_
  refine J.u (J.D j6 ?_)
  refine J.k λ_ j18=>J.k λ_ j19=>?_
  have hk16:k=16:=xB
  subst hk16
  rw [jV xB] at hrow
  refine J.H<|J.b O<|J.c j19<|J.T<|J.b5 (X:=Nat×Option Addr×Nat×Hp) (λx=> [(4,.slice x.2.1 (32+x.1) x.2.2.1),(5,I (Wo.left s:Nat)),(9,I (2-(x.1:Int)))]) (λx=> [F,x.2.2.2]) (λx=>x.1≤3∧Row x.2.2.2 3 1 x.2.1 (32+x.1) x.2.2.1 (qBp (Wo.nibs s++ [Wo.left s/256,Wo.left s/16%16,Wo.left s%16].take x.1))) (λx=>3-x.1) (0,A4,c4,m) (⟨jE _,by rw [zm,jR];exact hrow⟩) ⟨O,by rw [jV xB];rfl,O,trivial⟩ (λ_ h=>h) ?_
  clear hrow hlk
  rintro⟨t,A4,c4,m⟩ ⟨ht,hrow⟩ I4 hI4
  dsimp only at ht hrow⊢
  refine J.k λ_ j20=>J.f λ_ j21=>J.b O<|J.g (qBI O O O) O<|J.c j21<|J.Z O (λh43=>?_) (λh43=>?_)
  ·
    refine J.M j20<|J.k λ_ j22=>J.T ?_
    have ht2:t<3:=xB
    refine J.H<|J.p 2 O<|J.g ((qA2 O O).nat (2-t) xB) O<|J.g ((qDj O O O xB).nat (4*(2-t)) xB) O<|J.g ((qDA O O O xB).as (v':=I (Wo.left s/2^(4*(2-t)):Nat)) (congrArg I xD)) O<|J.g ((qNZ 4 O O O xC xC).as (v':=I ([Wo.left s/256,Wo.left s/16%16,Wo.left s%16].getD t 0:Nat)) (congrArg I (by match t,ht2 with|0,_=>(show((Wo.left s/2^(4*(2-0)):Nat):Int)%2^4=((Wo.left s/256:Nat):Int);omega)|1,_=>(show((Wo.left s/2^(4*(2-1)):Nat):Int)%2^4=((Wo.left s/16%16:Nat):Int);omega)|2,_=>(show((Wo.left s/2^(4*(2-2)):Nat):Int)%2^4=((Wo.left s%16:Nat):Int);omega)))) O<|J.q (qAE (l:= [.tmp 51]) (xs:= [[I (([Wo.left s/256,Wo.left s/16%16,Wo.left s%16].getD t 0):Nat)]]) O O O O qEa el3 O xC xC xD) O λg52 _=>J.q (qAX (i:=1) (m2:=blk g52 (([([Wo.left s/256,Wo.left s/16%16,Wo.left s%16].getD t 0)]:List Nat).map λx:Nat=>I (x:Int)) 3) O O O qEa qEa el3 O hrow xD (slN [([Wo.left s/256,Wo.left s/16%16,Wo.left s%16].getD t 0)] O) (qNd _) xB xB) O ?_
    rintro⟨A53,c53,m53⟩ h53
    try dsimp only at h53
    rw [←qKw] at h53
    refine J.b O<|J.a4<|J.a2<|J.u (J.D j22 ?_)
    exact J.c2 [0,1] [F,m53] O xC<|J.H<|J.b O<|J.g ((qA4 O O O xB).as (v':=I (2-((t+1:Nat):Int))) (congrArg I xB)) O<|J.b O<|J.a4<|J.u<|J.a8 (t+1,A53,c53,m53) (λx (hx:_∧3-x.1<3-t)=>hI4 x hx.1 hx.2) ⟨⟨by dsimp only;omega,by dsimp only;rw [show [Wo.left s/256,Wo.left s/16%16,Wo.left s%16].take (t+1)= [Wo.left s/256,Wo.left s/16%16,Wo.left s%16].take t++ [[Wo.left s/256,Wo.left s/16%16,Wo.left s%16].getD t 0] by match t,ht2 with|0,_=>rfl|1,_=>rfl|2,_=>rfl,←jX];exact h53⟩,by dsimp only;omega⟩ ⟨O,O,O,trivial⟩ (λ_ h=>h)
  refine J.b3<|J.a0<|J.a0<|J.b4 ?_
  refine J.u (J.D j18 ?_)
  refine J.k λ_ j23=>?_
  have ht3:t=3:=xB
  subst ht3
  exact J.H<|J.p 3 O<|J.c j23<|J.A<|J.a9 hw0 (λ_ _ h=>h) (qBw O O O) (qAg (A4,c4,m) O (by unfold Wo.digs;exact hrow) [0,1] O xC)
theorem qWk(F:Hp)(hK:qAG F ⟨3,0,none⟩ (Sha.K.map W32))(seed:xA)(leaf:Nat)(d:xA)(hs:seed.length≤1048576)(h1:leaf<4611686018427387904)(hd:d.length=16):
    Ct prog 165 [Str seed,I leaf,Str d] [F] (λx:Option Addr×Nat×Hp=> .tuple #[.slice x.1 35 x.2.1,I 0]) (λx=>Row x.2.2 9 1 x.1 35 x.2.1 (qAH (Wo.signs seed leaf (Wo.digs d) 35))) (λx=> [F,x.2.2]):=by
  have hdl:(Wo.digs d).length=35:=by rw [Wo.digs_length,hd]
  have hd15:=Wo.digs_le d xB
  refine Ct.walk func165 O ntmps165 O (λw0 hw0=>?_)
  refine J.f λ_ j1=>J.p 2 O<|J.c j1<|J.f λ_ j2=>J.b O<|J.q (qBb O O (λF' hF=>qHa F' d hd)) O ?_
  rintro⟨A16,c16,m16⟩ h16
  try dsimp only at h16
  refine J.b O<|J.g (qAT O O O) O<|J.g (qAT O O O) O<|J.p 2 O<|J.c j2<|J.k λ_ j3=>J.f λ_ j4=>J.b O<|J.g ((qAV O O O).no xC) O<|J.c j4<|J.a3 ?_
  refine J.M j3<|J.f λ_ j5=>J.b O<|J.q (qAZ O O (λF' hF=>qIq F' (hK.mono (Fa hF)) seed hs)) O λg23 _=>J.b O<|J.c j5<|J.k λ_ j6=>J.c6 [0,1,2] [F,m16,(λ_=>none)] O xC<|J.H<|J.b O<|J.c j6<|J.k λ_ j7=>J.f λ_ j8=>J.b O<|J.g (qAO qEa O O) O<|J.b O<|J.c j8<|J.T<|J.b5 (X:=Nat×Option Addr×Nat×Hp) (λx=> [(0,Str seed),(1,I leaf),(10,Str (Wo.opn seed)),(11,.slice x.2.1 x.1 x.2.2.1),(24,.slice A16 35 c16),(25,I (35:Nat)),(26,I x.1)]) (λx=> [F,m16,x.2.2.2]) (λx=>x.1≤35∧Row x.2.2.2 9 1 x.2.1 x.1 x.2.2.1 (qAH (Wo.signs seed leaf (Wo.digs d) x.1))) (λx=>35-x.1) (0,none,0,λ_=>none) (⟨jE _,by rw [Wo.signs0];exact qBZ.nil⟩) ⟨O,O,O,O,O,O,O,trivial⟩ (λ_ h=>h) ?_
  rintro⟨k,A6,c6,m⟩ ⟨hk,hrow⟩ I0 hI0
  dsimp only at hk hrow⊢
  have hdk:=hd15 k
  refine J.f λ_ j9=>J.g (qAS O O O) O<|J.c j9<|J.k λ_ j10=>J.Z O (λh27=>?_) (λh27=>?_)
  ·
    refine J.M j10<|J.k λ_ j11=>J.T<|J.f λ_ j12=>J.b O<|J.g (qAF O O O qEa z3_ h16.sl xB) O<|J.g (qAI O O b3_ (m:=m16) xD (h16.sl.elem (qDL (k:=k) xB))) O<|J.p 2 O<|J.c j12<|J.H<|J.p 8 O<|J.q (qAZ O O (λF' hF=>qH3 F' (hK.mono (Fa hF)) seed leaf k hs h1 xB)) O λg39 _=>J.q (qAZ O O (λF' hF=>qLv F' (hK.mono (Fa hF)) (Wo.opn seed) leaf k (by rw [Wo.opn_length];decide) h1 xB (Wo.secret seed leaf k) (by rw [Wo.secret_length];decide) 0 ((Wo.digs d).getD k 0) 0 ((Wo.digs d).getD k 0) xB xB xB)) O λg40 _=>J.q (qAE (l:= [.tmp 40]) (xs:= [[Str ((Wo.walk (Wo.opn seed) leaf k 0 (Wo.secret seed leaf k) ((Wo.digs d).getD k 0)))]]) O O O O qAn el9 O xC xC xD) O λg41 _=>J.q (qAX (i:=2) (m2:=blk g41 [Str (Wo.walk (Wo.opn seed) leaf k 0 (Wo.secret seed leaf k) ((Wo.digs d).getD k 0))] 9) O O O qAn qAn el9 O hrow xD (qAm (q:=True) (xs:=qAH [(Wo.walk (Wo.opn seed) leaf k 0 (Wo.secret seed leaf k) ((Wo.digs d).getD k 0))]) O (by simp [qAH])).sl (qC4 _) xB xB) O ?_
    rintro⟨A42,c42,m42⟩ h42
    try dsimp only at h42
    rw [←qCL,←Wo.signs_succ] at h42
    refine J.c2 [0,1,2] [F,m16,m42] O xC<|J.b O<|J.a4<|J.a2<|J.u (J.D j11 ?_)
    exact J.H<|J.g ((qAR O O O xB).nat (k+1) xB) O<|J.b O<|J.a4<|J.u<|J.a8 (k+1,A42,c42,m42) (λx (hx:_∧35-x.1<35-k)=>hI0 x hx.1 hx.2) ⟨⟨by dsimp only;omega,h42⟩,by dsimp only;omega⟩ ⟨O,O,O,O,O,O,O,trivial⟩ (λ_ h=>h)
  refine J.b3<|J.a0<|J.a0<|J.b4 ?_
  refine J.u (J.D j7 ?_)
  refine J.k λ_ j13=>?_
  have hk35:k=35:=xB
  subst hk35
  exact J.H<|J.p 3 O<|J.c j13<|J.A<|J.a9 hw0 (λ_ _ h=>h) (qBw O O O) (qAg (A6,c6,m) O hrow [0,2] O xC)
theorem qPf(F:Hp)(A:Option Addr)(n c:Nat)(ls:List xA)(hl:Sl F 1 A n c (qAH ls))(h16: ∀s∈ls,s.length=16)(hn:n=35):
    Cz prog 282 [.slice A n c] F (.bool true):=by
  have hlen:ls.length=n:=by have:=hl.1;simpa [qAH] using this
  refine Ct.walk func282 O ntmps282 O (λw0 hw0=>?_)
  refine J.f λ_ j1=>J.b O<|J.c j1<|J.k λ_ j2=>J.f λ_ j3=>J.b O<|J.g (qAO qAn O O) O<|J.b O<|J.c j3<|J.T<|J.b5 (λk:Nat=> [(0,.slice A n c),(5,.slice A n c),(6,I n),(7,I k)]) (λ_=> [F]) (λk=>k≤n) (λk=>n-k) 0 (jE _) ⟨O,O,O,O,trivial⟩ (λ_ h=>h) ?_
  intro k hk I0 hI0
  refine J.f λ_ j4=>J.g (qAS O O O) O<|J.c j4<|J.k λ_ j5=>J.Z O (λh8=>?_) (λh8=>?_)
  ·
    refine J.M j5<|J.k λ_ j6=>J.T<|J.f λ_ j7=>J.g (qAF O O O qAn z9_ hl xB) O<|J.g (qAI O O b9_ (m:=F) xD (hl.elem (qAc (qAi [] (show k<ls.length by omega))))) O<|J.b O<|J.c j7<|J.f λ_ j8=>J.b O<|J.g (qAu u9_ O O) O<|J.g ((qAV O O O).no (by have:=h16 _ (jM (qAi [] (show k<ls.length by omega)));omega)) O<|J.c j8<|J.a3 ?_
    refine J.b2<|J.a2<|J.u (J.D j6 ?_)
    exact J.H<|J.g ((qAR O O O xB).nat (k+1) xB) O<|J.b O<|J.a4<|J.u<|J.a8 (k+1) (λx (hx:x≤n∧n-x<n-k)=>hI0 x hx.1 hx.2) ⟨xB,xB⟩ ⟨O,O,O,O,trivial⟩ (λ_ h=>h)
  refine J.b3<|J.a0<|J.a0<|J.b4 ?_
  refine J.u (J.D j2 ?_)
  exact J.f λ_ j9=>J.b O<|J.g (qAO qAn O O) O<|J.g ((qAe O O O).yes xB) O<|J.b O<|J.c j9<|J.A<|J.E hw0 O () O trivial [0] O xC
theorem qOh(F:Hp)(hK:qAG F ⟨3,0,none⟩ (Sha.K.map W32))(o:xA)(leaf:Nat)(d:xA)(A:Option Addr)(c:Nat)(sig:List xA)(hl:Sl F 1 A 35 c (qAH sig))(ho:o.length≤1048576)(h1:leaf<4611686018427387904)(hd:d.length=16)(hsg: ∀s∈sig,s.length=16):
    Cz prog 244 [Str o,I leaf,Str d,.slice A 35 c] F (.tuple #[Str (Wo.publicOf o leaf (Wo.ends o leaf (Wo.digs d) sig 35)),I 0]):=by
  have hdl:(Wo.digs d).length=35:=by rw [Wo.digs_length,hd]
  have hd15:=Wo.digs_le d xB
  have hlen:sig.length=35:=by have:=hl.1;simpa [qAH] using this
  refine Ct.walk func244 O ntmps244 O (λw0 hw0=>?_)
  refine J.f λ_ j1=>J.p 2 O<|J.c j1<|J.f λ_ j2=>J.b O<|J.q (qBb O O (λF' hF=>qHa F' d hd)) O ?_
  rintro⟨A17,c17,m17⟩ h17
  try dsimp only at h17
  refine J.b O<|J.g (qAT O O O) O<|J.g (qAT O O O) O<|J.p 2 O<|J.c j2<|J.k λ_ j3=>J.T<|J.f λ_ j4=>J.b O<|J.g ((qAV O O O).no xC) O<|J.b O<|J.c j4<|J.a3 ?_
  refine J.f λ_ j5=>J.b O<|J.q (qAZ O O (λF' hF=>qPf F' A 35 c sig (hl.mono (Fa hF)) hsg O)) O λg26 _=>J.g ((qAs O O).as (v':= .bool false) O) O<|J.b O<|J.c j5<|J.a3 ?_
  refine J.b2<|J.a2<|J.u (J.D j3 ?_)
  refine J.k λ_ j6=>J.c6 [0,1,2] [F,m17,(λ_=>none)] O xC<|J.H<|J.b O<|J.c j6<|J.k λ_ j7=>J.f λ_ j8=>J.b O<|J.g (qAO qEa O O) O<|J.b O<|J.c j8<|J.T<|J.b5 (X:=Nat×Option Addr×Nat×Hp) (λx=> [(0,Str o),(1,I leaf),(3,.slice A 35 c),(12,.slice x.2.1 x.1 x.2.2.1),(28,.slice A17 35 c17),(29,I (35:Nat)),(30,I x.1)]) (λx=> [F,m17,x.2.2.2]) (λx=>x.1≤35∧Row x.2.2.2 9 1 x.2.1 x.1 x.2.2.1 (qAH (Wo.ends o leaf (Wo.digs d) sig x.1))) (λx=>35-x.1) (0,none,0,λ_=>none) (⟨jE _,by rw [Wo.ends0];exact qBZ.nil⟩) ⟨O,O,O,O,O,O,O,trivial⟩ (λ_ h=>h) ?_
  rintro⟨k,A6,c6,m⟩ ⟨hk,hrow⟩ I0 hI0
  dsimp only at hk hrow⊢
  have hdk:=hd15 k
  refine J.f λ_ j9=>J.g (qAS O O O) O<|J.c j9<|J.k λ_ j10=>J.Z O (λh31=>?_) (λh31=>?_)
  ·
    refine J.M j10<|J.k λ_ j11=>J.T<|J.f λ_ j12=>J.b O<|J.g (qAF O O O qEa z3_ h17.sl xB) O<|J.g (qAI O O b3_ (m:=m17) xD (h17.sl.elem (qDL (k:=k) xB))) O<|J.p 2 O<|J.c j12<|J.H<|J.p 7 O<|J.g (qAF O O O qAn z9_ hl xB) O<|J.g (qAI O O b9_ (m:=F) xD (hl.elem (qAc (qAi [] (show k<sig.length by omega))))) O<|J.q (qAZ O O (λF' hF=>qLv F' (hK.mono (Fa hF)) o leaf k ho h1 xB (sig.getD k []) (by have:=hsg _ (jM (qAi [] (show k<sig.length by omega)));omega) ((((Wo.digs d).getD k 0):Nat):Int) 15 ((Wo.digs d).getD k 0) (15-((Wo.digs d).getD k 0)) xB xB xB)) O λg44 _=>J.q (qAE (l:= [.tmp 44]) (xs:= [[Str ((Wo.walk o leaf k ((Wo.digs d).getD k 0) (sig.getD k []) (15-((Wo.digs d).getD k 0))))]]) O O O O qAn el9 O xC xC xD) O λg45 _=>J.q (qAX (i:=2) (m2:=blk g45 [Str (Wo.walk o leaf k ((Wo.digs d).getD k 0) (sig.getD k []) (15-((Wo.digs d).getD k 0)))] 9) O O O qAn qAn el9 O hrow xD (qAm (q:=True) (xs:=qAH [(Wo.walk o leaf k ((Wo.digs d).getD k 0) (sig.getD k []) (15-((Wo.digs d).getD k 0)))]) O (by simp [qAH])).sl (qC4 _) xB xB) O ?_
    rintro⟨A46,c46,m46⟩ h46
    try dsimp only at h46
    rw [←qCL,←Wo.ends_succ] at h46
    refine J.c2 [0,1,2] [F,m17,m46] O xC<|J.b O<|J.a4<|J.a2<|J.u (J.D j11 ?_)
    exact J.H<|J.g ((qAR O O O xB).nat (k+1) xB) O<|J.b O<|J.a4<|J.u<|J.a8 (k+1,A46,c46,m46) (λx (hx:_∧35-x.1<35-k)=>hI0 x hx.1 hx.2) ⟨⟨by dsimp only;omega,h46⟩,by dsimp only;omega⟩ ⟨O,O,O,O,O,O,O,trivial⟩ (λ_ h=>h)
  refine J.b3<|J.a0<|J.a0<|J.b4 ?_
  refine J.u (J.D j7 ?_)
  refine J.k λ_ j13=>?_
  have hk35:k=35:=xB
  subst hk35
  exact J.H<|J.p 3 O<|J.q (qAZ O O (λF' hF=>qH4 F' (hK.mono (Fa hF)) o leaf ho h1 A6 35 c6 (Wo.ends o leaf (Wo.digs d) sig 35) (hrow.sl.mono (Fa hF)) (Wo.ends_small o leaf (Wo.digs d) sig 35 (λs hs=>Nat.le_of_eq (hsg s hs))) xC)) O λg51 _=>J.p 2 O<|J.c j13<|J.A<|J.a9 hw0 (λ_ _ h=>h) (qBw O O O) (qAg () O trivial [0] O xC)
end Go.Proofs.YtmemgokiolfdoaaGreatDoor
namespace Go.Proofs.YtmemgokiolfdoaaGreatDoor
open Go Go.Fw Go.Proofs.Tryz
namespace Xm
def leaves(seed:xA)(k:Nat):List xA:=(List.range k).map λi=>Wo.pub seed i
def root(seed:xA)(h:Nat):xA:=Mk.root (leaves seed (2^h)) h
def four(n:Nat):xA:= [UInt8.ofNat (n/2^24),UInt8.ofNat (n/2^16),UInt8.ofNat (n/2^8),UInt8.ofNat n]
def digest(o:xA)(i:Nat)(m:xA):xA:=Sha.tagged 6 [o,four i,m]
theorem leaves_succ(seed:xA)(k:Nat):leaves seed (k+1)=leaves seed k++ [Wo.pub seed k]:=by simp [leaves,jx]
theorem leaves_length(seed:xA)(k:Nat):(leaves seed k).length=k:=by simp [leaves]
theorem leaves_get(seed:xA)(k i:Nat)(h:i<k):(leaves seed k).getD i []=Wo.pub seed i:=by
 unfold leaves
 rw [jB,jN,zB h];rfl
theorem pub_length(seed:xA)(i:Nat):(Wo.pub seed i).length=16:=Sha.tagged_length _ _
theorem leaves_small(seed:xA)(k:Nat): ∀s∈leaves seed k,s.length≤1048576:=λs hs=>by
 simp only [leaves,zU] at hs
 obtain ⟨i,_,rfl⟩:=hs
 rw [pub_length];decide
theorem digest_length(o:xA)(i:Nat)(m:xA):(digest o i m).length=16:=Sha.tagged_length _ _
theorem four_length(n:Nat):(four n).length=4:=rfl
theorem pow_le(h:Nat)(h6:h≤6):2^h≤64:=jg (jn xC h6) xC
end Xm
attribute [local irreducible] Sha.tagged Wo.pub Wo.publicOf Wo.signs Wo.ends Wo.digs Wo.walk Wo.opn Mk.root Mk.path Mk.climb
theorem Xm.leaves0(seed:xA):Xm.leaves seed 0= []:=rfl
theorem Wo.recPub(seed:xA)(leaf:Nat)(d:xA)(hd:d.length≤16):Wo.publicOf (Wo.opn seed) leaf (Wo.ends (Wo.opn seed) leaf (Wo.digs d) (Wo.signs seed leaf (Wo.digs d) 35) 35)=Wo.pub seed leaf:=by
 rw [Wo.recovers seed leaf (Wo.digs d) (Wo.digs_le d hd) 35];unfold Wo.pub;rfl
def qBa(seed o r:xA)(h:Int)(A:Option Addr)(n c:Nat):List Value:= [Str seed,Str o,Str r,I h,.slice A n c]
def qYb(mm:Hp)(g:Nat)(seed:xA)(h:Nat):Prop:= ∃A c mr,mm=U [blk g (qBa seed (Wo.opn seed) (Xm.root seed h) h A (2^h) c) 140,mr]∧Dj (blk g (qBa seed (Wo.opn seed) (Xm.root seed h) h A (2^h) c) 140) mr∧Row mr 9 1 A (2^h) c (qAH (Xm.leaves seed (2^h)))
theorem qYb.see{mm:Hp}{g:Nat}{seed:xA}{h:Nat}(hk:qYb mm g seed h): ∃A c,qAG mm ⟨g,0,none⟩ (qBa seed (Wo.opn seed) (Xm.root seed h) h A (2^h) c)∧Sl mm 1 A (2^h) c (qAH (Xm.leaves seed (2^h))):=by
 obtain ⟨A,c,mr,rfl,hd,hr⟩:=hk
 exact⟨A,c,qAG.blk0.mono (qV0 _ _),hr.sl.mono (qRb hd)⟩
theorem qWK(F:Hp)(hK:qAG F ⟨3,0,none⟩ (Sha.K.map W32))(seed:xA)(h:Nat)(hs:seed.length≤1048576)(h6:h≤6):
    Ct prog 11 [Str seed,I h] [F] (λx:Nat×Hp=> .tuple #[Ptr x.1,I 0]) (λx=>qYb x.2 x.1 seed h) (λx=> [x.2,F]):=by
  have hp64:=Xm.pow_le h h6
  have hp0:=zA h
  refine Ct.walk func11 O ntmps11 O (λw0 hw0=>?_)
  refine J.f λ_ j1=>J.p 2 O<|J.c j1 ?_
  refine J.k λ_ j2=>J.f λ_ j3=>J.b O<|J.g ((qAS O O O).no xB) O<|J.p 2 O<|J.G ((qA5 O O O).no xB) O<|J.b O<|J.c j3 ?_
  refine J.a3 ?_
  refine J.M j2 ?_
  refine J.f λ_ j4=>J.b O<|J.g (qAL (places:= [(0,1),(1,3),(4,1)]) (r:=qBa seed [] [] 0 none 0 0) O O O qHr zeroValue140 (λ_=>xI) O) O<|J.q (qAb O O O) O λg18 _=>J.b O<|J.c j4 ?_
  refine J.k λ_ j5=>J.k λ_ j6=>J.c6 [0,1,2] [F,blk g18 (qBa seed [] [] 0 none 0 0) 140,(λ_=>none)] O xC<|J.H<|J.b O<|J.g ((qJG O O O ⟨xB,by have:=Int.pow_pos (n:=2) (m:=h) xC;omega,by rw [Int.one_mul];exact Int.ofNat_le.2 (show 2^h≤9223372036854775807 by omega)⟩).as (v':=I (2^h:Nat)) (congrArg I xD)) O<|J.b O<|J.c j6 ?_
  refine J.T<|J.b5 (X:=Nat×Option Addr×Nat×Hp) (λx=> [(0,Str seed),(1,I h),(6,Ptr g18),(20,I (2^h:Nat)),(21,I x.1)]) (λx=> [F,blk g18 (qBa seed [] [] 0 x.2.1 x.1 x.2.2.1) 140,x.2.2.2]) (λx=>x.1≤2^h∧Row x.2.2.2 9 1 x.2.1 x.1 x.2.2.1 (qAH (Xm.leaves seed x.1))) (λx=>2^h-x.1) (0,none,0,λ_=>none) (⟨jE _,by rw [Xm.leaves0];exact qBZ.nil⟩) ⟨O,O,O,O,O,trivial⟩ (λ_ h=>h) ?_
  rintro⟨k,A6,c6,m⟩ ⟨hk,hrow⟩ I0 hI0
  dsimp only at hk hrow⊢
  refine J.f λ_ j7=>J.g (qAS O O O) O<|J.c j7 ?_
  refine J.k λ_ j8=>J.Z O (λh22=>?_) (λh22=>?_)
  ·
    refine J.M j8 ?_
    refine J.k λ_ j9=>J.T<|J.f λ_ j10=>J.p 2 O<|J.c j10 ?_
    refine J.b1 [blk g18 (qBa seed [] [] 0 A6 k c6) 140] [12] (.y 0 (.y 1 (.y 2 (.y 3 (.y 4 (.y 5 (.y 6 (.e 7 (.e 8 (.e 9 (.y 10 (.y 11 (.e 12 .nil))))))))))))) Tryz.wide xF xD ?_
    refine J.L ?_
    refine J.L ?_
    refine J.j O (qAB O O) O O<|J.j O (qAA O O qHr O qB9 O) O O<|J.j O (qAD 0 O O O qCQ O) O O<|J.L ?_
    refine J.L ?_
    refine J.a1 O (qAZ O O (λF' hF=>qWL F' (hK.mono (Fa hF)) seed k hs xB)) O xD λg31 _=>J.a1 O (qAE (l:= [.tmp 31]) (xs:= [[Str (Wo.pub seed k)]]) O O O O qAn el9 O xC xC xD) O xD λg32 _=>J.a1 O (qAX (i:=2) (m2:=blk g32 [Str (Wo.pub seed k)] 9) O O O qAn qAn el9 O hrow xD (qAm (q:=True) (xs:=qAH [(Wo.pub seed k)]) O (by simp [qAH])).sl (qC4 _) xB xB) O xD ?_
    rintro⟨A33,c33,m33⟩ h33
    try dsimp only at h33
    rw [←qCL,←Xm.leaves_succ] at h33
    refine J.j O (qAB O O) O O<|J.j O (qAA O O qHr O qB9 O) O O<|J.c1 O (qAW (i:=1) O O O O O qB9 O (by simp [qBa])) O O O λ_ _=>J.b0<|J.a2<|J.u (J.D j9 ?_)
    exact J.c2 [0,1,2] [F,blk g18 (qBa seed [] [] 0 A33 (k+1) c33) 140,m33] O xC<|J.H<|J.g ((qAR O O O xB).nat (k+1) xB) O<|J.b O<|J.a4<|J.u<|J.a8 (k+1,A33,c33,m33) (λx (hx:_∧2^h-x.1<2^h-k)=>hI0 x hx.1 hx.2) ⟨⟨by dsimp only;omega,h33⟩,by dsimp only;omega⟩ ⟨O,O,O,O,O,trivial⟩ (λ_ h=>h)
  refine J.b3<|J.a0<|J.a0<|J.b4 ?_
  refine J.u (J.D j5 ?_)
  refine J.k λ_ j11=>?_
  have hkn:k=2^h:=xB
  subst hkn
  refine J.H<|J.b O<|J.g (qAB O O) O<|J.W 4 qHr qB9 O O O O O<|J.a6 1 qCQ O O O O O<|J.q (qAZ O O (λF' hF=>qWu F' (hK.mono (Fa hF)) A6 (2^h) c6 (Xm.leaves seed (2^h)) (hrow.sl.mono (Fa hF)) h h6 O (Xm.leaves_small _ _))) O λg42 _=>J.p 2 O<|J.g (qAT O O O) O<|J.p 2 O<|J.c j11 ?_
  refine J.f λ_ j12=>J.p 2 O<|J.q (qAZ O O (λF' hF=>qIq F' (hK.mono (Fa hF)) seed hs)) O λg47 _=>J.p 2 O<|J.g (qAL (places:= [(0,1),(1,1),(2,1)]) (r:= [Str (Wo.opn seed),Str (Xm.root seed h),I h]) O O O qLo qWA (λ_=>xI) O) O<|J.g (qAB O O) O<|J.W 1 qHr qCT O O O O O<|J.a7 (qAW (i:=1) O O O O O qCT O (by simp [qBa])) O O λ_ _=>J.c j12 ?_
  refine J.k λ_ j13=>J.c2 [1,2,0] [blk g18 (qBa seed (Wo.opn seed) (Xm.root seed h) h A6 (2^h) c6) 140,m,F] O xC<|J.H<|J.p 3 O<|J.c j13 ?_
  exact J.A<|J.a9 hw0 (λ_ _ h=>h) (qBw O O O) (qCa (g18,U [blk g18 (qBa seed (Wo.opn seed) (Xm.root seed h) h A6 (2^h) c6) 140,m]) O (λhd=>⟨A6,c6,m,O,hd,hrow⟩) [0,1,2] O O xC)
theorem qPc(F:Hp)(g:Nat)(seed o r:xA)(h:Int)(A:Option Addr)(n c:Nat)(hc:qAG F ⟨g,0,none⟩ (qBa seed o r h A n c)):
    Cz prog 164 [Ptr g] F (I n):=by
  refine Ct.walk func164 O ntmps164 O (λw0 hw0=>?_)
  refine J.f λ_ j1=>J.b O<|J.c j1 ?_
  refine J.k λ_ j2=>J.f λ_ j3=>J.b O<|J.g ((qA6 underlying36 O O O).as (v':= .bool false) O) O<|J.c j3 ?_
  refine J.a3 ?_
  refine J.M j2 ?_
  refine J.f λ_ j4=>J.b O<|J.g (qAB O O) O<|J.W 4 qHr qB9 O O O O O<|J.g (qAI O O qCQ (m:=F) xD (hc.at (i:=4) O)) O<|J.g (qAO qAn O O) O<|J.b O<|J.c j4 ?_
  exact J.A<|J.E hw0 O () O trivial [0] O xC
theorem qOJ(F:Hp)(g:Nat)(seed o r:xA)(h:Int)(A:Option Addr)(n c:Nat)(hc:qAG F ⟨g,0,none⟩ (qBa seed o r h A n c)):
    Cz prog 28 [Ptr g] F (.agg #[Str o,Str r,I h]):=by
  refine Ct.walk func28 O ntmps28 O (λw0 hw0=>?_)
  refine J.f λ_ j1=>J.q (qAJ O qWA O) O λg2 _=>J.c j1 ?_
  refine J.k λ_ j2=>J.f λ_ j3=>J.b O<|J.g ((qA6 underlying36 O O O).as (v':= .bool false) O) O<|J.c j3 ?_
  refine J.a3 ?_
  refine J.M j2 ?_
  refine J.f λ_ j4=>J.b O<|J.g (qAB O O) O<|J.W 1 qHr qCT O O O O O<|J.g (qAP O O qGb qCT (m:=F) xD (hc.sub 1 3) O) O<|J.a7 (qAC (l:= [Str [],Str [],I 0]) (i:=1) (vs:= [Str o,Str r,I h]) O O O O O qCT O O) O O λ_ _=>J.c j4 ?_
  exact J.A<|J.a9 hw0 (λ_ _ h=>h) (rv1 O (RV.blkA 1 O O qGb qCT)) (qAg () O trivial [0] O xC)
theorem qH2(F:Hp)(hK:qAG F ⟨3,0,none⟩ (Sha.K.map W32))(o:xA)(i:Nat)(mg:xA)(ho:o.length≤1048576)(hi:i<4611686018427387904)(hm:mg.length≤1048576):
    Cz prog 166 [Str o,I i,Str mg] F (Str (Xm.digest o i mg)):=by
  refine Ct.walk func166 O ntmps166 O (λw0 hw0=>?_)
  refine J.f λ_ j1=>J.b O<|J.c j1 ?_
  refine J.f λ_ j2=>J.b O<|J.g ((qDA O O O ⟨xC,xB⟩).as (v':=I (i/2^24:Nat)) (congrArg I xD)) O<|J.g (qAx O O u3_ u5_) O<|J.b O<|J.g ((qDA O O O ⟨xC,xB⟩).as (v':=I (i/2^16:Nat)) (congrArg I xD)) O<|J.g (qAx O O u3_ u5_) O<|J.b O<|J.g ((qDA O O O ⟨xC,xB⟩).as (v':=I (i/2^8:Nat)) (congrArg I xD)) O<|J.g (qAx O O u3_ u5_) O<|J.b O<|J.g (qAx O O u3_ u5_) O<|J.q (qAE (l:= [.tmp 10,.tmp 13,.tmp 16,.tmp 18]) (xs:= [[B8 (UInt8.ofNat (i/2^24))],[B8 (UInt8.ofNat (i/2^16))],[B8 (UInt8.ofNat (i/2^8))],[B8 (UInt8.ofNat i)]]) O O O O qBu el5 O xC xC xD) O λg19 _=>J.g (qB3 O O qBu u5_ u9_ (m:=blk g19 [B8 (UInt8.ofNat (i/2^24)),B8 (UInt8.ofNat (i/2^16)),B8 (UInt8.ofNat (i/2^8)),B8 (UInt8.ofNat i)] 5) xD (slB (Xm.four i) O)) O<|J.b O<|J.c j2 ?_
  refine J.f λ_ j3=>J.p 3 O<|J.q (qAE (l:= [.tmp 21,.tmp 22,.tmp 23]) (xs:= [[Str (o)],[Str (Xm.four i)],[Str (mg)]]) O O O O qAn el9 O xC xC xD) O λg24 _=>J.q (qAZ O O (λF' hF=>qA3 F' (hK.mono (Fa hF)) 6 (some ⟨g24,0,none⟩) 3 3 [o,Xm.four i,mg] ((slS [o,Xm.four i,mg] O).mono (hF (blk g24 (([o,Xm.four i,mg]:List xA).map λs=>Str s) 9) xD)) (by have:=qVj ho (show(Xm.four i).length≤1048576 by rw [Xm.four_length];decide) hm;omega) xC)) O λg25 _=>J.b O<|J.c j3 ?_
  exact J.A<|J.E hw0 O () O trivial [0] O xC
theorem qS5(F:Hp)(hK:qAG F ⟨3,0,none⟩ (Sha.K.map W32))(g:Nat)(seed:xA)(h:Nat)(A:Option Addr)(c:Nat)(hc:qAG F ⟨g,0,none⟩ (qBa seed (Wo.opn seed) (Xm.root seed h) h A (2^h) c))(hsl:Sl F 1 A (2^h) c (qAH (Xm.leaves seed (2^h))))(hs:seed.length≤1048576)(h6:h≤6)(mg:xA)(hm:mg.length≤1048576)(i:Nat)(hi:i<2^h):
    Ct prog 92 [Ptr g,I i,Str mg] [F] (λx:(Option Addr×Nat×Hp)×(Option Addr×Nat×Hp)=> .tuple #[.agg #[I i,.slice x.1.1 35 x.1.2.1,.slice x.2.1 h x.2.2.1],I 0]) (λx=>Row x.1.2.2 9 1 x.1.1 35 x.1.2.1 (qAH (Wo.signs seed i (Wo.digs (Xm.digest (Wo.opn seed) i mg)) 35))∧Row x.2.2.2 9 1 x.2.1 h x.2.2.1 (qAH (Mk.path (Xm.leaves seed (2^h)) i h))) (λx=> [F,x.1.2.2,x.2.2.2]):=by
  have hp64:=Xm.pow_le h h6
  have hdl:=Xm.digest_length (Wo.opn seed) i mg
  refine Ct.walk func92 O ntmps92 O (λw0 hw0=>?_)
  refine J.f λ_ j1=>J.q (qAJ O zeroValue106 O) O λg6 _=>J.b O<|J.c j1 ?_
  refine J.k λ_ j2=>J.T<|J.f λ_ j3=>J.b O<|J.g ((qA6 underlying36 O O O).as (v':= .bool false) O) O<|J.b O<|J.c j3 ?_
  refine J.a3 ?_
  refine J.f λ_ j4=>J.p 2 O<|J.q (qAZ O O (λF' hF=>qPc F' g seed (Wo.opn seed) (Xm.root seed h) h A (2^h) c (hc.mono (Fa hF)))) O λg18 _=>J.g ((qBI O O O).no xB) O<|J.b O<|J.c j4 ?_
  refine J.a3 ?_
  refine J.f λ_ j5=>J.b O<|J.g ((qAS O O O).no xB) O<|J.b O<|J.c j5 ?_
  refine J.a3 ?_
  refine J.b2<|J.a2<|J.u (J.D j2 ?_)
  refine J.k λ_ j6=>J.b1 [F] [] (.y 0 (.y 1 (.y 2 (.y 3 (.y 4 (.y 5 (.y 6 (.y 7 (.y 8 (.y 9 (.y 10 (.y 11 (.e 12 (.e 13 (.y 14 (.y 15 (.y 16 (.y 17 (.y 18 .nil))))))))))))))))))) Tryz.wide xF xD ?_
  refine J.L ?_
  refine J.j O (qAB O O) O O<|J.j O (qAA O O qHr O z9_ O) O O<|J.j O (qAI O O b9_ (m:=F) xD (hc.at (i:=0) O)) O O<|J.L ?_
  refine J.L ?_
  refine J.j O (qAB O O) O O<|J.j O (qAA O O qHr O qCT O) O O<|J.j O (qAA O O qLo O z9_ O) O O<|J.j O (qAI O O b9_ (m:=F) xD (hc.at (i:=1) O)) O O<|J.L ?_
  refine J.L ?_
  refine J.a1 O (qAZ O O (λF' hF=>qH2 F' (hK.mono (Fa hF)) (Wo.opn seed) i mg (by rw [Wo.opn_length];decide) xB hm)) O xD λg38 _=>J.a1 O (qBb O O (λF' hF=>qWk F' (hK.mono (Fa hF)) seed i (Xm.digest (Wo.opn seed) i mg) hs xB hdl)) O xD ?_
  rintro⟨A39,c39,m39⟩ h39
  try dsimp only at h39
  refine J.L ?_
  refine J.c7 (.slice A39 35 c39) ?_
  refine J.c7 (I 0) ?_
  refine J.b7 ?_
  refine J.b7 ?_
  refine J.b0<|J.u (J.D j6 ?_)
  refine J.k λ_ j7=>J.f λ_ j8=>J.b O<|J.g ((qAV O O O).no xC) O<|J.c j8 ?_
  refine J.a3 ?_
  refine J.M j7 ?_
  refine J.f λ_ j9=>J.b O<|J.g (qAB O O) O<|J.W 4 qHr qB9 O O O O O<|J.g (qAI O O qCQ (m:=F) xD (hc.at (i:=4) O)) O<|J.b O<|J.q (qBb O O (λF' hF=>qXI F' (hK.mono (Fa hF)) A (2^h) c (Xm.leaves seed (2^h)) (hsl.mono (Fa hF)) h h6 O (Xm.leaves_small _ _) i hi)) O ?_
  rintro⟨A52,c52,m52⟩ h52
  try dsimp only at h52
  refine J.p 5 O<|J.c j9 ?_
  refine J.f λ_ j10=>J.p 3 O<|J.g (qAL (places:= [(0,1),(1,1),(2,1)]) (r:= [I i,.slice A39 35 c39,.slice A52 h c52]) O O O qDu zeroValue106 (λ_=>xI) O) O<|J.b O<|J.a7 (qAC (l:= [I 0,.slice none 0 0,.slice none 0 0]) (i:=1) (vs:= [I i,.slice A39 35 c39,.slice A52 h c52]) O O O O O qCy O O) O O λ_ _=>J.b O<|J.c j10 ?_
  exact J.A<|J.a9 hw0 (λ_ _ h=>h) (rv2 O (RV.blkA 1 O O isAgg106 qCy) O) (qAg ((A39,c39,m39),(A52,c52,m52)) O ⟨h39,h52⟩ [0,2,3] O xC)
theorem Wo.publicOf_length(o:xA)(leaf:Nat)(e:List xA):(Wo.publicOf o leaf e).length=16:=by unfold Wo.publicOf;exact Sha.tagged_length _ _
theorem qH1(F:Hp)(hK:qAG F ⟨3,0,none⟩ (Sha.K.map W32))(o r:xA)(h:Nat)(mg:xA)(i:Nat)(A1:Option Addr)(c1:Nat)(ch:List xA)(hch:Sl F 1 A1 35 c1 (qAH ch))(hsg: ∀s∈ch,s.length=16)(A2:Option Addr)(c2:Nat)(pt:List xA)(hpt:Sl F 1 A2 h c2 (qAH pt))(hps: ∀s∈pt,s.length≤1048576)
    (ho:o.length≤1048576) (hm:mg.length≤1048576) (h6:h≤6) (hi:i<2^h):
    Cz prog 185 [.agg #[Str o,Str r,I h],Str mg,.agg #[I i,.slice A1 35 c1,.slice A2 h c2]] F (.bool (decide (Mk.climb (Wo.publicOf o i (Wo.ends o i (Wo.digs (Xm.digest o i mg)) ch 35)) i pt=r))):=by
  have hp64:=Xm.pow_le h h6
  have hdl:=Xm.digest_length o i mg
  refine Ct.walk func185 O ntmps185 O (λw0 hw0=>?_)
  refine J.f λ_ j1=>J.q (qAb O O O) O λg3 _=>J.q (qAb O O O) O λg5 _=>J.b O<|J.c j1 ?_
  refine J.k λ_ j2=>J.k λ_ j3=>J.b1 [F,blk g3 [Str o,Str r,I h] 32,blk g5 [I i,.slice A1 35 c1,.slice A2 h c2] 106] [] (.y 0 (.y 1 (.y 2 (.y 3 (.y 4 (.y 5 (.y 6 (.y 7 (.y 8 (.y 9 (.y 10 (.y 11 (.y 12 (.y 13 (.y 14 (.y 15 (.y 16 (.y 17 (.y 18 (.y 19 (.y 20 (.y 21 (.y 22 (.y 23 (.y 24 (.y 25 (.y 26 (.y 27 (.y 28 .nil))))))))))))))))))))))))))))) Tryz.wide xF xD ?_
  refine J.j O (qAA O O qLo O z3_ O) O O<|J.j O (qAD 1 O O O b3_ O) O O<|J.j O ((qAS O O O).no xB) O O<|J.L ?_
  refine J.b8 O (qAA O O qLo O z3_ O) O O<|J.b8 O (qAD 1 O O O b3_ O) O O<|J.b8 O ((qA5 O O O).no xB) O O<|J.e5 ?_
  refine J.L ?_
  refine J.b8 O (qAA O O qDu O z3_ O) O O<|J.b8 O (qAD 2 O O O b3_ O) O O<|J.b8 O ((qAS O O O).no xB) O O<|J.e5 ?_
  refine J.L ?_
  refine J.b8 O (qAA O O qDu O z3_ O) O O<|J.b8 O (qAD 2 O O O b3_ O) O O<|J.b8 O (qAA O O qLo O z3_ O) O O<|J.b8 O (qAD 1 O O O b3_ O) O O<|J.b8 O ((qJG O O O ⟨xB,by have:=Int.pow_pos (n:=2) (m:=h) xC;omega,by rw [Int.one_mul];exact Int.ofNat_le.2 (show 2^h≤9223372036854775807 by omega)⟩).as (v':=I (2^h:Nat)) (congrArg I xD)) O O<|J.b8 O ((qBI O O O).no xB) O O<|J.e5 ?_
  refine J.L ?_
  refine J.b8 O (qAA O O qDu O qB9 O) O O<|J.b8 O (qAD 2 O O O qCQ O) O O<|J.b8 O (qAO qAn O O) O O<|J.b8 O (qAA O O qLo O z3_ O) O O<|J.b8 O (qAD 1 O O O b3_ O) O O<|J.b8 O ((qAV O O O).no (λh=>h O)) O O<|J.e5 ?_
  refine J.b0<|J.u (J.D j3 ?_)
  refine J.a3 ?_
  refine J.M j2 ?_
  refine J.k λ_ j4=>J.b1 [F,blk g3 [Str o,Str r,I h] 32,blk g5 [I i,.slice A1 35 c1,.slice A2 h c2] 106] [] (.y 0 (.y 1 (.y 2 (.y 3 (.y 4 (.y 5 (.y 6 (.y 7 (.y 8 (.y 10 (.y 11 (.e 9 (.e 12 (.y 13 (.y 14 (.y 15 (.y 16 (.y 17 .nil)))))))))))))))))) Tryz.wide xF xD ?_
  refine J.j O (qAA O O qLo O z9_ O) O O<|J.j O (qAD 1 O O O b9_ O) O O<|J.j O (qAA O O qDu O z3_ O) O O<|J.j O (qAD 2 O O O b3_ O) O O<|J.j O (qAA O O qLo O z9_ O) O O<|J.j O (qAD 1 O O O b9_ O) O O<|J.j O (qAA O O qDu O z3_ O) O O<|J.j O (qAD 2 O O O b3_ O) O O<|J.L ?_
  refine J.j O (qAA O O qDu O qB9 O) O O<|J.j O (qAD 2 O O O qCQ O) O O<|J.a1 O (qAZ O O (λF' hF=>qH2 F' (hK.mono (Fa hF)) o i mg ho xB hm)) O xD λg48 _=>J.a1 O (qAZ O O (λF' hF=>qOh F' (hK.mono (Fa hF)) o i (Xm.digest o i mg) A1 c1 ch (hch.mono (Fa hF)) ho xB hdl hsg)) O xD λg51 _=>J.L ?_
  refine J.c7 (Str (Wo.publicOf o i (Wo.ends o i (Wo.digs (Xm.digest o i mg)) ch 35))) ?_
  refine J.c7 (I 0) ?_
  refine J.b7 ?_
  refine J.b7 ?_
  refine J.b0<|J.u (J.D j4 ?_)
  refine J.k λ_ j5=>J.b1 [F,blk g3 [Str o,Str r,I h] 32,blk g5 [I i,.slice A1 35 c1,.slice A2 h c2] 106] [] (.y 0 (.y 1 (.y 2 (.y 3 (.y 4 (.y 5 (.y 6 (.y 7 (.y 9 (.y 10 (.e 8 (.y 11 (.y 12 (.y 13 .nil)))))))))))))) Tryz.wide xF xD ?_
  refine J.L ?_
  refine J.j O ((qAe O O O).yes xC) O O<|J.L ?_
  refine J.b8 O (qA2 O O) O O<|J.b8 O (qAA O O qDu O z3_ O) O O<|J.b8 O (qAD 2 O O O b3_ O) O O<|J.b8 O (qAA O O qDu O qB9 O) O O<|J.b8 O (qAD 2 O O O qCQ O) O O<|J.b8 O (qAA O O qLo O z9_ O) O O<|J.b8 O (qAD 1 O O O b9_ O) O O<|J.e0 O (qAZ O O (λF' hF=>qVB F' (hK.mono (Fa hF)) (Wo.publicOf o i (Wo.ends o i (Wo.digs (Xm.digest o i mg)) ch 35)) i A2 h c2 pt (hpt.mono (Fa hF)) (by rw [Wo.publicOf_length];decide) hps xB xB)) (Wan.is O O O O O) O O xD ?_
  intro g62 _
  refine J.b8 O (qBY O O O) O O<|J.d2 ?_
  refine J.b7 ?_
  refine J.b0<|J.u (J.D j5 ?_)
  exact J.A<|J.E hw0 O () O trivial [0] O xC
end Go.Proofs.YtmemgokiolfdoaaGreatDoor
namespace Go.Proofs.YtmemgokiolfdoaaGreatDoor
open Go Go.Fw Go.Proofs.Tryz
def sgB(i:Nat)(ch pt:List xA):xA:= [UInt8.ofNat i]++ch.flatten++ [UInt8.ofNat pt.length]++pt.flatten
theorem qVv: ∀k,k<256→Sha.numB (UInt64.ofNat k) 1= [UInt8.ofNat k]:=by decide+kernel
theorem qUM: ∀k,k<256→okN (UInt64.ofNat k) 1=true:=by decide+kernel
theorem qLC{l:List xA}{k:Nat}(h:k<l.length):(l.take (k+1)).flatten=(l.take k).flatten++l.getD k []:=by
 rw [jK h,zK,ji,zQ,jR,jB,jC h];rfl
theorem qF9{l:List xA}(h: ∀s∈l,s.length=16):l.flatten.length=16*l.length:=by
 induction l with
 |nil=>rfl
 |cons a l ih=>
  rw [ji,jA,ih (λs hs=>h s (.tail _ hs)),h a (.head _),jD];omega
theorem qId{l:List xA}(h: ∀s∈l,s.length=16){k:Nat}(hk:k<l.length):(l.getD k []).length=16:=by
 rw [jB,jC hk]
 exact h _ (jQ hk)
theorem qM4{l:List xA}(h: ∀s∈l,s.length=16)(k:Nat):(l.take k).flatten.length≤16*l.length:=by
 rw [qF9 (λs hs=>h s (yH hs)),jF];omega
theorem qOb(F:Hp)(i:Nat)(A1:Option Addr)(c1:Nat)(ch:List xA)(hch:Sl F 1 A1 35 c1 (qAH ch))(A2:Option Addr)(n2 c2:Nat)(pt:List xA)(hpt:Sl F 1 A2 n2 c2 (qAH pt))
    (hi:i≤63) (hn:n2≤6) (hc16: ∀s∈ch,s.length=16) (hp16: ∀s∈pt,s.length=16):
    Cz prog 186 [.agg #[I i,.slice A1 35 c1,.slice A2 n2 c2]] F (.tuple #[Str (sgB i ch pt),I 0]):=by
  have hl1:ch.length=35:=by have:=hch.1;simpa [qAH] using this
  have hl2:pt.length=n2:=by have:=hpt.1;simpa [qAH] using this
  refine Ct.walk func186 O ntmps186 O (λw0 hw0=>?_)
  refine J.f λ_ j1=>J.q (qAb O O O) O λg1 _=>J.p 2 O<|J.c j1 ?_
  refine J.k λ_ j2=>J.f λ_ j3=>J.W 0 qDu z3_ O O O O O<|J.a6 1 b3_ O O O O O<|J.g ((qAS O O O).no xB) O<|J.b O<|J.G (qAA O O qDu O z3_ O) O<|J.G (qAD 1 O O O b3_ O) O<|J.G ((qA5 O O O).no xB) O<|J.p 2 O<|J.G (qAA O O qDu O qB9 O) O<|J.G (qAD 1 O O O qCQ O) O<|J.G (qAO qAn O O) O<|J.G ((qAV O O O).no xB) O<|J.p 2 O<|J.G (qAA O O qDu O qB9 O) O<|J.G (qAD 1 O O O qCQ O) O<|J.G (qAO qAn O O) O<|J.G ((qA5 O O O).no xB) O<|J.b O<|J.c j3 ?_
  refine J.a3 ?_
  refine J.M j2 ?_
  refine J.f λ_ j4=>J.q (qAJ O qLI O) O λg4 _=>J.c j4 ?_
  refine J.f λ_ j5=>J.W 0 qDu z3_ O O O O O<|J.a6 1 b3_ O O O O O<|J.g ((qAw O O u3_ qEV xB)) O<|J.q (qAK O O ent (Ct.use1 2 O (λF' _=>qD4 F' (blk g4 [.pointer none,.slice none 0 0,I 0] 148) g4 [] 0 (qGe g4) xC (UInt64.ofNat i) 1 xB xB))) O ?_
  rintro m32 hw32
  rw [qUM i xB,qCB,qCq (qUM i xB),qVv i xB,jr] at hw32
  refine J.c j5 ?_
  refine J.k λ_ j6=>J.f λ_ j7=>J.W 1 qDu qB9 O O O O O<|J.a6 1 qCQ O O O O O<|J.g (qAO qAn O O) O<|J.b O<|J.c j7 ?_
  refine J.T<|J.b5 (X:=Nat×Hp) (λx=> [(1,Ptr g1),(4,Ptr g4),(34,.slice A1 35 c1),(35,I 35),(36,I x.1)]) (λx=> [F,blk g1 [I i,.slice A1 35 c1,.slice A2 n2 c2] 106,x.2]) (λx=>x.1≤35∧Wtr x.2 g4 ([UInt8.ofNat i]++(ch.take x.1).flatten) 0) (λx=>35-x.1) (0,m32) (⟨jE _,by rw [zm,zQ,jR];exact hw32⟩) ⟨O,O,O,O,O,trivial⟩ (λ_ h=>h) ?_
  rintro⟨k,m⟩ ⟨hk,hw⟩ I0 hI0
  dsimp only at hk hw⊢
  refine J.f λ_ j8=>J.g (qAS O O O) O<|J.c j8 ?_
  refine J.k λ_ j9=>J.Z O (λh37=>?_) (λh37=>?_)
  ·
    refine J.M j9 ?_
    refine J.k λ_ j10=>J.T<|J.f λ_ j11=>J.g (qAF O O O qAn z9_ hch xB) O<|J.g (qAI O O b9_ (m:=F) xD (hch.elem (qAc (qAi [] (show k<ch.length by omega))))) O<|J.b O<|J.c j11 ?_
    have hg16:=qId hc16 (show k<ch.length by omega)
    refine J.H<|J.b O<|J.q (qAK O O ent (Ct.use1 2 O (λF' _=>qDc F' m g4 ([UInt8.ofNat i]++(ch.take k).flatten) 0 hw (by have:=qM4 hc16 k;have:=qM4 hp16 k;have h3:=qF9 hc16;simp only [jA,jH];omega) (ch.getD k []) xB 16))) O ?_
    rintro m41 hw41
    rw [qGk (qId hc16 xB),qMM (qId hc16 xB),qCB,jX,←qLC xB] at hw41
    refine J.a4<|J.a2<|J.u (J.D j10 ?_)
    exact J.H<|J.g ((qAR O O O xB).nat (k+1) xB) O<|J.b O<|J.a4<|J.u<|J.a8 (k+1,m41) (λx (hx:_∧35-x.1<35-k)=>hI0 x hx.1 hx.2) ⟨⟨by dsimp only;omega,hw41⟩,by dsimp only;omega⟩ ⟨O,O,O,O,O,trivial⟩ (λ_ h=>h)
  refine J.b3<|J.a0<|J.a0<|J.b4 ?_
  refine J.u (J.D j6 ?_)
  refine J.k λ_ j12=>?_
  rw [jV xB] at hw
  refine J.H<|J.W 2 qDu qB9 O O O O O<|J.a6 1 qCQ O O O O O<|J.g (qAO qAn O O) O<|J.g ((qAw O O u3_ qEV xB)) O<|J.q (qAK O O ent (Ct.use1 2 O (λF' _=>qD4 F' m g4 ([UInt8.ofNat i]++ch.flatten) 0 hw (by have h3:=qF9 hc16;simp only [jA,jH];omega) (UInt64.ofNat n2) 1 xB xB))) O ?_
  rintro m47 hw47
  rw [qUM n2 xB,qCB,qCq (qUM n2 xB),qVv n2 xB] at hw47
  refine J.c j12 ?_
  refine J.k λ_ j13=>J.f λ_ j14=>J.W 2 qDu qB9 O O O O O<|J.a6 1 qCQ O O O O O<|J.g (qAO qAn O O) O<|J.b O<|J.c j14 ?_
  refine J.T<|J.b5 (X:=Nat×Hp) (λx=> [(4,Ptr g4),(49,.slice A2 n2 c2),(50,I n2),(51,I x.1)]) (λx=> [F,blk g1 [I i,.slice A1 35 c1,.slice A2 n2 c2] 106,x.2]) (λx=>x.1≤n2∧Wtr x.2 g4 (([UInt8.ofNat i]++ch.flatten++ [UInt8.ofNat pt.length])++(pt.take x.1).flatten) 0) (λx=>n2-x.1) (0,m47) (⟨jE _,by rw [zm,zQ,jR,hl2];exact hw47⟩) ⟨O,O,O,O,trivial⟩ (λ_ h=>h) ?_
  rintro⟨k,mp⟩ ⟨hk,hw2⟩ I2 hI2
  dsimp only at hk hw2⊢
  refine J.f λ_ j15=>J.g (qAS O O O) O<|J.c j15 ?_
  refine J.k λ_ j16=>J.Z O (λh52=>?_) (λh52=>?_)
  ·
    refine J.M j16 ?_
    refine J.k λ_ j17=>J.T<|J.f λ_ j18=>J.g (qAF O O O qAn z9_ hpt xB) O<|J.g (qAI O O b9_ (m:=F) xD (hpt.elem (qAc (qAi [] (show k<pt.length by omega))))) O<|J.b O<|J.c j18 ?_
    have hg16:=qId hp16 (show k<pt.length by omega)
    refine J.H<|J.b O<|J.q (qAK O O ent (Ct.use1 2 O (λF' _=>qDc F' mp g4 (([UInt8.ofNat i]++ch.flatten++ [UInt8.ofNat pt.length])++(pt.take k).flatten) 0 hw2 (by have:=qM4 hc16 k;have:=qM4 hp16 k;have h3:=qF9 hc16;simp only [jA,jH];omega) (pt.getD k []) xB 16))) O ?_
    rintro m56 hw56
    rw [qGk (qId hp16 xB),qMM (qId hp16 xB),qCB,jX,←qLC xB] at hw56
    refine J.a4<|J.a2<|J.u (J.D j17 ?_)
    exact J.H<|J.g ((qAR O O O xB).nat (k+1) xB) O<|J.b O<|J.a4<|J.u<|J.a8 (k+1,m56) (λx (hx:_∧n2-x.1<n2-k)=>hI2 x hx.1 hx.2) ⟨⟨by dsimp only;omega,hw56⟩,by dsimp only;omega⟩ ⟨O,O,O,O,trivial⟩ (λ_ h=>h)
  refine J.b3<|J.a0<|J.a0<|J.b4 ?_
  refine J.u (J.D j13 ?_)
  refine J.k λ_ j19=>?_
  rw [jV xB] at hw2
  refine J.H<|J.q (qAK O O ent (Ct.use1 2 O (λF' _=>qDf F' mp g4 (sgB i ch pt) 0 hw2 (by unfold sgB;have h3:=qF9 hc16;have h4:=qF9 hp16;simp only [jA,jH];omega)))) O ?_
  rintro m58 hw58
  refine J.p 4 O<|J.c j19 ?_
  exact J.A<|J.a9 hw0 (λ_ _ h=>h) (qBw O O O) (qAg () O trivial [0] O xC)
def RS.tk(st:RS)(n:Nat):Nat→RS
 |0=>st
 |k+1=>(st.tk n k).take n
def RS.os(st:RS)(n:Nat):Nat→List xA
 |0=> []
 |k+1=>st.os n k++ [(st.tk n k).out n]
def ck(s:xA)(n k:Nat):List xA:=(List.range k).map λj=>(s.drop (n*j)).take n
def dA(s:xA):RS:=((⟨s,0⟩:RS).take 1).tk 16 35
theorem ck_16{s:xA}{k:Nat}(h:16*k≤s.length): ∀x∈ck s 16 k,x.length=16:=λx hx=>by
 simp only [ck,zU,List.mem_range] at hx
 obtain ⟨j,hj,rfl⟩:=hx
 rw [jF,jI];omega
theorem qI4{i:Nat}{ch pt:List xA}(hc: ∀s∈ch,s.length=16)(hp: ∀s∈pt,s.length=16)(h1:ch.length=35):(sgB i ch pt).length=562+16*pt.length:=by
 unfold sgB
 simp only [jA,jH,qF9 hc,qF9 hp,h1]
theorem Mk.lvl_16(l:List xA)(hs: ∀s∈l,s.length=16): ∀j,∀s∈Mk.lvl l j,s.length=16
 |0,s,h=>hs s h
 |j+1,s,h=>by
  simp only [Mk.lvl,Mk.above,zU] at h
  obtain ⟨k,_,rfl⟩:=h
  exact Mk.node_length _ _
theorem Mk.path_16(l:List xA)(i h:Nat)(hs: ∀s∈l,s.length=16)(hl:l.length=2^h)(hi:i<2^h): ∀s∈Mk.path l i h,s.length=16:=λs hp=>by
 unfold Mk.path at hp
 simp only [zU,List.mem_range] at hp
 obtain ⟨j,hj,rfl⟩:=hp
 refine Mk.lvl_16 l hs j _ (Mk.getS_mem ?_)
 rw [Mk.lvl_length l h hl j xB,show h-j=(h-1-j)+1 by omega,jw,z7]
 refine Mk.xor_one _ _ ?_
 rw [yB (zA j),Nat.mul_assoc,←Nat.pow_add,z7,←jw,show(h-1-j+j).succ=h by omega]
 exact hi
theorem Xm.leaves_16(seed:xA)(k:Nat): ∀s∈Xm.leaves seed k,s.length=16:=λs hs=>by
 simp only [Xm.leaves,zU] at hs
 obtain ⟨i,_,rfl⟩:=hs
 exact Xm.pub_length _ _
theorem Mk.root_16(seed:xA)(h:Nat):(Xm.root seed h).length=16:=by
 unfold Xm.root Mk.root
 exact Mk.lvl_16 _ (Xm.leaves_16 _ _) h _ (Mk.getS_mem (by rw [Mk.lvl_length _ h (Xm.leaves_length _ _) h (jJ _),jv];decide))
theorem Wo.signs_len(seed:xA)(i:Nat)(d:List Nat):(Wo.signs seed i d 35).length=35:=by simp [Wo.signs]
def qOH(m:Hp)(g:Nat)(seed:xA)(h:Nat):Prop:= ∃A c,qAG m ⟨g,0,none⟩ (qBa seed (Wo.opn seed) (Xm.root seed h) h A (2^h) c)∧Sl m 1 A (2^h) c (qAH (Xm.leaves seed (2^h)))
theorem qOH.mono{m m':Hp}{g:Nat}{seed:xA}{h:Nat}(hk:qOH m g seed h)(hl:Le m m'):qOH m' g seed h:=by
 obtain ⟨A,c,h1,h2⟩:=hk
 exact⟨A,c,h1.mono hl,h2.mono hl⟩
def sgC(seed:xA)(i:Nat)(mg:xA):List xA:=Wo.signs seed i (Wo.digs (Xm.digest (Wo.opn seed) i mg)) 35
def sgP(seed:xA)(h i:Nat):List xA:=Mk.path (Xm.leaves seed (2^h)) i h
theorem qFX(seed:xA)(i:Nat)(mg:xA):(sgC seed i mg).length=35:=Wo.signs_len _ _ _
theorem qKJ(seed:xA)(i:Nat)(mg:xA): ∀s∈sgC seed i mg,s.length=16:=Wo.signs_16 _ _ _ _
theorem qDy(seed:xA)(h i:Nat):(sgP seed h i).length=h:=Mk.path_length _ _ _
theorem qKI(seed:xA){h i:Nat}(hi:i<2^h): ∀s∈sgP seed h i,s.length=16:=Mk.path_16 _ _ _ (Xm.leaves_16 _ _) (Xm.leaves_length _ _) hi
theorem qMv(F:Hp)(hK:qAG F ⟨3,0,none⟩ (Sha.K.map W32))(seed:xA)(h:Nat)(hs:seed.length≤1048576)(h6:h≤6):
    Ct prog 11 [Str seed,I (h:Nat)] [F] (λx:Nat×Hp=> .tuple #[Ptr x.1,I 0]) (λx=>qOH x.2 x.1 seed h) (λx=> [F,x.2]):=λw0 w hw=>
  (qWK F hK seed h hs h6 w0 w hw).mono λe w' ⟨x,he,hx,hs'⟩=>⟨x,he,hx.see,hs'.pick [1,0] xC⟩
theorem qJz(F:Hp)(hK:qAG F ⟨3,0,none⟩ (Sha.K.map W32))(g:Nat)(seed:xA)(h:Nat)(hk:qOH F g seed h)(hs:seed.length≤1048576)(h6:h≤6)(i:Nat)(hi:i<2^h)(mg:xA)(hm:mg.length≤1048576):
    Ct prog 92 [Ptr g,I (i:Nat),Str mg] [F] (λx:(Option Addr×Nat×Hp)×(Option Addr×Nat×Hp)=> .tuple #[.agg #[I (i:Nat),.slice x.1.1 (sgC seed i mg).length x.1.2.1,.slice x.2.1 (sgP seed h i).length x.2.2.1],I 0])
      (λx=>Row x.1.2.2 9 1 x.1.1 (sgC seed i mg).length x.1.2.1 (qAH (sgC seed i mg))∧Row x.2.2.2 9 1 x.2.1 (sgP seed h i).length x.2.2.1 (qAH (sgP seed h i))) (λx=> [F,x.1.2.2,x.2.2.2]):=by
  obtain ⟨A,c,h1,h2⟩:=hk
  rw [qFX,qDy]
  exact qS5 F hK g seed h A c h1 h2 hs h6 mg hm i hi
theorem qEw(F:Hp)(g:Nat)(seed:xA)(h:Nat)(hk:qOH F g seed h):Cz prog 28 [Ptr g] F (.agg #[Str (Wo.opn seed),Str (Xm.root seed h),I (h:Nat)]):=by
 obtain ⟨A,c,h1,h2⟩:=hk
 exact qOJ F g seed (Wo.opn seed) (Xm.root seed h) h A (2^h) c h1
theorem qHd(seed:xA)(h i:Nat)(hi:i<2^h):Mk.climb (Wo.pub seed i) i (sgP seed h i)=Xm.root seed h:=by
 have:=Mk.climb_root (Xm.leaves seed (2^h)) h i (Xm.leaves_length _ _) hi
 rw [Xm.leaves_get seed _ i hi] at this
 exact this
theorem qMu(F:Hp)(hK:qAG F ⟨3,0,none⟩ (Sha.K.map W32))(seed:xA)(h i:Nat)(mg:xA)(A1:Option Addr)(n1 c1:Nat)(hch:Sl F 1 A1 n1 c1 (qAH (sgC seed i mg)))(A2:Option Addr)(n2 c2:Nat)(hpt:Sl F 1 A2 n2 c2 (qAH (sgP seed h i)))(hm:mg.length≤1048576)(h6:h≤6)(hi:i<2^h):
    Cz prog 185 [.agg #[Str (Wo.opn seed),Str (Xm.root seed h),I (h:Nat)],Str mg,.agg #[I (i:Nat),.slice A1 n1 c1,.slice A2 n2 c2]] F (.bool true):=by
  have e1:(sgC seed i mg).length=n1:=by have:=hch.1;simpa [qAH] using this
  have e2:(sgP seed h i).length=n2:=by have:=hpt.1;simpa [qAH] using this
  rw [qFX] at e1
  rw [qDy] at e2
  subst e1
  subst e2
  have:=qH1 F hK (Wo.opn seed) (Xm.root seed h) h mg i A1 c1 (sgC seed i mg) hch (qKJ _ _ _) A2 c2 (sgP seed h i) hpt (λs hs=>by rw [qKI seed hi s hs];decide) (by rw [Wo.opn_length];decide) hm h6 hi
  have e:Wo.publicOf (Wo.opn seed) i (Wo.ends (Wo.opn seed) i (Wo.digs (Xm.digest (Wo.opn seed) i mg)) (sgC seed i mg) 35)=Wo.pub seed i:=Wo.recPub seed i _ (by rw [Xm.digest_length];decide)
  rw [e,qHd seed h i hi,decide_eq_true rfl] at this
  exact this
theorem qHX{v:Nat}{o r:xA}{h:Int}{p:xA}(he:qBX v o r h p=0):1≤v∧v≤4294967295∧(0≤h∧h≤6)∧o.length=16∧r.length=16∧p.length=16:=by
  unfold qBX at he
  split at he
  · omega
  · split at he
    · rename_i h1 h2
      have h3:=h2.1
      unfold qBN at h3
      split at h3
      · rename_i h4
        have h5:=h4
        unfold qGz at h5
        omega
      · omega
    · omega
attribute [local irreducible] Sha.tagged Wo.pub Wo.publicOf Wo.signs Wo.ends Wo.digs Wo.walk Wo.opn Mk.root Mk.path Mk.climb Xm.root sgC sgP qBH qBX
theorem qFO(F:Hp)(v:Nat)(o r:xA)(h:Int)(p:xA)(hv:v<18446744073709551616)(ho:o.length≤1048576)(hr:r.length≤1048576)(hp:p.length≤1048576):Cz prog 107 [.agg #[N64 (v),Str (o),Str (r),I (h),Str (p)]] F (.tuple #[Str (qBH v o r h p),I (qBX v o r h p)]):=qIf F v o r h p hv ho hr hp
def qEd(s:xA)(v:Nat)(o r:xA)(h:Int)(p:xA):xA:=Sha.tagged 13 [s,qBH v o r h p]
theorem qE6(s:xA)(v:Nat)(o r:xA)(h:Int)(p:xA):(qEd s v o r h p).length=16:=Sha.tagged_length _ _
theorem qEj(F:Hp)(hK:qAG F ⟨3,0,none⟩ (Sha.K.map W32))(s:xA)(hsl:s.length≤1000000)(v:Nat)(o r:xA)(h:Int)(p:xA)(hE:qBX v o r h p=0):Cz prog 163 [Str (s),.agg #[N64 (v),Str (o),Str (r),I (h),Str (p)]] F (Str (qEd (s) (v) (o) (r) (h) (p))):=by
 obtain ⟨e1,e2,⟨e3,e4⟩,e5,e6,e7⟩:=qHX hE
 have el:=qB8 hE
 refine Ct.walk func163 O ntmps163 O (λw0 hw0=>?_)
 refine J.f λ_ j1=>J.q (qAb O O O) O λg3 _=>J.b O<|J.c j1 ?_
 refine J.f λ_ j2=>J.c0 1 qBB qAj O O O O O<|J.q (qAZ O O (λF' hF=>qFO F' v o r h p xH xH xH xH)) O λg9 _=>J.p 5 O<|J.c j2 ?_
 refine J.k λ_ j3=>J.f λ_ j4=>J.b O<|J.g ((qAV O O O).no xB) O<|J.c j4 ?_
 refine J.a3 ?_
 refine J.M j3 ?_
 refine J.f λ_ j5=>J.p 2 O<|J.q (qAE (l:= [.tmp 14,.tmp 15]) (xs:= [[Str (s)],[Str (qBH (v) (o) (r) (h) (p))]]) O O O O qAn el9 O xC xC xD) O λg16 _=>J.q (qAZ O O (λF' hF=>qA3 F' (hK.mo hF) 13 (some ⟨g16,0,none⟩) 2 2 ([s,qBH (v) (o) (r) (h) (p)]) (((qBO (q:=True) (qAH [s,qBH (v) (o) (r) (h) (p)]) O (by simp [qAH]) O).sl).mono (hF (blk g16 [Str (s),Str (qBH (v) (o) (r) (h) (p))] 9) xD)) (by first|(simp;omega)|(simp;done)|decide) xB)) O λg17 _=>J.b O<|J.c j5 ?_
 exact J.A<|J.E hw0 O () (by unfold qEd;rfl) trivial [0] O xC
theorem qNN(F:Hp)(hK:qAG F ⟨3,0,none⟩ (Sha.K.map W32))(g:Nat)(seed:xA)(kh:Nat)(hk:qOH F g seed kh)(hs6:seed.length≤1048576)(h6:kh≤6)(i:Nat)(hi:i<2^kh)(s:xA)(hsl:s.length≤1000000)(v:Nat)(o r:xA)(h:Int)(p:xA)(hE:qBX v o r h p=0):Ct prog 91 [Ptr g,I (i:Nat),Str s,.agg #[N64 (v),Str (o),Str (r),I (h),Str (p)]] [F] (λx:(Option Addr×Nat×Hp)×(Option Addr×Nat×Hp)=> .tuple #[.agg #[Str s,N64 v,Str o,Str r,I h,Str p,I (i:Nat),.slice x.1.1 (sgC seed i (qEd (s) (v) (o) (r) (h) (p))).length x.1.2.1,.slice x.2.1 (sgP seed kh i).length x.2.2.1],I (0:Nat)]) (λx=>Row x.1.2.2 9 1 x.1.1 (sgC seed i (qEd (s) (v) (o) (r) (h) (p))).length x.1.2.1 (qAH (sgC seed i (qEd (s) (v) (o) (r) (h) (p))))∧Row x.2.2.2 9 1 x.2.1 (sgP seed kh i).length x.2.2.1 (qAH (sgP seed kh i))) (λx=> [F,x.1.2.2,x.2.2.2]):=by
 obtain ⟨e1,e2,⟨e3,e4⟩,e5,e6,e7⟩:=qHX hE
 have el:=qB8 hE
 have eml:=qE6 s v o r h p
 refine Ct.walk func91 O ntmps91 O (λw0 hw0=>?_)
 refine J.f λ_ j1=>J.q (qAb O O O) O λg7 _=>J.q (qAJ O zeroValue108 O) O λg8 _=>J.b O<|J.c j1 ?_
 refine J.k λ_ j2=>J.f λ_ j3=>J.c0 1 qBB qAj O O O O O<|J.q (qAZ O O (λF' hF=>qFO F' v o r h p xH xH xH xH)) O λg16 _=>J.p 5 O<|J.c j3 ?_
 refine J.f λ_ j4=>J.b O<|J.g ((qAV O O O).no xB) O<|J.c j4 ?_
 refine J.a3 ?_
 refine J.M j2 ?_
 refine J.f λ_ j5=>J.p 3 O<|J.c0 1 qBB qAj O O O O O<|J.q (qAZ O O (λF' hF=>qEj F' (hK.mo hF) s xH v o r h p xH)) O λg28 _=>J.q (qBb O O (λF' hF=>qJz F' (hK.mo hF) g seed kh (hk.mono (Fa hF)) (by first|assumption|decide) (by first|assumption|decide) i xB (qEd (s) (v) (o) (r) (h) (p)) xB)) O ?_
 rintro⟨⟨A29,c29,m29⟩,⟨B29,d29,n29⟩⟩ ⟨h29,k29⟩
 refine J.p 3 O<|J.q (qAJ O zeroValue106 O) O λg12 _=>J.a7 (qAC (i:=5) (l:= [I 0,.slice none 0 0,.slice none 0 0]) (vs:= [I (i:Nat),.slice A29 ((sgC seed i (qEd (s) (v) (o) (r) (h) (p))).length) c29,.slice B29 ((sgP seed kh i).length) d29]) O O O O O qCy O O) O O λ_ _=>J.b O<|J.c j5 ?_
 refine J.k λ_ j6=>J.f λ_ j7=>J.b O<|J.g ((qAV O O O).no xC) O<|J.c j7 ?_
 refine J.a3 ?_
 refine J.M j6 ?_
 refine J.f λ_ j8=>J.b O<|J.c0 1 qBB qAj O O O O O<|J.c0 5 isAgg106 qCy O O O O O<|J.g (qAL (places:= [(0,1),(1,5),(6,3)]) (r:= [Str (s),N64 (v),Str (o),Str (r),I (h),Str (p),I (i:Nat),.slice A29 ((sgC seed i (qEd (s) (v) (o) (r) (h) (p))).length) c29,.slice B29 ((sgP seed kh i).length) d29]) O O O qBP zeroValue108 (λ_=>xI) xI) O<|J.a7 (qAC (i:=2) (l:= [Str [],.int .u64 0,Str [],Str [],I 0,Str [],I 0,.slice none 0 0,.slice none 0 0]) (vs:= [Str (s),N64 (v),Str (o),Str (r),I (h),Str (p),I (i:Nat),.slice A29 ((sgC seed i (qEd (s) (v) (o) (r) (h) (p))).length) c29,.slice B29 ((sgP seed kh i).length) d29]) O O O O O qHm O O) O O λ_ _=>J.b O<|J.c j8 ?_
 exact J.A<|J.a9 hw0 (λ_ _ h=>h) (rv2 O (RV.blkA 2 O O isAgg108 qHm) O) (qAg ((A29,c29,m29),(B29,d29,n29)) O ⟨h29,k29⟩ [0,3,4] O xC)
end Go.Proofs.YtmemgokiolfdoaaGreatDoor