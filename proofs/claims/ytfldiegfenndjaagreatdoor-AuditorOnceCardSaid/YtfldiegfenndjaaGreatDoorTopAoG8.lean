/- Rules for walking a translated function, over heaps that are apart: for any program. -/
import Derived.Test.YtfldiegfenndjaaGreatDoorTopAoG7
import Derived.Below
import Derived.Test.YtfldiegfenndjaaGreatDoorTopAoG4
set_option linter.unusedSimpArgs false
set_option linter.unusedVariables false
namespace Go.Fw
open Go Go.RowKit
section
variable{P:Program}{env:Env}{rs ms:List Hp}{o:Oper}
theorem St.below{w0:Wd}{F:Hp}{w w':World}(h:St w0 [F] w)(hb:Below w.heap.size w w'):St w0 [F] w':=by
  have hk: ∀m:Hp,Le m (hp w)→Le m (hp w'):=λm hm g o ho=>by
    have h1:=hm g o ho
    show w'.heap[g]?=some o
    rw [hb.block g (qFI h1)];exact h1
  exact⟨hb.os.trans h.os,hb.output.trans h.out,hb.tape.trans h.tape,jd h.size hb.size,h.dj,hk _ h.le,h.kd,hk _ h.kl⟩
theorem Ct.below{f:FuncId}{vs:List Value}{v:Value}{w:World}(h:Ct P f vs [hp w] (λ_:Unit=>v) (λ_=>True) (λ_=> [hp w])):
    Calls P f vs.toArray w λe w'=>e= .returned v∧Below w.heap.size w w':=by
  have hs:St ⟨w,λ_=>none,[]⟩ [hp w] w:=⟨rfl,rfl,rfl,jJ _,⟨λg=> .inr rfl,trivial⟩,λg o ho=>by simp only [U] at ho;cases hg:hp w g with|none=>rw [hg] at ho;cases ho|some x=>rw [hg] at ho;exact ho,λm _ g=> .inl rfl,λg o ho=>by cases ho⟩
  refine(h _ w hs).mono λe w' ⟨_,he,_,hs'⟩=>⟨he,hs'.os,hs'.tape,hs'.out,hs'.size,λk hk=>?_⟩
  have:=hs'.mem (.head _) k _ (zu hk)
  exact this.trans (zu hk).symm
end
theorem qBx(l:List (List UInt8))(s:List UInt8):qAH (l++ [s])=qAH l++ [[Str s]]:=by simp [qAH]
theorem qEH(l:List (List UInt8))(k:Nat)(s:List UInt8):(qAH l).set k [Str s]=qAH (l.set k s):=by simp [qAH,List.map_set]
theorem qEz(l:List UInt8)(k:Nat)(s:UInt8):(qAR l).set k [B8 s]=qAR (l.set k s):=by simp [qAR,List.map_set]
theorem qIR(l:List (List UInt8)):(qAH l).length=l.length:=by simp [qAH]
theorem J.f6{n:Nat}{env:Env}{w0:Wd}{ms:List Hp}{φ:Act→World→Prop}{d:Nat}{b:Bool}(hl:look env d=some (.bool b))(ht:b=true→J n ((d,.bool true)::env) w0 ms φ)(hf:b=false→J n ((d,.bool false)::env) w0 ms φ):J n env w0 ms φ:=by
  cases hb:b with
  |true=>exact J.g4 hl hb (ht hb)
  |false=>exact J.g4 hl hb (hf hb)
theorem J.h3{P:Program}{ops:Array Oper}{Q:Exit→Act→World→Prop}{n:Nat}{env:Env}{w0:Wd}{ms:List Hp}{rs:List Hp}{tl:List Nat}{i:Nat}{σ:Sg}{o:Oper}{d:Nat}(ho:ops[i]?=some o)(hg:Wan ops env o false)(hd:o.dst=some d)(hn:Nat.blt d n=true)(hsub: ∀m∈rs,m∈ms)
    (k:J n ((d,undef)::env) w0 ms (wpD P ops Q (λw=> ∀m∈rs,Le m (hp w)) tl σ)):J n env w0 ms (wpD P ops Q (λw=> ∀m∈rs,Le m (hp w)) tl (.e i σ)):=λa w hk hs=>by
  unfold wpD wpOp
  simp only [ho]
  rw [if_neg (by rw [hg n a hk.2];simp),hd]
  exact⟨λv=> ∀m∈rs,Le m (hp v),λv hv=>hv,λ_ m hm=>hs.mem (hsub m hm),k _ w (hk.put hn undef) hs⟩
end Go.Fw
namespace Go.Fw
open Go
section
variable{P:Program}{n:Nat}{env:Env}{w0:Wd}{ms rs:List Hp}{ops:Array Oper}{Q:Exit→Act→World→Prop}{K:Act→World→Prop}{o:Oper}{rest:List Oper}{d:Nat}{tl:List Nat}{i:Nat}{σ:Sg}
theorem J.j4{x v}(k:J n ((d,v)::env) w0 ms (wpList P ops Q rest))(ho:o.op= .move x:=by exact rfl)(hx:ev env x=some v:=by exact rfl)(hg:o.guard=none:=by exact rfl)(hd:o.dst=some d:=by exact rfl)(hn:Nat.blt d n=true:=by exact rfl):J n env w0 ms (wpList P ops Q (o::rest)):=J.g3 (qAb ho hx) hg hd hn k
theorem J.j5{x v}{o':Oper}{j d':Nat}{want b:Bool}(k:J n ((d,v)::env) w0 ms (wpList P ops Q rest))(ho:o.op= .move x:=by exact rfl)(hx:ev env x=some v:=by exact rfl)(h1:o.guard=some (j,want):=by exact rfl)(h2:ops[j]?=some o':=by exact rfl)(h3:o'.dst=some d':=by exact rfl)(h4:look env d'=some (.bool b):=by exact rfl)(h5:(b==want)=true:=by exact rfl)(hd:o.dst=some d:=by exact rfl)(hn:Nat.blt d n=true:=by exact rfl):J n env w0 ms (wpList P ops Q (o::rest)):=J.g2 (Wan.is h1 h2 h3 h4 h5) (qAb ho hx) hd hn k
theorem J.L{x v}(k:J n ((d,v)::env) w0 ms (wpD P ops Q (λw=> ∀m∈rs,Le m (hp w)) tl σ))(hi:ops[i]?=some o:=by exact rfl)(ho:o.op= .move x:=by exact rfl)(hx:ev env x=some v:=by exact rfl)(hg:o.guard=none:=by exact rfl)(hd:o.dst=some d:=by exact rfl)(hn:Nat.blt d n=true:=by exact rfl)(hf:tl.contains (i+100000)=false:=by exact rfl):J n env w0 ms (wpD P ops Q (λw=> ∀m∈rs,Le m (hp w)) tl (.y i σ)):=J.f8 hi (qAb ho hx) hg hd hn hf k
theorem J.j6{x v}(k:J n ((d,v)::env) w0 ms (wpList P ops Q rest))(ho:o.op= .assign x:=by exact rfl)(hx:ev env x=some v:=by exact rfl)(hg:o.guard=none:=by exact rfl)(hd:o.dst=some d:=by exact rfl)(hn:Nat.blt d n=true:=by exact rfl):J n env w0 ms (wpList P ops Q (o::rest)):=J.g3 (qAy ho hx) hg hd hn k
theorem J.c3{x v}(k:J n ((d,v)::env) w0 ms (wpD P ops Q (λw=> ∀m∈rs,Le m (hp w)) tl σ))(hi:ops[i]?=some o:=by exact rfl)(ho:o.op= .assign x:=by exact rfl)(hx:ev env x=some v:=by exact rfl)(hg:o.guard=none:=by exact rfl)(hd:o.dst=some d:=by exact rfl)(hn:Nat.blt d n=true:=by exact rfl)(hf:tl.contains (i+100000)=false:=by exact rfl):J n env w0 ms (wpD P ops Q (λw=> ∀m∈rs,Le m (hp w)) tl (.y i σ)):=J.f8 hi (qAy ho hx) hg hd hn hf k
theorem J.d1{c x y v}(k:J n ((d,v)::env) w0 ms (wpD P ops Q (λw=> ∀m∈rs,Le m (hp w)) tl σ))(hi:ops[i]?=some o:=by exact rfl)(ho:o.op= .pick c x y:=by exact rfl)(hc:ev env c=some (.bool true):=by exact rfl)(hx:ev env x=some v:=by exact rfl)(hg:o.guard=none:=by exact rfl)(hd:o.dst=some d:=by exact rfl)(hn:Nat.blt d n=true:=by exact rfl)(hf:tl.contains (i+100000)=false:=by exact rfl):J n env w0 ms (wpD P ops Q (λw=> ∀m∈rs,Le m (hp w)) tl (.y i σ)):=J.f8 hi (qBh ho hc hx) hg hd hn hf k
theorem J.d5{c x y v}(k:J n ((d,v)::env) w0 ms (wpD P ops Q (λw=> ∀m∈rs,Le m (hp w)) tl σ))(hi:ops[i]?=some o:=by exact rfl)(ho:o.op= .pick c x y:=by exact rfl)(hc:ev env c=some (.bool false):=by exact rfl)(hy:ev env y=some v:=by exact rfl)(hg:o.guard=none:=by exact rfl)(hd:o.dst=some d:=by exact rfl)(hn:Nat.blt d n=true:=by exact rfl)(hf:tl.contains (i+100000)=false:=by exact rfl):J n env w0 ms (wpD P ops Q (λw=> ∀m∈rs,Le m (hp w)) tl (.y i σ)):=J.f8 hi (qBp ho hc hy) hg hd hn hf k
def plain(o:Oper)(n:Nat):Option Nat:=match o.guard,o.dst with
  |none,some d=>cond (Nat.blt d n) (some d) none
  |_,_=>none
theorem qBg{o:Oper}{n d:Nat}(h:plain o n=some d):o.guard=none∧o.dst=some d∧Nat.blt d n=true:=by
  unfold plain at h
  split at h
  · rename_i d' hg hd
    cases hb:Nat.blt d' n<;>rw [hb] at h
    · cases h
    · cases h;exact⟨hg,hd,hb⟩
  · cases h
def qTO(ops:Array Oper)(env:Env)(o:Oper)(n:Nat):Option (Bool×Nat):=match o.guard,o.dst with
  |some (j,want),some d=>match (ops[j]?).bind Oper.dst with
    |some d'=>match look env d' with
      |some (.bool b)=>cond (Nat.blt d n) (some (b==want,d)) none
      |_=>none
    |_=>none
  |_,_=>none
theorem qCw{ops:Array Oper}{env:Env}{o:Oper}{n d:Nat}{r:Bool}(h:qTO ops env o n=some (r,d)):Wan ops env o r∧o.dst=some d∧Nat.blt d n=true:=by
  unfold qTO at h
  split at h
  · rename_i j want d1 hg hd
    split at h
    · rename_i d' hd'
      split at h
      · rename_i b hl
        cases hb:Nat.blt d1 n<;>rw [hb] at h
        · cases h
        · cases h
          obtain ⟨o',h1,h2⟩:=Option.bind_eq_some_iff.1 hd'
          exact⟨Wan.is hg h1 h2 hl rfl,hd,hb⟩
      · cases h
    · cases h
  · cases h
theorem J.f{v}(h:YOp P env ms o v)(hc:plain o n=some d)(k:J n ((d,v)::env) w0 ms (wpList P ops Q rest)):J n env w0 ms (wpList P ops Q (o::rest)):=J.g3 h (qBg hc).1 (qBg hc).2.1 (qBg hc).2.2 k
theorem J.T{v}(h:YOp P env ms o v)(hc:qTO ops env o n=some (true,d))(k:J n ((d,v)::env) w0 ms (wpList P ops Q rest)):J n env w0 ms (wpList P ops Q (o::rest)):=J.g2 (qCw hc).1 h (qCw hc).2.1 (qCw hc).2.2 k
theorem J.p{v}(hi:ops[i]?=some o)(h:YOp P env rs o v)(hc:plain o n=some d)(hf:tl.contains (i+100000)=false)(k:J n ((d,v)::env) w0 ms (wpD P ops Q (λw=> ∀m∈rs,Le m (hp w)) tl σ)):J n env w0 ms (wpD P ops Q (λw=> ∀m∈rs,Le m (hp w)) tl (.y i σ)):=J.f8 hi h (qBg hc).1 (qBg hc).2.1 (qBg hc).2.2 hf k
theorem J.V{v}(hi:ops[i]?=some o)(h:YOp P env rs o v)(hc:qTO ops env o n=some (true,d))(hf:tl.contains (i+100000)=false)(k:J n ((d,v)::env) w0 ms (wpD P ops Q (λw=> ∀m∈rs,Le m (hp w)) tl σ)):J n env w0 ms (wpD P ops Q (λw=> ∀m∈rs,Le m (hp w)) tl (.y i σ)):=J.h6 hi h (qCw hc).1 (qCw hc).2.1 (qCw hc).2.2 hf k
theorem J.a3{o':Oper}{j d':Nat}{want b:Bool}(k:J n ((d,undef)::env) w0 ms (wpD P ops Q (λw=> ∀m∈rs,Le m (hp w)) tl σ))(hi:ops[i]?=some o:=by exact rfl)(h1:o.guard=some (j,want):=by exact rfl)(h2:ops[j]?=some o':=by exact rfl)(h3:o'.dst=some d':=by exact rfl)(h4:look env d'=some (.bool b):=by exact rfl)(h5:(b==want)=false:=by exact rfl)(hd:o.dst=some d:=by exact rfl)(hn:Nat.blt d n=true:=by exact rfl):J n env w0 ms (wpD P ops Q (λw=> ∀m∈rs,Le m (hp w)) tl (.y i σ)):=J.c4 hi (Wan.is h1 h2 h3 h4 h5) hd hn k
theorem J.d3{x vs j}(v:Value)(k:J n ((d,v)::env) w0 ms (wpD P ops Q (λw=> ∀m∈rs,Le m (hp w)) tl σ))(hi:ops[i]?=some o:=by exact rfl)(ho:o.op= .extract x j:=by exact rfl)(hx:ev env x=some (.tuple vs):=by exact rfl)(hj:vs[j]?=some v:=by exact rfl)(hg:o.guard=none:=by exact rfl)(hd:o.dst=some d:=by exact rfl)(hn:Nat.blt d n=true:=by exact rfl)(hf:tl.contains (i+100000)=false:=by exact rfl):J n env w0 ms (wpD P ops Q (λw=> ∀m∈rs,Le m (hp w)) tl (.y i σ)):=J.f8 hi (qAk ho hx hj) hg hd hn hf k
theorem J.q{X:Type}{val:X→Value}{φ:X→Prop}{ms':X→List Hp}(h:EOp P env ms o val φ ms')(hc:plain o n=some d)(k: ∀x,φ x→J n ((d,val x)::env) w0 (ms' x) (wpList P ops Q rest)):J n env w0 ms (wpList P ops Q (o::rest)):=J.i4 h (qBg hc).1 (qBg hc).2.1 (qBg hc).2.2 k
theorem J.e0{X:Type}{val:X→Value}{φ:X→Prop}{ms':X→List Hp}(h:EOp P env ms o val φ ms')(hc:qTO ops env o n=some (true,d))(k: ∀x,φ x→J n ((d,val x)::env) w0 (ms' x) (wpList P ops Q rest)):J n env w0 ms (wpList P ops Q (o::rest)):=J.h5 (qCw hc).1 h (qCw hc).2.1 (qCw hc).2.2 k
theorem J.b2{X:Type}{val:X→Value}{φ:X→Prop}{ms':X→List Hp}(hi:ops[i]?=some o)(h:EOp P env ms o val φ ms')(hc:plain o n=some d)(hrs: ∀x,∀m∈rs,m∈ms' x)(k: ∀x,φ x→J n ((d,val x)::env) w0 (ms' x) (wpD P ops Q (λw=> ∀m∈rs,Le m (hp w)) tl σ)):J n env w0 ms (wpD P ops Q (λw=> ∀m∈rs,Le m (hp w)) tl (.e i σ)):=J.i6 hi h (qBg hc).1 (qBg hc).2.1 (qBg hc).2.2 hrs k
theorem YOp.yes{p:Prop} [Decidable p](h:YOp P env rs o (.bool (decide p)))(hp:p):YOp P env rs o (.bool true):=by rw [decide_eq_true hp] at h;exact h
theorem YOp.no{p:Prop} [Decidable p](h:YOp P env rs o (.bool (decide p)))(hp: ¬p):YOp P env rs o (.bool false):=by rw [decide_eq_false hp] at h;exact h
theorem YOp.nat{z:Int}(h:YOp P env rs o (I z))(m:Nat)(e:z=(m:Int)):YOp P env rs o (I ((m:Nat):Int)):=by rw [e] at h;exact h
theorem J.a2{s x f j kk fs g off}(q:Nat)(hu:P.underlying s=some (.struct fs))(hz: ∀w,(sizeOf f.type).run P w= .ok (kk+1) w)(ho:o.op= .fieldAddr s x j)(hx:ev env x=some (.pointer (some ⟨g,off,none⟩)))(hf:fs[j]?=some f)(hj:off+f.offset=q)
    (hc:plain o n=some d) (k:J n ((d,.pointer (some ⟨g,q,none⟩))::env) w0 ms (wpList P ops Q rest)):J n env w0 ms (wpList P ops Q (o::rest)):=J.f (qAA ho hx hu hf hz hj) hc k
theorem J.c8{t x g l e s}(j:Nat)(hg: ∀w,(isAgg t).run P w= .ok true w)(hz: ∀w,(sizeOf t).run P w= .ok s w)(ho:o.op= .load t x)(hx:ev env x=some (.pointer (some ⟨g,0,none⟩)))(hi:ms[j]?=some (blk g l e))(hl:l.length=s)
    (hc:plain o n=some d) (k:J n ((d,.agg l.toArray)::env) w0 ms (wpList P ops Q rest)):J n env w0 ms (wpList P ops Q (o::rest)):=J.f (qAm j ho hx hi hg hz hl) hc k
theorem J.c2{t x g q l e v}(j:Nat)(hg: ∀w,(isAgg t).run P w= .ok false w)(ho:o.op= .load t x)(hx:ev env x=some (.pointer (some ⟨g,q,none⟩)))(hi:ms[j]?=some (blk g l e))(hv:l[q]?=some v)
    (hc:plain o n=some d) (k:J n ((d,v)::env) w0 ms (wpList P ops Q rest)):J n env w0 ms (wpList P ops Q (o::rest)):=J.f (qAD j ho hx hi hg hv) hc k
def qO4(env:Env):Op→Option Value
  | .move x=>ev env x
  | .assign x=>ev env x
  | .pick c x y=>match ev env c with
    |some (.bool true)=>ev env x
    |some (.bool false)=>ev env y
    |_=>none
  | .extract x i=>match ev env x with
    |some (.tuple vs)=>vs.toList[i]?
    |_=>none
  |_=>none
theorem qKW{v:Value}(h:qO4 env o.op=some v):YOp P env rs o v:=by
  unfold qO4 at h
  split at h
  · exact qAb (by assumption) h
  · exact qAy (by assumption) h
  · split at h
    · exact qBh (by assumption) (by assumption) h
    · exact qBp (by assumption) (by assumption) h
    · cases h
  · split at h
    · exact qAk (by assumption) (by assumption) (by rw [←Array.getElem?_toList];exact h)
    · cases h
  · cases h
def triv(ops:Array Oper)(env:Env)(o:Oper)(n:Nat):Option (Nat×Value):=match o.dst with
  |some d=>match Nat.blt d n with
    |true=>match o.guard with
      |none=>match qO4 env o.op with
        |some v=>some (d,v)
        |none=>none
      |some (j,want)=>match (ops[j]?).bind Oper.dst with
        |some d'=>match look env d' with
          |some (.bool b)=>match b==want with
            |true=>match qO4 env o.op with
              |some v=>some (d,v)
              |none=>none
            |false=>some (d,undef)
          |_=>none
        |none=>none
    |false=>none
  |none=>none
theorem J.b{v:Value}(h:triv ops env o n=some (d,v))(k:J n ((d,v)::env) w0 ms (wpList P ops Q rest)):J n env w0 ms (wpList P ops Q (o::rest)):=by
  unfold triv at h
  split at h
  · rename_i d1 hd
    split at h
    · rename_i hb
      split at h
      · rename_i hg
        split at h
        · rename_i v1 hv;cases h
          exact J.g3 (qKW hv) hg hd hb k
        · cases h
      · rename_i j want hg
        split at h
        · rename_i d2 hj
          obtain ⟨o',h1,h2⟩:=Option.bind_eq_some_iff.1 hj
          split at h
          · rename_i b hl
            split at h
            · rename_i hw
              split at h
              · rename_i v1 hv;cases h
                exact J.g2 (Wan.is hg h1 h2 hl hw) (qKW hv) hd hb k
              · cases h
            · rename_i hw;cases h
              exact J.d7 (Wan.is hg h1 h2 hl hw) hd hb k
          · cases h
        · cases h
    · cases h
  · cases h
def qRW(ops:Array Oper)(n:Nat):Nat→Env→List Oper→Option (Env×List Oper)
  |0,env,l=>some (env,l)
  |_+1,_,[]=>none
  |k+1,env,o::l=>match triv ops env o n with
    |some (d,v)=>qRW ops n k ((d,v)::env) l
    |none=>none
theorem J.j: ∀(j:Nat) {env env':Env} {l l':List Oper},qRW ops n j env l=some (env',l')→J n env' w0 ms (wpList P ops Q l')→J n env w0 ms (wpList P ops Q l)
  |0,_,_,_,_,h,k=>by cases h;exact k
  |_+1,_,_,[],_,h,_=>by cases h
  |j+1,env,_,o::l,_,h,k=>by
    unfold qRW at h
    split at h
    · rename_i d v hv
      exact J.b hv (J.j j h k)
    · cases h
theorem J.g{idd:Nat}{l:List Oper}{y:Code}(h: ∀K:Act→World→Prop,(∀a w,y.wp P Q a w→K a w)→J n env w0 ms (wpList P l.toArray (Exit.then K Q) l)):J n env w0 ms ((Code.seq (.region idd l.toArray false) y).wp P Q):=J.k λK hK=>J.H (h K hK)
theorem J.c{C:Act→World→Prop}(hK: ∀a w,C a w→K a w)(h:J n env w0 ms C):J n env w0 ms (wpList P ops (Exit.then K Q) []):=J.a8 (J.u (J.M hK h))
theorem J.W{C:Act→World→Prop}(hK: ∀a w,C a w→K a w)(h:J n env w0 ms C):J n env w0 ms (Code.skip.wp P (Exit.then K Q)):=J.c0 (J.u (J.M hK h))
theorem J.a5{c:Operand}{x y:Code}{b:Bool}(hf:J n env w0 ms (y.wp P Q))(hc:ev env c=some (.bool b):=by exact rfl)(hb:b=false:=by exact rfl):J n env w0 ms ((Code.cond c x y).wp P Q):=J.f7 hc hb hf
theorem J.c7{c:Operand}{x y:Code}{b:Bool}(hf:J n env w0 ms (x.wp P Q))(hc:ev env c=some (.bool b):=by exact rfl)(hb:b=true:=by exact rfl):J n env w0 ms ((Code.cond c x y).wp P Q):=J.h4 hc hb hf
theorem J.A(a0:Nat){v0:Value}(k:J n [(a0,v0)] w0 ms K)(h:Sub env [(a0,v0)]:=by exact⟨rfl,trivial⟩):J n env w0 ms K:=J.d0 _ h k
theorem J.E(a0 a1:Nat){v0 v1:Value}(k:J n [(a0,v0),(a1,v1)] w0 ms K)(h:Sub env [(a0,v0),(a1,v1)]:=by exact⟨rfl,rfl,trivial⟩):J n env w0 ms K:=J.d0 _ h k
theorem J.G(a0 a1 a2:Nat){v0 v1 v2:Value}(k:J n [(a0,v0),(a1,v1),(a2,v2)] w0 ms K)(h:Sub env [(a0,v0),(a1,v1),(a2,v2)]:=by exact⟨rfl,rfl,rfl,trivial⟩):J n env w0 ms K:=J.d0 _ h k
theorem J.O(a0 a1 a2 a3:Nat){v0 v1 v2 v3:Value}(k:J n [(a0,v0),(a1,v1),(a2,v2),(a3,v3)] w0 ms K)(h:Sub env [(a0,v0),(a1,v1),(a2,v2),(a3,v3)]:=by exact⟨rfl,rfl,rfl,rfl,trivial⟩):J n env w0 ms K:=J.d0 _ h k
theorem J.a0(a0 a1 a2 a3 a4:Nat){v0 v1 v2 v3 v4:Value}(k:J n [(a0,v0),(a1,v1),(a2,v2),(a3,v3),(a4,v4)] w0 ms K)(h:Sub env [(a0,v0),(a1,v1),(a2,v2),(a3,v3),(a4,v4)]:=by exact⟨rfl,rfl,rfl,rfl,rfl,trivial⟩):J n env w0 ms K:=J.d0 _ h k
theorem J.b5(a0 a1 a2 a3 a4 a5:Nat){v0 v1 v2 v3 v4 v5:Value}(k:J n [(a0,v0),(a1,v1),(a2,v2),(a3,v3),(a4,v4),(a5,v5)] w0 ms K)(h:Sub env [(a0,v0),(a1,v1),(a2,v2),(a3,v3),(a4,v4),(a5,v5)]:=by exact⟨rfl,rfl,rfl,rfl,rfl,rfl,trivial⟩):J n env w0 ms K:=J.d0 _ h k
theorem J.c5(a0 a1 a2 a3 a4 a5 a6:Nat){v0 v1 v2 v3 v4 v5 v6:Value}(k:J n [(a0,v0),(a1,v1),(a2,v2),(a3,v3),(a4,v4),(a5,v5),(a6,v6)] w0 ms K)(h:Sub env [(a0,v0),(a1,v1),(a2,v2),(a3,v3),(a4,v4),(a5,v5),(a6,v6)]:=by exact⟨rfl,rfl,rfl,rfl,rfl,rfl,rfl,trivial⟩):J n env w0 ms K:=J.d0 _ h k
theorem J.d6(a0 a1 a2 a3 a4 a5 a6 a7:Nat){v0 v1 v2 v3 v4 v5 v6 v7:Value}(k:J n [(a0,v0),(a1,v1),(a2,v2),(a3,v3),(a4,v4),(a5,v5),(a6,v6),(a7,v7)] w0 ms K)(h:Sub env [(a0,v0),(a1,v1),(a2,v2),(a3,v3),(a4,v4),(a5,v5),(a6,v6),(a7,v7)]:=by exact⟨rfl,rfl,rfl,rfl,rfl,rfl,rfl,rfl,trivial⟩):J n env w0 ms K:=J.d0 _ h k
theorem J.e4(a0 a1 a2 a3 a4 a5 a6 a7 a8:Nat){v0 v1 v2 v3 v4 v5 v6 v7 v8:Value}(k:J n [(a0,v0),(a1,v1),(a2,v2),(a3,v3),(a4,v4),(a5,v5),(a6,v6),(a7,v7),(a8,v8)] w0 ms K)(h:Sub env [(a0,v0),(a1,v1),(a2,v2),(a3,v3),(a4,v4),(a5,v5),(a6,v6),(a7,v7),(a8,v8)]:=by exact⟨rfl,rfl,rfl,rfl,rfl,rfl,rfl,rfl,rfl,trivial⟩):J n env w0 ms K:=J.d0 _ h k
theorem J.f1(a0 a1 a2 a3 a4 a5 a6 a7 a8 a9:Nat){v0 v1 v2 v3 v4 v5 v6 v7 v8 v9:Value}(k:J n [(a0,v0),(a1,v1),(a2,v2),(a3,v3),(a4,v4),(a5,v5),(a6,v6),(a7,v7),(a8,v8),(a9,v9)] w0 ms K)(h:Sub env [(a0,v0),(a1,v1),(a2,v2),(a3,v3),(a4,v4),(a5,v5),(a6,v6),(a7,v7),(a8,v8),(a9,v9)]:=by exact⟨rfl,rfl,rfl,rfl,rfl,rfl,rfl,rfl,rfl,rfl,trivial⟩):J n env w0 ms K:=J.d0 _ h k
theorem J.e8(a0 a1 a2 a3 a4 a5 a6 a7 a8 a9 a10:Nat){v0 v1 v2 v3 v4 v5 v6 v7 v8 v9 v10:Value}(k:J n [(a0,v0),(a1,v1),(a2,v2),(a3,v3),(a4,v4),(a5,v5),(a6,v6),(a7,v7),(a8,v8),(a9,v9),(a10,v10)] w0 ms K)(h:Sub env [(a0,v0),(a1,v1),(a2,v2),(a3,v3),(a4,v4),(a5,v5),(a6,v6),(a7,v7),(a8,v8),(a9,v9),(a10,v10)]:=by exact⟨rfl,rfl,rfl,rfl,rfl,rfl,rfl,rfl,rfl,rfl,rfl,trivial⟩):J n env w0 ms K:=J.d0 _ h k
theorem J.f0(a0 a1 a2 a3 a4 a5 a6 a7 a8 a9 a10 a11:Nat){v0 v1 v2 v3 v4 v5 v6 v7 v8 v9 v10 v11:Value}(k:J n [(a0,v0),(a1,v1),(a2,v2),(a3,v3),(a4,v4),(a5,v5),(a6,v6),(a7,v7),(a8,v8),(a9,v9),(a10,v10),(a11,v11)] w0 ms K)(h:Sub env [(a0,v0),(a1,v1),(a2,v2),(a3,v3),(a4,v4),(a5,v5),(a6,v6),(a7,v7),(a8,v8),(a9,v9),(a10,v10),(a11,v11)]:=by exact⟨rfl,rfl,rfl,rfl,rfl,rfl,rfl,rfl,rfl,rfl,rfl,rfl,trivial⟩):J n env w0 ms K:=J.d0 _ h k
theorem J.e9(a0 a1 a2 a3 a4 a5 a6 a7 a8 a9 a10 a11 a12:Nat){v0 v1 v2 v3 v4 v5 v6 v7 v8 v9 v10 v11 v12:Value}(k:J n [(a0,v0),(a1,v1),(a2,v2),(a3,v3),(a4,v4),(a5,v5),(a6,v6),(a7,v7),(a8,v8),(a9,v9),(a10,v10),(a11,v11),(a12,v12)] w0 ms K)(h:Sub env [(a0,v0),(a1,v1),(a2,v2),(a3,v3),(a4,v4),(a5,v5),(a6,v6),(a7,v7),(a8,v8),(a9,v9),(a10,v10),(a11,v11),(a12,v12)]:=by exact⟨rfl,rfl,rfl,rfl,rfl,rfl,rfl,rfl,rfl,rfl,rfl,rfl,rfl,trivial⟩):J n env w0 ms K:=J.d0 _ h k
theorem J.e1(a0 a1 a2 a3 a4 a5 a6 a7 a8 a9 a10 a11 a12 a13:Nat){v0 v1 v2 v3 v4 v5 v6 v7 v8 v9 v10 v11 v12 v13:Value}(k:J n [(a0,v0),(a1,v1),(a2,v2),(a3,v3),(a4,v4),(a5,v5),(a6,v6),(a7,v7),(a8,v8),(a9,v9),(a10,v10),(a11,v11),(a12,v12),(a13,v13)] w0 ms K)(h:Sub env [(a0,v0),(a1,v1),(a2,v2),(a3,v3),(a4,v4),(a5,v5),(a6,v6),(a7,v7),(a8,v8),(a9,v9),(a10,v10),(a11,v11),(a12,v12),(a13,v13)]:=by exact⟨rfl,rfl,rfl,rfl,rfl,rfl,rfl,rfl,rfl,rfl,rfl,rfl,rfl,rfl,trivial⟩):J n env w0 ms K:=J.d0 _ h k
theorem J.g0(a0 a1 a2 a3 a4 a5 a6 a7 a8 a9 a10 a11 a12 a13 a14:Nat){v0 v1 v2 v3 v4 v5 v6 v7 v8 v9 v10 v11 v12 v13 v14:Value}(k:J n [(a0,v0),(a1,v1),(a2,v2),(a3,v3),(a4,v4),(a5,v5),(a6,v6),(a7,v7),(a8,v8),(a9,v9),(a10,v10),(a11,v11),(a12,v12),(a13,v13),(a14,v14)] w0 ms K)(h:Sub env [(a0,v0),(a1,v1),(a2,v2),(a3,v3),(a4,v4),(a5,v5),(a6,v6),(a7,v7),(a8,v8),(a9,v9),(a10,v10),(a11,v11),(a12,v12),(a13,v13),(a14,v14)]:=by exact⟨rfl,rfl,rfl,rfl,rfl,rfl,rfl,rfl,rfl,rfl,rfl,rfl,rfl,rfl,rfl,trivial⟩):J n env w0 ms K:=J.d0 _ h k
theorem J.g8(a0 a1 a2 a3 a4 a5 a6 a7 a8 a9 a10 a11 a12 a13 a14 a15:Nat){v0 v1 v2 v3 v4 v5 v6 v7 v8 v9 v10 v11 v12 v13 v14 v15:Value}(k:J n [(a0,v0),(a1,v1),(a2,v2),(a3,v3),(a4,v4),(a5,v5),(a6,v6),(a7,v7),(a8,v8),(a9,v9),(a10,v10),(a11,v11),(a12,v12),(a13,v13),(a14,v14),(a15,v15)] w0 ms K)(h:Sub env [(a0,v0),(a1,v1),(a2,v2),(a3,v3),(a4,v4),(a5,v5),(a6,v6),(a7,v7),(a8,v8),(a9,v9),(a10,v10),(a11,v11),(a12,v12),(a13,v13),(a14,v14),(a15,v15)]:=by exact⟨rfl,rfl,rfl,rfl,rfl,rfl,rfl,rfl,rfl,rfl,rfl,rfl,rfl,rfl,rfl,rfl,trivial⟩):J n env w0 ms K:=J.d0 _ h k
theorem J.i1(a0 a1 a2 a3 a4 a5 a6 a7 a8 a9 a10 a11 a12 a13 a14 a15 a16:Nat){v0 v1 v2 v3 v4 v5 v6 v7 v8 v9 v10 v11 v12 v13 v14 v15 v16:Value}(k:J n [(a0,v0),(a1,v1),(a2,v2),(a3,v3),(a4,v4),(a5,v5),(a6,v6),(a7,v7),(a8,v8),(a9,v9),(a10,v10),(a11,v11),(a12,v12),(a13,v13),(a14,v14),(a15,v15),(a16,v16)] w0 ms K)(h:Sub env [(a0,v0),(a1,v1),(a2,v2),(a3,v3),(a4,v4),(a5,v5),(a6,v6),(a7,v7),(a8,v8),(a9,v9),(a10,v10),(a11,v11),(a12,v12),(a13,v13),(a14,v14),(a15,v15),(a16,v16)]:=by exact⟨rfl,rfl,rfl,rfl,rfl,rfl,rfl,rfl,rfl,rfl,rfl,rfl,rfl,rfl,rfl,rfl,rfl,trivial⟩):J n env w0 ms K:=J.d0 _ h k
theorem J.j0(a0 a1 a2 a3 a4 a5 a6 a7 a8 a9 a10 a11 a12 a13 a14 a15 a16 a17:Nat){v0 v1 v2 v3 v4 v5 v6 v7 v8 v9 v10 v11 v12 v13 v14 v15 v16 v17:Value}(k:J n [(a0,v0),(a1,v1),(a2,v2),(a3,v3),(a4,v4),(a5,v5),(a6,v6),(a7,v7),(a8,v8),(a9,v9),(a10,v10),(a11,v11),(a12,v12),(a13,v13),(a14,v14),(a15,v15),(a16,v16),(a17,v17)] w0 ms K)(h:Sub env [(a0,v0),(a1,v1),(a2,v2),(a3,v3),(a4,v4),(a5,v5),(a6,v6),(a7,v7),(a8,v8),(a9,v9),(a10,v10),(a11,v11),(a12,v12),(a13,v13),(a14,v14),(a15,v15),(a16,v16),(a17,v17)]:=by exact⟨rfl,rfl,rfl,rfl,rfl,rfl,rfl,rfl,rfl,rfl,rfl,rfl,rfl,rfl,rfl,rfl,rfl,rfl,trivial⟩):J n env w0 ms K:=J.d0 _ h k
end
section
variable{P:Program}{n:Nat}{env:Env}{w0:Wd}{ms:List Hp}{fn:Func}
def qR0(fn:Func)(env:Env):Option Value:=match fn.results.toList with
  | [.tmp t]=>look env t
  |_=>none
theorem J.j1(hw:w0.own= []){env:Env}{R:Ending→World→Prop}{v:Value}(hr:qR0 fn env=some v){φ:Act→World→Prop}(hQ: ∀a w,bodyPostM Fence.wide 0 P fn R .ret a w→φ a w)(h: ∀w,St w0 ms w→R (.returned v) w):J n env w0 ms φ:=by
  unfold qR0 at hr
  split at hr
  · rename_i t ht
    exact J.b4 hw hQ (qJW (by rw [←Array.toArray_toList (xs:=fn.results),ht]) hr) h
  · cases hr
theorem J.Z{X:Type}{val:X→Value}{φ:X→Prop}{ms':X→List Hp}{env:Env}{v:Value}(hw:w0.own= [])(hr:qR0 fn env=some v)(x:X)(hv:v=val x)(hx:φ x)(ix:List Nat)(hm:pick ms ix=ms' x)(hn:ix.Nodup):
    J n env w0 ms (bodyPostM Fence.wide 0 P fn (λe w=> ∃x,e= .returned (val x)∧φ x∧St w0 (ms' x) w) .ret):=J.j1 hw hr (λ_ _ h=>h) (qAj x hv hx ix hm hn)
theorem qAP.mo{F F':Hp}{A l}{ms:List Hp}(h:qAP F A l)(hF: ∀m∈ms,Le m F')(hm:F∈ms:=by simp):qAP F' A l:=h.mono (hF F hm)
end
end Go.Fw
namespace Go.Fw
open Go Go.RowKit
theorem Sl.part{m sz A n c xs}(h:Sl m sz A n c xs){i:Nat}{x:List Value}(hx:xs[i]?=some x)(k j:Nat):qAP m ((qDX A i sz).add k) ((x.drop k).take j):=(h.elem hx).sub k j
section
variable{P:Program}{env:Env}{rs ms:List Hp}{o:Oper}
theorem qAz{s x f i fs A n' c xs m sz q k off}(ho:o.op= .fieldAddr s x i)(hx:ev env x=some (.pointer (some (qDX A q sz))))(hu:P.underlying s=some (.struct fs))(hf:fs[i]?=some f)
    (hz: ∀w,(sizeOf f.type).run P w= .ok (k+1) w) (hs:Sl m sz A n' c xs) (hq:q<n') (hj:f.offset=off):YOp P env rs o (.pointer (some ((qDX A q sz).add off))):=by
  obtain ⟨g,o',rfl⟩:=hs.at (by omega)
  rw [qEX] at hx⊢
  rw [Addr.add_lit]
  exact qAA ho hx hu hf hz (by rw [hj])
theorem Ct.swap2{f vs}{X:Type}{val:X→Value}{φ:X→Prop}{A B:X→Hp}(h:Ct P f vs ms val φ (λx=> [A x,B x])):Ct P f vs ms val φ (λx=> [B x,A x]):=
  h.mono id (λ_ _=>rfl) (λ_ h=>h) (λ_ _ _ _ h=>h.pick [1,0] (by decide))
end
end Go.Fw
