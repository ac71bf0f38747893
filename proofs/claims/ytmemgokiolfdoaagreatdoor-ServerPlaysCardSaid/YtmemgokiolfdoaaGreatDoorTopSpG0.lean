/- Rules for walking a translated function, over heaps that are apart: for any program. -/
import Derived.WalkKit
import Derived.OrdersHeld
import Derived.Deep.RegionHeld3
set_option linter.unusedSimpArgs false
set_option linter.unusedVariables false
namespace Go.Fw
open Go
abbrev yS:=Option Addr
abbrev yT:=List Nat
abbrev yU:=List Value
abbrev yV:=List UInt32
abbrev yW := @if_neg
abbrev yX := @if_pos
abbrev yY := @congrArg
abbrev yZ := @decide_eq_true_eq
abbrev ya := @decide_eq_true
abbrev yb := @decide_eq_false
abbrev yc := @of_decide_eq_true
theorem yd:True:=trivial
abbrev xA:=List UInt8
abbrev jA:= @List.length_append
abbrev jB:= @List.getD_eq_getElem?_getD
abbrev jC:= @List.length_cons
abbrev jD:= @List.getElem?_eq_getElem
abbrev jE:= @List.length_drop
abbrev jF:= @List.length_take
abbrev jG:= @List.length_nil
abbrev jH:= @Nat.zero_le
abbrev jI:= @List.length_singleton
abbrev jJ:= @List.length_map
abbrev jL:= @Nat.le_refl
abbrev jM:= @List.append_assoc
abbrev jN:= @List.map_append
abbrev jO:= @List.getElem?_map
abbrev jP:= @List.take_succ_eq_append_getElem
abbrev jQ:= @List.length_replicate
abbrev jR:= @List.mem_of_getElem?
abbrev jS:= @List.append_nil
abbrev jT:= @List.eq_nil_of_length_eq_zero
abbrev jU:= @List.getElem_mem
abbrev jV:= @List.take_of_length_le
abbrev jW:= @Nat.le_of_ble_eq_true
abbrev jX:= @Nat.mod_eq_of_lt
abbrev jY:= @List.map_cons
abbrev jZ:= @Nat.pow_le_pow_right
abbrev ja:= @List.getElem?_append_right
abbrev jb:= @List.mem_append_right
abbrev jd:= @Int.toNat_natCast
abbrev je:= @List.getElem?_eq_none
abbrev jf:= @Nat.le_trans
abbrev jg:= @List.pairwise_append
abbrev jh:= @Bool.and_eq_true
abbrev ji:= @List.mem_singleton
abbrev jj:= @List.mem_append_left
abbrev jk:= @List.getElem?_append_left
abbrev jl:= @Nat.zero_add
abbrev jm:= @UInt8.toNat_ofNat'
abbrev jn:= @List.take_length
abbrev jo:= @List.flatten_cons
abbrev jp:= @List.filter_cons
abbrev jq:= @Nat.min_eq_left
abbrev jr:= @List.not_mem_nil
abbrev js:= @List.getElem?_drop
abbrev jt:= @List.range_succ
abbrev ju:= @Nat.pow_succ
abbrev jv:= @Nat.div_le_self
abbrev jx:= @Nat.lt_of_le_of_lt
abbrev jy:= @Nat.two_pow_pos
abbrev jz:= @Nat.not_lt_zero
abbrev j4:= @List.drop_of_length_le
abbrev j5:= @List.mem_cons
abbrev j6:= @List.length_set
abbrev j7:= @List.nil_append
abbrev j8:= @Nat.lt_of_lt_of_le
abbrev j9:= @List.drop_eq_getElem_cons
abbrev zA:= @List.flatten_append
abbrev zB:= @List.pairwise_cons
abbrev zC:= @Nat.div_eq_of_lt
abbrev zD:= @List.getElem?_range
abbrev zE:= @List.sum_cons
abbrev zF:= @List.length_range
abbrev zG:= @List.filter_append
abbrev zH:= @List.drop_drop
abbrev zI:= @List.drop_zero
abbrev zJ:= @List.take_left'
abbrev zK:= @Nat.sub_self
abbrev zM:= @List.getElem?_toArray
abbrev zN:= @List.take_append_drop
abbrev zO:= @List.getElem?_set
abbrev zP:= @List.all_cons
abbrev zQ:= @Nat.div_div_eq_div_mul
abbrev zR:= @Nat.lt_or_ge
abbrev zT:= @List.eq_of_mem_replicate
abbrev zU:= @Array.getElem?_setIfInBounds
abbrev zV:= @List.take_zero
abbrev zW:= @List.drop_left'
abbrev zX:= @Array.getD_eq_getD_getElem?
abbrev zY:= @List.getElem?_take
abbrev zZ:= @Nat.mul_le_mul_right
abbrev za:= @List.cons_ne_nil
abbrev zb:= @Nat.testBit_eq_decide_div_mod_eq
abbrev zc:= @Nat.add_zero
abbrev zd:= @List.getD_cons_zero
abbrev ze:= @List.map_map
abbrev zf:= @List.flatten_nil
abbrev zg:= @List.map_nil
abbrev zh:= @List.mem_map
abbrev zi:= @Nat.mul_comm
abbrev zj:= @Nat.add_mul
abbrev zk:= @Int.eq_ofNat_of_zero_le
abbrev zl:= @List.size_toArray
abbrev zm:= @List.ext_getElem?
abbrev zn:= @Option.some.inj
abbrev zo:= @List.filter_nil
abbrev zp:= @List.getElem_of_mem
abbrev zq:= @List.getD_cons_succ
abbrev zr:= @List.perm_append_singleton
abbrev zt:= @List.filter_filter
abbrev zu:= @Option.map_some
abbrev zw:= @Nat.sub_zero
abbrev zx:= @List.mem_of_mem_take
abbrev zy:= @Nat.succ_pos
abbrev zz:= @List.filter_congr
abbrev z6:= @List.foldl_append
abbrev z7:= @Nat.add_assoc
abbrev z8:= @UInt64.toNat_ofNat'
abbrev yA:= @List.map_congr_left
abbrev yB:= @UInt32.toNat_add
abbrev yC:= @List.cons_append
abbrev yD:= @Nat.zero_mul
abbrev yE:= @Nat.lt_of_lt_of_eq
abbrev yF:= @Array.getElem?_modify
abbrev yG:= @Nat.div_lt_iff_lt_mul
abbrev yH:= @List.sum_append
abbrev yI:= @List.length_filter_le
abbrev yJ:= @Array.getElem?_append_left
abbrev yK:= @Int.fdiv_eq_ediv_of_nonneg
abbrev yL:= @List.pairwise_iff_getElem
abbrev yM:= @Array.getElem?_eq_getElem
abbrev yN:= @List.mem_or_eq_of_mem_set
abbrev yO:= @Nat.add_comm
abbrev yP:= @List.replicate_succ
abbrev yQ:= @Int.natCast_mul
abbrev yR:= @Nat.eq_zero_or_pos
theorem xB{p:Prop}(h:p:=by omega):p:=h
theorem xC{p:Prop}(h:p:=by decide):p:=h
theorem xD{p:Prop}(h:p:=by simp):p:=h
theorem xE{p:Prop}(h:p:=by first|omega|(simp only [jA,jC,jG,jF,jE] at*;omega)):p:=h
theorem xF{p:Prop}(h:p:=by decide+kernel):p:=h
theorem xG{p:Prop}(h:p:=by assumption):p:=h
theorem xH{p:Prop}(h:p:=by kernel_rfl):p:=h
theorem xI{p:Prop}(h:p:=by first|assumption|omega):p:=h
theorem xJ{p:Prop}(h:p:=by simp;omega):p:=h
theorem xK{p:Prop}(h:p:=by first|omega|decide|(simp only [j6,jQ] at*;omega)):p:=h
theorem xL{p:Prop}(h:p:=by first|decide|omega|assumption):p:=h
theorem xM{p:Prop}(h:p:=by first|omega|decide):p:=h
theorem xN{p:Prop}(h:p:=by first|decide|omega):p:=h
theorem xO{p:Prop}(h:p:=by simp only [jA,jI];omega):p:=h
theorem xP{p:Prop}(h:p:=by first|omega|assumption):p:=h
theorem O.{u}{α:Sort u}{a:α}:a=a:=Eq.refl a
abbrev Env:=List (Nat×Value)
def look:Env->Nat->Option Value
  | [],_=>none
  |(k,v)::r,t=>bif Nat.beq k t then some v else look r t
theorem qOc{d t:Nat}(h: ¬d=t):Nat.beq d t=false:=by
  cases e:Nat.beq d t with
  |false=>rfl
  |true=>exact absurd (Nat.eq_of_beq_eq_true e) h
def ev(env:Env):Operand->Option Value
  | .tmp t=>look env t
  | .const v=>some v
  | .global g=>some (.pointer (some ⟨g,0,none⟩))
  | .func f=>some (.func (.func f) #[] #[])
def evs(env:Env):List Operand->Option yU
  | []=>some []
  |x::r=>match ev env x,evs env r with
    |some v,some vs=>some (v::vs)
    |_,_=>none
def Kn(n:Nat)(env:Env)(a:Act):Prop:=
  a.tmps.size=n/\ ∀t v,look env t=some v->a.tmps[t]?=some v
theorem Kn.look{n env a t v}(h:Kn n env a)(hl:look env t=some v):a.tmps[t]?=some v:=h.2 t v hl
theorem Kn.ev{n env a x v}(h:Kn n env a)(hx:ev env x=some v):a.eval x=v:=by
  cases x with
  |tmp t=>have:=h.look hx;simp [Act.eval,zX,this]
  |const v'=>simpa [Fw.ev,Act.eval] using hx
  |global g=>simpa [Fw.ev,Act.eval] using hx
  |func f=>simpa [Fw.ev,Act.eval] using hx
theorem Kn.evs{n env a}(h:Kn n env a): ∀{l vs},Fw.evs env l=some vs->l.map a.eval=vs
  | [],vs,hl=>by simp [Fw.evs] at hl;simp [<-hl]
  |x::r,vs,hl=>by
    unfold Fw.evs at hl
    split at hl
    . rename_i v vs' h1 h2
      simp at hl
      rw [<-hl,jY,h.ev h1,Kn.evs h h2]
    . cases hl
theorem Kn.put{n env a d}(h:Kn n env a)(hd:Nat.blt d n=true)(v:Value):Kn n ((d,v)::env) (a.put (some d) v):=by
  have hd':d<n:=by simpa [Nat.blt_eq] using hd
  refine⟨by simp [Act.put,h.1],λt u hu=>?_⟩
  unfold Fw.look at hu
  by_cases hdt:d=t
  . subst hdt
    simp at hu
    subst hu
    simp [Act.put,h.1,hd']
  . have:Nat.beq d t=false:=qOc hdt
    rw [this] at hu
    simp only [cond_false] at hu
    simp [Act.put,Array.getElem?_setIfInBounds_ne hdt,h.look hu]
def Sub(env:Env):Env->Prop
  | []=>True
  |(k,v)::r=>Fw.look env k=some v/\Sub env r
theorem Sub.look{env}: ∀{e':Env} {t v},Sub env e'->Fw.look e' t=some v->Fw.look env t=some v
  | [],t,v,_,h=>by simp [Fw.look] at h
  |(k,u)::r,t,v,hs,h=>by
    unfold Fw.look at h
    by_cases hkt:k=t
    . subst hkt;simp at h;subst h;exact hs.1
    . have:Nat.beq k t=false:=qOc hkt
      rw [this] at h
      exact Sub.look hs.2 (by simpa using h)
theorem Kn.sub{n env env' a}(h:Kn n env a)(hs:Sub env env'):Kn n env' a:=
  ⟨h.1,λ_ _ hl=>h.look (hs.look hl)⟩
def KnD(ds:List Deferred)(n:Nat)(env:Env)(a:Act):Prop:=a.defers=ds/\Kn n env a
theorem KnD.look{ds n env a t v}(h:KnD ds n env a)(hl:look env t=some v):a.tmps[t]?=some v:=h.2.look hl
theorem KnD.ev{ds n env a x v}(h:KnD ds n env a)(hx:ev env x=some v):a.eval x=v:=h.2.ev hx
theorem KnD.put{ds n env a d}(h:KnD ds n env a)(hd:Nat.blt d n=true)(v:Value):KnD ds n ((d,v)::env) (a.put (some d) v):=⟨h.1,h.2.put hd v⟩
theorem KnD.sub{ds n env env' a}(h:KnD ds n env a)(hs:Sub env env'):KnD ds n env' a:=⟨h.1,h.2.sub hs⟩
abbrev Hp:=Nat->Option Obj
def hp(w:World):Hp:=λg=>w.heap[g]?
def Le(m m':Hp):Prop:= ∀g o,m g=some o->m' g=some o
theorem Le.refl(m:Hp):Le m m:=λ_ _ h=>h
theorem Le.trans{a b c:Hp}(h:Le a b)(h':Le b c):Le a c:=λg o x=>h' g o (h g o x)
def U:List Hp->Hp
  | []=>λ_=>none
  |m::r=>λg=>match m g with
    |some o=>some o
    |none=>U r g
def Dj(m m':Hp):Prop:= ∀g,m g=none\/m' g=none
theorem Dj.symm{m m':Hp}(h:Dj m m'):Dj m' m:=λg=>(h g).symm
def Djs:List Hp->Prop
  | []=>True
  |m::r=>Dj m (U r)/\Djs r
theorem qJI{r:List Hp}{g:Nat}:U r g=none↔ ∀m∈r,m g=none:=by
  induction r with
  |nil=>simp [U]
  |cons m r ih=>
    simp only [U,j5,forall_eq_or_imp]
    cases h:m g with
    |none=>simp [ih]
    |some o=>simp
theorem Dj.U_right{m:Hp}{r:List Hp}:Dj m (U r)↔ ∀m'∈r,Dj m m':=by
  constructor
  . intro h m' hm g
    rcases h g with h|h
    . exact .inl h
    . exact .inr (qJI.1 h m' hm)
  . intro h g
    cases hg:m g with
    |none=>exact .inl rfl
    |some o=>
      refine .inr (qJI.2 λm' hm=>?_)
      rcases h m' hm g with h|h
      . rw [hg] at h;cases h
      . exact h
theorem qCa{r:List Hp}{g:Nat}{o:Obj}(h:U r g=some o): ∃m∈r,m g=some o:=by
  induction r with
  |nil=>simp [U] at h
  |cons m r ih=>
    simp only [U] at h
    cases hg:m g with
    |none=>rw [hg] at h;obtain ⟨m',hm,ho⟩:=ih h;exact⟨m',.tail _ hm,ho⟩
    |some o'=>rw [hg] at h;exact⟨m,.head _,by rw [hg];simpa using h⟩
theorem qAh{r:List Hp}:Djs r↔r.Pairwise Dj:=by
  induction r with
  |nil=>simp [Djs]
  |cons m r ih=>simp only [Djs,zB,ih,Dj.U_right]
theorem qG2{ms:List Hp}(h:Djs ms){m:Hp}(hm:m∈ms):Le m (U ms):=by
  induction ms with
  |nil=>cases hm
  |cons m' r ih=>
    intro g o ho
    simp only [U]
    rcases List.mem_cons.1 hm with rfl|hm
    . simp [ho]
    . rcases h.1 g with h1|h1
      . rw [h1];exact ih h.2 hm g o ho
      . exact absurd (qJI.1 h1 m hm) (by simp [ho])
structure Wd where
  w:World
  kp:Hp
  own:List Deferred
def qTP(d:Nat):Deferred:={target:= .collected d,args:= #[]}
def Wd.ds(w0:Wd):List Deferred:=w0.own
structure St (w0:Wd) (ms:List Hp) (w:World):Prop where
  os:w.os=w0.w.os
  out:w.output=w0.w.output
  tape:w.tape=w0.w.tape
  size:w0.w.heap.size<=w.heap.size
  dj:Djs ms
  le:Le (U ms) (hp w)
  kd: ∀m∈ms,Dj w0.kp m
  kl:Le w0.kp (hp w)
theorem St.mem{w0 ms w m}(h:St w0 ms w)(hm:m∈ms):Le m (hp w):=(qG2 h.dj hm).trans h.le
theorem St.intro_of{w0 ms w ms'}(h:St w0 ms w)(hd:Djs ms')(hl: ∀m∈ms',Le m (hp w))(hk: ∀m∈ms',Dj w0.kp m):St w0 ms' w:=
  ⟨h.os,h.out,h.tape,h.size,hd,λg o ho=>by obtain ⟨m,hm,h1⟩:=qCa ho;exact hl m hm g o h1,hk,h.kl⟩
theorem St.kU{w0 ms w}(h:St w0 ms w):Dj w0.kp (U ms):=Dj.U_right.2 h.kd
theorem St.of_heap{w0 ms w w'}(h:St w0 ms w)(h1:w'.os=w.os)(h2:w'.output=w.output)(h3:w'.tape=w.tape)(h4:w'.heap=w.heap):St w0 ms w':=
  ⟨h1.trans h.os,h2.trans h.out,h3.trans h.tape,by rw [h4];exact h.size,h.dj,by unfold hp;rw [h4];exact h.le,h.kd,by unfold hp;rw [h4];exact h.kl⟩
def pick(ms:List Hp)(ix:yT):List Hp:=ix.filterMap (ms[·]?)
theorem qN5{ms:List Hp}{ix:yT}{m:Hp}(h:m∈pick ms ix):m∈ms:=by
  simp only [pick,List.mem_filterMap] at h
  obtain ⟨i,_,hi⟩:=h
  exact jR hi
theorem qDE{ms:List Hp}(h:Djs ms){i j:Nat}{m m':Hp}(hi:ms[i]?=some m)(hj:ms[j]?=some m')(hne:i≠j):Dj m m':=by
  rw [qAh,yL] at h
  obtain ⟨hi',rfl⟩:=List.getElem?_eq_some_iff.1 hi
  obtain ⟨hj',rfl⟩:=List.getElem?_eq_some_iff.1 hj
  rcases Nat.lt_or_gt_of_ne hne with hlt|hlt
  . exact h i j hi' hj' hlt
  . exact(h j i hj' hi' hlt).symm
theorem qKP{ms:List Hp}(h:Djs ms): ∀{ix:yT},ix.Nodup->Djs (pick ms ix)
  | [],_=>yd
  |i::ix,hn=>by
    have hn':=List.nodup_cons.1 hn
    have ih:=qKP h hn'.2
    unfold pick
    rw [List.filterMap_cons]
    cases hi:ms[i]? with
    |none=>exact ih
    |some m=>
      refine⟨Dj.U_right.2 λm' hm'=>?_,ih⟩
      simp only [List.mem_filterMap] at hm'
      obtain ⟨j,hj,hj'⟩:=hm'
      exact qDE h hi hj' (λe=>hn'.1 (e▸hj))
theorem St.pick{w0 ms w}(h:St w0 ms w)(ix:yT)(hn:ix.Nodup):St w0 (pick ms ix) w:=
  h.intro_of (qKP h.dj hn) (λ_ hm=>h.mem (qN5 hm)) (λ_ hm=>h.kd _ (qN5 hm))
def J(n:Nat)(env:Env)(w0:Wd)(ms:List Hp)(φ:Act->World->Prop):Prop:=
  ∀a w,KnD w0.ds n env a->St w0 ms w->φ a w
section
variable{P:Program}{n:Nat}{env:Env}{w0:Wd}{ms:List Hp}{ops:Array Oper}{Q:Exit->Act->World->Prop}{K:Act->World->Prop}
theorem wZ{φ ψ:Act->World->Prop}(h: ∀a w,φ a w->ψ a w)(hj:J n env w0 ms φ):J n env w0 ms ψ:=λa w hk hs=>h a w (hj a w hk hs)
theorem wH{env' ms'}{φ:Act->World->Prop}(he:Sub env env')(hs: ∀w,St w0 ms w->St w0 ms' w)(h:J n env' w0 ms' φ):J n env w0 ms φ:=
  λa w hk hs'=>h a w (hk.sub he) (hs w hs')
theorem J.i1{φ:Act->World->Prop}(env':Env)(ix:yT)(ms':List Hp)(he:Sub env env')(hm:pick ms ix=ms')(hn:ix.Nodup)(h:J n env' w0 ms' φ):J n env w0 ms φ:=
  wH he (λ_ hs=>hm▸hs.pick ix hn) h
theorem vh{φ:Act->World->Prop}(env':Env)(he:Sub env env')(h:J n env' w0 ms φ):J n env w0 ms φ:=
  wH he (λ_ hs=>hs) h
theorem ym{x y:Code}(h: ∀K:Act->World->Prop,(∀a w,y.wp P Q a w->K a w)->J n env w0 ms (x.wp P (Exit.then K Q))):
    J n env w0 ms ((Code.seq x y).wp P Q):=λa w hk hs=>wp_seq_k λK hK=>h K hK a w hk hs
theorem vl{X:Type}(env':X->Env)(ms':X->List Hp)(φ:X->Prop){x y:Code}
    (h: ∀K:Act->World->Prop,(∀x,φ x->J n (env' x) w0 (ms' x) K)->J n env w0 ms (x.wp P (Exit.then K Q)))
    (hy: ∀x,φ x->J n (env' x) w0 (ms' x) (y.wp P Q)):J n env w0 ms ((Code.seq x y).wp P Q):=
  λa w hk hs=>wp_seq (h (y.wp P Q) (λx hx=>hy x hx) a w hk hs)
theorem vP(h:J n env w0 ms (Q .normal)):J n env w0 ms (Code.skip.wp P Q):=λa w hk hs=>wp_skip (h a w hk hs)
theorem vK{id:Nat}(h:J n env w0 ms (Q (.exit id))):J n env w0 ms ((Code.exit id).wp P Q):=λa w hk hs=>wp_exit (h a w hk hs)
theorem yr(h:J n env w0 ms (Q .ret)):J n env w0 ms (Code.ret.wp P Q):=λa w hk hs=>wp_ret (h a w hk hs)
theorem yz{id:Nat}{c:Code}(h:J n env w0 ms (c.wp P (Exit.inBlock id Q))):J n env w0 ms ((Code.block id c).wp P Q):=λa w hk hs=>wp_block (h a w hk hs)
theorem vf{c:Operand}{x y:Code}{b:Bool}(hc:ev env c=some (.bool b))(ht:b=true->J n env w0 ms (x.wp P Q))(hf:b=false->J n env w0 ms (y.wp P Q)):
    J n env w0 ms ((Code.cond c x y).wp P Q):=λa w hk hs=>wp_cond_split (hk.ev hc) (λe=>ht e a w hk hs) (λe=>hf e a w hk hs)
theorem wP{c:Operand}{x y:Code}{b:Bool}(hc:ev env c=some (.bool b))(hb:b=true)(ht:J n env w0 ms (x.wp P Q)):
    J n env w0 ms ((Code.cond c x y).wp P Q):=vf hc (λ_=>ht) (λe=>by rw [hb] at e;cases e)
theorem vw{c:Operand}{x y:Code}{b:Bool}(hc:ev env c=some (.bool b))(hb:b=false)(hf:J n env w0 ms (y.wp P Q)):
    J n env w0 ms ((Code.cond c x y).wp P Q):=vf hc (λe=>by rw [hb] at e;cases e) (λ_=>hf)
theorem y1{c:Operand}{x y:Code}{p:Prop} [Decidable p](hc:ev env c=some (.bool (decide p)))(ht:p->J n env w0 ms (x.wp P Q))(hf: ¬p->J n env w0 ms (y.wp P Q)):
    J n env w0 ms ((Code.cond c x y).wp P Q):=vf hc (λe=>ht (by simpa using e)) (λe=>hf (by simpa using e))
theorem vN{X:Type}(env':X->Env)(ms':X->List Hp)(φ:X->Prop)(μ:X->Nat){c:Code}(x0:X)(hx0:φ x0)
    (he:Sub env (env' x0)) (hm: ∀w,St w0 ms w->St w0 (ms' x0) w)
    (round: ∀x,φ x-> ∀I:Act->World->Prop,(∀x',φ x'->μ x'<μ x->J n (env' x') w0 (ms' x') I)->J n (env' x) w0 (ms' x) (c.wp P (Exit.then I Q))):
    J n env w0 ms ((Code.loop c).wp P Q):=λa w hk hs=>by
  intro b kk cs
  have key: ∀k,∀x,φ x->μ x=k-> ∀a w,KnD w0.ds n (env' x) a->St w0 (ms' x) w->
      ∃e a' w',Q e a' w'/\Arrives P (lone (b.at a (.code c:: .inLoop c::kk)) cs w) b kk cs e a' w':=by
    intro k
    induction k using Nat.strongRecOn with
    |_ k ih=>
      intro x hx hμ a w hk hs
      obtain ⟨e,a₁,w₁,hq,harr⟩:=round x hx (λa' w'=> ∃x',φ x'/\μ x'<μ x/\KnD w0.ds n (env' x') a'/\St w0 (ms' x') w')
        (λx' hx' hlt a' w' hk' hs'=>⟨x',hx',hlt,hk',hs'⟩) a w hk hs b (.inLoop c::kk) cs
      cases e with
      |normal=>
        obtain ⟨x',hx',hlt,hk',hs'⟩:=hq
        obtain ⟨e₂,a₂,w₂,hq₂,harr₂⟩:=ih (μ x') (hμ▸hlt) x' hx' rfl a₁ w₁ hk' hs'
        exact⟨e₂,a₂,w₂,hq₂,.of_steps (Steps.trans harr (.one step_inLoop)) harr₂⟩
      |exit id=>exact⟨_,a₁,w₁,hq,.pass (x:= .inLoop c) rfl (λ_ _=> .inl (by simp)) harr⟩
      |goto l=>exact⟨_,a₁,w₁,hq,.pass (x:= .inLoop c) rfl (λ_ _=> .inl (by simp)) harr⟩
      |ret=>exact⟨_,a₁,w₁,hq,.pass (x:= .inLoop c) rfl (λ_ _=> .inl (by simp)) harr⟩
      |panic ch=>exact⟨_,a₁,w₁,hq,.pass (x:= .inLoop c) rfl (λ_ _=> .inl (by simp)) harr⟩
      |outgrown=>exact⟨_,a₁,w₁,hq,.pass (x:= .inLoop c) rfl (λ_ _=> .inl (by simp)) harr⟩
  obtain ⟨e,a',w',hq,harr⟩:=key _ x0 hx0 rfl a w (hk.sub he) (hm w hs)
  exact⟨e,a',w',hq,.of_steps (.one step_loop) harr⟩
theorem yq(h:J n env w0 ms K):J n env w0 ms (Exit.then K Q .normal):=h
theorem y6{i:Nat}(h:J n env w0 ms (Q (.exit i))):J n env w0 ms (Exit.then K Q (.exit i)):=h
theorem y5(h:J n env w0 ms (Q .ret)):J n env w0 ms (Exit.then K Q .ret):=h
theorem vB{id:Nat}(h:J n env w0 ms (Q .normal)):J n env w0 ms (Exit.inBlock id Q .normal):=h
theorem vI{id:Nat}(h:J n env w0 ms (Q .ret)):J n env w0 ms (Exit.inBlock id Q .ret):=h
theorem vL{id:Nat}(h:J n env w0 ms (Q .normal)):J n env w0 ms (Exit.inBlock id Q (.exit id)):=λa w hk hs=>by
  simp only [Exit.inBlock,if_true];exact h a w hk hs
theorem wc{id i:Nat}(hne:Nat.beq i id=false)(h:J n env w0 ms (Q (.exit i))):J n env w0 ms (Exit.inBlock id Q (.exit i)):=λa w hk hs=>by
  have: ¬i=id:=λe=>by subst e;simp at hne
  simp only [Exit.inBlock,this,if_false];exact h a w hk hs
theorem yu{C:Act->World->Prop}(hK: ∀a w,C a w->K a w)(h:J n env w0 ms C):J n env w0 ms K:=wZ hK h
theorem vY{X:Type}{φ:X->Prop}{env':X->Env}{ms':X->List Hp}(x:X)(hK: ∀x,φ x->J n (env' x) w0 (ms' x) K)(hx:φ x)(he:Sub env (env' x))
    (hm: ∀w,St w0 ms w->St w0 (ms' x) w):J n env w0 ms K:=wH he hm (hK x hx)
def lkA(env:Env):Env->List (Option Value)
  | []=> []
  |(k,_)::r=>Fw.look env k::lkA env r
def lkV:Env->List (Option Value)
  | []=> []
  |(_,v)::r=>some v::lkV r
theorem Sub.of{env:Env}: ∀{e:Env},lkA env e=lkV e->Sub env e
  | [],_=>yd
  |(k,v)::r,h=>⟨(List.cons.inj h).1,Sub.of (List.cons.inj h).2⟩
theorem vE{X:Type}{φ:X->Prop}{μ:X->Nat}{k:Nat}{env':X->Env}{ms':X->List Hp}(x:X)(hK: ∀x,φ x->μ x<k->J n (env' x) w0 (ms' x) K)(hx:φ x)(he:Sub env (env' x))
    (hm: ∀w,St w0 ms w->St w0 (ms' x) w) (hd:μ x<k:=by first|omega|(dsimp only;omega)):J n env w0 ms K:=wH he hm (hK x hx hd)
def YOp(P:Program)(env:Env)(rs:List Hp)(o:Oper)(v:Value):Prop:=
  ∀n a w,Kn n env a->(∀m∈rs,Le m (hp w))->(execOp a.eval o).run P w= .ok (.value v) w
def EOp(P:Program)(env:Env)(ms:List Hp)(o:Oper){X:Type}(val:X->Value)(φ:X->Prop)(ms':X->List Hp):Prop:=
  ∀n a (w0:Wd) w (next:Act->World->Prop) (Q:Exit->Act->World->Prop),Kn n env a->St w0 ms w->
    (∀x w',φ x->St w0 (ms' x) w'->next (a.put o.dst (val x)) w')->o.wp P a w next Q
def Wan(ops:Array Oper)(env:Env)(o:Oper)(b:Bool):Prop:= ∀n a,Kn n env a->Region.wanted o (yielded ops a.tmps)=b
theorem Wan.none{o:Oper}(h:o.guard=none):Wan ops env o true:=λ_ _ _=>by simp [Region.wanted,h]
theorem Wan.is{o o':Oper}{j d:Nat}{want b r:Bool}(h:o.guard=some (j,want))(hj:ops[j]?=some o')(hd:o'.dst=some d)(hl:look env d=some (.bool b))(hb:(b==want)=r):
    Wan ops env o r:=λn a hk=>by
  have h2:=hk.look hl
  have:yielded ops a.tmps j=some b:=by simp [yielded,hj,hd,h2]
  simp [Region.wanted,h,this,hb]
theorem y8(h:J n env w0 ms (Q .normal)):J n env w0 ms (wpList P ops Q []):=h
theorem wC{o:Oper}{rest:List Oper}{v:Value}{d:Nat}(hg:Wan ops env o true)(h:YOp P env ms o v)(hd:o.dst=some d)(hn:Nat.blt d n=true)
    (k:J n ((d,v)::env) w0 ms (wpList P ops Q rest)):J n env w0 ms (wpList P ops Q (o::rest)):=λa w hk hs=>by
  unfold wpList
  rw [yX (hg n a hk.2)]
  refine .inl ?_
  unfold Oper.wp
  rw [h n a w hk.2 (λm hm=>hs.mem hm),Oper.upon_value,hd]
  exact k _ w (hk.put hn v) hs
theorem va{o:Oper}{rest:List Oper}{v:Value}{d:Nat}(h:YOp P env ms o v)(hg:o.guard=none)(hd:o.dst=some d)(hn:Nat.blt d n=true)
    (k:J n ((d,v)::env) w0 ms (wpList P ops Q rest)):J n env w0 ms (wpList P ops Q (o::rest)):=wC (Wan.none hg) h hd hn k
theorem vX{o:Oper}{rest:List Oper}{d:Nat}(hg:Wan ops env o false)(hd:o.dst=some d)(hn:Nat.blt d n=true)
    (k:J n ((d,undef)::env) w0 ms (wpList P ops Q rest)):J n env w0 ms (wpList P ops Q (o::rest)):=λa w hk hs=>by
  unfold wpList
  rw [yW (by rw [hg n a hk.2];simp),hd]
  exact k _ w (hk.put hn undef) hs
theorem wT{o:Oper}{rest:List Oper}{X:Type}{val:X->Value}{φ:X->Prop}{ms':X->List Hp}{d:Nat}(hg:Wan ops env o true)(h:EOp P env ms o val φ ms')(hd:o.dst=some d)(hn:Nat.blt d n=true)
    (k: ∀x,φ x->J n ((d,val x)::env) w0 (ms' x) (wpList P ops Q rest)):J n env w0 ms (wpList P ops Q (o::rest)):=λa w hk hs=>by
  unfold wpList
  rw [yX (hg n a hk.2)]
  refine .inl (h n a w0 w _ _ hk.2 hs λx w' hx hs'=>?_)
  rw [hd]
  exact k x hx _ w' (hk.put hn _) hs'
theorem wA{o:Oper}{rest:List Oper}{X:Type}{val:X->Value}{φ:X->Prop}{ms':X->List Hp}{d:Nat}(h:EOp P env ms o val φ ms')(hg:o.guard=none)(hd:o.dst=some d)(hn:Nat.blt d n=true)
    (k: ∀x,φ x->J n ((d,val x)::env) w0 (ms' x) (wpList P ops Q rest)):J n env w0 ms (wpList P ops Q (o::rest)):=wT (Wan.none hg) h hd hn k
theorem vG{o:Oper}{rest:List Oper}{X:Type}{val:X->Value}{φ:X->Prop}{ms':X->List Hp}(h:EOp P env ms o val φ ms')(hg:o.guard=none)(hd:o.dst=none)
    (k: ∀x,φ x->J n env w0 (ms' x) (wpList P ops Q rest)):J n env w0 ms (wpList P ops Q (o::rest)):=λa w hk hs=>by
  unfold wpList
  rw [yX ((Wan.none hg:Wan ops env o true) n a hk.2)]
  refine .inl (h n a w0 w _ _ hk.2 hs λx w' hx hs'=>?_)
  rw [hd]
  exact k x hx _ w' hk hs'
theorem wI{φ:Act->World->Prop}{d:Nat}{b b':Bool}(hl:look env d=some (.bool b))(hb:b=b')(k:J n ((d,.bool b')::env) w0 ms φ):J n env w0 ms φ:=
  λa w hk hs=>k a w ⟨hk.1,hk.2.1,λt v h=>by
    unfold look at h
    by_cases hdt:d=t
    . subst hdt
      simp at h
      subst h
      subst hb
      exact hk.look hl
    . rw [qOc hdt] at h
      exact hk.look (by simpa using h)⟩ hs
theorem vO{φ:Act->World->Prop}{d:Nat}{p:Prop} [Decidable p](hl:look env d=some (.bool (decide p)))(ht:p->J n ((d,.bool true)::env) w0 ms φ)(hf: ¬p->J n ((d,.bool false)::env) w0 ms φ):J n env w0 ms φ:=by
  by_cases hp:p
  . exact wI hl (by simp [hp]) (ht hp)
  . exact wI hl (by simp [hp]) (hf hp)
theorem yt{id:Nat}{l:List Oper}(h:J n env w0 ms (wpList P l.toArray Q l)):J n env w0 ms ((Code.region id l.toArray false).wp P Q):=
  λa w hk hs=>wp_region_lit (h a w hk hs)
def qD5(P:Program)(ops:Array Oper)(Q:Exit->Act->World->Prop)(S:World->Prop)(tl:Nat->Bool):Nat->Array Bool->Act->World->Prop
  |0,listed,a,w=>Region.ready .any ops listed= []/\Q .normal a w
  |fuel+1,listed,a,w=>
    (Region.ready .any ops listed= []->Q .normal a w)/\
    ∀i∈Region.ready .any ops listed,wpOp P ops Q i (λa' w'=>((tl i=false->S w')\/(tl (i+100000)=true/\w'=w))/\qD5 P ops Q S tl fuel (listed.setIfInBounds i true) a' w') a w
theorem qFm{S:World->Prop}{tl:Nat->Bool}: ∀(fuel:Nat) (listed:Array Bool) (a:Act) (w:World),qD5 P ops Q S tl fuel listed a w->wpAny P .any ops Q fuel listed a w
  |0,_,_,_,h=>h
  |fuel+1,_,_,_,h=>⟨h.1,λi hi=>wpOp_mono (λa' w' h'=>qFm fuel _ a' w' h'.2) (h.2 i hi)⟩
theorem qKY{S:World->Prop}{tl C:Nat->Bool}{i:Nat}{oi:Oper}{v:Value}(hi:ops[i]?=some oi)(hsel: ∀(j:Nat) (o:Oper) cs b,ops[j]?=some o->o.op≠ .select cs b)
    (hQ: ∀c a w,Q (.panic c) (a.put oi.dst v) w->Q (.panic c) a w)
    (hC: ∀c oc,C c=true->ops[c]?=some oc-> ∃e∈oc.after,Region.binds .any e=true/\(e.on=i\/C e.on=true)) (hT: ∀j oj,ops[j]?=some oj->tl j=true->C j=true):
    ∀(fuel:Nat) (listed:Array Bool) (a:Act) (w:World),(∀c,C c=true->listed.getD c false=false)->
      (∀j oj,ops[j]?=some oj->j≠i->listed.getD j true=false->(∀e∈oj.after,Region.binds .any e=true->e.on≠i)->oi.apart ops oj=true)->
      i∈Region.ready .any ops listed->YieldsIf P ops S oi v a->S w->
      qD5 P ops Q S tl fuel (listed.setIfInBounds i true) (a.put oi.dst v) w->qD5 P ops Q S tl (fuel+1) listed a w:=by
  intro fuel
  induction fuel with
  |zero=>
    intro listed a w _ _ hr hy hS H
    refine⟨λh=>(by rw [h] at hr;cases hr),λj hj=>?_⟩
    by_cases hji:j=i
    . subst hji;exact hy.wpOp hi hS ⟨.inl λ_=>hS,H⟩
    . have:=ready_mono hj hji
      rw [H.1] at this
      cases this
  |succ fuel ih=>
    intro listed a w hun hfree hr hy hS H
    refine⟨λh=>(by rw [h] at hr;cases hr),λj hj=>?_⟩
    by_cases hji:j=i
    . subst hji;exact hy.wpOp hi hS ⟨.inl λ_=>hS,H⟩
    . have h1:=H.2 j (ready_mono hj hji)
      obtain ⟨hjun,oj,hoj,hall⟩:=mem_ready.1 hj
      have hiun:listed.getD i false=false:=by
        have h0:=(mem_ready.1 hr).1
        rcases zR i listed.size with h'|h'
        . simp [h'] at h0⊢;exact h0
        . simp [Array.getElem?_eq_none h']
      have hnot: ∀e∈oj.after,Region.binds .any e=true->e.on≠i:=λe he hb heq=>by
        have h1:=hall e he hb
        rw [heq,hiun] at h1
        cases h1
      have hCj:C j=false:=by
        cases hc:C j with
        |false=>rfl
        |true=>
          obtain ⟨e,he,hb,h2⟩:=hC j oj hc hoj
          have h3:=hall e he hb
          rcases h2 with h2|h2
          . exact absurd h2 (hnot e he hb)
          . rw [hun _ h2] at h3;cases h3
      have htj:tl j=false:=by
        cases ht:tl j with
        |false=>rfl
        |true=>rw [hT j oj hoj ht] at hCj;cases hCj
      have h2:=wpOp_putIf hoj (hfree j oj hoj hji hjun hnot) (λcs b=>hsel i oi cs b hi) (λcs b=>hsel j oj cs b hoj) hQ hy h1
      have hfree': ∀k ok,ops[k]?=some ok->k≠i->(listed.setIfInBounds j true).getD k true=false->
          (∀e∈ok.after,Region.binds .any e=true->e.on≠i)->oi.apart ops ok=true:=λk ok hk hki hun hno=>by
        refine hfree k ok hk hki ?_ hno
        by_cases hjk:j=k
        . subst hjk;exact hjun
        . rw [getD_set_ne true hjk] at hun;exact hun
      have hun': ∀c,C c=true->(listed.setIfInBounds j true).getD c false=false:=λc hc=>by
        have hjc:j≠c:=λe=>by subst e;rw [hCj] at hc;cases hc
        rw [getD_set_ne false hjc];exact hun c hc
      refine wpOp_mono (λa' w' h3=>?_) h2
      have hS':S w':=by
        rcases h3.2.1 with f|⟨_,e⟩
        . exact f htj
        . rw [e];exact hS
      refine⟨.inl λ_=>hS',ih (listed.setIfInBounds j true) a' w' hun' hfree' (ready_mono hr (Ne.symm hji)) h3.1 hS' ?_⟩
      rw [Array.setIfInBounds_comm _ _ hji]
      exact h3.2.2
theorem qL7{S:World->Prop}{tl C:Nat->Bool}{i:Nat}{oi:Oper}{v:Value}(hi:ops[i]?=some oi)(hsel: ∀(j:Nat) (o:Oper) cs b,ops[j]?=some o->o.op≠ .select cs b)
    (hQ: ∀c a w,Q (.panic c) (a.put oi.dst v) w->Q (.panic c) a w)
    (hf:tl (i+100000)=true) (hC: ∀c oc,C c=true->ops[c]?=some oc-> ∃e∈oc.after,Region.binds .any e=true/\(e.on=i\/C e.on=true)):
    ∀(fuel:Nat) (listed:Array Bool) (a:Act) (w:World),(∀c,C c=true->listed.getD c false=false)->
      (∀j oj,ops[j]?=some oj->j≠i->listed.getD j true=false->(∀e∈oj.after,Region.binds .any e=true->e.on≠i)->oi.apart ops oj=true)->
      i∈Region.ready .any ops listed->YieldsIf P ops (λ_=>True) oi v a->
      qD5 P ops Q S tl fuel (listed.setIfInBounds i true) (a.put oi.dst v) w->qD5 P ops Q S tl (fuel+1) listed a w:=by
  intro fuel
  induction fuel with
  |zero=>
    intro listed a w _ _ hr hy H
    refine⟨λh=>(by rw [h] at hr;cases hr),λj hj=>?_⟩
    by_cases hji:j=i
    . subst hji;exact hy.wpOp hi trivial ⟨.inr ⟨hf,rfl⟩,H⟩
    . have:=ready_mono hj hji
      rw [H.1] at this
      cases this
  |succ fuel ih=>
    intro listed a w hun hfree hr hy H
    refine⟨λh=>(by rw [h] at hr;cases hr),λj hj=>?_⟩
    by_cases hji:j=i
    . subst hji;exact hy.wpOp hi trivial ⟨.inr ⟨hf,rfl⟩,H⟩
    . have h1:=H.2 j (ready_mono hj hji)
      obtain ⟨hjun,oj,hoj,hall⟩:=mem_ready.1 hj
      have hiun:listed.getD i false=false:=by
        have h0:=(mem_ready.1 hr).1
        rcases zR i listed.size with h'|h'
        . simp [h'] at h0⊢;exact h0
        . simp [Array.getElem?_eq_none h']
      have hnot: ∀e∈oj.after,Region.binds .any e=true->e.on≠i:=λe he hb heq=>by
        have h1:=hall e he hb
        rw [heq,hiun] at h1
        cases h1
      have hCj:C j=false:=by
        cases hc:C j with
        |false=>rfl
        |true=>
          obtain ⟨e,he,hb,h2⟩:=hC j oj hc hoj
          have h3:=hall e he hb
          rcases h2 with h2|h2
          . exact absurd h2 (hnot e he hb)
          . rw [hun _ h2] at h3;cases h3
      have h2:=wpOp_putIf hoj (hfree j oj hoj hji hjun hnot) (λcs b=>hsel i oi cs b hi) (λcs b=>hsel j oj cs b hoj) hQ hy h1
      have hfree': ∀k ok,ops[k]?=some ok->k≠i->(listed.setIfInBounds j true).getD k true=false->
          (∀e∈ok.after,Region.binds .any e=true->e.on≠i)->oi.apart ops ok=true:=λk ok hk hki hun hno=>by
        refine hfree k ok hk hki ?_ hno
        by_cases hjk:j=k
        . subst hjk;exact hjun
        . rw [getD_set_ne true hjk] at hun;exact hun
      have hun': ∀c,C c=true->(listed.setIfInBounds j true).getD c false=false:=λc hc=>by
        have hjc:j≠c:=λe=>by subst e;rw [hCj] at hc;cases hc
        rw [getD_set_ne false hjc];exact hun c hc
      refine wpOp_mono (λa' w' h3=>?_) h2
      refine⟨h3.2.1,ih (listed.setIfInBounds j true) a' w' hun' hfree' (ready_mono hr (Ne.symm hji)) h3.1 ?_⟩
      rw [Array.setIfInBounds_comm _ _ hji]
      exact h3.2.2
inductive Sg where
  |nil:Sg
  |y (i:Nat) (r:Sg):Sg
  |e (i:Nat) (r:Sg):Sg
  |br (a b:Sg):Sg
def Sg.len:Sg->Nat
  | .nil=>0
  | .y _ r=>r.len+1
  | .e _ r=>r.len+1
  | .br a _=>a.len
def Sg.heads:Sg->yT
  | .e i _=> [i]
  | .br a b=>a.heads++b.heads
  |_=> []
def Sg.allT(tl:yT):Sg->Bool
  | .nil=>true
  | .y _ _=>false
  | .e i r=>tl.contains i&&r.allT tl
  | .br a b=>a.allT tl&&b.allT tl
def wpD(P:Program)(ops:Array Oper)(Q:Exit->Act->World->Prop)(S:World->Prop)(tl:yT):Sg->Act->World->Prop
  | .nil,a,w=>Q .normal a w
  | .y i r,a,w=> ∃o v,ops[i]?=some o/\YieldsIf P ops (λw=>tl.contains (i+100000)=false->S w) o v a/\wpD P ops Q S tl r (a.put o.dst v) w
  | .e i r,a,w=>wpOp P ops Q i (λa' w'=> ∃S':World->Prop,(∀v,S' v->S v)/\(tl.contains i=false->S' w')/\wpD P ops Q S' tl r a' w') a w
  | .br x y,a,w=>wpD P ops Q S tl x a w/\wpD P ops Q S tl y a w
def qHu(ops:Array Oper)(i:Nat):yT:=(List.range ops.size).filter λc=>((Region.before ops).getD c 0).testBit i
def qWw(ops:Array Oper)(tl:yT)(i:Nat)(listed:Array Bool):Bool:=
  let h:=qHu ops i
  (tl.contains (i+100000)||(Nat.ble ops.size 100000&&tl.all λj=>Nat.ble 100000 j||h.contains j))&&(h.all λc=>!listed.getD c false&&(match ops[c]? with
    |some oc=>oc.after.any λe=>Region.binds .any e&&(e.on==i||h.contains e.on)
    |none=>true))
def qBp(ops:Array Oper)(tl:yT)(within:Bool):Sg->Array Bool->Bool
  | .nil,listed=>!within&&Region.ready .any ops listed== []
  | .y i r,listed=>!within&&(Region.ready .any ops listed).contains i&&Region.free .any ops listed i&&qWw ops tl i listed&&qBp ops tl false r (listed.setIfInBounds i true)
  | .e i r,listed=>(within||Region.ready .any ops listed== [i])&&qBp ops tl false r (listed.setIfInBounds i true)&&(!tl.contains i||r.allT tl)
  | .br x y,listed=>(within||(Region.ready .any ops listed).all (λj=>(x.heads++y.heads).contains j)&&!(Region.ready .any ops listed).isEmpty)&&x.len==y.len&&qBp ops tl true x listed&&qBp ops tl true y listed
theorem qIZ{S S':World->Prop}{tl:Nat->Bool}(hS: ∀v,S' v->S v): ∀(fuel:Nat) (listed:Array Bool) (a:Act) (w:World),qD5 P ops Q S' tl fuel listed a w->qD5 P ops Q S tl fuel listed a w
  |0,_,_,_,h=>h
  |fuel+1,_,_,_,h=>⟨h.1,λi hi=>wpOp_mono (λa' w' h'=>⟨h'.1.imp (λf e=>hS _ (f e)) id,qIZ hS fuel _ a' w' h'.2⟩) (h.2 i hi)⟩
theorem qHJ{tl:yT}(hsel:Region.noSelect ops=true)(hQ: ∀c a a' w,Q (.panic c) a w->Q (.panic c) a' w): ∀(σ:Sg) {S:World->Prop} (listed:Array Bool) (a:Act) (w:World),
    (qBp ops tl false σ listed=true->(S w\/σ.allT tl=true)->wpD P ops Q S tl σ a w->qD5 P ops Q S (tl.contains ·) σ.len listed a w)/\
    (qBp ops tl true σ listed=true->(S w\/σ.allT tl=true)->wpD P ops Q S tl σ a w-> ∃n,σ.len=n+1/\ ∀j∈σ.heads,wpOp P ops Q j (λa' w'=>((tl.contains j=false->S w')\/(tl.contains (j+100000)=true/\w'=w))/\qD5 P ops Q S (tl.contains ·) n (listed.setIfInBounds j true) a' w') a w):=by
  intro σ
  induction σ with
  |nil=>exact λ{S} listed a w=>⟨λhok _ h=>⟨by simpa [qBp] using hok,h⟩,λhok=>by simp [qBp] at hok⟩
  |y i r ihr'=>
    intro S listed a w
    refine⟨λhok hS h=>?_,λhok=>by simp [qBp] at hok⟩
    have ihr:=λ{S:World->Prop} (listed:Array Bool) (a:Act) (w:World)=>(ihr' (S:=S) listed a w).1
    have hS':S w:=by
      rcases hS with hS|hS
      . exact hS
      . simp [Sg.allT] at hS
    simp only [qBp,jh,Bool.not_false,true_and] at hok
    obtain ⟨o,v,ho,hy,hr⟩:=h
    have hh:=hok.1.2
    unfold qWw at hh
    simp only [jh] at hh
    have hall: ∀c,(qHu ops i).contains c=true->listed.getD c false=false/\ ∀oc,ops[c]?=some oc-> ∃e∈oc.after,Region.binds .any e=true/\(e.on=i\/(qHu ops i).contains e.on=true):=by
      intro c hc
      have h3:=List.all_eq_true.1 hh.2 c (by simpa using hc)
      simp only [jh] at h3
      refine⟨by simpa using h3.1,λoc hoc=>?_⟩
      have h4:=h3.2
      simp only [hoc] at h4
      obtain ⟨e,he,h2⟩:=Array.any_eq_true'.1 h4
      simp only [jh,Bool.or_eq_true,beq_iff_eq] at h2
      exact⟨e,he,h2.1,h2.2⟩
    cases hfr:tl.contains (i+100000) with
    |true=>
      have hy':YieldsIf P ops (λ_=>True) o v a:=by
        rcases hy with ⟨h1,h2⟩|h1
        . exact .inl ⟨h1,λw' _=>h2 w' (λe=>by rw [hfr] at e;cases e)⟩
        . exact .inr h1
      exact qL7 (C:=λc=>(qHu ops i).contains c) ho (Region.noSelect_spec hsel) (λc a w h=>hQ c _ _ w h) hfr (λc oc hc hoc=>(hall c hc).2 oc hoc) r.len listed a w (λc hc=>(hall c hc).1) (Region.free_spec ho hok.1.1.2) (by simpa using hok.1.1.1) hy' (ihr _ _ w hok.2 (.inl hS') hr)
    |false=>
      have hy':YieldsIf P ops S o v a:=by
        rcases hy with ⟨h1,h2⟩|h1
        . exact .inl ⟨h1,λw' hw'=>h2 w' (λ_=>hw')⟩
        . exact .inr h1
      have h5:=hh.1
      rw [hfr,Bool.false_or,jh] at h5
      refine qKY (C:=λc=>(qHu ops i).contains c) ho (Region.noSelect_spec hsel) (λc a w h=>hQ c _ _ w h) (λc oc hc hoc=>(hall c hc).2 oc hoc) (λj oj hoj ht=>?_) r.len listed a w (λc hc=>(hall c hc).1) (Region.free_spec ho hok.1.1.2) (by simpa using hok.1.1.1) hy' hS' (ihr _ _ w hok.2 (.inl hS') hr)
      have h6:=List.all_eq_true.1 h5.2 j (by simpa using ht)
      rw [Bool.or_eq_true] at h6
      rcases h6 with h6|h6
      . have h7:j<ops.size:=(Array.getElem?_eq_some_iff.1 hoj).1
        have h8:=h5.1
        rw [Nat.ble_eq] at h6 h8
        omega
      . exact h6
  |e i r ihr'=>
    intro S listed a w
    have key: ∀b:Bool,qBp ops tl b (.e i r) listed=true->(S w\/(Sg.e i r).allT tl=true)->wpD P ops Q S tl (.e i r) a w->
        wpOp P ops Q i (λa' w'=>((tl.contains i=false->S w')\/(tl.contains (i+100000)=true/\w'=w))/\qD5 P ops Q S (tl.contains ·) r.len (listed.setIfInBounds i true) a' w') a w:=λb hok hS h=>by
      simp only [qBp,jh] at hok
      refine wpOp_mono (λa' w' h'=>?_) h
      obtain ⟨S',hSS,h1,h2⟩:=h'
      refine⟨.inl λe=>hSS _ (h1 e),qIZ hSS _ _ _ _ ((ihr' _ a' w').1 hok.1.2 ?_ h2)⟩
      cases ht:tl.contains i with
      |false=>exact .inl (h1 ht)
      |true=>
        have:=hok.2
        rw [ht] at this
        exact .inr (by simpa using this)
    refine⟨λhok hS h=>⟨λh0=>?_,λj hj=>?_⟩,λhok hS h=>⟨r.len,rfl,λj hj=>?_⟩⟩
    . simp only [qBp,jh,Bool.false_or,beq_iff_eq] at hok
      rw [hok.1.1] at h0;cases h0
    . have hok':=hok
      simp only [qBp,jh,Bool.false_or,beq_iff_eq] at hok'
      rw [hok'.1.1] at hj
      simp only [ji] at hj
      subst hj
      exact key false hok hS h
    . simp only [Sg.heads,ji] at hj
      subst hj
      exact key true hok hS h
  |br x y ihx ihy=>
    intro S listed a w
    have key: ∀b:Bool,qBp ops tl b (.br x y) listed=true->(S w\/(Sg.br x y).allT tl=true)->wpD P ops Q S tl (.br x y) a w->
        ∃n,(Sg.br x y).len=n+1/\ ∀j∈(Sg.br x y).heads,wpOp P ops Q j (λa' w'=>((tl.contains j=false->S w')\/(tl.contains (j+100000)=true/\w'=w))/\qD5 P ops Q S (tl.contains ·) n (listed.setIfInBounds j true) a' w') a w:=λb hok hS h=>by
      simp only [qBp,jh,beq_iff_eq] at hok
      have hS1:S w\/x.allT tl=true:=hS.imp id (λe=>by simp only [Sg.allT,jh] at e;exact e.1)
      have hS2:S w\/y.allT tl=true:=hS.imp id (λe=>by simp only [Sg.allT,jh] at e;exact e.2)
      obtain ⟨n,hn,hx⟩:=(ihx listed a w).2 hok.1.2 hS1 h.1
      obtain ⟨m,hm,hy⟩:=(ihy listed a w).2 hok.2 hS2 h.2
      have hnm:n=m:=by have:=hok.1.1.2;omega
      subst hnm
      refine⟨n,hn,λj hj=>?_⟩
      rcases List.mem_append.1 hj with hj|hj
      . exact hx j hj
      . exact hy j hj
    refine⟨λhok hS h=>?_,λhok hS h=>key true hok hS h⟩
    obtain ⟨n,hn,hall⟩:=key false hok hS h
    rw [hn]
    simp only [qBp,jh,Bool.false_or] at hok
    have hr:=hok.1.1.1
    refine⟨λh0=>?_,λj hj=>?_⟩
    . rw [h0] at hr;simp at hr
    . have:=List.all_eq_true.1 hr.1 j hj
      exact hall j (by simp only [Sg.heads,List.mem_append];simpa using this)
theorem vQ{id:Nat}{l:List Oper}(rs:List Hp)(tl:yT)(σ:Sg)(hm:P.follows .mixedOrders=true)
    (hok:(Region.noSelect l.toArray&&σ.len==l.length&&qBp l.toArray tl false σ (Array.replicate l.length false))=true) (hrs: ∀m∈rs,m∈ms)
    (h:J n env w0 ms (wpD P l.toArray (NoPanic Q) (λw=> ∀m∈rs,Le m (hp w)) tl σ)):J n env w0 ms ((Code.region id l.toArray true).wp P Q):=λa w hk hs=>by
  simp only [jh,beq_iff_eq] at hok
  refine wp_region_noPanic (wp_region_any hm (qFm (S:=λw=> ∀m∈rs,Le m (hp w)) (tl:=(tl.contains ·)) _ _ _ _ ?_))
  have hs':St w0 ms {w with drawn:=w.drawn+1}:=hs.of_heap rfl rfl rfl rfl
  have:=(qHJ (P:=P) (Q:=NoPanic Q) (tl:=tl) hok.1.1 (λ_ _ _ _ h=>h) σ (S:=λw=> ∀m∈rs,Le m (hp w)) (Array.replicate l.length false) a _).1 hok.2 (.inl λm hm=>hs'.mem (hrs m hm)) (h a _ hk hs')
  rw [hok.1.2] at this
  simpa using this
theorem vx{S:World->Prop}{tl:yT}{x y:Sg}(h1:J n env w0 ms (wpD P ops Q S tl x))(h2:J n env w0 ms (wpD P ops Q S tl y)):J n env w0 ms (wpD P ops Q S tl (.br x y)):=λa w hk hs=>⟨h1 a w hk hs,h2 a w hk hs⟩
theorem vM{S:World->Prop}{tl:yT}(h:J n env w0 ms (Q .normal)):J n env w0 ms (wpD P ops (NoPanic Q) S tl .nil):=h
theorem wU{rs:List Hp}{tl:yT}{i:Nat}{σ:Sg}{o:Oper}{v:Value}{d:Nat}(ho:ops[i]?=some o)(h:YOp P env rs o v)(hg:Wan ops env o true)(hd:o.dst=some d)(hn:Nat.blt d n=true)(hf:tl.contains (i+100000)=false)
    (k:J n ((d,v)::env) w0 ms (wpD P ops Q (λw=> ∀m∈rs,Le m (hp w)) tl σ)):J n env w0 ms (wpD P ops Q (λw=> ∀m∈rs,Le m (hp w)) tl (.y i σ)):=λa w hk hs=>
  ⟨o,v,ho,.inl ⟨hg n a hk.2,λw' hw'=>h n a w' hk.2 (hw' hf)⟩,by rw [hd];exact k _ w (hk.put hn v) hs⟩
theorem wD{rs:List Hp}{tl:yT}{i:Nat}{σ:Sg}{o:Oper}{v:Value}{d:Nat}(ho:ops[i]?=some o)(h:YOp P env rs o v)(hg:o.guard=none)(hd:o.dst=some d)(hn:Nat.blt d n=true)(hf:tl.contains (i+100000)=false)
    (k:J n ((d,v)::env) w0 ms (wpD P ops Q (λw=> ∀m∈rs,Le m (hp w)) tl σ)):J n env w0 ms (wpD P ops Q (λw=> ∀m∈rs,Le m (hp w)) tl (.y i σ)):=
  wU ho h (Wan.none hg) hd hn hf k
theorem vq{rs:List Hp}{tl:yT}{i:Nat}{σ:Sg}{o:Oper}{v:Value}{d:Nat}(ho:ops[i]?=some o)(h:YOp P env [] o v)(hg:o.guard=none)(hd:o.dst=some d)(hn:Nat.blt d n=true)
    (k:J n ((d,v)::env) w0 ms (wpD P ops Q (λw=> ∀m∈rs,Le m (hp w)) tl σ)):J n env w0 ms (wpD P ops Q (λw=> ∀m∈rs,Le m (hp w)) tl (.y i σ)):=λa w hk hs=>
  ⟨o,v,ho,.inl ⟨(Wan.none hg:Wan ops env o true) n a hk.2,λw' _=>h n a w' hk.2 (λm hm=>by cases hm)⟩,by rw [hd];exact k _ w (hk.put hn v) hs⟩
theorem vS{rs:List Hp}{tl:yT}{i:Nat}{σ:Sg}{o:Oper}{d:Nat}(ho:ops[i]?=some o)(hg:Wan ops env o false)(hd:o.dst=some d)(hn:Nat.blt d n=true)
    (k:J n ((d,undef)::env) w0 ms (wpD P ops Q (λw=> ∀m∈rs,Le m (hp w)) tl σ)):J n env w0 ms (wpD P ops Q (λw=> ∀m∈rs,Le m (hp w)) tl (.y i σ)):=λa w hk hs=>
  ⟨o,undef,ho,.inr ⟨hg n a hk.2,rfl⟩,by rw [hd];exact k _ w (hk.put hn undef) hs⟩
theorem wV{rs:List Hp}{tl:yT}{i:Nat}{σ:Sg}{o:Oper}{X:Type}{val:X->Value}{φ:X->Prop}{ms':X->List Hp}{d:Nat}(rs':X->List Hp)(ho:ops[i]?=some o)(h:EOp P env ms o val φ ms')(hg:Wan ops env o true)(hd:o.dst=some d)(hn:Nat.blt d n=true)
    (hsub: ∀x,∀m∈rs,m∈rs' x) (hrs: ∀x,∀m∈rs' x,m∈ms' x)
    (k: ∀x,φ x->J n ((d,val x)::env) w0 (ms' x) (wpD P ops Q (λw=> ∀m∈rs' x,Le m (hp w)) tl σ)):J n env w0 ms (wpD P ops Q (λw=> ∀m∈rs,Le m (hp w)) tl (.e i σ)):=λa w hk hs=>by
  unfold wpD wpOp
  simp only [ho]
  rw [yX (hg n a hk.2)]
  refine .inl (h n a w0 w _ _ hk.2 hs λx w' hx hs'=>?_)
  rw [hd]
  exact⟨λv=> ∀m∈rs' x,Le m (hp v),λv hv m hm=>hv m (hsub x m hm),λ_ m hm=>hs'.mem (hrs x m hm),k x hx _ w' (hk.put hn _) hs'⟩
theorem wE{rs:List Hp}{tl:yT}{i:Nat}{σ:Sg}{o:Oper}{X:Type}{val:X->Value}{φ:X->Prop}{ms':X->List Hp}{d:Nat}(rs':X->List Hp)(ho:ops[i]?=some o)(h:EOp P env ms o val φ ms')(hg:o.guard=none)(hd:o.dst=some d)(hn:Nat.blt d n=true)
    (hsub: ∀x,∀m∈rs,m∈rs' x) (hrs: ∀x,∀m∈rs' x,m∈ms' x)
    (k: ∀x,φ x->J n ((d,val x)::env) w0 (ms' x) (wpD P ops Q (λw=> ∀m∈rs' x,Le m (hp w)) tl σ)):J n env w0 ms (wpD P ops Q (λw=> ∀m∈rs,Le m (hp w)) tl (.e i σ)):=
  wV rs' ho h (Wan.none hg) hd hn hsub hrs k
theorem vn{rs:List Hp}{tl:yT}{i:Nat}{σ:Sg}{o:Oper}{X:Type}{val:X->Value}{φ:X->Prop}{ms':X->List Hp}{d:Nat}(ho:ops[i]?=some o)(h:EOp P env ms o val φ ms')(hg:Wan ops env o true)(hd:o.dst=some d)(hn:Nat.blt d n=true)
    (hrs: ∀x,∀m∈rs,m∈ms' x)
    (k: ∀x,φ x->J n ((d,val x)::env) w0 (ms' x) (wpD P ops Q (λw=> ∀m∈rs,Le m (hp w)) tl σ)):J n env w0 ms (wpD P ops Q (λw=> ∀m∈rs,Le m (hp w)) tl (.e i σ)):=
  wV (λ_=>rs) ho h hg hd hn (λ_ _ h=>h) hrs k
theorem wd{rs:List Hp}{tl:yT}{i:Nat}{σ:Sg}{o:Oper}{X:Type}{val:X->Value}{φ:X->Prop}{ms':X->List Hp}{d:Nat}(ho:ops[i]?=some o)(h:EOp P env ms o val φ ms')(hg:o.guard=none)(hd:o.dst=some d)(hn:Nat.blt d n=true)
    (hrs: ∀x,∀m∈rs,m∈ms' x)
    (k: ∀x,φ x->J n ((d,val x)::env) w0 (ms' x) (wpD P ops Q (λw=> ∀m∈rs,Le m (hp w)) tl σ)):J n env w0 ms (wpD P ops Q (λw=> ∀m∈rs,Le m (hp w)) tl (.e i σ)):=
  vn ho h (Wan.none hg) hd hn hrs k
theorem YOp.eop{o:Oper}{v:Value}(h:YOp P env ms o v):EOp P env ms o (λ_:Unit=>v) (λ_=>True) (λ_=>ms):=λn a w0 w next Q hk hs hn=>by
  unfold Oper.wp
  rw [h n a w hk (λm hm=>hs.mem hm),Oper.upon_value]
  exact hn () w trivial hs
theorem vp{rs:List Hp}{tl:yT}{i d:Nat}{o:Oper}{X:Type}{val:X->Value}{φ:X->Prop}{ms':X->List Hp}{σ:Sg}(ho:ops[i]?=some o)(h:EOp P env ms o val φ ms')(hg:o.guard=none)(hd:o.dst=some d)(hn:Nat.blt d n=true)
    (ht:tl.contains i=true)
    (k: ∀x,φ x->J n ((d,val x)::env) w0 (ms' x) (wpD P ops Q (λw=> ∀m∈rs,Le m (hp w)) tl σ)):J n env w0 ms (wpD P ops Q (λw=> ∀m∈rs,Le m (hp w)) tl (.e i σ)):=λa w hk hs=>by
  unfold wpD wpOp
  simp only [ho]
  rw [yX ((Wan.none hg:Wan ops env o true) n a hk.2)]
  refine .inl (h n a w0 w _ _ hk.2 hs λx w' hx hs'=>?_)
  rw [hd]
  exact⟨_,λ_ h=>h,λh=>(by rw [ht] at h;cases h),k x hx _ w' (hk.put hn _) hs'⟩
theorem vZ{rs:List Hp}{tl:yT}{i:Nat}{o:Oper}{X:Type}{val:X->Value}{φ:X->Prop}{ms':X->List Hp}{σ:Sg}(ho:ops[i]?=some o)(h:EOp P env ms o val φ ms')(hg:o.guard=none)(hd:o.dst=none)
    (ht:tl.contains i=true)
    (k: ∀x,φ x->J n env w0 (ms' x) (wpD P ops Q (λw=> ∀m∈rs,Le m (hp w)) tl σ)):J n env w0 ms (wpD P ops Q (λw=> ∀m∈rs,Le m (hp w)) tl (.e i σ)):=λa w hk hs=>by
  unfold wpD wpOp
  simp only [ho]
  rw [yX ((Wan.none hg:Wan ops env o true) n a hk.2)]
  refine .inl (h n a w0 w _ _ hk.2 hs λx w' hx hs'=>?_)
  rw [hd]
  exact⟨_,λ_ h=>h,λh=>(by rw [ht] at h;cases h),k x hx _ w' hk hs'⟩
end
end Go.Fw
namespace Go.Fw
open Go
section
variable{P:Program}{env:Env}{rs:List Hp}{o:Oper}
abbrev I(n:Int):Value:= .int .i64 n
abbrev B8(c:UInt8):Value:= .int .u8 (c.toNat:Int)
abbrev W32(c:UInt32):Value:= .int .u32 (c.toNat:Int)
abbrev W64(c:UInt64):Value:= .int .u64 (c.toNat:Int)
abbrev Str(l:xA):Value:= .string ⟨l.toArray⟩
theorem YOp.as{v v':Value}(h:YOp P env rs o v)(e:v=v'):YOp P env rs o v':=e▸h
theorem qAT{x v}(ho:o.op= .move x)(hx:ev env x=some v):YOp P env rs o v:=λn a w hk _=>by
  simp [execOp,ho,hk.ev hx,pure]
theorem qBH{x v}(ho:o.op= .assign x)(hx:ev env x=some v):YOp P env rs o v:=λn a w hk _=>by
  simp [execOp,ho,hk.ev hx,pure]
theorem qDN{c x y v}(ho:o.op= .pick c x y)(hc:ev env c=some (.bool true))(hx:ev env x=some v):YOp P env rs o v:=λn a w hk _=>by
  simp [execOp,ho,hk.ev hx,hk.ev hc,asBool]
theorem qDO{c x y v}(ho:o.op= .pick c x y)(hc:ev env c=some (.bool false))(hy:ev env y=some v):YOp P env rs o v:=λn a w hk _=>by
  simp [execOp,ho,hk.ev hy,hk.ev hc,asBool]
theorem qAp{x vs i v}(ho:o.op= .extract x i)(hx:ev env x=some (.tuple vs))(hi:vs[i]?=some v):YOp P env rs o v:=λn a w hk _=>by
  simp [execOp,ho,hk.ev hx,Instr.extract,hi]
theorem qL6{k:IntKind}{n:Int}(h1:k.min<=n)(h2:n<=k.max):k.wrap n=n:=by
  cases k<;>simp [IntKind.min,IntKind.max,IntKind.wrap,IntKind.signed,IntKind.bits] at* <;>first|(split<;>omega)|omega
theorem qAP{t t' x y k a b}(ho:o.op= .binOp .lss t x y t')(hx:ev env x=some (.int k a))(hy:ev env y=some (.int k b)):YOp P env rs o (.bool (decide (a<b))):=λn ac w hk _=>by
  simp [execOp,ho,hk.ev hx,hk.ev hy,eqGuard,binOp,Op.intCmp]
theorem qBQ{t t' x y k a b}(ho:o.op= .binOp .leq t x y t')(hx:ev env x=some (.int k a))(hy:ev env y=some (.int k b)):YOp P env rs o (.bool (decide (a<=b))):=λn ac w hk _=>by
  simp [execOp,ho,hk.ev hx,hk.ev hy,eqGuard,binOp,Op.intCmp]
theorem qAs{t t' x y k a b}(ho:o.op= .binOp .gtr t x y t')(hx:ev env x=some (.int k a))(hy:ev env y=some (.int k b)):YOp P env rs o (.bool (decide (b<a))):=λn ac w hk _=>by
  simp [execOp,ho,hk.ev hx,hk.ev hy,eqGuard,binOp,Op.intCmp]
theorem qA1{t t' x y k a b}(ho:o.op= .binOp .geq t x y t')(hx:ev env x=some (.int k a))(hy:ev env y=some (.int k b)):YOp P env rs o (.bool (decide (b<=a))):=λn ac w hk _=>by
  simp [execOp,ho,hk.ev hx,hk.ev hy,eqGuard,binOp,Op.intCmp]
theorem qAR{t t' x y k a b}(ho:o.op= .binOp .eql t x y t')(hx:ev env x=some (.int k a))(hy:ev env y=some (.int k b)):YOp P env rs o (.bool (decide (a=b))):=λn ac w hk _=>by
  simp [execOp,ho,hk.ev hx,hk.ev hy,eqGuard,binOp,Op.intCmp]
  rw [Bool.eq_iff_iff];simp
theorem qAQ{t t' x y k a b}(ho:o.op= .binOp .neq t x y t')(hx:ev env x=some (.int k a))(hy:ev env y=some (.int k b)):YOp P env rs o (.bool (decide (a≠b))):=λn ac w hk _=>by
  simp [execOp,ho,hk.ev hx,hk.ev hy,eqGuard,binOp,Op.intCmp]
  rw [Bool.eq_iff_iff];simp
theorem qAM{t t' x y a b}(ho:o.op= .binOp .add t x y t')(hx:ev env x=some (I a))(hy:ev env y=some (I b))(hr: -9223372036854775808<=a+b/\a+b<=9223372036854775807):YOp P env rs o (I (a+b)):=λn ac w hk _=>by
  have e:IntKind.i64.wrap (a+b)=a+b:=qL6 (by simp [IntKind.min,IntKind.signed,IntKind.bits];omega) (by simp [IntKind.max,IntKind.signed,IntKind.bits];omega)
  simp only [execOp,ho,hk.ev hx,hk.ev hy]
  simp [eqGuard,binOp,Op.intArith,e]
theorem qCV{n:Int}(h: -9223372036854775808<=n/\n<=9223372036854775807):IntKind.i64.wrap n=n:=
  qL6 (by simp [IntKind.min,IntKind.signed,IntKind.bits];omega) (by simp [IntKind.max,IntKind.signed,IntKind.bits];omega)
theorem qAm{t t' x y a b}(ho:o.op= .binOp .sub t x y t')(hx:ev env x=some (I a))(hy:ev env y=some (I b))(hr: -9223372036854775808<=a-b/\a-b<=9223372036854775807):YOp P env rs o (I (a-b)):=λn ac w hk _=>by
  have e:=qCV hr
  simp only [execOp,ho,hk.ev hx,hk.ev hy]
  simp [eqGuard,binOp,Op.intArith,e]
theorem qCA{t t' x y a b}(ho:o.op= .binOp .mul t x y t')(hx:ev env x=some (I a))(hy:ev env y=some (I b))(hr: -9223372036854775808<=a*b/\a*b<=9223372036854775807):YOp P env rs o (I (a*b)):=λn ac w hk _=>by
  have e:=qCV hr
  simp only [execOp,ho,hk.ev hx,hk.ev hy]
  simp [eqGuard,binOp,Op.intArith,e]
theorem qHe{op:BinOp}{t t' x y k a b r}(ho:o.op= .binOp op t x y t')(hx:ev env x=some (.int k a))(hy:ev env y=some (.int k b))
    (hr:match op with| .add=>r=k.wrap (a+b)| .sub=>r=k.wrap (a-b)| .mul=>r=k.wrap (a*b)|_=>False):YOp P env rs o (.int k r):=λn ac w hk _=>by
  simp only [execOp,ho,hk.ev hx,hk.ev hy]
  cases op<;>simp at hr<;>subst hr<;>simp [eqGuard,binOp,Op.intArith]
theorem qRW{t t' x y k a b}(ho:o.op= .binOp .rem t x y t')(hx:ev env x=some (.int k a))(hy:ev env y=some (.int k b))(hb:b≠0):YOp P env rs o (.int k (a.tmod b)):=λn ac w hk _=>by
  simp only [execOp,ho,hk.ev hx,hk.ev hy]
  simp [eqGuard,binOp,Op.intDiv,hb]
theorem qDM{t t' x y k a b}(ho:o.op= .binOp .rem t x y t')(hx:ev env x=some (.int k a))(hy:ev env y=some (.int k b))(hr:0<=a/\b≠0):YOp P env rs o (.int k (a%b)):=
  (qRW ho hx hy hr.2).as (by rw [Int.tmod_eq_emod_of_nonneg hr.1])
theorem qRX{t t' x y k a b}(ho:o.op= .binOp .quo t x y t')(hx:ev env x=some (.int k a))(hy:ev env y=some (.int k b))(hb:b≠0):YOp P env rs o (.int k (k.wrap (a.tdiv b))):=λn ac w hk _=>by
  simp only [execOp,ho,hk.ev hx,hk.ev hy]
  simp [eqGuard,binOp,Op.intDiv,hb]
theorem qFV{t t' x y a b}(ho:o.op= .binOp .quo t x y t')(hx:ev env x=some (I a))(hy:ev env y=some (I b))(hr:0<=a/\0<b/\a<=9223372036854775807):YOp P env rs o (I (a/b)):=
  (qRX ho hx hy xB).as (by
    have h0:0<=a/b:=Int.ediv_nonneg hr.1 xB
    have h1:a/b<=a:=Int.ediv_le_self b hr.1
    rw [Int.tdiv_eq_ediv_of_nonneg hr.1,qCV ⟨xB,xB⟩])
theorem qA5{t x b}(ho:o.op= .unOp .not t x)(hx:ev env x=some (.bool b)):YOp P env rs o (.bool (!b)):=λn ac w hk _=>by
  simp [execOp,ho,hk.ev hx,Op.unary]
theorem qHc{t x}{p:Prop} [Decidable p](ho:o.op= .unOp .not t x)(hx:ev env x=some (.bool (decide p))):YOp P env rs o (.bool (decide (¬p))):=
  (qA5 ho hx).as xD
theorem qAq{t t' x y a b}(ho:o.op= .binOp .add t x y t')(hx:ev env x=some (Str a))(hy:ev env y=some (Str b))(hr:a.length+b.length<=9223372036854775807):YOp P env rs o (Str (a++b)):=λn ac w hk _=>by
  simp only [execOp,ho,hk.ev hx,hk.ev hy]
  have e: ¬((((ByteArray.mk a.toArray).size+(ByteArray.mk b.toArray).size:Nat):Int)>IntKind.i64.max):=by
    have s1:(ByteArray.mk a.toArray).size=a.length:=by show a.toArray.size=a.length;simp
    have s2:(ByteArray.mk b.toArray).size=b.length:=by show b.toArray.size=b.length;simp
    rw [s1,s2]
    simp [IntKind.max,IntKind.signed,IntKind.bits];omega
  simp only [eqGuard,binOp,Op.stringOp]
  simp only [e,if_false]
  simp
  ext1
  simp
theorem qH8(a b:xA):((ByteArray.mk a.toArray).toList==(ByteArray.mk b.toArray).toList)=decide (a=b):=by
  rw [ByteArray.toList_eq,ByteArray.toList_eq,Bool.eq_iff_iff];simp
theorem qDV(a:xA):(ByteArray.mk a.toArray).size=a.length:=by
  show a.toArray.size=a.length
  simp
theorem qBP{t t' x y a b}(ho:o.op= .binOp .eql t x y t')(hx:ev env x=some (Str a))(hy:ev env y=some (Str b)):YOp P env rs o (.bool (decide (a=b))):=λn ac w hk _=>by
  simp only [execOp,ho,hk.ev hx,hk.ev hy,binOp,Op.stringOp,qH8]
  simp [eqGuard]
theorem qB9{t t' x y a b}(ho:o.op= .binOp .neq t x y t')(hx:ev env x=some (Str a))(hy:ev env y=some (Str b)):YOp P env rs o (.bool (decide (a≠b))):=λn ac w hk _=>by
  simp only [execOp,ho,hk.ev hx,hk.ev hy,binOp,Op.stringOp,qH8]
  simp [eqGuard]
theorem qAn{t x a}(ht:P.underlying t=some .string)(ho:o.op= .call {callee:= .builtin .len,args:= #[x],argTypes:= #[t]})(hx:ev env x=some (Str a)):YOp P env rs o (I a.length):=λn ac w hk _=>by
  simp [execOp,ho,hk.ev hx,resolve,invoke,builtin,Builtin.len_,run_underlying ht,goInt,qDV]
theorem qAN{t e x A n' c}(ht:P.underlying t=some (.slice e))(ho:o.op= .call {callee:= .builtin .len,args:= #[x],argTypes:= #[t]})(hx:ev env x=some (.slice A n' c)):YOp P env rs o (I n'):=λn ac w hk _=>by
  simp [execOp,ho,hk.ev hx,resolve,invoke,builtin,Builtin.len_,run_underlying ht,goInt]
theorem qA9{t x y a k i}{c:UInt8}(ht:P.underlying t=some .string)(ho:o.op= .index t x y)(hx:ev env x=some (Str a))(hy:ev env y=some (.int k (i:Nat)))(hc:a[i]?=some c):YOp P env rs o (B8 c):=λn ac w hk _=>by
  have hi:i<a.length:=(List.getElem?_eq_some_iff.1 hc).1
  have e:(ByteArray.mk a.toArray)[i]?=some c:=by
    have h1:i<(ByteArray.mk a.toArray).size:=by rw [qDV];exact hi
    have h2:=(List.getElem?_eq_some_iff.1 hc).2
    rw [getElem?_pos (ByteArray.mk a.toArray) i h1]
    exact yY some h2
  simp [execOp,ho,hk.ev hx,hk.ev hy,Instr.index,asIntOf,run_underlying ht,e]
theorem qA0{t x a}{lo hi:Option Operand}{l h:Nat}(ht:P.underlying t=some .string)(ho:o.op= .slice t x lo hi none)(hx:ev env x=some (Str a))
    (hlo:match lo with|none=>l=0|some p=>ev env p=some (I l)) (hhi:match hi with|none=>h=a.length|some p=>ev env p=some (I h)) (hr:l<=h/\h<=a.length):
    YOp P env rs o (Str ((a.take h).drop l)):=λn ac w hk _=>by
  have e:(ByteArray.mk a.toArray).extract l h=⟨((a.take h).drop l).toArray⟩:=by
    ext1
    rw [ByteArray.data_extract]
    simp
    rw [List.drop_take]
  have s1:=qDV a
  cases lo with
  |none=>
    simp only at hlo
    subst hlo
    cases hi with
    |none=>
      simp only at hhi
      subst hhi
      simp [execOp,ho,hk.ev hx,Instr.sliceAt,Instr.slice,run_underlying ht,Instr.sliceBounds,s1,e]
    |some q=>
      simp [execOp,ho,hk.ev hx,hk.ev hhi,Instr.sliceAt,Instr.slice,run_underlying ht,Instr.sliceBounds,Instr.sliceBound,asIntOf,s1,e,hr]
  |some p=>
    cases hi with
    |none=>
      simp only at hhi
      subst hhi
      simp [execOp,ho,hk.ev hx,hk.ev hlo,Instr.sliceAt,Instr.slice,run_underlying ht,Instr.sliceBounds,Instr.sliceBound,asIntOf,s1,e,hr.1]
    |some q=>
      simp [execOp,ho,hk.ev hx,hk.ev hlo,hk.ev hhi,Instr.sliceAt,Instr.slice,run_underlying ht,Instr.sliceBounds,Instr.sliceBound,asIntOf,s1,e,hr]
end
end Go.Fw
namespace Go.Fw
open Go
def qAd(g:Nat)(o:Obj):Hp:=λk=>if k=g then some o else none
def qFE(m:Hp)(g:Nat)(o:Obj):Hp:=λk=>if k=g then some o else m k
abbrev blk(g:Nat)(l:yU)(e:TypeId):Hp:=qAd g (.cells l.toArray e (0,0))
theorem qAk(g:Nat)(o:Obj):qAd g o g=some o:=by simp [qAd]
theorem qBq(g:Nat)(o o':Obj):qFE (qAd g o) g o'=qAd g o':=by
  funext k;simp only [qFE,qAd];split<;>rfl
def qAI(m:Hp)(ad:Addr)(vs:yU):Prop:=
  ad.spot=none/\ ∃cs e fz,m ad.block=some (.cells cs e fz)/\ ∀j u,vs[j]?=some u->cs[ad.off+j]?=some u
theorem qAI.mono{m m':Hp}{ad vs}(h:qAI m ad vs)(hl:Le m m'):qAI m' ad vs:=
  let ⟨h1,cs,e,fz,h2,h3⟩:=h
  ⟨h1,cs,e,fz,hl _ _ h2,h3⟩
theorem qOj{ad:Addr}(h:ad.spot=none)(n:Nat):ad.add n=⟨ad.block,ad.off+n,none⟩:=by
  obtain ⟨b,o,s⟩:=ad
  simp at h;subst h
  exact Addr.add_lit b o n
theorem qAI.cell{w:World}{ad vs}(h:qAI (hp w) ad vs){j u}(hj:vs[j]?=some u):w.cell? (ad.add j)=some u:=by
  obtain ⟨h1,cs,e,fz,h2,h3⟩:=h
  rw [qOj h1]
  simp only [hp] at h2
  simp [World.cell?,h2,h3 j u hj]
theorem qDD(ad:Addr):ad.add 0=ad:=by simp [Addr.add]
theorem qZN(ad:Addr)(i j:Nat):(ad.add i).add j=ad.add (i+j):=by
  unfold Addr.add
  by_cases hi:i=0<;>by_cases hj:j=0<;>simp [hi,hj,z7]
theorem qAI.sub{m:Hp}{ad vs}(h:qAI m ad vs)(k n:Nat):qAI m (ad.add k) ((vs.drop k).take n):=by
  obtain ⟨h1,cs,e,fz,h2,h3⟩:=h
  rw [qOj h1]
  refine⟨O,cs,e,fz,h2,λj u hj=>?_⟩
  rw [zY] at hj
  split at hj
  . rw [js] at hj
    have:=h3 (k+j) u hj
    simpa [z7] using this
  . cases hj
theorem qAI.blk{g l e}(k:Nat){vs:yU}(h: ∀j u,vs[j]?=some u->l[k+j]?=some u):qAI (blk g l e) ⟨g,k,none⟩ vs:=
  ⟨rfl,_,_,_,qAk _ _,λj u hj=>by simpa using h j u hj⟩
theorem qAI.blk1{g l e v}(k:Nat)(h:l[k]?=some v):qAI (Fw.blk g l e) ⟨g,k,none⟩ [v]:=
  qAI.blk k λj u hj=>by
    match j with
    |0=>simp at hj;subst hj;simpa using h
    |j+1=>simp at hj
theorem qAI.blk0{g l e}:qAI (Fw.blk g l e) ⟨g,0,none⟩ l:=qAI.blk 0 λj u hj=>by simpa using hj
def Sl(m:Hp)(sz:Nat)(A:yS)(n c:Nat)(xs:List yU):Prop:=
  xs.length=n/\n<=c/\ ∀i x,xs[i]?=some x->x.length=sz/\ ∃ad,A=some ad/\qAI m (ad.add (i*sz)) x
theorem Sl.mono{m m':Hp}{sz A n c xs}(h:Sl m sz A n c xs)(hl:Le m m'):Sl m' sz A n c xs:=
  ⟨h.1,h.2.1,λi x hx=>let ⟨h1,ad,h2,h3⟩:=h.2.2 i x hx;⟨h1,ad,h2,h3.mono hl⟩⟩
theorem Sl.nil{m:Hp}{sz A c}:Sl m sz A 0 c []:=⟨rfl,jH _,λi x hx=>by simp at hx⟩
theorem Sl.cut{m:Hp}{sz A n c xs}(h:Sl m sz A n c xs){lo hi mx:Nat}(h1:lo<=hi)(h2:hi<=n)(h3:hi<=mx):
    Sl m sz (if mx=lo then A else A.map (·.add (lo*sz))) (hi-lo) (mx-lo) ((xs.take hi).drop lo):=by
  refine⟨by rw [jE,jF,h.1,jq h2],xB,λi x hx=>?_⟩
  rw [js,zY] at hx
  split at hx
  . rename_i hlt
    obtain ⟨e1,ad,e2,e3⟩:=h.2.2 _ _ hx
    refine⟨e1,ad.add (lo*sz),?_,?_⟩
    . rw [yW xB,e2];rfl
    . rw [qZN,<-zj];exact e3
  . cases hx
theorem Sl.flat{m:Hp}{sz A n c xs}(h:Sl m sz A n c xs)(hn:0<n): ∃ad,A=some ad/\qAI m ad xs.flatten:=by
  have h0:0<xs.length:=by rw [h.1];exact hn
  obtain ⟨_,ad,hA,hc0⟩:=h.2.2 0 xs[0] (jD h0)
  simp only [yD,qDD] at hc0
  obtain ⟨hs,cs,e,fz,hb,_⟩:=hc0
  refine⟨ad,hA,hs,cs,e,fz,hb,?_⟩
  have key: ∀(l:List yU) (k:Nat),(∀i x,l[i]?=some x->xs[k+i]?=some x)-> ∀j u,l.flatten[j]?=some u->cs[ad.off+k*sz+j]?=some u:=by
    intro l
    induction l with
    |nil=>intro k _ j u hj;simp at hj
    |cons x l ih=>
      intro k hl j u hj
      have hx:=hl 0 x O
      obtain ⟨ex,ad',e2,h3⟩:=h.2.2 _ _ hx
      rw [hA] at e2
      cases e2
      simp only [jo] at hj
      rw [qOj hs] at h3
      obtain ⟨_,cs',e',fz',hb',hc'⟩:=h3
      simp only at hb' hc'
      rw [hb] at hb'
      cases hb'
      by_cases hlt:j<x.length
      . rw [jk hlt] at hj
        have:=hc' j u hj
        simpa using this
      . rw [ja xB] at hj
        have:=ih (k+1) (λi y hy=>by have:=hl (i+1) y (by simpa using hy);rw [<-this];congr 1;omega) (j-x.length) u hj
        rw [<-this]
        congr 1
        rw [ex,zj]
        omega
  intro j u hj
  have:=key xs 0 (λi x hx=>by simpa using hx) j u hj
  simpa using this
def qBf(q:Prop)(m:Hp)(e:TypeId)(sz:Nat)(A:yS)(n c:Nat)(xs:List yU):Prop:=
  xs.length=n/\(∀x∈xs,x.length=sz)/\n<=c/\
  ((A=none/\c=0/\m=λ_=>none)\/
   ∃g rest lo hi,A=some ⟨g,0,none⟩/\m=qAd g (.cells (xs.flatten++rest).toArray e (lo,hi))/\(xs.flatten++rest).length=c*sz/\(hi=lo\/(q/\c*sz<=lo)\/((q->False)/\hi<=n*sz)))
abbrev Row(m:Hp)(e:TypeId)(sz:Nat)(A:yS)(n c:Nat)(xs:List yU):Prop:=qBf True m e sz A n c xs
theorem qBf.len{q m e sz A n c xs}(h:qBf q m e sz A n c xs):xs.length=n:=h.1
theorem qBf.nil{q e sz}:qBf q (λ_=>none) e sz none 0 0 []:=⟨rfl,by simp,jL _,.inl ⟨O,O,O⟩⟩
theorem qA7{xs:List yU}{sz:Nat}(h: ∀x∈xs,x.length=sz):xs.flatten.length=xs.length*sz:=by
  induction xs with
  |nil=>simp
  |cons x xs ih=>
    simp only [jo,jA,jC]
    rw [ih (λy hy=>h y (.tail _ hy)),h x (.head _),zj]
    omega
theorem qHw{xs:List yU}{sz:Nat}(h: ∀x∈xs,x.length=sz): ∀{i:Nat} {x:yU},xs[i]?=some x-> ∀{j:Nat} {u:Value},x[j]?=some u->xs.flatten[i*sz+j]?=some u:=by
  induction xs with
  |nil=>intro i x hx;simp at hx
  |cons y xs ih=>
    intro i x hx j u hj
    have hy:=h y (.head _)
    match i with
    |0=>
      simp at hx;subst hx
      have:j<y.length:=(List.getElem?_eq_some_iff.1 hj).1
      simp only [jo,yD,jl]
      rw [jk this];exact hj
    |i+1=>
      simp at hx
      simp only [jo]
      have e:(i+1)*sz+j=y.length+(i*sz+j):=by rw [hy,zj];omega
      rw [e,ja xB]
      have:=ih (λy hy=>h y (.tail _ hy)) hx hj
      simpa using this
theorem qBf.sl{q m e sz A n c xs}(h:qBf q m e sz A n c xs):Sl m sz A n c xs:=by
  obtain ⟨h1,h2,h3,h4⟩:=h
  refine⟨h1,h3,λi x hx=>⟨h2 x (jR hx),?_⟩⟩
  rcases h4 with ⟨_,hc,_⟩|⟨g,rest,lo,hi,hA,hm,hl,_⟩
  . have:i<xs.length:=(List.getElem?_eq_some_iff.1 hx).1
    omega
  . refine⟨⟨g,0,none⟩,hA,?_⟩
    rw [Addr.add_lit]
    refine⟨O,_,_,_,by rw [hm];exact qAk _ _,λj u hj=>?_⟩
    have hf:=qHw h2 hx hj
    have hlt:=(List.getElem?_eq_some_iff.1 hf).1
    simp only [jl,zM]
    rw [jk hlt];exact hf
theorem qOJ(w:World)(o:Obj):hp (w.alloc o)=qFE (hp w) w.heap.size o:=by
  funext k
  simp only [hp,World.alloc,qFE,Array.getElem?_push]
theorem qHt{w:World}{g:Nat}{o:Obj}(h:hp w g=some o):g<w.heap.size:=(Array.getElem?_eq_some_iff.1 h).1
theorem St.app{w0 ms w w' new}(h:St w0 ms w)(h1:w'.os=w.os)(h2:w'.output=w.output)(h3:w'.tape=w.tape)(h4:w.heap.size<=w'.heap.size)
    (hle:Le (hp w) (hp w')) (hd:Djs new) (hn: ∀m∈new,Le m (hp w')/\ ∀g,g<w.heap.size->m g=none):St w0 (ms++new) w':=by
  refine⟨h1.trans h.os,h2.trans h.out,h3.trans h.tape,jf h.size h4,?_,?_,?_,?_⟩
  . rw [qAh,jg]
    refine⟨qAh.1 h.dj,qAh.1 hd,λm hm m' hm' g=>?_⟩
    cases hg:m g with
    |none=>exact .inl O
    |some o=>exact .inr ((hn m' hm').2 g (qHt (h.mem hm g o hg)))
  . intro g o ho
    obtain ⟨m,hm,hg⟩:=qCa ho
    rcases List.mem_append.1 hm with hm|hm
    . exact hle _ _ (h.mem hm g o hg)
    . exact(hn m hm).1 g o hg
  . intro m hm g
    rcases List.mem_append.1 hm with hm|hm
    . exact h.kd m hm g
    . cases hg:w0.kp g with
      |none=>exact .inl O
      |some o=>exact .inr ((hn m hm).2 g (qHt (h.kl g o hg)))
  . exact h.kl.trans hle
theorem St.alloc{w0 ms w}(h:St w0 ms w)(o:Obj):St w0 (ms++ [qAd w.heap.size o]) (w.alloc o):=by
  refine h.app O O O (by rw [World.size_alloc];omega) ?_ ?_ ?_
  . rw [qOJ]
    intro g o' ho
    have:=qHt ho
    simp only [qFE]
    rw [yW xB];exact ho
  . simp [Djs,Dj,U]
  . intro m hm
    simp only [ji] at hm
    subst hm
    refine⟨?_,λg hg=>by simp only [qAd];rw [yW xB]⟩
    rw [qOJ]
    intro g o' ho
    simp only [qAd] at ho
    simp only [qFE]
    split at ho
    . rename_i e;rw [yX e];exact ho
    . cases ho
theorem St.set{w0 ms w i m g o o' w'}(h:St w0 ms w)(hi:ms[i]?=some m)(hg:m g=some o)(h1:w'.os=w.os)(h2:w'.output=w.output)(h3:w'.tape=w.tape)(h4:w'.heap.size=w.heap.size)
    (hw:hp w'=qFE (hp w) g o'):St w0 (ms.set i (qFE m g o')) w':=by
  have hlt:i<ms.length:=(List.getElem?_eq_some_iff.1 hi).1
  have hdom: ∀k,qFE m g o' k=none->m k=none:=λk hk=>by
    simp only [qFE] at hk
    split at hk
    . cases hk
    . exact hk
  have hoth: ∀j m',ms[j]?=some m'->j≠i->m' g=none:=λj m' hj hne=>by
    rcases qDE h.dj hj hi hne g with h'|h'
    . exact h'
    . rw [hg] at h';cases h'
  refine⟨h1.trans h.os,h2.trans h.out,h3.trans h.tape,by rw [h4];exact h.size,?_,?_,?_,?_⟩
  . rw [qAh,yL]
    intro a b ha hb hab k
    simp only [j6] at ha hb
    simp only [List.getElem_set]
    have hjd:=qDE h.dj (jD ha) (jD hb) (Nat.ne_of_lt hab) k
    by_cases ea:i=a
    . subst ea
      rw [yX rfl,yW xB]
      by_cases ek:k=g
      . rw [ek];exact .inr (hoth b _ (jD xB) xB)
      . rcases hjd with hjd|hjd
        . left;simp only [qFE];rw [yW ek]
          have:ms[i]=m:=by have:=hi;rw [jD ha] at this;exact zn this
          rw [<-this];exact hjd
        . exact .inr hjd
    . rw [yW ea]
      by_cases eb:i=b
      . subst eb
        rw [yX rfl]
        by_cases ek:k=g
        . rw [ek];exact .inl (hoth a _ (jD xB) xB)
        . rcases hjd with hjd|hjd
          . exact .inl hjd
          . right;simp only [qFE];rw [yW ek]
            have:ms[i]=m:=by have:=hi;rw [jD hb] at this;exact zn this
            rw [<-this];exact hjd
      . rw [yW eb];exact hjd
  . intro k x hx
    obtain ⟨m',hm',hk⟩:=qCa hx
    rw [hw]
    simp only [qFE]
    obtain ⟨j,hj⟩:=List.mem_iff_getElem?.1 hm'
    rw [zO] at hj
    by_cases ej:i=j
    . subst ej
      rw [yX rfl,yX hlt] at hj
      cases hj
      simp only [qFE] at hk
      split at hk
      . rename_i e;rw [yX e];exact hk
      . rename_i e
        rw [yW e];exact h.mem (jR hi) k x hk
    . rw [yW ej] at hj
      have hk':=hoth j m' hj (Ne.symm ej)
      have ek:k≠g:=λe=>by subst e;rw [hk'] at hk;cases hk
      rw [yW ek];exact h.mem (jR hj) k x hk
  . have hkg:w0.kp g=none:=by
      rcases h.kd m (jR hi) g with h'|h'
      . exact h'
      . rw [hg] at h';cases h'
    intro y hy k
    obtain ⟨j,hj⟩:=List.mem_iff_getElem?.1 hy
    rw [zO] at hj
    by_cases ej:i=j
    . subst ej
      rw [yX rfl,yX hlt] at hj
      cases hj
      by_cases ek:k=g
      . rw [ek];exact .inl hkg
      . rcases h.kd m (jR hi) k with h'|h'
        . exact .inl h'
        . right;simp only [qFE];rw [yW ek];exact h'
    . rw [yW ej] at hj
      exact h.kd y (jR hj) k
  . have hkg:w0.kp g=none:=by
      rcases h.kd m (jR hi) g with h'|h'
      . exact h'
      . rw [hg] at h';cases h'
    intro k x hx
    rw [hw]
    simp only [qFE]
    rw [yW (λe=>by subst e;rw [hkg] at hx;cases hx)]
    exact h.kl k x hx
section
variable{P:Program}{env:Env}{rs ms:List Hp}{o:Oper}
theorem qAB{x ad}(ho:o.op= .nilCheck x)(hx:ev env x=some (.pointer (some ad))):YOp P env rs o (.pointer (some ad)):=λn a w hk _=>by
  simp [execOp,ho,hk.ev hx]
theorem qAA{s x f i k fs g off j}(ho:o.op= .fieldAddr s x i)(hx:ev env x=some (.pointer (some ⟨g,off,none⟩)))(hu:P.underlying s=some (.struct fs))(hf:fs[i]?=some f)
    (hz: ∀w,(sizeOf f.type).run P w= .ok (k+1) w) (hj:off+f.offset=j):YOp P env rs o (.pointer (some ⟨g,j,none⟩)):=λn a w hk _=>by
  subst hj
  simp [execOp,ho,hk.ev hx,Instr.fieldAt,run_underlying hu,hf,Instr.sureAddr,fieldPlace,hz,Addr.add_lit]
def qEW(A:yS)(i sz:Nat):Addr:=(A.getD ⟨0,0,none⟩).add (i*sz)
theorem qAC{t e x y k i sz A n' c xs m}(ho:o.op= .indexAddr t x y)(hx:ev env x=some (.slice A n' c))(hy:ev env y=some (.int k ((i:Nat):Int)))(hu:P.underlying t=some (.slice e))
    (hz: ∀w,(sizeOf e).run P w= .ok sz w) (hs:Sl m sz A n' c xs) (hi:i<n'):YOp P env rs o (.pointer (some (qEW A i sz))):=λn a w hk _=>by
  have hlt:i<xs.length:=by rw [hs.1];exact hi
  obtain ⟨_,ad,hA,_⟩:=hs.2.2 i xs[i] (jD hlt)
  subst hA
  simp [execOp,ho,hk.ev hx,hk.ev hy,Instr.indexAt,asIntOf,run_underlying hu,hz,hi,qEW]
theorem Sl.elem{m sz A n c xs}(h:Sl m sz A n c xs){i:Nat}{x:yU}(hx:xs[i]?=some x):qAI m (qEW A i sz) x:=by
  obtain ⟨_,ad,hA,hc⟩:=h.2.2 i x hx
  subst hA;exact hc
theorem qJn{t e x y k i sz g off N}(ho:o.op= .indexAddr t x y)(hx:ev env x=some (.pointer (some ⟨g,off,none⟩)))(hy:ev env y=some (.int k ((i:Nat):Int)))(hu:P.underlying t=some (.array N e))
    (hz: ∀w,(sizeOf e).run P w= .ok sz w) (hi:i<N):YOp P env rs o (.pointer (some ⟨g,off+i*sz,none⟩)):=λn a w hk _=>by
  simp [execOp,ho,hk.ev hx,hk.ev hy,Instr.indexAt,Instr.sureAddr,asIntOf,run_underlying hu,hz,hi,Addr.add_lit]
theorem qAH{t x ad v m}(ho:o.op= .load t x)(hx:ev env x=some (.pointer (some ad)))(hg: ∀w,(isAgg t).run P w= .ok false w)(hm:m∈rs)(hc:qAI m ad [v]):YOp P env rs o v:=λn a w hk hr=>by
  have:=(hc.mono (hr m hm)).cell (j:=0) O
  rw [qDD] at this
  simp [execOp,ho,hk.ev hx,Instr.loadAt,Instr.sureAddr,loadVar,hg,this]
theorem qAb{t x ad vs k m}(ho:o.op= .load t x)(hx:ev env x=some (.pointer (some ad)))(hg: ∀w,(isAgg t).run P w= .ok true w)(hz: ∀w,(sizeOf t).run P w= .ok k w)(hm:m∈rs)(hc:qAI m ad vs)(hl:vs.length=k):
    YOp P env rs o (.agg vs.toArray):=λn a w hk hr=>by
  have:=run_loadCells_list (P:=P) w ad vs (λj u hj=>(hc.mono (hr m hm)).cell hj)
  rw [hl] at this
  simp [execOp,ho,hk.ev hx,Instr.loadAt,Instr.sureAddr,loadVar,hg,hz,this]
theorem qCi{t e x lo hi sz A n' c l h}(ho:o.op= .slice t x lo hi none)(hx:ev env x=some (.slice A n' c))(hu:P.underlying t=some (.slice e))(hz: ∀w,(sizeOf e).run P w= .ok sz w)
    (hlo:match lo with|none=>l=0|some p=>ev env p=some (I (l:Nat))) (hhi:match hi with|none=>h=n'|some p=>ev env p=some (I (h:Nat))) (hr:l<=h/\h<=c):
    YOp P env rs o (.slice (if c=l then A else A.map (·.add (l*sz))) (h-l) (c-l)):=λn a w hk _=>by
  cases lo with
  |none=>
    simp only at hlo
    subst hlo
    cases hi with
    |none=>
      simp only at hhi
      subst hhi
      simp [execOp,ho,hk.ev hx,Instr.sliceAt,Instr.slice,run_underlying hu,Instr.sliceBounds,hz]
    |some q=>simp [execOp,ho,hk.ev hx,hk.ev hhi,Instr.sliceAt,Instr.slice,run_underlying hu,Instr.sliceBounds,Instr.sliceBound,asIntOf,hr,hz]
  |some p=>
    cases hi with
    |none=>
      simp only at hhi
      subst hhi
      simp [execOp,ho,hk.ev hx,hk.ev hlo,Instr.sliceAt,Instr.slice,run_underlying hu,Instr.sliceBounds,Instr.sliceBound,asIntOf,hr.1,hz]
    |some q=>simp [execOp,ho,hk.ev hx,hk.ev hlo,hk.ev hhi,Instr.sliceAt,Instr.slice,run_underlying hu,Instr.sliceBounds,Instr.sliceBound,asIntOf,hr,hz]
theorem qJo{t e x y k i sz v N}{cs:Array Value}(ho:o.op= .index t x y)(hx:ev env x=some (.agg cs))(hy:ev env y=some (.int k ((i:Nat):Int)))(hu:P.underlying t=some (.array N e))
    (hz: ∀w,(sizeOf e).run P w= .ok sz w) (hg: ∀w,(isAgg e).run P w= .ok false w) (hi:i<N) (hv:cs[i*sz]?=some v):YOp P env rs o v:=λn a w hk _=>by
  simp [execOp,ho,hk.ev hx,hk.ev hy,Instr.index,asIntOf,run_underlying hu,hz,hi,part,hg,hv]
theorem qJq{t x i f v fs}{cs:Array Value}(ho:o.op= .field t x i)(hx:ev env x=some (.agg cs))(hu:P.underlying t=some (.struct fs))(hf:fs[i]?=some f)
    (hg: ∀w,(isAgg f.type).run P w= .ok false w) (hv:cs[f.offset]?=some v):YOp P env rs o v:=λn a w hk _=>by
  simp [execOp,ho,hk.ev hx,Instr.field,run_underlying hu,hf,asAgg,part,hg,hv]
theorem St.drewS{w0 w}(h:St w0 ms w):St w0 ms w.drew:=h.of_heap O O O O
theorem EOp.ofRun{X:Type}{val:X->Value}{φ:X->Prop}{ms':X->List Hp}
    (h: ∀n a (w0:Wd) w,Kn n env a->St w0 ms w-> ∃x w',(execOp a.eval o).run P w= .ok (.value (val x)) w'/\φ x/\St w0 (ms' x) w'):EOp P env ms o val φ ms':=
  λn a w0 w next Q hk hs hn=>by
    obtain ⟨x,w',hr,hx,hs'⟩:=h n a w0 w hk hs
    unfold Oper.wp
    rw [hr,Oper.upon_value]
    exact hn x w' hx hs'
theorem EOp.ofSkip{ms':List Hp}(h: ∀n a (w0:Wd) w,Kn n env a->St w0 ms w-> ∃w',(execOp a.eval o).run P w= .ok .skip w'/\St w0 ms' w'):EOp P env ms o (λ_:Unit=>undef) (λ_=>True) (λ_=>ms'):=
  λn a w0 w next Q hk hs hn=>by
    obtain ⟨w',hr,hs'⟩:=h n a w0 w hk hs
    unfold Oper.wp
    rw [hr,Oper.upon_skip]
    exact hn () w' trivial hs'
abbrev Ptr(g:Nat):Value:= .pointer (some ⟨g,0,none⟩)
theorem qAO{t z}(ho:o.op= .alloc t)(hz: ∀w,(zeroValue t).run P w= .ok z w){l:yU}(hl:z.cells=l.toArray):
    EOp P env ms o Ptr (λ_=>True) (λg=>ms++ [blk g l t]):= .ofRun λn a w0 w hk hs=>
  ⟨w.heap.size,w.alloc (.cells l.toArray t),by simp [execOp,ho,Instr.alloc,hz,newVar,newRow,newObj,hl];rfl,yd,hs.alloc _⟩
theorem qAi{t x v}(ho:o.op= .box t x)(hx:ev env x=some v){l:yU}(hl:v.cells=l.toArray):
    EOp P env ms o Ptr (λ_=>True) (λg=>ms++ [blk g l t]):= .ofRun λn a w0 w hk hs=>
  ⟨w.heap.size,w.alloc (.cells l.toArray t),by simp [execOp,ho,hk.ev hx,Instr.box,newVar,newRow,newObj,hl];rfl,yd,hs.alloc _⟩
def qBS(l:yU)(k:Nat)(vs:yU):yU:=l.take k++vs++l.drop (k+vs.length)
theorem qFe{w:World}{g:Nat}{cs:Array Value}{e:TypeId}{fz:Nat×Nat}(h:w.heap[g]?=some (.cells cs e fz))(cs':Array Value):
    hp (w.setRow g cs')=qFE (hp w) g (.cells cs' e fz):=by
  funext k
  simp only [hp,World.setRow,qFE,yF]
  by_cases ek:k=g
  . subst ek;simp [h]
  . rw [yW (Ne.symm ek),yW ek]
theorem qJY{α:Type}(l:List α)(p:Nat)(v:α)(h:p<l.length):(l.set p v).take (p+1)=l.take p++ [v]:=by
  rw [jP (by simpa using h),List.getElem_set_self,List.take_set_of_le (jL _)]
theorem qBi(P:Program)(g off:Nat)(t:TypeId)(lo hi:Nat): ∀(vs:yU) (i:Nat) (cur:Array Value) (w:World),w.heap[g]?=some (.cells cur t (lo,hi))->off+i+vs.length<=cur.size->(hi<=lo\/off+i+vs.length<=lo\/hi<=off+i)->(∀v∈vs,v.oneCell'=true)->
    (storeCells ⟨g,off,none⟩ vs i).run P w= .ok () (w.setRow g (cur.toList.take (off+i)++vs++cur.toList.drop (off+i+vs.length)).toArray)
  | [],i,cur,w,hg,_,_,_=>by
    simp only [storeCells,jS,jG,zc,zN,Array.toArray_toList]
    rw [setRow_self w g cur t (lo,hi) hg]
    rfl
  |v::rest,i,cur,w,hg,hl,hf,h1=>by
    simp only [jC] at hl hf
    have hi':off+i<cur.size:=xB
    have hc:w.cell? (Addr.add ⟨g,off,none⟩ i)=some cur[off+i]:=by
      rw [Addr.add_lit];simp [World.cell?,hg,hi']
    have hnf:w.frozen? (Addr.add ⟨g,off,none⟩ i)=false:=by
      rw [Addr.add_lit];simp only [World.frozen?,hg]
      simp;omega
    have hv:=h1 v (.head _)
    have hset:w.setCell (Addr.add ⟨g,off,none⟩ i) v=w.setRow g (cur.setIfInBounds (off+i) v):=by
      rw [Addr.add_lit]
      simp only [World.setCell,World.setRow]
      congr 1
      apply Array.ext_getElem?
      intro k
      simp only [yF]
      split
      . rename_i e;subst e;rw [hg];rfl
      . rfl
    have hrun:(store (Addr.add ⟨g,off,none⟩ i) v).run P w= .ok () (w.setRow g (cur.setIfInBounds (off+i) v)):=by
      rw [<-hset]
      cases v<;>simp [Value.oneCell'] at hv<;>simp [store,Sem.run,hc,hnf]
    have hg2:(w.setRow g (cur.setIfInBounds (off+i) v)).heap[g]?=some (.cells (cur.setIfInBounds (off+i) v) t (lo,hi)):=setRow_heap w g cur _ t _ hg
    have ih:=qBi P g off t lo hi rest (i+1) (cur.setIfInBounds (off+i) v) _ hg2 xJ xB (λu hu=>h1 u (.tail _ hu))
    simp only [storeCells,Sem.run_bind,hrun,Result.andThen_ok,ih]
    congr 1
    simp only [World.setRow]
    congr 1
    apply Array.ext_getElem?
    intro k
    simp only [yF]
    by_cases ek:g=k
    . subst ek
      rw [yX rfl,yX rfl,yX rfl,hg]
      simp only [zu,Option.some.injEq,Obj.cells.injEq,and_true]
      congr 1
      rw [Array.toList_setIfInBounds,show off+(i+1)=off+i+1 by omega,qJY _ _ _ (by simpa using hi'),List.drop_set_of_lt xB]
      simp [z7,yO 1]
    . rw [yW ek,yW ek,yW ek]
theorem qAU{t x y g k l e v i}(ho:o.op= .store t x y)(hx:ev env x=some (.pointer (some ⟨g,k,none⟩)))(hy:ev env y=some v)(hi:ms[i]?=some (blk g l e)){vs:yU}(hv:v.cells=vs.toArray)
    (hz: ∀w,(sizeOf t).run P w= .ok vs.length w) (h1:vs.all Value.oneCell'=true) (hk:k+vs.length<=l.length):
    EOp P env ms o (λ_:Unit=>undef) (λ_=>True) (λ_=>ms.set i (blk g (qBS l k vs) e)):= .ofSkip λn a w0 w hkn hs=>by
  have hg:w.heap[g]?=some (.cells l.toArray e (0,0)):=hs.mem (jR hi) g _ (qAk _ _)
  have hst:=qBi P g k e 0 0 vs 0 l.toArray w hg (by simpa using hk) xD (by simpa [List.all_eq_true] using h1)
  simp only [zc] at hst
  refine⟨w.setRow g (qBS l k vs).toArray,by simp [execOp,ho,hkn.ev hx,hkn.ev hy,Instr.storeAt,Instr.sureAddr,storeVar,hz,hv,hst,qBS],?_⟩
  have:=hs.set hi (qAk _ _) (w':=w.setRow g (qBS l k vs).toArray) (o':= .cells (qBS l k vs).toArray e (0,0)) O O O (by simp [World.setRow]) (qFe hg _)
  rw [qBq] at this
  exact this
end
end Go.Fw