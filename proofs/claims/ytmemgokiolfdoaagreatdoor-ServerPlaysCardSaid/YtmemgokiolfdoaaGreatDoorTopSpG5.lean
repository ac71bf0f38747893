/- Rules for walking a translated function, over heaps that are apart: for any program. -/
import Derived.Test.YtmemgokiolfdoaaGreatDoorTopSpG4
import Derived.OrdersIn
import Derived.TacticsIn
set_option linter.unusedSimpArgs false
set_option linter.unusedVariables false
namespace Go.Fw
open Go
section
variable{P:Program}{n:Nat}{env:Env}{w0:Wd}{ms:List Hp}{ops:Array Oper}{Q:Exit->Act->World->Prop}{K:Act->World->Prop}{l:Nat}
abbrev RF(l:Nat):Fence:=Fence.wide.inRound l
def qE8(o:Oper):Bool:=match o.op with| .defer _=>false|_=>true
theorem qIt{o:Oper}(h:qE8 o=true): ∀c,o.op≠ .defer c:=λc e=>by unfold qE8 at h;rw [e] at h;cases h
def qIU(Q:Exit->Act->World->Prop):Exit->Act->World->Prop
  | .normal,a,w=>Q .normal a w
  |_,_,_=>False
theorem qIU.out{Q:Exit->Act->World->Prop}: ¬LetsOut (qIU Q):=λ⟨_,_,h⟩=>h
theorem qIU.imp{Q:Exit->Act->World->Prop}: ∀(e:Exit) (a:Act) (w:World),qIU Q e a w->Q e a w:=λe a w h=>by
  cases e<;>first|exact h|exact(h:False).elim
theorem wW{rs:List Hp}{tl:yT}{i:Nat}{o:Oper}{X:Type}{val:X->Value}{φ:X->Prop}{ms':X->List Hp}{σ:Sg}(ho:ops[i]?=some o)(h:EOp P env ms o val φ ms')(hg:o.guard=none)(hd:o.dst=none)
    (hrs: ∀x,∀m∈rs,m∈ms' x)
    (k: ∀x,φ x->J n env w0 (ms' x) (wpD P ops Q (λw=> ∀m∈rs,Le m (hp w)) tl σ)):J n env w0 ms (wpD P ops Q (λw=> ∀m∈rs,Le m (hp w)) tl (.e i σ)):=λa w hk hs=>by
  unfold wpD wpOp
  simp only [ho]
  rw [yX ((Wan.none hg:Wan ops env o true) n a hk.2)]
  refine .inl (h n a w0 w _ _ hk.2 hs λx w' hx hs'=>?_)
  rw [hd]
  exact⟨λv=> ∀m∈rs,Le m (hp v),λv hv=>hv,λ_ m hm=>hs'.mem (hrs x m hm),k x hx _ w' hk hs'⟩
theorem qXh{row:String}{args:Array Value}{w:World}{R:Value->World->Prop}(h:Rows P row args w R)(k:Nat):RowsIn (RF l) k P row args w R:=λc cs _=>by
  obtain ⟨v,w',r,s⟩:=h c cs
  exact⟨v,w',r,stepsIn_wide.2 s⟩
theorem qQn{row:String}{args:Array Value}{w:World}{R:Value->World->Prop}(h:Rows P row args w R)(k:Nat):RowsIn Fence.wide k P row args w R:=λc cs _=>by
  obtain ⟨v,w',r,s⟩:=h c cs
  exact⟨v,w',r,stepsIn_wide.2 s⟩
theorem Oper.in_of_wp{o:Oper}{a:Act}{w:World}(hd: ∀c,o.op≠ .defer c)(h:o.wp P a w K Q):o.wpIn (RF l) 0 P a w K Q:=by
  unfold Oper.wpIn
  refine⟨λ_ _=>yd,?_⟩
  rw [show(RF l).round=some l from rfl,Oper.semAt_some l _ o hd]
  unfold Oper.wp at h
  generalize (execOp a.eval o).run P w=r at*
  cases r with
  |ok x w'=>
    cases x<;>simp only [Oper.upon,Oper.uponIn] at h⊢ <;>
      first
        |exact h
        |exact⟨λ_=>by simp [Fence.wide] at*,(callsIn_wide (n:=_)).2 h⟩
        |exact⟨λ_=>by simp [Fence.wide] at*,qXh h _⟩
  |halt x w'=>cases x<;>simp only [Oper.upon,Oper.uponIn] at h⊢ <;>exact h
theorem Oper.wide_of_wp{o:Oper}{a:Act}{w:World}(h:o.wp P a w K Q):o.wpIn Fence.wide 0 P a w K Q:=by
  unfold Oper.wpIn
  refine⟨λ_ _=>yd,?_⟩
  rw [show Fence.wide.round=none from rfl,Oper.semAt_none]
  unfold Oper.wp at h
  generalize (execOp a.eval o).run P w=r at*
  cases r with
  |ok x w'=>
    cases x<;>simp only [Oper.upon,Oper.uponIn] at h⊢ <;>
      first
        |exact h
        |exact⟨λ_=>by simp [Fence.wide] at*,(callsIn_wide (n:=_)).2 h⟩
        |exact⟨λ_=>by simp [Fence.wide] at*,qQn h _⟩
  |halt x w'=>cases x<;>simp only [Oper.upon,Oper.uponIn] at h⊢ <;>exact h
theorem qHl: ∀(os:List Oper) (a:Act) (w:World),os.all qE8=true->wpList P ops (qIU Q) os a w->wpListIn (RF l) 0 P ops (qIU Q) os a w
  | [],_,_,_,h=>h
  |o::r,a,w,hd,h=>by
    simp only [zP,jh] at hd
    unfold wpList at h
    unfold wpListIn
    split
    . rename_i hw
      rw [yX hw] at h
      rcases h with h|h
      . exact Oper.wpIn_mono (λa w=>qHl r a w hd.2) (Oper.in_of_wp (qIt hd.1) h)
      . exact absurd h.2 qIU.out
    . rename_i hw
      rw [yW hw] at h
      exact⟨λ_ _=>yd,qHl r _ w hd.2 h⟩
theorem vt{id:Nat}{os:List Oper}(h:J n env w0 ms (wpList P os.toArray (qIU Q) os))(hd:os.all qE8=true:=by rfl):J n env w0 ms ((Code.region id os.toArray false).wpIn (RF l) 0 P Q):=λa w hk hs=>
  wpIn_mono (wpIn_region_lit (qHl os a w hd (h a w hk hs))) qIU.imp
theorem vu(h:J n env w0 ms (Q .normal)):J n env w0 ms (wpList P ops (qIU Q) []):=h
theorem qYI{os:List Oper}(hd:os.all qE8=true){i:Nat}{a:Act}{w:World}(h:wpOp P os.toArray (qIU Q) i K a w):wpOpIn (RF l) 0 P os.toArray (qIU Q) i K a w:=by
  unfold wpOp at h
  unfold wpOpIn
  split
  . rename_i ho
    simpa only [ho] using h
  . rename_i o ho
    simp only [ho] at h
    split
    . rename_i hw
      rw [yX hw] at h
      rcases h with h|h
      . refine Oper.in_of_wp (qIt (List.all_eq_true.1 hd o ?_)) h
        have:=Array.mem_of_getElem? ho
        simpa using this
      . exact absurd h.2 qIU.out
    . rename_i hw
      rw [yW hw] at h
      exact⟨λ_ _=>yd,h⟩
theorem qOh{os:List Oper}(hd:os.all qE8=true): ∀(fuel:Nat) (listed:Array Bool) (a:Act) (w:World),wpAny P .any os.toArray (qIU Q) fuel listed a w->wpAnyIn (RF l) 0 P .any os.toArray (qIU Q) fuel listed a w
  |0,_,_,_,h=>h
  |fuel+1,listed,a,w,h=>⟨h.1,λi hi=>wpOpIn_mono (λa w=>qOh hd fuel _ a w) (qYI hd (h.2 i hi))⟩
theorem qYM{Q:Exit->Act->World->Prop}:NoPanic (qIU Q)=qIU Q:=by
  funext e a w
  cases e<;>rfl
theorem we{id:Nat}{os:List Oper}(rs:List Hp)(tl:yT)(σ:Sg)(hm:P.follows .mixedOrders=true)
    (hok:(Region.noSelect os.toArray&&σ.len==os.length&&qBp os.toArray tl false σ (Array.replicate os.length false))=true) (hrs: ∀m∈rs,m∈ms)
    (h:J n env w0 ms (wpD P os.toArray (NoPanic (qIU Q)) (λw=> ∀m∈rs,Le m (hp w)) tl σ)) (hd:os.all qE8=true:=by rfl):J n env w0 ms ((Code.region id os.toArray true).wpIn (RF l) 0 P Q):=λa w hk hs=>by
  simp only [jh,beq_iff_eq] at hok
  refine wpIn_mono (wpIn_region_any hm ?_) qIU.imp
  refine qOh hd _ _ _ _ ?_
  rw [<-qYM]
  refine qFm (S:=λw=> ∀m∈rs,Le m (hp w)) (tl:=(tl.contains ·)) _ _ _ _ ?_
  have hs':St w0 ms {w with drawn:=w.drawn+1}:=hs.of_heap O O O O
  have:=(qHJ (P:=P) (Q:=NoPanic (qIU Q)) (tl:=tl) hok.1.1 (λ_ _ _ _ h=>h) σ (S:=λw=> ∀m∈rs,Le m (hp w)) (Array.replicate os.length false) a _).1 hok.2 (.inl λm hm=>hs'.mem (hrs m hm)) (h a _ hk hs')
  rw [hok.1.2] at this
  simpa using this
theorem wg{S:World->Prop}{tl:yT}(h:J n env w0 ms (Q .normal)):J n env w0 ms (wpD P ops (NoPanic (qIU Q)) S tl .nil):=h
theorem wK{x y:Code}(h: ∀K:Act->World->Prop,(∀a w,y.wpIn (RF l) 0 P Q a w->K a w)->J n env w0 ms (x.wpIn (RF l) 0 P (Exit.then K Q))):
    J n env w0 ms ((Code.seq x y).wpIn (RF l) 0 P Q):=λa w hk hs=>wpIn_seq_k λK hK=>h K hK a w hk hs
theorem wj(h:J n env w0 ms (Q .normal)):J n env w0 ms (Code.skip.wpIn (RF l) 0 P Q):=λa w hk hs=>wpIn_skip (h a w hk hs)
theorem wk(h:J n env w0 ms (Q .ret)):J n env w0 ms (Code.ret.wpIn (RF l) 0 P Q):=λa w hk hs=>wpIn_ret (h a w hk hs)
theorem wM{id:Nat}{c:Code}(h:J n env w0 ms (c.wpIn (RF l) 0 P (Exit.inBlock id Q))):J n env w0 ms ((Code.block id c).wpIn (RF l) 0 P Q):=λa w hk hs=>wpIn_block (h a w hk hs)
theorem wl{c:Operand}{x y:Code}{b:Bool}(hc:ev env c=some (.bool b))(ht:b=true->J n env w0 ms (x.wpIn (RF l) 0 P Q))(hf:b=false->J n env w0 ms (y.wpIn (RF l) 0 P Q)):
    J n env w0 ms ((Code.cond c x y).wpIn (RF l) 0 P Q):=λa w hk hs=>wpIn_cond_split (hk.ev hc) (λe=>ht e a w hk hs) (λe=>hf e a w hk hs)
theorem wX{c:Operand}{x y:Code}{p:Prop} [Decidable p](hc:ev env c=some (.bool (decide p)))(ht:p->J n env w0 ms (x.wpIn (RF l) 0 P Q))(hf: ¬p->J n env w0 ms (y.wpIn (RF l) 0 P Q)):
    J n env w0 ms ((Code.cond c x y).wpIn (RF l) 0 P Q):=wl hc (λe=>ht (by simpa using e)) (λe=>hf (by simpa using e))
def qIC(P:Program)(l:Nat)(Fr:Hp){X:Type}(M:X->Hp)(kp:Hp)(vs:yU)(x:X)(G S:X->Prop):Prop:=
  ∀w0:Wd,Le kp w0.kp-> ∀w,St w0 [Fr,M x] w-> ∃f tmps assign body,(Instr.yield l vs.toArray).run P w= .ok (.round l f tmps assign body) w/\
    RoundIn Fence.wide 0 P l f tmps assign body w (λe w'=> ∃x' b,e= .returned (.bool b)/\(b=true->G x')/\(b=false->S x')/\St w0 [Fr,M x'] w')
def qGh(P:Program)(f:FuncId)(caps:yU)(Fr:Hp)(vals:Nat->yU)(N:Nat):Prop:=
  ∀{X:Type} (M:X->Hp) (I:Nat->X->Prop) (S:X->Prop) (l:Nat) (x0:X) (w0:Wd),I 0 x0->
    (∀i x,i<N->I i x->qIC P l Fr M w0.kp (vals i) x (I (i+1)) S)->
    ∀w,St w0 [Fr,M x0] w->Calls P f (.func (.yield l) #[] #[]::caps).toArray w λe w'=> ∃x,(∃v,e= .returned v)/\(I N x\/S x)/\St w0 [Fr,M x] w'
theorem qGh.walk{f fn c}{caps:yU}{Fr:Hp}{vals:Nat->yU}{N:Nat}(hf:P.funcs[f]?=some fn)(hb:fn.body=some c)(hn:fn.ntmps=n)(hl:Nat.ble (caps.length+1) n=true)
    (h: ∀{X:Type} (M:X->Hp) (I:Nat->X->Prop) (S:X->Prop) (l:Nat) (x0:X) (w0:Wd),w0.own= []->I 0 x0->
      (∀i x,i<N->I i x->qIC P l Fr M w0.kp (vals i) x (I (i+1)) S)->
      J n (qFC 0 (.func (.yield l) #[] #[]::caps)) w0 [Fr,M x0] (c.wp P (bodyPostM Fence.wide 0 P fn λe w'=> ∃x,(∃v,e= .returned v)/\(I N x\/S x)/\St w0 [Fr,M x] w'))):qGh P f caps Fr vals N:=by
  intro X M I S l x0 w0 hx0 hy w hs
  have hs1:St {w0 with own:= []} [Fr,M x0] w:=⟨hs.os,hs.out,hs.tape,hs.size,hs.dj,hs.le,hs.kd,hs.kl⟩
  have hl':(Value.func (.yield l) #[] #[]::caps).length<=n:=by simpa [Nat.ble_eq] using hl
  refine(callsIn_wide (n:=0)).1 ((callsIn_of_wp_marks hf hb trivial (wpIn_wide.2 (h M I S l x0 {w0 with own:= []} O hx0 hy _ w ⟨O,?_,λt v ht=>?_⟩ hs1))).mono ?_)
  . simp only [hn,Array.size_append,Array.size_replicate,zl];omega
  . obtain ⟨_,h2⟩:=qDS _ 0 t v ht
    simp only [zw] at h2
    have hlt:=(List.getElem?_eq_some_iff.1 h2).1
    simp only [hn]
    rw [yJ (by simpa using hlt)]
    simpa using h2
  . rintro e w' ⟨x,he,hx,hs'⟩
    exact⟨x,he,hx,hs'.os,hs'.out,hs'.tape,hs'.size,hs'.dj,hs'.le,hs'.kd,hs'.kl⟩
theorem wN{id:Nat}{os:List Oper}(h:J n env w0 ms (wpListIn Fence.wide 0 P os.toArray Q os)):J n env w0 ms ((Code.region id os.toArray false).wp P Q):=
  λa w hk hs=>wpIn_wide.1 (wpIn_region_lit (h a w hk hs))
theorem vy(h:J n env w0 ms (Q .normal)):J n env w0 ms (wpListIn Fence.wide 0 P ops Q []):=h
theorem vc{o:Oper}{rest:List Oper}{v:Value}{d:Nat}(h:YOp P env ms o v)(hg:o.guard=none)(hd:o.dst=some d)(hn:Nat.blt d n=true)
    (k:J n ((d,v)::env) w0 ms (wpListIn Fence.wide 0 P ops Q rest)):J n env w0 ms (wpListIn Fence.wide 0 P ops Q (o::rest)):=λa w hk hs=>by
  unfold wpListIn
  rw [yX ((Wan.none hg:Wan ops env o true) n a hk.2)]
  refine Oper.wide_of_wp ?_
  unfold Oper.wp
  rw [h n a w hk.2 (λm hm=>hs.mem hm),Oper.upon_value,hd]
  exact k _ w (hk.put hn v) hs
theorem St.hide{w0:Wd}{ms ex:List Hp}{w:World}(h:St w0 (ms++ex) w):St {w0 with kp:=U (w0.kp::ex)} ms w:=by
  have hp:=qAh.1 h.dj
  rw [jg] at hp
  refine⟨h.os,h.out,h.tape,h.size,qAh.2 hp.1,?_,?_,?_⟩
  . intro g o ho
    obtain ⟨m,hm,hg⟩:=qCa ho
    exact h.mem (jj _ hm) g o hg
  . intro m hm
    refine(Dj.U_right.2 λy hy=>?_:Dj m (U (w0.kp::ex))).symm
    rcases List.mem_cons.1 hy with rfl|hy
    . exact(h.kd m (jj _ hm)).symm
    . exact hp.2.2 m hm y hy
  . intro g o ho
    obtain ⟨m,hm,hg⟩:=qCa ho
    rcases List.mem_cons.1 hm with rfl|hm
    . exact h.kl g o hg
    . exact h.mem (jb _ hm) g o hg
theorem St.unhide{w0:Wd}{ms ms' ex:List Hp}{w w':World}(h:St w0 (ms++ex) w)(h':St {w0 with kp:=U (w0.kp::ex)} ms' w'):St w0 (ms'++ex) w':=by
  have hp:=qAh.1 h.dj
  rw [jg] at hp
  have hk:Djs (w0.kp::ex):=⟨Dj.U_right.2 λm hm=>h.kd m (jb _ hm),qAh.2 hp.2.1⟩
  have hx: ∀m∈w0.kp::ex,Le m (Go.Fw.hp w'):=λm hm=>(qG2 hk hm).trans h'.kl
  refine⟨h'.os,h'.out,h'.tape,h'.size,?_,?_,?_,hx _ (.head _)⟩
  . rw [qAh,jg]
    exact⟨qAh.1 h'.dj,hp.2.1,λa ha b hb=>Dj.U_right.1 (h'.kd a ha).symm b (.tail _ hb)⟩
  . intro g o ho
    obtain ⟨m,hm,hg⟩:=qCa ho
    rcases List.mem_append.1 hm with hm|hm
    . exact h'.mem hm g o hg
    . exact hx m (.tail _ hm) g o hg
  . intro m hm
    rcases List.mem_append.1 hm with hm|hm
    . exact(Dj.U_right.1 (h'.kd m hm).symm _ (.head _)).symm
    . exact h.kd m (jb _ hm)
theorem wO{o:Oper}{rest:List Oper}{y:Operand}{xs:Array Operand}{vs:yU}{tys:Array TypeId}{d:Nat}{X:Type}{Fr:Hp}{M:X->Hp}{ex:List Hp}{x:X}{G S:X->Prop}
    (ho:o.op= .call {callee:= .value y,args:=xs,argTypes:=tys}) (hy:ev env y=some (.func (.yield l) #[] #[])) (hv:evs env xs.toList=some vs) (hg:o.guard=none) (hd:o.dst=some d) (hn:Nat.blt d n=true)
    (hY:qIC P l Fr M w0.kp vs x G S)
    (k: ∀x' b,(b=true->G x')->(b=false->S x')->J n ((d,.bool b)::env) w0 ([Fr,M x']++ex) (wpListIn Fence.wide 0 P ops Q rest)):
    J n env w0 ([Fr,M x]++ex) (wpListIn Fence.wide 0 P ops Q (o::rest)):=λa w hk hs=>by
  unfold wpListIn
  rw [yX ((Wan.none hg:Wan ops env o true) n a hk.2)]
  obtain ⟨f,tmps,as,bd,hr,hround⟩:=hY {w0 with kp:=U (w0.kp::ex)} (λg o ho=>by simp only [U,ho]) w hs.hide
  have hev:=hk.2.evs hv
  have hrun:(execOp a.eval o).run P w= .ok (.round l f tmps as bd) w:=by
    have h1:xs.map a.eval=vs.toArray:=by rw [<-hev];apply Array.ext';simp
    have h3:=hk.ev hy
    simp only [execOp,ho,resolve,h3,Deferred.ofValue,h1]
    rw [Sem.run_bind,Sem.run_pure,Result.andThen_ok]
    simp only [invoke,Array.empty_append]
    exact hr
  unfold Oper.wpIn
  refine⟨λ_ _=>yd,?_⟩
  rw [show Fence.wide.round=none from rfl,Oper.semAt_none,hrun,Oper.uponIn_round]
  refine⟨λh=>by simp [Fence.wide] at h,RoundIn.mono hround ?_⟩
  rintro e w' ⟨x',b,rfl,h1,h2,hs'⟩
  show wpListIn _ _ _ _ _ _ (a.put o.dst (.bool b)) w'
  rw [hd]
  exact k x' b h1 h2 _ w' (hk.put hn _) (hs.unhide hs')
theorem St.perm{ms ms':List Hp}{w:World}(h:St w0 ms w)(hp:ms'.Perm ms):St w0 ms' w:=
  h.intro_of (qAh.2 ((hp.pairwise_iff (λh=>Dj.symm h)).2 (qAh.1 h.dj))) (λm hm=>h.mem (hp.mem_iff.1 hm)) (λm hm=>h.kd m (hp.mem_iff.1 hm))
theorem St.group{A B:List Hp}{w:World}(h:St w0 (A++B) w):St w0 [U B,U A] w:=by
  have hp:=qAh.1 h.dj
  rw [jg] at hp
  have hd:Dj (U B) (U A):=Dj.U_right.2 λa ha=>(Dj.U_right.2 λb hb=>hp.2.2 a ha b hb:Dj a (U B)).symm
  refine h.intro_of ⟨Dj.U_right.2 λm hm=>by simp only [ji] at hm;subst hm;exact hd,λg=> .inr O,yd⟩ (λm hm=>?_) (λm hm=>?_)
  . simp only [j5,jr,or_false] at hm
    rcases hm with rfl|rfl
    . intro g o ho
      obtain ⟨m,hm,hg⟩:=qCa ho
      exact h.mem (jb _ hm) g o hg
    . intro g o ho
      obtain ⟨m,hm,hg⟩:=qCa ho
      exact h.mem (jj _ hm) g o hg
  . simp only [j5,jr,or_false] at hm
    rcases hm with rfl|rfl
    . exact Dj.U_right.2 λb hb=>h.kd b (jb _ hb)
    . exact Dj.U_right.2 λb hb=>h.kd b (jj _ hb)
theorem St.ungroup{A B:List Hp}{w:World}(h:St w0 [U B,U A] w)(hA:Djs A)(hB:Djs B):St w0 (A++B) w:=by
  have hd:Dj (U B) (U A):=by
    have:=qAh.1 h.dj
    rw [zB] at this
    exact this.1 _ (.head _)
  refine h.intro_of ?_ (λm hm=>?_) (λm hm=>?_)
  . rw [qAh,jg]
    exact⟨qAh.1 hA,qAh.1 hB,λa ha b hb=>(Dj.U_right.1 (Dj.U_right.1 hd a ha).symm b hb)⟩
  . rcases List.mem_append.1 hm with hm|hm
    . exact(qG2 hA hm).trans (h.mem (.tail _ (.head _)))
    . exact(qG2 hB hm).trans (h.mem (.head _))
  . rcases List.mem_append.1 hm with hm|hm
    . exact Dj.U_right.1 (h.kd _ (.tail _ (.head _))) m hm
    . exact Dj.U_right.1 (h.kd _ (.head _)) m hm
theorem qLQ{w:World}{k:Nat}(h:k<w.heap.size)(o':Obj):Fw.hp (w.putObj k o')=qFE (Fw.hp w) k o':=by
  funext g
  simp only [Fw.hp,qFE]
  by_cases e:g=k
  . subst e
    rw [yX rfl];exact World.putObj_heap_same h
  . rw [yW e];exact World.putObj_heap_other e
theorem qB3{kp:Hp}{k:Nat}{o:Obj}(hd:kp k=none):U [kp,qAd k o] k=some o:=by simp only [U,hd,qAd,if_true]
theorem St.rekey{W:World}{kp:Hp}{ow ow':List Deferred}{k:Nat}{o:Obj}{ms:List Hp}{w:World}(h:St ⟨W,U [kp,qAd k o],ow⟩ ms w)(hd:kp k=none)(o':Obj):St ⟨W,U [kp,qAd k o'],ow'⟩ ms (w.putObj k o'):=by
  have hk:Fw.hp w k=some o:=h.kl k o (qB3 hd)
  have hlt:=qHt hk
  have hh:=qLQ hlt o'
  have hoff: ∀m∈ms,m k=none:=λm hm=>by
    rcases h.kd m hm k with h1|h1
    . rw [show(⟨W,U [kp,qAd k o],ow⟩:Wd).kp k=some o from qB3 hd] at h1;cases h1
    . exact h1
  have hother: ∀g,g≠k->U [kp,qAd k o'] g=U [kp,qAd k o] g:=λg hg=>by simp only [U,qAd,yW hg]
  refine⟨h.os,h.out,h.tape,?_,h.dj,?_,?_,?_⟩
  . have:=h.size
    simpa [World.putObj] using this
  . intro g ob ho
    obtain ⟨m,hm,hg⟩:=qCa ho
    rw [hh];simp only [qFE]
    rw [yW (λe=>by subst e;rw [hoff m hm] at hg;cases hg)]
    exact h.mem hm g ob hg
  . intro m hm g
    by_cases e:g=k
    . subst e;exact .inr (hoff m hm)
    . rcases h.kd m hm g with h1|h1
      . exact .inl ((hother g e).trans h1)
      . exact .inr h1
  . intro g ob ho
    rw [hh];simp only [qFE]
    by_cases e:g=k
    . subst e
      rw [yX rfl]
      rw [show(⟨W,U [kp,qAd g o'],ow'⟩:Wd).kp g=some o' from qB3 hd] at ho;exact ho
    . rw [yW e]
      exact h.kl g ob ((hother g e).symm.trans ho)
theorem St.own{W:World}{kp:Hp}{ow ow':List Deferred}{ms:List Hp}{w:World}(h:St ⟨W,kp,ow⟩ ms w):St ⟨W,kp,ow'⟩ ms w:=⟨h.os,h.out,h.tape,h.size,h.dj,h.le,h.kd,h.kl⟩
def Ext(w1 w0:Wd):Prop:=w1.w=w0.w/\ ∃Ds:yT,w1.own=Ds.map qTP++w0.own/\Ds.Nodup/\(∀D∈Ds,w0.kp D=none)/\(∀D∈Ds,w1.kp D=some (.deferred (some [])))/\Le w0.kp w1.kp
theorem Ext.refl(w0:Wd):Ext w0 w0:=⟨rfl,[],rfl,.nil,(λ_ h=>nomatch h),(λ_ h=>nomatch h),Le.refl _⟩
theorem Ext.trans{w2 w1:Wd}(h:Ext w2 w1)(h':Ext w1 w0):Ext w2 w0:=by
  obtain ⟨e1,D1,o1,n1,a1,b1,l1⟩:=h
  obtain ⟨e0,D0,o0,n0,a0,b0,l0⟩:=h'
  refine⟨e1.trans e0,D1++D0,by rw [o1,o0,jN,jM],List.nodup_append.2 ⟨n1,n0,λx hx y hy e=>?_⟩,λD hD=>?_,λD hD=>?_,l0.trans l1⟩
  . subst e
    have:=a1 x hx
    rw [b0 x hy] at this;cases this
  . rcases List.mem_append.1 hD with hD|hD
    . cases hk:w0.kp D with
      |none=>rfl
      |some o=>have:=l0 D o hk;rw [a1 D hD] at this;cases this
    . exact a0 D hD
  . rcases List.mem_append.1 hD with hD|hD
    . exact b1 D hD
    . exact l1 D _ (b0 D hD)
theorem St.weak{w1:Wd}{w:World}(h:St w1 ms w)(hw:w1.w=w0.w)(hl:Le w0.kp w1.kp):St w0 ms w:=
  ⟨hw▸h.os,hw▸h.out,hw▸h.tape,hw▸h.size,h.dj,h.le,λm hm g=>by
    rcases h.kd m hm g with h1|h1
    . cases hk:w0.kp g with
      |none=>exact .inl O
      |some o=>rw [hl g o hk] at h1;cases h1
    . exact .inr h1,hl.trans h.kl⟩
theorem qGP{fn:Func}{tmps:Array Value}{R:Ending->World->Prop}(h0: ∀w,St w0 ms w->LeavesInM Fence.wide 0 P fn tmps R [] .returning w):
    ∀(Ds:yT) (kp:Hp) (w:World),Ds.Nodup->(∀D∈Ds,w0.kp D=none)->(∀D∈Ds,kp D=some (.deferred (some [])))->Le w0.kp kp->St ⟨w0.w,kp,[]⟩ ms w->LeavesInM Fence.wide 0 P fn tmps R (Ds.map qTP) .returning w
  | [],kp,w,_,_,_,hl,hs=>h0 w (hs.weak rfl hl)
  |D::Ds,kp,w,hn,h1,h2,hl,hs=>by
    have hk:=h2 D (.head _)
    have hw:=hs.kl D _ hk
    have hlt:=qHt hw
    have hh:=qLQ hlt (.deferred none)
    rw [List.nodup_cons] at hn
    have hoff: ∀m∈ms,m D=none:=λm hm=>by
      rcases hs.kd m hm D with h1|h1
      . rw [show(⟨w0.w,kp,[]⟩:Wd).kp D=some (.deferred (some [])) from hk] at h1;cases h1
      . exact h1
    refine⟨by simp,.inl ⟨D,w.putObj D (.deferred none),O,run_takeDeferred hw,qGP h0 Ds (λg=>if g=D then none else kp g) _ hn.2 (λx hx=>h1 x (.tail _ hx)) (λx hx=>?_) (λg o ho=>?_) ?_⟩⟩
    . show(if x=D then none else kp x)=_
      have hne:x≠D:=λe=>hn.1 (e▸hx)
      rw [yW hne];exact h2 x (.tail _ hx)
    . show(if g=D then none else kp g)=_
      have hne:g≠D:=λe=>by rw [e,h1 D (.head _)] at ho;cases ho
      rw [yW hne];exact hl g o ho
    . refine⟨hs.os,hs.out,hs.tape,?_,hs.dj,?_,?_,?_⟩
      . have:=hs.size
        simpa [World.putObj] using this
      . intro g ob ho
        obtain ⟨m,hm,hg⟩:=qCa ho
        rw [hh];simp only [qFE]
        rw [yW (λe=>by subst e;rw [hoff m hm] at hg;cases hg)]
        exact hs.mem hm g ob hg
      . intro m hm g
        show(if g=D then none else kp g)=none\/_
        by_cases e:g=D
        . exact .inl (yX e)
        . rw [yW e];exact hs.kd m hm g
      . intro g ob ho
        change(if g=D then none else kp g)=some ob at ho
        by_cases e:g=D
        . rw [yX e] at ho;cases ho
        . rw [yW e] at ho
          rw [hh];simp only [qFE]
          rw [yW e];exact hs.kl g ob ho
theorem wG(hw:w0.own= []){w1:Wd}{fn:Func}{R:Ending->World->Prop}{φ:Act->World->Prop}(hx:Ext w1 w0)(hQ: ∀a w,bodyPostM Fence.wide 0 P fn R .ret a w->φ a w){v:Value}(hr: ∀a w,Kn n env a->St w0 ms w->(results fn a.tmps).run P w= .ok v w)(h: ∀w,St w0 ms w->R (.returned v) w):J n env w1 ms φ:=
  λa w hk hs=>hQ a w (by
    obtain ⟨e0,Ds,o0,n0,a0,b0,l0⟩:=hx
    have hd:a.defers=Ds.map qTP:=by rw [hk.1,Wd.ds,o0,hw,jS]
    show LeavesInM _ _ _ _ _ _ a.defers _ _
    rw [hd]
    exact qGP (λw hs=>⟨v,hr a w hk.2 hs,h w hs⟩) Ds w1.kp w n0 a0 b0 l0 (by rw [<-e0];exact⟨hs.os,hs.out,hs.tape,hs.size,hs.dj,hs.le,hs.kd,hs.kl⟩))
def qUY:List Tmp->yU->Env->Env
  |p::ps,v::vs,env=>qUY ps vs ((p,v)::env)
  |_,_,env=>env
theorem Kn.ps: ∀{ps:List Tmp} {vs:yU} {env:Env} {t:Array Value} {ds:List Deferred},ps.all (Nat.blt · n)=true->Kn n env ⟨t,ds⟩->Kn n (qUY ps vs env) ⟨(ps.zip vs).foldl (λt (p,v)=>t.setIfInBounds p v) t,ds⟩
  | [],vs,env,t,ds,_,h=>by cases vs<;>exact h
  |p::ps,[],env,t,ds,_,h=>h
  |p::ps,v::vs,env,t,ds,hp,h=>by
    simp only [zP,jh] at hp
    exact Kn.ps (ps:=ps) (vs:=vs) (env:=(p,v)::env) (t:=t.setIfInBounds p v) hp.2 (h.put hp.1 v)
def qJK(P:Program)(f:FuncId)(caps:yU)(Fr:Hp){Y:Type}(Nx:Y->yU->Y->Prop)(fin:Y->Prop)(y0:Y):Prop:=
  ∀{X:Type} (M:X->Hp) (I:Y->X->Prop) (S:X->Prop) (l:Nat) (x0:X) (w0:Wd),I y0 x0->
    (∀y vs y',Nx y vs y'-> ∀x,I y x->qIC P l Fr M w0.kp vs x (I y') S)->
    ∀w,St w0 [Fr,M x0] w->Calls P f (.func (.yield l) #[] #[]::caps).toArray w λe w'=> ∃x,(∃v,e= .returned v)/\((∃y,fin y/\I y x)\/S x)/\St w0 [Fr,M x] w'
theorem wY{X Y:Type}{g:Operand}{ps:List Tmp}{assign body:Code}{gf:FuncId}{lb:Array Value}{Nx:Y->yU->Y->Prop}{fin:Y->Prop}{y0:Y}
    (own:X->List Hp) (B:List Hp) (I:Y->X->Prop) (S:Code->X->Prop) (x0:X)
    (hg:ev env g=some (.func (.func gf) #[] lb)) (ent:qDi P gf) (hseq: ∀Fr,(∀m∈B,Le m Fr)->qJK P gf lb.toList Fr Nx fin y0)
    (hps: ∀y vs y',Nx y vs y'->vs.length=ps.length) (hpn:ps.all (Nat.blt · n)=true) (h0:I y0 x0)
    (hbody: ∀y vs y' x (l:Nat) (w1 w2:Wd),Nx y vs y'->I y x-> ∀(K:Act->World->Prop) (Post:Exit->Act->World->Prop),
       (∀env2 ms2,J n env2 w2 ms2 (body.wpIn (RF l) 0 P Post)->J n env2 w1 ms2 K)->
       (∀env2 x',I y' x'->J n env2 w2 (own x'++B) (Post .normal))->
       (∀env2 x',S .ret x'->J n env2 w2 (own x'++B) (Post .ret))->
       (∀env2 x' id,S (.exit id) x'->J n env2 w2 (own x'++B) (Post (.exit id)))->
       J n (qUY ps vs env) w1 (own x++B) (assign.wpIn (RF l) 0 P (Exit.then K (λ_ _ _=>False))))
    (hdone: ∀w1 x y,Ext w1 w0->fin y->I y x->J n env w1 (own x++B) (Q .normal))
    (hstop: ∀w1 x c,Ext w1 w0->S c x->J n env w1 (own x++B) (c.wp P Q)):
    J n env w0 (own x0++B) ((Code.rangeFunc g ps.toArray assign body).wp P Q):=λa w hk hs=>by
  refine(wpIn_wide (n:=0)).1 (wpIn_rangeFunc ?_)
  intro fn _
  obtain ⟨rec,hrec⟩: ∃rec:LoopState->Option Code->Loop,rec=λst pe=>{state:=st,pending:=pe,fn,tmps:=a.tmps,params:=ps.toArray,assign,body,defers:=w.heap.size}:=⟨_,rfl⟩
  obtain ⟨W1,hW1⟩: ∃W1,(w.alloc (.deferred (some []))).alloc (.loop (rec .ready none))=W1:=⟨_,rfl⟩
  obtain ⟨D,hD⟩: ∃D,D=w.heap.size:=⟨_,rfl⟩
  have hkD:w0.kp D=none:=by
    cases hkp:w0.kp D with
    |none=>rfl
    |some o=>have:=qHt (hs.kl D o hkp);omega
  have hB:Djs B:=by
    have:=qAh.1 hs.dj
    rw [jg] at this
    exact qAh.2 this.2.1
  let wi:Wd:=⟨w0.w,U [w0.kp,qAd D (.deferred (some []))],[]⟩
  have hkL:wi.kp (D+1)=none:=by
    show U [w0.kp,qAd D (.deferred (some []))] (D+1)=none
    cases hkp:w0.kp (D+1) with
    |none=>simp only [U,hkp,qAd];rw [yW xB]
    |some o=>have:=qHt (hs.kl (D+1) o hkp);omega
  have hst:St wi ((qAd (D+1) (.loop (rec .ready none))::own x0)++B) W1:=by
    have h1:=hs.alloc (.deferred (some []))
    have h2:=h1.alloc (.loop (rec .ready none))
    rw [hW1,World.size_alloc,<-hD] at h2
    have h3:St w0 (((qAd (D+1) (.loop (rec .ready none))::own x0)++B)++ [qAd D (.deferred (some []))]) W1:=h2.perm (by
      rw [show∀(s d:Hp) (A B:List Hp),((s::A)++B)++ [d]=s::(A++B++ [d]) from λs d A B=>rfl]
      exact(zr _ _).symm)
    exact h3.hide.own
  have hdj0:Djs (qAd (D+1) (.loop (rec .ready none))::own x0):=by
    have:=qAh.1 hst.dj
    rw [jg] at this
    exact qAh.2 this.1
  have hcall:=hseq (U B) (λm hm=>qG2 hB hm) (λy:X×LoopState×Option Code=>U (qAd (D+1) (.loop (rec y.2.1 y.2.2))::own y.1))
    (λi y=>I i y.1/\y.2=(.ready,none)/\Djs (qAd (D+1) (.loop (rec y.2.1 y.2.2))::own y.1))
    (λy=> ∃c,S c y.1/\y.2=(.done,some c)/\Djs (qAd (D+1) (.loop (rec y.2.1 y.2.2))::own y.1)) (D+1) (x0,.ready,none) wi ⟨h0,rfl,hdj0⟩ ?_ W1 hst.group
  . refine⟨D+1,[qTP D],W1,{target:= .fn (.func gf) lb,args:= #[.func (.yield (D+1)) #[] #[]]},W1,gf,#[.func (.yield (D+1)) #[] #[]]++lb,W1,?_,?_,λ_ _=>yd,?_,λh=>by simp [Fence.wide] at h,?_⟩
    . rw [<-hW1,hrec,hD];exact run_enterLoop_outer _ _ _ _ _
    . have hgv:=hk.ev hg
      simp only [resolve,hgv]
      simp [Deferred.ofValue,Act.eval,Sem.run_pure]
    . show(invoke (.fn (.func gf) lb) #[.func (.yield (D+1)) #[] #[]]).run P W1=_
      simp only [invoke]
      exact ent _ _
    . rw [show(#[.func (.yield (D+1)) #[] #[]]++lb:Array Value)=(.func (.yield (D+1)) #[] #[]::lb.toList).toArray by apply Array.ext';simp]
      refine((callsIn_wide (n:=0-1)).2 hcall).mono ?_
      rintro e w' ⟨⟨x,st,pe⟩,⟨v,rfl⟩,hor,hs'⟩
      have hend: ∀(st':LoopState) (pe':Option Code),st'≠ .busy->Djs (qAd (D+1) (.loop (rec st' pe'))::own x)->St wi [U B,U (qAd (D+1) (.loop (rec st' pe'))::own x)] w'->
          ∃w4,(Instr.endLoop (D+1)).run P w'= .ok pe' w4/\St ⟨w0.w,U [w0.kp,qAd D (.deferred (some []))],qTP D::w0.own⟩ (own x++B) w4:=by
        intro st' pe' hne hdj hss
        have h1:=hss.ungroup hdj hB
        have h2:St wi ((own x++B)++ [qAd (D+1) (.loop (rec st' pe'))]) w':=h1.perm (zr _ _)
        have h3:=h2.hide
        have hl:=h3.kl (D+1) (.loop (rec st' pe')) (qB3 hkL)
        have hpe:(rec st' pe').pending=pe':=by rw [hrec]
        refine⟨w'.putObj (D+1) (.loop {rec st' pe' with state:= .exhausted}),(run_endLoop (r:=rec st' pe') hl (by rw [hrec];exact hne)).trans (yY (λz=>Result.ok z _) hpe),?_⟩
        have h4:=h3.rekey (ow':=qTP D::w0.own) hkL (.loop {rec st' pe' with state:= .exhausted})
        exact h4.weak (w0:=⟨w0.w,U [w0.kp,qAd D (.deferred (some []))],qTP D::w0.own⟩) O (λg o ho=>by
          show U [wi.kp,_] g=some o
          simp only [U]
          rw [show wi.kp g=some o from ho])
      have hx:Ext ⟨w0.w,U [w0.kp,qAd D (.deferred (some []))],qTP D::w0.own⟩ w0:=
        ⟨rfl,[D],rfl,by simp,λx hx=>by simp only [ji] at hx;subst hx;exact hkD,λx hx=>by simp only [ji] at hx;subst hx;exact qB3 hkD,λg o ho=>by simp only [U,ho]⟩
      have hkn:KnD (Wd.ds ⟨w0.w,U [w0.kp,qAd D (.deferred (some []))],qTP D::w0.own⟩) n env {a with defers:= [qTP D]++a.defers}:=⟨by rw [hk.1];rfl,hk.2.1,hk.2.2⟩
      rcases hor with ⟨y,hfy,hI,hst',hdj⟩|⟨c,hS,hst',hdj⟩
      . cases hst'
        obtain ⟨w4,hr4,hs4⟩:=hend .ready none xD hdj hs'
        exact⟨none,w4,hr4,hdone _ x y hx hfy hI _ w4 hkn hs4⟩
      . cases hst'
        obtain ⟨w4,hr4,hs4⟩:=hend .done (some c) xD hdj hs'
        exact⟨some c,w4,hr4,wpIn_wide.2 (hstop _ x c hx hS _ w4 hkn hs4)⟩
  .
    rintro y vs y' hi ⟨x,st,pe⟩ ⟨hI,hst',hdj⟩
    cases hst'
    intro w0' hkp W hsW
    have hs1:=hsW.ungroup hdj hB
    have hs2:St w0' ((own x++B)++ [qAd (D+1) (.loop (rec .ready none))]) W:=hs1.perm (zr _ _)
    have hkL':w0'.kp (D+1)=none:=by
      rcases hs2.kd _ (jb _ (.head _)) (D+1) with h1|h1
      . exact h1
      . rw [qAk] at h1;cases h1
    have hs3:=hs2.hide.own (ow':=([]:List Deferred))
    have hl:=hs3.kl (D+1) (.loop (rec .ready none)) (qB3 hkL')
    have hy:=run_yield (P:=P) (args:=vs.toArray) hl (by rw [hrec];simpa using hps y vs y' hi)
    rw [hrec] at hy
    refine⟨fn,_,assign,body,hy,?_⟩
    have hfin: ∀(jump:Option Code) (x':X) (w:World),St ⟨w0'.w,U [w0'.kp,qAd (D+1) (.loop (rec .busy none))],[]⟩ (own x'++B) w->
        ∃w',(Instr.endRound (D+1) jump).run P w= .ok (.bool jump.isNone) w'/\Djs (qAd (D+1) (.loop (rec (if jump.isNone then .ready else .done) jump))::own x')/\
          St w0' [U B,U (qAd (D+1) (.loop (rec (if jump.isNone then .ready else .done) jump))::own x')] w':=by
      intro jump x' w hsw
      have hl2:=hsw.kl (D+1) (.loop (rec .busy none)) (qB3 hkL')
      refine⟨_,run_endRound jump hl2,?_⟩
      have h4:=hsw.rekey (ow':=([]:List Deferred)) hkL' (.loop {rec .busy none with state:=if jump.isNone then .ready else .done,pending:=jump})
      rw [show({rec .busy none with state:=if jump.isNone then .ready else .done,pending:=jump}:Loop)=rec (if jump.isNone then .ready else .done) jump by rw [hrec]] at h4⊢
      have h5:St w0' ((own x'++B)++ [qAd (D+1) (.loop (rec (if jump.isNone then .ready else .done) jump))]) (w.putObj (D+1) (.loop (rec (if jump.isNone then .ready else .done) jump))):=by
        have hd2:Djs (own x'++B):=h4.dj
        refine⟨h4.os,h4.out,h4.tape,h4.size,?_,?_,?_,?_⟩
        . rw [qAh,jg]
          refine⟨qAh.1 hd2,by simp,λa ha b hb=>?_⟩
          simp only [ji] at hb
          subst hb
          intro g
          by_cases e:g=D+1
          . subst e
            rcases h4.kd a ha (D+1) with h1|h1
            . rw [show(⟨w0'.w,U [w0'.kp,qAd (D+1) (.loop (rec (if jump.isNone then .ready else .done) jump))],[]⟩:Wd).kp (D+1)=some _ from qB3 hkL'] at h1;cases h1
            . exact .inl h1
          . right;simp only [qAd];rw [yW e]
        . intro g o ho
          obtain ⟨m,hm,hg⟩:=qCa ho
          rcases List.mem_append.1 hm with hm|hm
          . exact h4.mem hm g o hg
          . simp only [ji] at hm
            subst hm
            by_cases e:g=D+1
            . subst e;exact h4.kl _ o ((qB3 hkL').trans ((qAk _ _).symm.trans hg))
            . simp only [qAd] at hg;rw [yW e] at hg;cases hg
        . intro m hm g
          rcases List.mem_append.1 hm with hm|hm
          . rcases h4.kd m hm g with h1|h1
            . left
              cases hq:w0'.kp g with
              |none=>rfl
              |some o=>
                have:U [w0'.kp,qAd (D+1) (.loop (rec (if jump.isNone then .ready else .done) jump))] g=some o:=by simp only [U,hq]
                rw [show(⟨w0'.w,U [w0'.kp,qAd (D+1) (.loop (rec (if jump.isNone then .ready else .done) jump))],[]⟩:Wd).kp g=some o from this] at h1;cases h1
            . exact .inr h1
          . simp only [ji] at hm
            subst hm
            by_cases e:g=D+1
            . subst e;exact .inl hkL'
            . right;simp only [qAd];rw [yW e]
        . exact λg o ho=>h4.kl g o (by show U [w0'.kp,_] g=some o;simp only [U,ho])
      have h6:St w0' ((qAd (D+1) (.loop (rec (if jump.isNone then .ready else .done) jump))::own x')++B) (w.putObj (D+1) (.loop (rec (if jump.isNone then .ready else .done) jump))):=h5.perm (zr _ _).symm
      have hdj6:=qAh.1 h6.dj
      rw [jg] at hdj6
      exact⟨qAh.2 hdj6.1,h6.group⟩
    have key: ∀R:Ending->World->Prop,(∀x' w',I y' x'->Djs (qAd (D+1) (.loop (rec .ready none))::own x')->St w0' [U B,U (qAd (D+1) (.loop (rec .ready none))::own x')] w'->R (.returned (.bool true)) w')->
        (∀c x' w',S c x'->Djs (qAd (D+1) (.loop (rec .done (some c)))::own x')->St w0' [U B,U (qAd (D+1) (.loop (rec .done (some c)))::own x')] w'->R (.returned (.bool false)) w')->
        RoundIn Fence.wide 0 P (D+1) fn ((ps.zip vs).foldl (λt (p,v)=>t.setIfInBounds p v) a.tmps) assign body W R:=by
      intro R hR1 hR2
      refine roundIn_of_wpIn trivial ?_
      refine hbody y vs y' x (D+1) ⟨w0'.w,U [w0'.kp,qAd (D+1) (.loop (rec .ready none))],[]⟩ ⟨w0'.w,U [w0'.kp,qAd (D+1) (.loop (rec .busy none))],[]⟩ hi hI _ (roundPost P (D+1) R) ?_ ?_ ?_ ?_ _ W ?_ hs3
      . intro env2 ms2 hj a1 w1 hk1 hs4
        have hl4:=hs4.kl (D+1) (.loop (rec .ready none)) (qB3 hkL')
        refine⟨w1.putObj (D+1) (.loop {rec .ready none with state:= .busy}),run_beginRound hl4 (by rw [hrec]),?_⟩
        have h4:=hs4.rekey (ow':=([]:List Deferred)) hkL' (.loop {rec .ready none with state:= .busy})
        rw [show({rec .ready none with state:= .busy}:Loop)=rec .busy none by rw [hrec]] at h4⊢
        exact hj a1 _ hk1 h4
      . intro env2 x' hI' a1 w1 hk1 hs4
        obtain ⟨w',hr',hdj',hs'⟩:=hfin none x' w1 hs4
        exact⟨_,w',hr',hR1 x' w' hI' hdj' hs'⟩
      . intro env2 x' hS' a1 w1 hk1 hs4
        obtain ⟨w',hr',hdj',hs'⟩:=hfin (some .ret) x' w1 hs4
        exact⟨_,w',hr',hR2 _ x' w' hS' hdj' hs'⟩
      . intro env2 x' id hS' a1 w1 hk1 hs4
        obtain ⟨w',hr',hdj',hs'⟩:=hfin (some (.exit id)) x' w1 hs4
        exact⟨_,w',hr',hR2 _ x' w' hS' hdj' hs'⟩
      . exact⟨O,Kn.ps (n:=n) (ps:=ps) (vs:=vs) (env:=env) (t:=a.tmps) (ds:= []) hpn ⟨hk.2.1,hk.2.2⟩⟩
    have hk2:=key (λe w'=> ∃(x':X×LoopState×Option Code) (b:Bool),e= .returned (.bool b)/\(b=true->I y' x'.1/\x'.2=(.ready,none)/\Djs (qAd (D+1) (.loop (rec x'.2.1 x'.2.2))::own x'.1))/\(b=false-> ∃c,S c x'.1/\x'.2=(.done,some c)/\Djs (qAd (D+1) (.loop (rec x'.2.1 x'.2.2))::own x'.1))/\St w0' [U B,U (qAd (D+1) (.loop (rec x'.2.1 x'.2.2))::own x'.1)] w')
      (λx' w' hI' hdj' hs'=>⟨(x',.ready,none),true,rfl,λ_=>⟨hI',rfl,hdj'⟩,(λh=>nomatch h),hs'⟩) (λc x' w' hS' hdj' hs'=>⟨(x',.done,some c),false,rfl,(λh=>nomatch h),λ_=>⟨c,hS',rfl,hdj'⟩,hs'⟩)
    simpa using hk2
theorem qGh.toY{f:FuncId}{caps:yU}{Fr:Hp}{vals:Nat->yU}{N:Nat}(h:qGh P f caps Fr vals N):qJK P f caps Fr (Y:=Nat) (λi vs i'=>i<N/\vs=vals i/\i'=i+1) (λi=>i=N) 0:=λ{X} M I S l x0 w0 h0 hY w hs=>
  (h M I S l x0 w0 h0 (λi x hi hx=>hY i _ _ ⟨hi,O,O⟩ x hx) w hs).mono λe w' ⟨x,he,hx,hst⟩=>⟨x,he,hx.imp (λg=>⟨N,O,g⟩) id,hst⟩
theorem wQ{X:Type}{g:Operand}{ps:List Tmp}{assign body:Code}{gf:FuncId}{lb:Array Value}{vals:Nat->yU}{N:Nat}
    (own:X->List Hp) (B:List Hp) (I:Nat->X->Prop) (S:Code->X->Prop) (x0:X)
    (hg:ev env g=some (.func (.func gf) #[] lb)) (ent:qDi P gf) (hseq: ∀Fr,(∀m∈B,Le m Fr)->qGh P gf lb.toList Fr vals N)
    (hps: ∀i,i<N->(vals i).length=ps.length) (hpn:ps.all (Nat.blt · n)=true) (h0:I 0 x0)
    (hbody: ∀i x (l:Nat) (w1 w2:Wd),i<N->I i x-> ∀(K:Act->World->Prop) (Post:Exit->Act->World->Prop),
       (∀env2 ms2,J n env2 w2 ms2 (body.wpIn (RF l) 0 P Post)->J n env2 w1 ms2 K)->
       (∀env2 x',I (i+1) x'->J n env2 w2 (own x'++B) (Post .normal))->
       (∀env2 x',S .ret x'->J n env2 w2 (own x'++B) (Post .ret))->
       (∀env2 x' id,S (.exit id) x'->J n env2 w2 (own x'++B) (Post (.exit id)))->
       J n (qUY ps (vals i) env) w1 (own x++B) (assign.wpIn (RF l) 0 P (Exit.then K (λ_ _ _=>False))))
    (hdone: ∀w1 x,Ext w1 w0->I N x->J n env w1 (own x++B) (Q .normal))
    (hstop: ∀w1 x c,Ext w1 w0->S c x->J n env w1 (own x++B) (c.wp P Q)):
    J n env w0 (own x0++B) ((Code.rangeFunc g ps.toArray assign body).wp P Q):=by
  refine wY (Nx:=λi vs i'=>i<N/\vs=vals i/\i'=i+1) (fin:=λi=>i=N) (y0:=0) own B I S x0 hg ent (λFr h=>qGh.toY (hseq Fr h)) (λy vs y' h=>by rw [h.2.1];exact hps y h.1) hpn h0 (λy vs y' x l w1 w2 h=>?_) (λw1 x y e f=>by subst f;exact hdone w1 x e) hstop
  obtain ⟨h1,rfl,rfl⟩:=h
  exact hbody y x l w1 w2 h1
theorem wm{X:Type}(env':X->Env)(ms':X->List Hp)(φ:X->Prop)(μ:X->Nat){c:Code}(x0:X)(hx0:φ x0)
    (he:Sub env (env' x0)) (hm: ∀w,St w0 ms w->St w0 (ms' x0) w)
    (round: ∀x w1,φ x->Ext w1 w0-> ∀I:Act->World->Prop,(∀x' w2,φ x'->μ x'<μ x->Ext w2 w1->J n (env' x') w2 (ms' x') I)->J n (env' x) w1 (ms' x) (c.wp P (Exit.then I Q))):
    J n env w0 ms ((Code.loop c).wp P Q):=λa w hk hs=>by
  intro b kk cs
  have key: ∀k,∀x w1,φ x->Ext w1 w0->μ x=k-> ∀a w,KnD w1.ds n (env' x) a->St w1 (ms' x) w->
      ∃e a' w',Q e a' w'/\Arrives P (lone (b.at a (.code c:: .inLoop c::kk)) cs w) b kk cs e a' w':=by
    intro k
    induction k using Nat.strongRecOn with
    |_ k ih=>
      intro x w1 hx hxt hμ a w hk hs
      obtain ⟨e,a₁,w₁,hq,harr⟩:=round x w1 hx hxt (λa' w'=> ∃x' w2,φ x'/\μ x'<μ x/\Ext w2 w1/\KnD w2.ds n (env' x') a'/\St w2 (ms' x') w')
        (λx' w2 hx' hlt hxt' a' w' hk' hs'=>⟨x',w2,hx',hlt,hxt',hk',hs'⟩) a w hk hs b (.inLoop c::kk) cs
      cases e with
      |normal=>
        obtain ⟨x',w2,hx',hlt,hxt',hk',hs'⟩:=hq
        obtain ⟨e₂,a₂,w₂,hq₂,harr₂⟩:=ih (μ x') (hμ▸hlt) x' w2 hx' (hxt'.trans hxt) rfl a₁ w₁ hk' hs'
        exact⟨e₂,a₂,w₂,hq₂,.of_steps (Steps.trans harr (.one step_inLoop)) harr₂⟩
      |exit id=>exact⟨_,a₁,w₁,hq,.pass (x:= .inLoop c) O (λ_ _=> .inl xD) harr⟩
      |goto l=>exact⟨_,a₁,w₁,hq,.pass (x:= .inLoop c) O (λ_ _=> .inl xD) harr⟩
      |ret=>exact⟨_,a₁,w₁,hq,.pass (x:= .inLoop c) O (λ_ _=> .inl xD) harr⟩
      |panic ch=>exact⟨_,a₁,w₁,hq,.pass (x:= .inLoop c) O (λ_ _=> .inl xD) harr⟩
      |outgrown=>exact⟨_,a₁,w₁,hq,.pass (x:= .inLoop c) O (λ_ _=> .inl xD) harr⟩
  obtain ⟨e,a',w',hq,harr⟩:=key _ x0 w0 hx0 (Ext.refl _) rfl a w (hk.sub he) (hm w hs)
  exact⟨e,a',w',hq,.of_steps (.one step_loop) harr⟩
theorem St.splitUs{A r:List Hp}{w:World}(hA:Djs A)(h:St w0 (U A::r) w):St w0 (A++r) w:=by
  have hp:=qAh.1 h.dj
  rw [zB] at hp
  refine h.intro_of ?_ (λm hm=>?_) (λm hm=>?_)
  . rw [qAh,jg]
    exact⟨qAh.1 hA,hp.2,λa ha b hb=>(Dj.U_right.1 (hp.1 b hb).symm a ha).symm⟩
  . rcases List.mem_append.1 hm with hm|hm
    . exact(qG2 hA hm).trans (h.mem (.head _))
    . exact h.mem (.tail _ hm)
  . rcases List.mem_append.1 hm with hm|hm
    . exact Dj.U_right.1 (h.kd _ (.head _)) m hm
    . exact h.kd m (.tail _ hm)
theorem St.joinUs{A r:List Hp}{w:World}(h:St w0 (A++r) w):Djs A/\St w0 (U A::r) w:=by
  have hp:=qAh.1 h.dj
  rw [jg] at hp
  refine⟨qAh.2 hp.1,h.intro_of (qAh.2 (List.pairwise_cons.2 ⟨λm hm=>(Dj.U_right.2 λa ha=>(hp.2.2 a ha m hm).symm:Dj m (U A)).symm,hp.2.1⟩)) (λm hm=>?_) (λm hm=>?_)⟩
  . rcases List.mem_cons.1 hm with rfl|hm
    . intro g o ho
      obtain ⟨m,hm,hg⟩:=qCa ho
      exact h.mem (jj _ hm) g o hg
    . exact h.mem (jb _ hm)
  . rcases List.mem_cons.1 hm with rfl|hm
    . exact Dj.U_right.2 λa ha=>h.kd a (jj _ ha)
    . exact h.kd m (jb _ hm)
theorem wR{φ:Act->World->Prop}{A r:List Hp}(hA:Djs A)(h:J n env w0 (A++r) φ):J n env w0 (U A::r) φ:=λac w hk hs=>h ac w hk (hs.splitUs hA)
theorem qF4{X:Type}{val:X->Value}{φ:X->Prop}{ms':X->List Hp}{v:Value}(A r:List Hp)(x:X)(hv:v=val x)(hx:Djs A->φ x)(ix:yT)(hm:pick ms ix=A++r)(hms:ms' x=U A::r)(hn:ix.Nodup):
    ∀w,St w0 ms w-> ∃x,Ending.returned v= .returned (val x)/\φ x/\St w0 (ms' x) w:=λw hs=>by
  have h:=(hm▸hs.pick ix hn:St w0 (A++r) w).joinUs
  exact⟨x,by rw [hv],hx h.1,by rw [hms];exact h.2⟩
theorem qKu{t e}(ht:P.underlying t=some (.slice e))(A:yS)(a b:Nat)(w:World)(d:Nat):(Op.equalIn (d+1) t (.slice A a b) (.slice none 0 0)).run P w= .ok A.isNone w:=by
  unfold Op.equalIn
  cases A<;>simp [run_underlying ht]
theorem qFT{env:Env}{rs:List Hp}{o:Oper}{t e t':TypeId}{x y:Operand}{A:yS}{a b:Nat}(ht:P.underlying t=some (.slice e))(ho:o.op= .binOp .eql t x y t')(hx:ev env x=some (.slice A a b))(hy:ev env y=some (.slice none 0 0)):YOp P env rs o (.bool A.isNone):=λn ac w hk _=>by
  have:=qKu (P:=P) ht A a b w 9999
  have h2:(Op.equal t (.slice A a b) (.slice none 0 0)).run P w= .ok A.isNone w:=this
  simp only [execOp,ho,hk.ev hx,hk.ev hy,binOp]
  cases A<;>simp [eqGuard,h2]
end
end Go.Fw