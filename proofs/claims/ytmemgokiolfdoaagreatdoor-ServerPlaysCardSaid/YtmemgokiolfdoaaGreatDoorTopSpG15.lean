/- Rules for walking a translated function, over heaps that are apart: for any program. -/
import Derived.Test.YtmemgokiolfdoaaGreatDoorTopSpG3
import Derived.ProofKit
import Derived.OpenShut
import Derived.Deep.DeepHandedRow
import Derived.Lib.LaidTab
set_option linter.unusedSimpArgs false
set_option linter.unusedVariables false
namespace Go.Fw
open Go
theorem qDw{α β:Type}{f g:α->Option β}: ∀{l:List α} {r:List β},l.mapM f=some r->(∀a∈l,∀y∈r,f a=some y->g a=some y)->l.mapM g=some r
  | [],r,h,_=>by simpa using h
  |a::l,r,h,hi=>by
    simp only [List.mapM_cons,Option.bind_eq_bind,Option.bind_eq_some_iff,Option.pure_def,Option.some.injEq] at h⊢
    obtain ⟨b,hb,r',hr',rfl⟩:=h
    exact⟨b,hi a (.head _) b (.head _) hb,r',qDw hr' (λa ha y hy=>hi a (.tail _ ha) y (.tail _ hy)),O⟩
theorem qG0{α β:Type}{f:α->Option β}: ∀{l:List α} {r:List β},l.mapM f=some r->r.length=l.length
  | [],r,h=>by simp at h;subst h;rfl
  |a::l,r,h=>by
    simp only [List.mapM_cons,Option.bind_eq_bind,Option.bind_eq_some_iff,Option.pure_def,Option.some.injEq] at h
    obtain ⟨b,hb,r',hr',rfl⟩:=h
    simp [qG0 hr']
theorem qZE{w w':World}(hl:Le (hp w) (hp w')){a:Addr}{v:Value}(h:w.cell? a=some v):w'.cell? a=some v:=by
  unfold World.cell? at h⊢
  cases ho:w.heap[a.block]? with
  |none=>rw [ho] at h;cases h
  |some o=>
    have e:w'.heap[a.block]?=some o:=hl _ _ (show hp w a.block=some o from ho)
    rw [ho] at h
    rw [e];exact h
theorem qKJ{w w':World}(hl:Le (hp w) (hp w')){base:Nat}{a:Addr}{n:Nat}{cs:yU}(h:w.cells? base a n=some cs):w'.cells? base a n=some cs:=by
  unfold World.cells? at h⊢
  split at h
  . rename_i hb
    rw [yX hb]
    exact qDw h (λ_ _ _ _ hx=>qZE hl hx)
  . cases h
def qDu(P:Program)(n t:Nat):Bool:=match P.underlying t with
  |some (.slice e)=>Nat.blt e n&&Nat.blt 0 (P.cellsOf e)
  |some (.pointer e)=>Nat.blt e n
  |some (.array _ e)=>Nat.blt e n
  |some (.map _ e)=>Nat.blt e n
  |some (.struct fs)=>fs.toList.all λf=>Nat.blt f.type n
  |_=>true
def qCL(P:Program)(n:Nat):Prop:=(List.range n).all (qDu P n)=true
theorem qCL.at{P:Program}{n t:Nat}(h:qCL P n)(ht:t<n):qDu P n t=true:=List.all_eq_true.1 h t (List.mem_range.2 ht)
theorem qCL.slice{P:Program}{n t e:Nat}(h:qCL P n)(ht:t<n)(hu:P.underlying t=some (.slice e)):e<n/\0<P.cellsOf e:=by
  have:=h.at ht;simp only [qDu,hu,jh,Nat.blt_eq] at this;exact this
theorem qCL.pointer{P:Program}{n t e:Nat}(h:qCL P n)(ht:t<n)(hu:P.underlying t=some (.pointer e)):e<n:=by
  have:=h.at ht;simp only [qDu,hu,Nat.blt_eq] at this;exact this
theorem qCL.array{P:Program}{n t e k:Nat}(h:qCL P n)(ht:t<n)(hu:P.underlying t=some (.array k e)):e<n:=by
  have:=h.at ht;simp only [qDu,hu,Nat.blt_eq] at this;exact this
theorem qCL.map{P:Program}{n t e k:Nat}(h:qCL P n)(ht:t<n)(hu:P.underlying t=some (.map k e)):e<n:=by
  have:=h.at ht;simp only [qDu,hu,Nat.blt_eq] at this;exact this
theorem qCL.struct{P:Program}{n t:Nat}{fs:Array Field}(h:qCL P n)(ht:t<n)(hu:P.underlying t=some (.struct fs)): ∀f∈fs.toList,f.type<n:=λf hf=>by
  have:=h.at ht;simp only [qDu,hu] at this;simpa [Nat.blt_eq] using List.all_eq_true.1 this f hf
theorem qYU{a:Addr}{n:Nat}(h:0<n):MemPlace.cell a.block a.off∈MemPlace.row a n:=by
  unfold MemPlace.row
  rw [zh]
  exact⟨0,by simpa using h,by simp⟩
theorem qXI{H:Type}{enc:TypeId×Value->H}{P:Program}{w w':World}(hl:Le (hp w) (hp w')){N:Nat}(hP:qCL P N){base:Nat}{sp:Nat->Bool}: ∀(n:Nat) (t:TypeId) (cs:yU) (x:DataW H×List MemPlace),t<N->
    DataW.trod enc P w base (λ_=>true) true n t cs=some x->(∀p∈x.2,sp p.block=true)->DataW.trod enc P w' base sp true n t cs=some x:=by
  intro n
  induction n with
  |zero=>intro t cs x _ h;simp [DataW.trod] at h
  |succ n ih=>
    intro t cs x ht h hs
    unfold DataW.trod at h⊢
    split at h
    all_goals rename_i heq
    all_goals try simp only [heq]
    all_goals try exact h
    .
      obtain ⟨y,hy,rfl⟩:=Option.map_eq_some_iff.1 h
      obtain ⟨cs',hc,hy'⟩:=Option.bind_eq_some_iff.1 hy
      rw [qKJ hl hc]
      simp only [Option.bind_some,ih _ _ _ (hP.pointer ht heq) hy' (λp hp=>hs p (by simp [hp])),zu]
    .
      rename_i e a len cap
      split at h
      . rename_i hc
        rw [yX hc]
        obtain ⟨elems,he,h2⟩:=Option.bind_eq_some_iff.1 h
        obtain ⟨rest,hr,rfl⟩:=Option.map_eq_some_iff.1 h2
        simp only [if_true] at hr
        have hpe: ∀y∈elems,∀p∈y.2,sp p.block=true:=λy hy p hp=>hs p (jb _ (List.mem_flatMap.2 ⟨y,jj _ hy,hp⟩))
        have hpr: ∀y∈rest,∀p∈y.2,sp p.block=true:=λy hy p hp=>hs p (jb _ (List.mem_flatMap.2 ⟨y,jb _ hy,hp⟩))
        have he':=qDw (g:=λi=>(w'.cells? base (a.add (i*P.cellsOf e)) (P.cellsOf e)).bind (DataW.trod enc P w' base sp true n e)) he (λi _ y hy hx=>by
          obtain ⟨cs',hc',hy'⟩:=Option.bind_eq_some_iff.1 hx
          rw [qKJ hl hc']
          exact ih _ _ _ (hP.slice ht heq).1 hy' (hpe y hy))
        have hr':=qDw (g:=λj=>(w'.cells? base (a.add ((len+j)*P.cellsOf e)) (P.cellsOf e)).bind (DataW.trod enc P w' base sp true n e)) hr (λi _ y hy hx=>by
          obtain ⟨cs',hc',hy'⟩:=Option.bind_eq_some_iff.1 hx
          rw [qKJ hl hc']
          exact ih _ _ _ (hP.slice ht heq).1 hy' (hpr y hy))
        have hlen:=qG0 hr
        rw [he']
        simp only [Option.bind_some]
        by_cases h0:0<cap-len
        . have hsa:sp a.block=true:=hs (.cell a.block a.off) (jj _ (qYU (Nat.mul_pos (by rw [hlen,zF];omega) (hP.slice ht heq).2)))
          rw [yX hsa,hr']
          rfl
        . have hz:cap-len=0:=by omega
          rw [hz] at hr hr'⊢
          have:rest= []:=by simpa using hr.symm
          subst this
          split
          . rw [hr'];rfl
          . rfl
      . cases h
    .
      rename_i fs cs _
      split at h
      . rename_i hc
        rw [yX hc]
        obtain ⟨xs,hx,rfl⟩:=Option.map_eq_some_iff.1 h
        rw [qDw hx (λf hff y hy hf=>ih _ _ _ (hP.struct ht heq f hff) hf (λp hp=>hs p (List.mem_flatMap.2 ⟨y,hy,hp⟩)))]
        rfl
      . cases h
    .
      split at h
      . rename_i hc
        rw [yX hc]
        obtain ⟨xs,hx,rfl⟩:=Option.map_eq_some_iff.1 h
        rw [qDw hx (λf _ y hy hf=>ih _ _ _ (hP.array ht heq) hf (λp hp=>hs p (List.mem_flatMap.2 ⟨y,hy,hp⟩)))]
        rfl
      . cases h
    .
      rename_i k e b
      cases ho:w.heap[b]? with
      |none=>rw [ho] at h;cases h
      |some o=>
        have e1:w'.heap[b]?=some o:=hl _ _ (show hp w b=some o from ho)
        rw [ho] at h
        rw [e1]
        cases o with
        |map es clock=>
          dsimp only at h⊢
          split at h
          . rename_i hc
            rw [yX hc]
            obtain ⟨entries,he,h2⟩:=Option.bind_eq_some_iff.1 h
            split at h2
            . rename_i hr
              obtain rfl:=zn h2
              rw [qDw he (λy _ z hz hy=>by
                obtain ⟨key,hk,hy2⟩:=Option.bind_eq_some_iff.1 hy
                rw [hk]
                simp only [Option.bind_some]
                split at hy2
                . rename_i hf
                  rw [yX hf]
                  obtain ⟨u,hu,rfl⟩:=Option.map_eq_some_iff.1 hy2
                  rw [ih _ _ _ (hP.map ht heq) hu (λp hp=>hs p (List.mem_cons_of_mem _ (List.mem_flatMap.2 ⟨_,hz,hp⟩)))]
                  rfl
                . cases hy2)]
              simp only [Option.bind_some]
              rw [yX hr]
            . cases h2
          . cases h
        |_=>cases h
theorem qZP{H:Type}{enc:TypeId×Value->H}{P:Program}{w w':World}(hl:Le (hp w) (hp w')){N:Nat}(hP:qCL P N){base:Nat}{sp:Nat->Bool}{t:TypeId}(ht:t<N){v:Value}{d:DataW H}{ps:List MemPlace}
    (h:DataW.Trod enc P w base (λ_=>true) true t v d ps) (hs: ∀p∈ps,sp p.block=true):DataW.Trod enc P w' base sp true t v d ps:=by
  obtain ⟨n,h⟩:=h
  exact⟨n,qXI hl hP n t _ _ ht h hs⟩
theorem qJJ{H:Type}{enc:TypeId×Value->H}{P:Program}{w w':World}(hl:Le (hp w) (hp w')){N:Nat}(hP:qCL P N){base:Nat}{sp:Nat->Bool}: ∀{ts:List TypeId} {vs:yU} {ds:List (DataW H)} {ps:List MemPlace},(∀t∈ts,t<N)->
    DataW.TrodAll enc P w base (λ_=>true) true ts vs ds ps->(∀p∈ps,sp p.block=true)->DataW.TrodAll enc P w' base sp true ts vs ds ps
  | [],[],[],_,_,h,_=>h
  |_::_,_::_,_::_,_,ht,⟨p,q,h,h2,e⟩,hs=>⟨p,q,qZP hl hP (ht _ (.head _)) h (λx hx=>hs x (by rw [e];simp [hx])),qJJ hl hP (λt h=>ht t (.tail _ h)) h2 (λx hx=>hs x (by rw [e];simp [hx])),e⟩
theorem qPW{w w':World}(hos:w'.os=w.os)(hout:w'.output=w.output)(hl:Le (hp w) (hp w'))(may:MemPlace->Prop):w.keptBut w' may:=by
  refine⟨hos,hout,λi hi=>?_⟩
  have h1:w.heap[i]?=some w.heap[i]:=yM hi
  have h2:w'.heap[i]?=some w.heap[i]:=hl _ _ (show hp w i=some w.heap[i] from h1)
  rw [h1,h2]
  cases w.heap[i] with
  |cells c t fr=>exact⟨O,O,O,λ_ _=>rfl⟩
  |map es clock=>exact .inr ⟨O,O⟩
  |_=>rfl
theorem Djs.one(m:Hp):Djs [m]:=by simp [Djs,Dj,U]
theorem St.start(w:World):St ⟨w,λ_=>none,[]⟩ [hp w] w:=⟨rfl,rfl,rfl,jL _,Djs.one _,λg o h=>by
  simp only [U] at h
  cases hg:hp w g with
  |none=>rw [hg] at h;cases h
  |some x=>rw [hg] at h;exact h,λ_ _ _=> .inl O,λg o h=>by cases h⟩
theorem qVE{H:Type}{enc:TypeId×Value->H}{P:Program}{f:Func}{s:ChangeSpec}{W:World}{args:Array Value}{ds:List (DataW H)}{before:List MemPlace}{b:TypeId}
    {N:Nat} (hP:qCL P N) (hpar:f.params.toList.all (Nat.blt · N)=true) (hvars:s.vars= []) (hres:f.resultTypes= #[b]) (hb:P.underlying b=some .bool) (hfn:s.fn H ds={results:= [.lit (.bool true)],args:=ds})
    (hW:DataW.Whole enc P f.params.toList s.vars false W args.toList ds [] before) {fid:FuncId} (hct:Ct P fid args.toList [hp W] (λ_:Unit=> .bool true) (λ_=>True) (λ_=> [hp W])):
    Calls P fid args W λe W'=> ∃v,e= .returned v/\s.post enc P f false true false false W args v W':=by
  have h:=hct _ W (St.start W)
  refine(show Calls P fid args W _ from h).mono λe W' ⟨_,he,_,hs⟩=>⟨.bool true,he,?_⟩
  have hle:Le (hp W) (hp W'):=hs.mem (.head _)
  have hW':=hW
  obtain ⟨p,q,hA,hV,rfl,_,_⟩:=hW
  rw [hvars] at hV
  have hq:q= []:=hV
  subst hq
  have hold: ∀x∈p,(λb=>decide (b<W.heap.size)) x.block=true:=λx hx=>by simpa using hW'.lt x (by simpa using hx)
  refine⟨ds,[],p++ [],[],p,[],hW',?_,?_,?_,qPW hs.os hs.out hle _,λh=>by cases h⟩
  . rw [jS,hfn,hres]
    exact ChangeShapes.trodAll_mk1 (RowKit.shut_bool hb true)
  . rw [jS,hfn]
    exact qJJ hle hP (λt ht=>by simpa [Nat.blt_eq] using List.all_eq_true.1 hpar t ht) hA hold
  . rw [hvars];rw [jS,hfn];rfl
theorem cells_of_tab{P:Program}{W:World}{name:String}{k:IntKind}{zs:List Int}{rest:List (String×DataW Unit)}{g:Nat}{t e:TypeId}{n:Nat}
    (hg:P.globalNamed name=some g) (hty:(P.globals[g]?).map (·.type)=some t) (ht:P.underlying t=some (.array n e)) (he:P.underlying e=some (.int k)) (hce:P.cellsOf e=1) (hct:P.cellsOf t=n)
    (h:laidMet P ((name,Lib.tabData k zs)::rest) W):qAI (hp W) ⟨g,0,none⟩ (zs.map λz=>Value.int k z):=by
  have h1:=Lib.tabIs_of_head hg hty ht he hce hct h
  unfold Lib.TabIs World.var? at h1
  rw [hg] at h1
  simp only [Option.bind_some] at h1
  cases ho:W.heap[g]? with
  |none=>rw [ho] at h1;cases h1
  |some o=>
    rw [ho] at h1
    cases o with
    |cells cs e' fz=>
      dsimp only at h1
      cases h1
      exact⟨O,_,e',fz,ho,λj u hj=>by simpa using hj⟩
    |_=>cases h1
section
variable{H:Type}{enc:TypeId×Value->H}{P:Program}{w:World}{base:Nat}{sp:Nat->Bool}{held:Bool}{r:Reach}{b0:Nat}{t:TypeId}{v:Value}{d:DataW H}{ps:List MemPlace}
theorem qX7(ht:P.underlying t=some (.int .u8))(hval:Value.okWide P w r b0 t v)(hd:DataW.Trod enc P w base sp held t v d ps): ∃b:UInt8,v=B8 b:=by
  obtain ⟨x,rfl,_,_,hw⟩:=ChangeShapes.open_int ht hval hd
  simp only [Lit.wf,IntKind.min,IntKind.max,IntKind.signed,IntKind.bits,jh,yZ] at hw
  refine⟨UInt8.ofNat x.toNat,?_⟩
  have h1:(UInt8.ofNat x.toNat).toNat=x.toNat:=by rw [jm];simp at hw;omega
  show Value.int .u8 x=Value.int .u8 _
  rw [h1];simp at hw;congr 1;omega
theorem qG1{α β:Type}{f:α->Option β}: ∀{l:List α} {r:List β},l.mapM f=some r-> ∀(i:Nat) (a:α),l[i]?=some a-> ∃b,r[i]?=some b/\f a=some b
  | [],r,h,i,a,ha=>by simp at ha
  |x::l,r,h,i,a,ha=>by
    simp only [List.mapM_cons,Option.bind_eq_bind,Option.bind_eq_some_iff,Option.pure_def,Option.some.injEq] at h
    obtain ⟨b,hb,r',hr',rfl⟩:=h
    cases i with
    |zero=>simp at ha;subst ha;exact⟨b,O,hb⟩
    |succ i=>exact qG1 hr' i a (by simpa using ha)
theorem qMy{W:World}{base:Nat}{ad:Addr}{n:Nat}{cs:yU}(hn:0<n)(h:W.cells? base ad n=some cs):cs.length=n/\qAI (hp W) ad cs:=by
  unfold World.cells? at h
  split at h
  . have hlen:=qG0 h
    rw [zF] at hlen
    have hget: ∀i,i<n-> ∃b,cs[i]?=some b/\W.cell? (ad.add i)=some b:=λi hi=>qG1 h i i (by rw [zD];exact hi)
    obtain ⟨b0,_,h0⟩:=hget 0 hn
    rw [qDD] at h0
    unfold World.cell? at h0
    cases ho:W.heap[ad.block]? with
    |none=>rw [ho] at h0;cases h0
    |some o=>
      rw [ho] at h0
      cases o with
      |cells c e fz=>
        dsimp only at h0
        have hsp:ad.spot=none:=by
          split at h0
          . cases h0
          . rename_i hh;cases hs:ad.spot with
            |none=>rfl
            |some x=>rw [hs] at hh;simp at hh
        refine⟨hlen,hsp,c,e,fz,ho,λj u hj=>?_⟩
        have hjn:j<n:=by rw [<-hlen];exact(List.getElem?_eq_some_iff.1 hj).1
        obtain ⟨b,hb,hc⟩:=hget j hjn
        rw [hj] at hb
        cases hb
        rw [qOj hsp] at hc
        unfold World.cell? at hc
        simp only [ho] at hc
        simpa using hc
      |_=>cases h0
  . cases h
theorem qX8{e:TypeId}{W:World}(ht:P.underlying t=some (.slice e))(he:0<P.cellsOf e)(hval:Value.okWide P W r b0 t v)(hd:DataW.Trod enc P W 0 (λ_=>true) true t v d ps):
    ∃A n c xs,v= .slice A n c/\Sl (hp W) (P.cellsOf e) A n c xs/\n<=maxLen/\ ∀x∈xs,∃fuel y,DataW.trod enc P W 0 (λ_=>true) true fuel e x=some y:=by
  obtain ⟨A,n,c,rfl⟩:=WideShapes.okWide_slice ht hval
  obtain ⟨fuel,h⟩:=hd
  cases fuel with
  |zero=>simp [DataW.trod] at h
  |succ fuel=>
    unfold DataW.trod at h
    rw [ht] at h
    cases A with
    |none=>
      have hnc:n=0/\c=0:=by
        rcases n with _|n
        . rcases c with _|c
          . exact⟨O,O⟩
          . simp [Value.cells] at h
        . simp [Value.cells] at h
      obtain ⟨rfl,rfl⟩:=hnc
      exact⟨none,0,0,[],O,Sl.nil,jH _,by simp⟩
    |some ad=>
      simp only [Value.cells] at h
      split at h
      . rename_i hc
        obtain ⟨elems,hel,h2⟩:=Option.bind_eq_some_iff.1 h
        have hlen:=qG0 hel
        rw [zF] at hlen
        have key: ∀i,i<n-> ∃x y,W.cells? 0 (ad.add (i*P.cellsOf e)) (P.cellsOf e)=some x/\DataW.trod enc P W 0 (λ_=>true) true fuel e x=some y:=λi hi=>by
          obtain ⟨b,_,hb⟩:=qG1 hel i i (by rw [zD];exact hi)
          obtain ⟨x,hx,hy⟩:=Option.bind_eq_some_iff.1 hb
          exact⟨x,b,hx,hy⟩
        have hex: ∃xs:List yU,xs.length=n/\ ∀i x,xs[i]?=some x->W.cells? 0 (ad.add (i*P.cellsOf e)) (P.cellsOf e)=some x/\ ∃y,DataW.trod enc P W 0 (λ_=>true) true fuel e x=some y:=by
          clear h h2 hel hlen hval hc elems
          induction n with
          |zero=>exact⟨[],O,by simp⟩
          |succ n ih=>
            obtain ⟨xs,h1,h2⟩:=ih (λi hi=>key i xB)
            obtain ⟨x,y,hx,hy⟩:=key n xB
            refine⟨xs++ [x],by simp [h1],λi z hz=>?_⟩
            by_cases hi:i<n
            . rw [jk xB] at hz
              exact h2 i z hz
            . have:i<(xs++ [x]).length:=(List.getElem?_eq_some_iff.1 hz).1
              simp [h1] at this
              have e1:i=n:=xB
              subst e1
              rw [ja xB,h1,zK] at hz
              simp at hz
              subst hz
              exact⟨hx,y,hy⟩
        obtain ⟨xs,h1,h3⟩:=hex
        refine⟨some ad,n,c,xs,O,⟨h1,hc.2.1,λi x hx=>?_⟩,jf hc.2.1 hc.2.2,λx hx=>?_⟩
        . obtain ⟨h4,_⟩:=h3 i x hx
          obtain ⟨h5,h6⟩:=qMy he h4
          exact⟨h5,ad,O,h6⟩
        . obtain ⟨i,hi⟩:=List.mem_iff_getElem?.1 hx
          exact⟨fuel,(h3 i x hi).2⟩
      . cases h
theorem qXG{e:TypeId}{W:World}{x:Value}{fuel:Nat}{y:DataW H×List MemPlace}(he:P.underlying e=some (.int .u8))(h:DataW.trod enc P W 0 (λ_=>true) true fuel e [x]=some y): ∃b:UInt8,x=B8 b:=by
  obtain ⟨z,hz,_,hw⟩:=DataW.trod_int he h
  simp only [List.cons.injEq,and_true] at hz
  subst hz
  simp only [Lit.wf,IntKind.min,IntKind.max,IntKind.signed,IntKind.bits,jh,yZ] at hw
  refine⟨UInt8.ofNat z.toNat,?_⟩
  have h1:(UInt8.ofNat z.toNat).toNat=z.toNat:=by rw [jm];simp at hw;omega
  show Value.int .u8 z=Value.int .u8 _
  rw [h1];simp at hw;congr 1;omega
theorem qaL{e:TypeId}{W:World}{x:Value}{fuel:Nat}{y:DataW H×List MemPlace}(he:P.underlying e=some (.int .i64))(h:DataW.trod enc P W 0 (λ_=>true) true fuel e [x]=some y): ∃b:Int,x=I b/\ -9223372036854775808<=b/\b<=9223372036854775807:=by
  obtain ⟨z,hz,_,hw⟩:=DataW.trod_int he h
  simp only [List.cons.injEq,and_true] at hz
  subst hz
  simp only [Lit.wf,IntKind.min,IntKind.max,IntKind.signed,IntKind.bits,jh,yZ] at hw
  simp at hw
  exact⟨z,O,xB,xB⟩
theorem qQU{e:TypeId}{W:World}{x:yU}{fuel:Nat}{fs:Array Field}{y:DataW H×List MemPlace}(ht:P.underlying e=some (.struct fs))(h:DataW.trod enc P W 0 (λ_=>true) true fuel e x=some y):
    x.length=P.cellsOf e/\ ∀(i:Nat) f,fs.toList[i]?=some f-> ∃fuel y,DataW.trod enc P W 0 (λ_=>true) true fuel f.type ((x.drop f.offset).take (P.cellsOf f.type))=some y:=by
  cases fuel with
  |zero=>simp [DataW.trod] at h
  |succ fuel=>
    unfold DataW.trod at h
    rw [ht] at h
    have h':(if x.length=P.cellsOf e then(fs.toList.mapM λf=>DataW.trod enc P W 0 (λ_=>true) true fuel f.type ((x.drop f.offset).take (P.cellsOf f.type))).map (λxs=>(DataW.agg (xs.map (·.1)),xs.flatMap (·.2))) else none)=some y:=h
    clear h
    split at h'
    . rename_i hl
      obtain ⟨xs,hm,_⟩:=Option.map_eq_some_iff.1 h'
      refine⟨hl,λi f hf=>?_⟩
      obtain ⟨z,_,hz⟩:=qG1 hm i f hf
      exact⟨fuel,z,hz⟩
    . cases h'
theorem qQo{α:Type}{f:α->yU}{Q:α->Prop}: ∀{xs:List yU},(∀x∈xs,∃a,x=f a/\Q a)-> ∃l:List α,xs=l.map f/\ ∀a∈l,Q a
  | [],_=>⟨[],rfl,by simp⟩
  |x::xs,h=>by
    obtain ⟨a,rfl,ha⟩:=h x (.head _)
    obtain ⟨l,rfl,hl⟩:=qQo (λy hy=>h y (.tail _ hy))
    exact⟨a::l,O,λb hb=>by rcases List.mem_cons.1 hb with rfl|hb;exact ha;exact hl b hb⟩
end
end Go.Fw