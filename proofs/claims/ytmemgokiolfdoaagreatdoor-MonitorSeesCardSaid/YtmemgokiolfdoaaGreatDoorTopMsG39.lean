/- A part of the proof. -/
import Derived.Test.YtmemgokiolfdoaaGreatDoorTopMsG38
import Derived.Test.YtmemgokiolfdoaaGreatDoorTopMsG18
set_option maxRecDepth 100000
set_option maxHeartbeats 1000000
set_option linter.unusedSimpArgs false
set_option linter.unusedVariables false
namespace Go.Proofs.YtmemgokiolfdoaaGreatDoor
open Go Go.Fw Go.Proofs.Tryz
theorem qMG{P:Program}{env:Env}{ms:List Hp}{o:Oper}{t e x n' by'}(ho:o.op= .makeSlice t x x)(hx:ev env x=some (I (n':Nat)))(hu:P.underlying t=some (.slice e))(he:qCY P e [.int .i64 0] by')(hb:by'*n'≤281474976710656)(hn:n'≤9223372036854775807):
    EOp P env ms o (λx:Nat×Hp=> .slice (some ⟨x.1,0,none⟩) n' n') (λx=>Row x.2 e 1 (some ⟨x.1,0,none⟩) n' n' (qBp (List.replicate n' 0))) (λx=>ms++ [x.2]):=λn a w0 w next Q hk hs hq=>
  qBx ho hx hu he hb hn n a w0 w next Q hk hs λg w' _ hst=>by
    refine hq (g,blk g (List.replicate n' [.int .i64 0]).flatten e) w' ?_ hst
    have e1:qBp (List.replicate n' 0)=List.replicate n' [Value.int .i64 0]:=by unfold qBp;rw [List.map_replicate];rfl
    show Row (blk g (List.replicate n' [.int .i64 0]).flatten e) e 1 (some ⟨g,0,none⟩) n' n' (qBp (List.replicate n' 0))
    rw [e1]
    exact qAm (q:=True) (sz:=1) xD (by intro y hy;rw [(List.mem_replicate.1 hy).2];rfl)
def stK(p:Nat×Nat):Value:= .agg #[I (p.1:Nat),I (p.2:Nat)]
theorem qUQ(a b:Nat):(((a:Int)==(b:Int))=decide (a=b)):=by
 by_cases h:a=b
 · simp [h]
 · rw [decide_eq_false h,beq_eq_false_iff_ne];omega
theorem eqSt(x y:Nat×Nat)(w:World):(Op.equalIn 10000 345 (stK x) (stK y)).run prog w= .ok (decide (x=y)) w:=by
 have u3:=u3_
 have a3:=b3_
 have hS:prog.underlying 345=some (.struct (prog.fieldsOf 345)):=xI
 have hp:prog.stoodInHeld 345=false:=xI
 unfold stK
 rw [show(10000:Nat)=9999+1 from rfl,run_equalIn_struct w 9999 345 _ _ hS hp]
 simp only [Program.fieldsOf,underlying345]
 obtain ⟨v,b⟩:=x
 obtain ⟨v',b'⟩:=y
 have hj: ∀(a b:Int) (w:World),(Op.equalIn 9999 3 (.int .i64 a) (.int .i64 b)).run prog w= .ok (a==b) w:=λa b w=>run_equalIn_int w 9998 3 .i64 .i64 a b u3
 simp only [Op.eqFields]
 simp [part,a3,hj,qUQ]
 by_cases h1:v=v'<;>by_cases h2:b=b'<;>simp [h1,h2]
theorem ckSt(x:Nat×Nat)(e:Bool)(w:World):(Instr.checkKey e 10000 345 (stK x)).run prog w= .ok () w:=by
 have a3:=b3_
 have us:=run_underlying (w:=w) underlying345
 have c2: ∀(v:Int),(Instr.checkKey e 9999 3 (.int .i64 v)).run prog w= .ok () w:=λv=>MapKept.run_checkKey (d:= .int .i64) u3_ (k:= .int .i64 v) (show IntKind.i64=IntKind.i64 from rfl) e 9998
 unfold stK
 rw [show(10000:Nat)=9999+1 from rfl]
 unfold Instr.checkKey
 simp only [Sem.run_bind,us,Result.andThen_ok]
 rw [←Array.forIn_toList]
 simp [part,a3,c2,Result.andThen]
theorem qZW:qSu stK prog 345 where
 wide:=by kernel_rfl
 ck:=ckSt
 eq a b w:=eqSt a b w
 inj a b h:=by
  unfold stK at h
  obtain ⟨v,b1⟩:=a
  obtain ⟨v',b2⟩:=b
  simp at h
  exact Prod.ext (by dsimp only;omega) (by dsimp only;omega)
def qE2(v:VtD):Nat×Nat:=(v.b,v.nm)
def qD0(vs:List VtD):List ((Nat×Nat)×Value):=vs.map λv=>(qE2 v,.bool true)
theorem qIE{vs:List VtD}{s:Nat×Nat}(h: ∀v∈vs,qE2 v≠s):qJc (qD0 vs) s=none:=by
 induction vs with
 |nil=>rfl
 |cons v r ih=>
  show(if qE2 v=s then some (Value.bool true) else qJc (qD0 r) s)=none
  rw [if_neg (h v (.head _))]
  exact ih λz hz=>h z (.tail _ hz)
theorem qOe{vs:List VtD}{s:Nat×Nat}(h: ∃v∈vs,qE2 v=s):qJc (qD0 vs) s=some (.bool true):=by
  induction vs with
  |nil=>obtain ⟨v,hv,_⟩:=h;cases hv
  |cons v r ih=>
    show(if qE2 v=s then some (Value.bool true) else qJc (qD0 r) s)=_
    by_cases e:qE2 v=s
    · rw [if_pos e]
    · rw [if_neg e]
      obtain ⟨z,hz,hs⟩:=h
      cases hz with
      |head=>exact absurd hs e
      |tail _ hz=>exact ih ⟨z,hz,hs⟩
theorem qKB{α:Type}(l:List α)(i:Nat)(no:α)(h:i<l.length):l.take (i+1)=l.take i++ [l.getD i no]:=by
 rw [jK h,jB,jC h];rfl
theorem qOd{vs:List VtD}{i:Nat}(h:i<vs.length):qD0 (vs.take i)++ [(qE2 (vs.getD i qAr),.bool true)]=qD0 (vs.take (i+1)):=by
 rw [qKB vs i qAr h];unfold qD0;rw [jO];rfl
def qZ3(vs:List VtD):Prop:= ∀i j,i<j→j<vs.length→qE2 (vs.getD i qAr)≠qE2 (vs.getD j qAr)
theorem qJT{vs:List VtD}{i:Nat}{v:VtD}(h:v∈vs.take i): ∃j,j<i∧j<vs.length∧v=vs.getD j qAr:=by
 obtain ⟨j,hj,rfl⟩:=zL h
 rw [jF] at hj
 refine⟨j,xB,xB,?_⟩
 rw [List.getElem_take,jB,jC xB];rfl
theorem qZ3.none{vs:List VtD}(h:qZ3 vs){i:Nat}(hi:i<vs.length):qJc (qD0 (vs.take i)) (qE2 (vs.getD i qAr))=none:=qIE λv hv=>by
 obtain ⟨j,h1,_,rfl⟩:=qJT hv
 exact h j i h1 hi
def qMk(vs:List VtD)(b:Nat):Nat:=(vs.filter λv=>decide (v.b=b)).length
def qJn(n:Nat)(vs:List VtD):List Nat:=(List.range n).map (qMk vs)
theorem qFP(n:Nat)(vs:List VtD):(qJn n vs).length=n:=by unfold qJn;rw [jP,zg]
theorem qGY{n:Nat}{vs:List VtD}{b:Nat}(h:b<n):(qJn n vs).getD b 0=qMk vs b:=by
 unfold qJn;rw [jB,jN,zB h];rfl
theorem qVA(n:Nat):qJn n []=List.replicate n 0:=by
 unfold qJn
 induction n with
 |zero=>rfl
 |succ n ih=>rw [jx,jO,ih,List.replicate_succ'];rfl
theorem qSJ{n:Nat}{vs:List VtD}{i:Nat}(hi:i<vs.length):(qJn n (vs.take i)).set (vs.getD i qAr).b ((qJn n (vs.take i)).getD (vs.getD i qAr).b 0+1)=qJn n (vs.take (i+1)):=by
  apply zV
  intro j
  rw [zC,qFP]
  have hs: ∀b,qMk (vs.take (i+1)) b=qMk (vs.take i) b+if(vs.getD i qAr).b=b then 1 else 0:=λb=>by
    unfold qMk
    rw [qKB vs i qAr hi,jo,jA,jl,zu]
    by_cases e:(vs.getD i qAr).b=b
    · rw [if_pos (decide_eq_true e),if_pos e];rfl
    · rw [if_neg (by simpa using e),if_neg e];rfl
  by_cases hj:j<n
  · have e2:(qJn n (vs.take (i+1)))[j]?=some (qMk (vs.take (i+1)) j):=by unfold qJn;rw [jN,zB hj];rfl
    have e1:(qJn n (vs.take i))[j]?=some (qMk (vs.take i) j):=by unfold qJn;rw [jN,zB hj];rfl
    rw [e2,e1,hs]
    by_cases e:(vs.getD i qAr).b=j
    · rw [if_pos e,if_pos xB,if_pos e,e,qGY hj]
    · rw [if_neg e,if_neg e];rfl
  · have e2:(qJn n (vs.take (i+1)))[j]?=none:=jd (by rw [qFP];omega)
    have e1:(qJn n (vs.take i))[j]?=none:=jd (by rw [qFP];omega)
    rw [e2,e1]
    split
    · rw [if_neg xB]
    · rfl
def qL6(W:Nat→List Int)(sl n b nm:Nat):Bool:=decide (b<n)&&decide (0≤Wd.find ((W b).take sl) ((nm:Nat):Int) 0)
theorem qWh{G:Hp}{W:Nat→List Int}{sl n:Nat}{ws:List WnD}(h:qEu G W sl ws)(hl:ws.length=n)(b nm:Nat):qGt ws b nm=qL6 W sl n b nm:=by
 unfold qGt qL6
 rw [hl]
 by_cases hb:b<n
 · rw [(h b xB).1]
 · rw [decide_eq_false hb];rfl
def qLm(x y:Hd)(W:Nat→List Int)(sl n:Nat)(v:VtD):Nat:=if y.dig= []∨v.ep≠y.ep∨v.hd≠y.dig then 15 else if qL6 W sl n v.b v.nm=false then 17 else if qSy x v=false then 18 else if qTG v=false then 12 else 0
theorem vck_W{G:Hp}{W:Nat→List Int}{sl n:Nat}{ws:List WnD}(h:qEu G W sl ws)(hl:ws.length=n)(x y:Hd)(v:VtD):qOM x y ws v=qLm x y W sl n v:=by
 unfold qOM qLm
 rw [qWh h hl]
theorem qPo{x y:Hd}{W:Nat→List Int}{sl n:Nat}{v:VtD}(h:qLm x y W sl n v=0):v.b<n:=by
  unfold qLm at h
  split at h
  · cases h
  · split at h
    · cases h
    · rename_i h2
      unfold qL6 at h2
      simp at h2
      exact h2.1
def qKM(vs:List VtD)(i:Nat):Bool:=(vs.take i).any λv=>decide (qE2 v=qE2 (vs.getD i qAr))
theorem qNA(vs:List VtD)(i:Nat):qJc (qD0 (vs.take i)) (qE2 (vs.getD i qAr))=if qKM vs i=true then some (.bool true) else none:=by
  by_cases h:qKM vs i=true
  · rw [if_pos h]
    obtain ⟨v,hv,h2⟩:=List.any_eq_true.1 h
    exact qOe ⟨v,hv,of_decide_eq_true h2⟩
  · rw [if_neg h]
    exact qIE λv hv e=>h (List.any_eq_true.2 ⟨v,hv,decide_eq_true e⟩)
def qHt(x y:Hd)(W:Nat→List Int)(sl n nd:Nat)(vs:List VtD):Nat→Nat
 |0=>if∀b,b<n→nd≤qMk vs b then 0 else 16
 |k+1=>if qKM vs (vs.length-(k+1))=true then 19 else if qLm x y W sl n (vs.getD (vs.length-(k+1)) qAr)=0 then qHt x y W sl n nd vs k else qLm x y W sl n (vs.getD (vs.length-(k+1)) qAr)
theorem qTo{x y:Hd}{W:Nat→List Int}{sl n nd:Nat}{vs:List VtD}{i:Nat}(hi:i<vs.length):qHt x y W sl n nd vs (vs.length-i)=if qKM vs i=true then 19 else if qLm x y W sl n (vs.getD i qAr)=0 then qHt x y W sl n nd vs (vs.length-(i+1)) else qLm x y W sl n (vs.getD i qAr):=by
 obtain ⟨k,hk⟩: ∃k,vs.length-i=k+1:=⟨vs.length-i-1,xB⟩
 rw [hk,qHt,show vs.length-(k+1)=i by omega,show vs.length-(i+1)=k by omega]
def qFw(x y:Hd)(W:Nat→List Int)(sl n nd:Nat)(vs:List VtD):Int:=if x.next y=0 then((qHt x y W sl n nd vs vs.length:Nat):Int) else x.next y
theorem qST(F:Hp)(hK:qAG F ⟨3,0,none⟩ (Sha.K.map W32))(x:Hd)(A:Option Addr)(c:Nat)(hg:x.good)(hsl:Sl F 1 A x.nodes.length c (qAH x.nodes))(y:Hd)(B:Option Addr)(e:Nat)(hgy:y.good)(hsy:Sl F 1 B y.nodes.length e (qAH y.nodes))(hsm: ∀s∈x.nodes,s.length≤1048576)(d a sl nd:Nat)(hd:d≤4)(hxd:x.dep=((d:Nat):Int))(hx:x.err=0)(h1:1≤nd)(h2:nd≤sl)(h3:sl≤a)(h4:a≤64)(W:Nat→List Int)(hW:qVb x.dig (2^d) a sl W)(Av:Option Addr)(nv cv:Nat)(vs:List VtD)(hvs:Sl F 15 Av nv cv (qYe vs))(hnv:nv≤100000)(hvo: ∀i,i<vs.length→qS0 F (vs.getD i qAr)):
    Cz prog 171 [.agg #[N64 y.ep,Str y.par,I y.dep,I y.aud,.slice B y.nodes.length e,.slice Av nv cv],.agg #[N64 x.ep,Str x.par,I x.dep,I x.aud,.slice A x.nodes.length c],I (a:Nat),.agg #[I (sl:Nat),I (nd:Nat)]] F (I (qFw x y W sl (2^d) nd vs)):=by
  have hvl:vs.length=nv:=by have:=hvs.1;simpa [qYe] using this
  have hpw:=qXE hd
  refine Ct.walk func171 O ntmps171 O (λw0 hw0=>?_)
  refine J.f λ_ j1=>J.q (qAb O O O) O λg4 _=>J.q (qAb O O O) O λg5 _=>J.q (qAb O O O) O λg7 _=>J.b O<|J.c j1 ?_
  refine J.k λ_ j2=>J.f λ_ j3=>J.c0 2 qGA qDP O O O O O<|J.W 0 qPw qDP O O O O O<|J.g (qAP O O qGA qDP (m:=blk g4 [N64 y.ep,Str (y.par),I (y.dep),I (y.aud),.slice B y.nodes.length e,.slice Av nv cv] 209) xD (qAG.blk0.sub 0 5) O) O<|J.q (qAZ O O (λF' hF=>qUz F' (hK.mo hF) x A c hg (hsl.mono (Fa hF)) y B e hgy (hsy.mono (Fa hF)))) O λg23 _=>J.b O<|J.c j3 ?_
  refine J.f λ_ j4=>J.b O<|J.g (qAV O O O) O<|J.c j4 ?_
  refine J.Z O (λh25=>?_) (λh25=>?_)
  ·
    refine J.f λ_ j5=>J.p 2 O<|J.c j5 ?_
    exact J.A<|J.V<|J.E hw0 O () (by unfold qFw;rw [if_neg h25]) trivial [0] O xC
  refine J.M j2 ?_
  refine J.f λ_ j6=>J.c0 2 qGA qDP O O O O O<|J.b O<|J.c0 3 isAgg191 sizeOf191 O O O O O<|J.q (qBb O O (λF' hF=>qOL F' (hK.mo hF) x A c hg (hsl.mono (Fa hF)) d a sl nd hd hxd hx h1 h2 h3 h4 W hW)) O ?_
  rintro r31 hp31
  refine J.p 5 O<|J.c j6 ?_
  refine J.k λ_ j7=>J.f λ_ j8=>J.b O<|J.g ((qAV O O O).no xC) O<|J.c j8 ?_
  refine J.a3 ?_
  refine J.M j7 ?_
  refine J.f λ_ j9=>J.q (qDI O) O ?_
  rintro g37 _
  refine J.b O<|J.c j9 ?_
  refine J.f λ_ j10=>J.b O<|J.g (qAO qOR O O) O<|J.q (qMG O (by show some (I (r31.ws.length:Nat))=_;rw [hp31.len]) qEa el3 xB xB) O ?_
  rintro⟨g40,m40⟩ h40
  try dsimp only at h40
  rw [←qVA] at h40
  refine J.b O<|J.c j10 ?_
  refine J.k λ_ j11=>J.f λ_ j12=>J.W 5 qPw sizeOf207 O O O O O<|J.a6 1 isAgg207 O O O O O<|J.g (qAO underlying207 O O) O<|J.b O<|J.c j12 ?_
  refine J.T<|J.b5 (X:=Nat×Hp×Hp) (λζ=> [(4,Ptr g4),(5,Ptr g5),(7,Ptr g7),(10,.slice r31.A r31.ws.length r31.c),(12,.map (some g37)),(13,.slice (some ⟨g40,0,none⟩) (2^d) (2^d)),(42,.slice Av nv cv),(43,I (nv:Nat)),(44,I (ζ.1:Nat))]) (λζ=> [F,blk g4 [N64 y.ep,Str (y.par),I (y.dep),I (y.aud),.slice B y.nodes.length e,.slice Av nv cv] 209,blk g5 [N64 x.ep,Str (x.par),I (x.dep),I (x.aud),.slice A x.nodes.length c] 52,blk g7 [I (sl:Nat),I (nd:Nat)] 191,r31.mr,r31.G,ζ.2.1,ζ.2.2]) (λζ=>ζ.1≤nv∧qF0 stK ζ.2.1 g37 (qD0 (vs.take ζ.1))∧Row ζ.2.2 3 1 (some ⟨g40,0,none⟩) (2^d) (2^d) (qBp (qJn (2^d) (vs.take ζ.1)))∧qHt x y W sl (2^d) nd vs (vs.length-ζ.1)=qHt x y W sl (2^d) nd vs vs.length) (λζ=>nv-ζ.1) (0,qAN g37 (.map #[] 0),m40) (⟨jE _,qF0.nil stK g37,h40,O⟩) ⟨O,O,O,O,O,O,O,O,O,trivial⟩ (λ_ h=>h) ?_
  rintro⟨i,mm,mc⟩ ⟨hi,hmm,hrc,hsc⟩ I0 hI0
  dsimp only at hi hmm hrc hsc⊢
  refine J.f λ_ j13=>J.g (qAS O O O) O<|J.c j13 ?_
  refine J.k λ_ j14=>J.Z O (λh45=>?_) (λh45=>?_)
  ·
    refine J.M j14 ?_
    refine J.k λ_ j15=>J.T<|J.f λ_ j16=>J.g (qAF O O O underlying207 sizeOf206 hvs xB) O<|J.g (qAP O O isAgg206 sizeOf206 (m:=F) xD (hvs.elem (qTC xB)) O) O<|J.q (qAJ O zeroValue206 O) O λg15 _=>J.a7 (qAC (i:=8) (l:= [.int .u64 0,I 0,Str [],I 0,I 0,.slice none 0 0,.slice none 0 0,Str [],Str [],Str [],I 0,.slice none 0 0,.bool false,Str [],Str []]) (vs:= [N64 ((vs.getD i qAr).ep),I ((vs.getD i qAr).b:Nat),Str ((vs.getD i qAr).hd),I ((vs.getD i qAr).nm:Nat),I ((vs.getD i qAr).i:Nat),.slice (vs.getD i qAr).chA (vs.getD i qAr).ch.length (vs.getD i qAr).chc,.slice (vs.getD i qAr).ptA (vs.getD i qAr).pt.length (vs.getD i qAr).ptc,Str ((vs.getD i qAr).an),Str ((vs.getD i qAr).op),Str ((vs.getD i qAr).rt),I ((vs.getD i qAr).ht:Nat),.slice (vs.getD i qAr).bsA (vs.getD i qAr).bs.length (vs.getD i qAr).bsc,.bool ((vs.getD i qAr).th),Str ((vs.getD i qAr).pk),Str ((vs.getD i qAr).pv)]) O O O O O sizeOf206 O O) O O λ_ _=>J.c j16 ?_
    refine J.f λ_ j17=>J.W 0 qEg qDD O O O O O<|J.W 1 qCe z3_ O O O O O<|J.a6 8 b3_ O O O O O<|J.W 0 qEg qDD O O O O O<|J.W 3 qCe z3_ O O O O O<|J.a6 8 b3_ O O O O O<|J.g (qAL (places:= [(0,1),(1,1)]) (r:= [I ((vs.getD i qAr).b:Nat),I ((vs.getD i qAr).nm:Nat)]) O O O underlying345 zeroValue345 (λ_=>xI) O) O<|J.q (qAJ O zeroValue345 O) O λg16 _=>J.a7 (qAC (i:=9) (l:= [I 0,I 0]) (vs:= [I ((vs.getD i qAr).b:Nat),I ((vs.getD i qAr).nm:Nat)]) O O O O O sizeOf345 O O) O O λ_ _=>J.c j17 ?_
    refine J.k λ_ j18=>J.k λ_ j19=>?_
    have hvi:=hvo i xB
    have hvk:qOM x y r31.ws (vs.getD i qAr)=qLm x y W sl (2^d) (vs.getD i qAr):=vck_W hp31.ok hp31.len x y (vs.getD i qAr)
    have hsc2:=qTo (x:=x) (y:=y) (W:=W) (sl:=sl) (n:=2^d) (nd:=nd) (vs:=vs) (i:=i) xB
    rw [hsc] at hsc2
    refine J.H<|J.b O<|J.c0 9 isAgg345 sizeOf345 O O O O O<|J.g ((qHC qZW O O O underlying343 e4_ (m:=mm) xD hmm.at).as (v':= .bool (qKM vs i)) (by rw [qNA];cases qKM vs i<;>rfl)) O<|J.c j19 ?_
    refine J.c5 O (λh57=>?_) (λh57=>?_)
    ·
      refine J.f λ_ j20=>J.b O<|J.c j20 ?_
      exact J.A<|J.V<|J.a5<|J.V<|J.V<|J.a5<|J.V<|J.E hw0 O () (by unfold qFw;rw [if_pos (show x.next y=0 by omega),hsc2,if_pos h57];rfl) trivial [0] O xC
    refine J.M j18 ?_
    refine J.k λ_ j21=>?_
    have hnone:qJc (qD0 (vs.take i)) (qE2 (vs.getD i qAr))=none:=by rw [qNA,h57];rfl
    rw [h57,if_neg xC] at hsc2
    refine J.H<|J.b O<|J.c0 9 isAgg345 sizeOf345 O O O O O<|J.a7 (qIM qZW O O O O underlying343 (i:=6) O hmm hnone) O O ?_
    rintro m15 hm15
    rw [qOd xB] at hm15
    refine J.c j21 ?_
    refine J.k λ_ j22=>J.f λ_ j23=>J.c0 8 isAgg206 sizeOf206 O O O O O<|J.c0 2 qGA qDP O O O O O<|J.W 0 qPw qDP O O O O O<|J.g (qAP O O qGA qDP (m:=blk g4 [N64 y.ep,Str (y.par),I (y.dep),I (y.aud),.slice B y.nodes.length e,.slice Av nv cv] 209) xD (qAG.blk0.sub 0 5) O) O<|J.b O<|J.q (qAZ O O (λF' hF=>(by have:=qPq F' (hK.mo hF) (vs.getD i qAr) (hvi.mono (Fa hF)) x A c hg (hsl.mono (Fa hF)) y B e hgy (hsy.mono (Fa hF)) hsm r31.A r31.ws.length r31.c r31.ws (hp31.row.sl.mono (Fa hF)) W sl xB (hp31.ok.mono (Fa hF));rw [hvk] at this;exact this))) O λg65 _=>J.b O<|J.c j23 ?_
    refine J.f λ_ j24=>J.b O<|J.g (qAV O O O) O<|J.c j24 ?_
    refine J.Z O (λh67=>?_) (λh67=>?_)
    ·
      refine J.f λ_ j25=>J.p 2 O<|J.c j25 ?_
      exact J.A<|J.V<|J.a5<|J.V<|J.V<|J.a5<|J.V<|J.E hw0 O () (by unfold qFw;rw [if_pos (show x.next y=0 by omega),hsc2,if_neg xB]) trivial [0] O xC
    refine J.M j22 ?_
    have hvz:qLm x y W sl (2^d) (vs.getD i qAr)=0:=xB
    have hbn:=qPo hvz
    rw [if_pos hvz] at hsc2
    have hcl:=qFP (2^d) (vs.take i)
    have hcg:=qGY (vs:=vs.take i) hbn
    have hcv:qMk (vs.take i) (vs.getD i qAr).b≤i:=jg (zZ _ _) (by rw [jF];omega)
    refine J.H<|J.b O<|J.W 0 qEg qDD O O O O O<|J.W 1 qCe z3_ O O O O O<|J.g (qAD 8 (v:=I ((vs.getD i qAr).b:Nat)) O O O b3_ O) O<|J.g (qAh (i:=(vs.getD i qAr).b) (j:=0+((vs.getD i qAr).b)*1) O O O qEa z3_ xB xB) O<|J.g (qAI O O b3_ (m:=mc) xD (hrc.sl.cells (qDL xB))) O<|J.g ((qAR O O O xB).as (v':=I ((qJn (2^d) (vs.take i)).getD ((vs.getD i qAr).b) 0+1:Nat)) (congrArg I xB)) O<|J.g (qAh (i:=(vs.getD i qAr).b) (j:=0+((vs.getD i qAr).b)*1) O O O qEa z3_ xB xB) O<|J.a7 (qBL (i:=7) (k:=(vs.getD i qAr).b) (off:=0) (b:= [I ((qJn (2^d) (vs.take i)).getD ((vs.getD i qAr).b) 0+1:Nat)]) O O O O hrc (vs:= [I ((qJn (2^d) (vs.take i)).getD ((vs.getD i qAr).b) 0+1:Nat)]) O z3_ O xB (qDL xB) O (jJ _)) O O ?_
    rintro m19_1 hm19_1
    change J _ _ _ [F,blk g4 [N64 y.ep,Str (y.par),I (y.dep),I (y.aud),.slice B y.nodes.length e,.slice Av nv cv] 209,blk g5 [N64 x.ep,Str (x.par),I (x.dep),I (x.aud),.slice A x.nodes.length c] 52,blk g7 [I (sl:Nat),I (nd:Nat)] 191,r31.mr,r31.G,m15,m19_1,blk g15 [N64 ((vs.getD i qAr).ep),I ((vs.getD i qAr).b:Nat),Str ((vs.getD i qAr).hd),I ((vs.getD i qAr).nm:Nat),I ((vs.getD i qAr).i:Nat),.slice (vs.getD i qAr).chA (vs.getD i qAr).ch.length (vs.getD i qAr).chc,.slice (vs.getD i qAr).ptA (vs.getD i qAr).pt.length (vs.getD i qAr).ptc,Str ((vs.getD i qAr).an),Str ((vs.getD i qAr).op),Str ((vs.getD i qAr).rt),I ((vs.getD i qAr).ht:Nat),.slice (vs.getD i qAr).bsA (vs.getD i qAr).bs.length (vs.getD i qAr).bsc,.bool ((vs.getD i qAr).th),Str ((vs.getD i qAr).pk),Str ((vs.getD i qAr).pv)] 206,blk g16 [I ((vs.getD i qAr).b:Nat),I ((vs.getD i qAr).nm:Nat)] 345] _
    rw [qRL] at hm19_1
    refine J.a4<|J.a2<|J.u (J.D j15 ?_)
    exact J.H<|J.g ((qAR O O O xB).nat (i+1) xB) O<|J.b O<|J.a4<|J.u<|J.a8 (i+1,m15,m19_1) (λη (hη:_∧nv-η.1<nv-i)=>hI0 η hη.1 hη.2) ⟨⟨by dsimp only;omega,hm15,by dsimp only;rw [←qSJ (n:=2^d) xB];exact hm19_1,hsc2.symm⟩,by first|omega|(dsimp only;omega)⟩ ⟨O,O,O,O,O,O,O,O,O,trivial⟩ (λ_ h=>h.pick [0,1,2,3,4,5,6,7] xC)
  refine J.b3<|J.a0<|J.a0<|J.b4 ?_
  refine J.u (J.D j11 ?_)
  refine J.k λ_ j26=>J.k λ_ j27=>?_
  obtain rfl:i=vs.length:=by omega
  rw [jm] at hrc
  rw [jv,qHt] at hsc
  refine J.H<|J.b O<|J.g (qAO qEa O O) O<|J.b O<|J.c j27 ?_
  refine J.T<|J.b5 (X:=Nat) (λζ=> [(7,Ptr g7),(78,.slice (some ⟨g40,0,none⟩) (2^d) (2^d)),(79,I ((2^d):Nat)),(80,I (ζ:Nat))]) (λζ=> [F,blk g4 [N64 y.ep,Str (y.par),I (y.dep),I (y.aud),.slice B y.nodes.length e,.slice Av nv cv] 209,blk g5 [N64 x.ep,Str (x.par),I (x.dep),I (x.aud),.slice A x.nodes.length c] 52,blk g7 [I (sl:Nat),I (nd:Nat)] 191,r31.mr,r31.G,mm,mc]) (λζ=>ζ≤2^d∧ ∀b,b<ζ→nd≤qMk vs b) (λζ=>2^d-ζ) 0 (⟨jE _,λb h=>absurd h (jy b)⟩) ⟨O,O,O,O,trivial⟩ (λ_ h=>h) ?_
  rintro k ⟨hk,hlo⟩ I2 hI2
  refine J.f λ_ j28=>J.g (qAS O O O) O<|J.c j28 ?_
  refine J.k λ_ j29=>J.Z O (λh81=>?_) (λh81=>?_)
  ·
    refine J.M j29 ?_
    refine J.k λ_ j30=>J.T<|J.k λ_ j31=>?_
    have hcl2:=qFP (2^d) vs
    refine J.H<|J.g (qAh (i:=k) (j:=0+k*1) O O O qEa z3_ xB xB) O<|J.g (qAI O O b3_ (m:=mc) xD (hrc.sl.cells (qDL xB))) O<|J.b O<|J.c j31 ?_
    refine J.f λ_ j32=>J.b O<|J.W 1 qHp z3_ O O O O O<|J.a6 3 b3_ O O O O O<|J.g (qAS O O O) O<|J.c j32 ?_
    refine J.Z O (λh87=>?_) (λh87=>?_)
    ·
      refine J.f λ_ j33=>J.b O<|J.c j33 ?_
      refine J.A<|J.a5<|J.V<|J.V<|J.a5<|J.V ?_
      have hno: ¬ ∀b,b<2^d→nd≤qMk vs b:=λh=>by have:=h k xB;rw [←qGY (vs:=vs) (show k<2^d by omega)] at this;omega
      rw [if_neg hno] at hsc
      exact J.E hw0 O () (by unfold qFw;rw [if_pos (show x.next y=0 by omega),←hsc];rfl) trivial [0] O xC
    refine J.b2<|J.a2<|J.u (J.D j30 ?_)
    exact J.H<|J.g ((qAR O O O xB).nat (k+1) xB) O<|J.b O<|J.a4<|J.u<|J.a8 (k+1) (λη (hη:_∧2^d-η<2^d-k)=>hI2 η hη.1 hη.2) ⟨⟨xB,λb hb=>by rcases Nat.lt_succ_iff_lt_or_eq.1 hb with h|rfl;exact hlo b h;rw [←qGY (vs:=vs) (show b<2^d by omega)];omega⟩,by first|omega|(dsimp only;omega)⟩ ⟨O,O,O,O,trivial⟩ (λ_ h=>h)
  refine J.b3<|J.a0<|J.a0<|J.b4 ?_
  refine J.u (J.D j26 ?_)
  refine J.f λ_ j34=>J.b O<|J.c j34 ?_
  refine J.A ?_
  have hall: ∀b,b<2^d→nd≤qMk vs b:=λb hb=>hlo b xB
  rw [if_pos hall] at hsc
  exact J.E hw0 O () (by unfold qFw;rw [if_pos (show x.next y=0 by omega),←hsc];rfl) trivial [0] O xC
end Go.Proofs.YtmemgokiolfdoaaGreatDoor