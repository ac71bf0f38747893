/- A part of the proof. -/
import Derived.Test.YtcgcjaflllmlpaaGreatDoorTopCfG8
import Derived.Test.YtcgcjaflllmlpaaGreatDoorTopCfG28
set_option linter.unusedSimpArgs false
set_option linter.unusedVariables false
namespace Go.Proofs.YtcgcjaflllmlpaaGreatDoor
open Go Go.Fw Go.Proofs.Tryz
set_option maxRecDepth 100000
set_option maxHeartbeats 1000000
theorem ent204:qAD prog 204:=qAD.of func204 rfl (by kernel_rfl)
theorem ent205:qAD prog 205:=qAD.of func205 rfl (by kernel_rfl)
theorem ent211:qAD prog 211:=qAD.of func211 rfl (by kernel_rfl)
theorem ent214:qAD prog 214:=qAD.of func214 rfl (by kernel_rfl)
theorem ent234:qAD prog 234:=qAD.of func234 rfl (by kernel_rfl)
theorem ent235:qAD prog 235:=qAD.of func235 rfl (by kernel_rfl)
theorem el308:qCe prog 308 [.int .i64 0,Str []] 24:=qCe.of (by kernel_rfl) rfl
abbrev Wri:=Nat×List UInt8
structure Dk where
 last:List (List UInt8)
 wait:List Wri
 off:Bool
 armed:Bool
 fuse:Int
 keep:List UInt8
def qDP(l:List Wri):List (List Value):=l.map λw=> [I w.1,Str w.2]
theorem qO7(a b:List Wri):qDP (a++b)=qDP a++qDP b:=by simp [qDP]
theorem qF8{l:List Wri}{k:Nat}(h:k<l.length):(qDP l)[k]?=some [I (l.getD k (0,[])).1,Str (l.getD k (0,[])).2]:=by
 unfold qDP
 rw [jO,qAj (0,[]) h];rfl
theorem qO6(l:List Wri):(qDP l).all (λx=>x.all Value.oneCell')=true:=by simp [qDP,Value.oneCell']
theorem qHX(a b:List (List UInt8)):qAI (a++b)=qAI a++qAI b:=by simp [qAI]
def Dk.cells(d:Dk)(A:Option Addr)(c:Nat)(B:Option Addr)(e:Nat)(C:Option Addr)(f:Nat):List Value:= [.slice A d.last.length c,.slice B d.wait.length e,.bool d.off,.bool d.armed,I d.fuse,.slice C d.keep.length f]
def Dsk(mm:Hp)(g:Nat)(d:Dk)(C:Option Addr)(f:Nat):Prop:= ∃A c mL B e mW,mm=U [blk g (d.cells A c B e C f) 134,mL,mW]∧Djs [blk g (d.cells A c B e C f) 134,mL,mW]∧Row mL 9 1 A d.last.length c (qAI d.last)∧Row mW 308 2 B d.wait.length e (qDP d.wait)
theorem Dsk.see{mm:Hp}{g:Nat}{d:Dk}{C:Option Addr}{f:Nat}(h:Dsk mm g d C f): ∃A c B e,qAR mm ⟨g,0,none⟩ (d.cells A c B e C f)∧Sl mm 1 A d.last.length c (qAI d.last)∧Sl mm 2 B d.wait.length e (qDP d.wait):=by
 obtain ⟨A,c,mL,B,e,mW,rfl,hd,h1,h2⟩:=h
 exact⟨A,c,B,e,qAR.blk0.mono (qEy hd (.head _)),h1.sl.mono (qEy hd (.tail _ (.head _))),h2.sl.mono (qEy hd (.tail _ (.tail _ (.head _))))⟩
def Dk.ready(d:Dk)(i:Int):Int:=if d.off then 8 else if i<0∨(d.last.length:Int)≤i then 10 else 0
def qU1(l:List Wri)(i:Nat):Nat→Option (List UInt8)
 |0=>none
 |k+1=>if(l.getD k (0,[])).1=i then some (l.getD k (0,[])).2 else qU1 l i k
theorem qJo(l:List Wri)(i:Nat):qU1 l i 0=none:=rfl
theorem qPl(l:List Wri)(i k:Nat):qU1 l i (k+1)=if(l.getD k (0,[])).1=i then some (l.getD k (0,[])).2 else qU1 l i k:=rfl
def Dk.now(d:Dk)(i:Nat):List UInt8:=(qU1 d.wait i d.wait.length).getD (d.last.getD i [])
def Dk.read(d:Dk)(i:Int):List UInt8:=if d.ready i=0 then d.now i.toNat else []
def qXu(old t:List UInt8)(n:Nat):List UInt8:=t.take n++old.drop n
def qLt(L:List (List UInt8))(w:Wri)(n:Nat):List (List UInt8):=L.set w.1 (qXu (L.getD w.1 []) w.2 n)
theorem qKL(L:List (List UInt8))(w:Wri)(n:Nat):(qLt L w n).length=L.length:=by unfold qLt;rw [jm]
def qDB(L:List (List UInt8))(W:List Wri):Nat→List (List UInt8)
 |0=>L
 |k+1=>qLt (qDB L W k) (W.getD k (0,[])) 64
def qJC(L:List (List UInt8))(W:List Wri)(K:List UInt8):Nat→List (List UInt8)
 |0=>L
 |k+1=>if k<K.length then qLt (qJC L W K k) (W.getD k (0,[])) (min (K.getD k 0).toNat 64) else qJC L W K k
theorem qBK(L:List (List UInt8))(W:List Wri): ∀k,(qDB L W k).length=L.length
 |0=>rfl
 |k+1=>by rw [qDB,qKL,qBK L W k]
theorem qBN(L:List (List UInt8))(W:List Wri)(K:List UInt8): ∀k,(qJC L W K k).length=L.length
 |0=>rfl
 |k+1=>by
  rw [qJC]
  split
  · rw [qKL,qBN L W K k]
  · exact qBN L W K k
def Dk.cut(d:Dk)(K:List UInt8):Dk:={d with last:=qJC d.last d.wait K d.wait.length,wait:= [],off:=true,armed:=false}
def Dk.burns(d:Dk):Prop:=d.armed=true∧d.fuse-1<0
instance (d:Dk):Decidable d.burns:=by unfold Dk.burns;infer_instance
def Dk.burn(d:Dk):Dk:=if d.armed=true then(if d.fuse-1<0 then{d with fuse:=d.fuse-1}.cut d.keep else{d with fuse:=d.fuse-1}) else d
def qRL(s:List UInt8):List UInt8:=s++List.replicate (64-s.length) 0
theorem qUB{s:List UInt8}(h:s.length≤64):(qRL s).length=64:=by unfold qRL;rw [jA,jJ];omega
structure Dk.ok0 (d:Dk):Prop where
 l64: ∀s∈d.last,s.length=64
 w64: ∀w∈d.wait,w.1<d.last.length∧w.2.length=64
 n0:0<d.last.length
 n1:d.last.length≤1024
structure Dk.ok (d:Dk):Prop extends Dk.ok0 d where
 fz:d.armed=true→0≤d.fuse
 fb: -9223372036854775808≤d.fuse∧d.fuse≤9223372036854775807
theorem qSi{o t:List UInt8}{n:Nat}(ho:o.length=64)(ht:t.length=64)(hn:n≤64):(qXu o t n).length=64:=by unfold qXu;rw [jA,jF,jI];omega
theorem qXG{L:List (List UInt8)}(h: ∀s∈L,s.length=64){k:Nat}(hk:k<L.length):(L.getD k []).length=64:=by
 rw [jB,jC hk];exact h _ (jX hk)
theorem qT9{W:List Wri}{p:Wri→Prop}(h: ∀w∈W,p w){k:Nat}(hk:k<W.length):p (W.getD k (0,[])):=by
 rw [jB,jC hk];exact h _ (jX hk)
theorem qNM{L:List (List UInt8)}(h: ∀s∈L,s.length=64){w:Wri}(hw:w.1<L.length∧w.2.length=64){n:Nat}(hn:n≤64): ∀s∈qLt L w n,s.length=64:=λs hs=>by
 unfold qLt at hs
 rcases yE hs with hs|rfl
 · exact h s hs
 · exact qSi (qXG h hw.1) hw.2 hn
theorem qIM{L:List (List UInt8)}{W:List Wri}(h: ∀s∈L,s.length=64)(hw: ∀w∈W,w.1<L.length∧w.2.length=64): ∀k,k≤W.length→ ∀s∈qDB L W k,s.length=64
 |0,_=>h
 |k+1,hk=>by
  rw [qDB]
  exact qNM (qIM h hw k (by omega)) (by rw [qBK];exact qT9 hw (show k<W.length by omega)) (jK _)
theorem qJB{L:List (List UInt8)}{W:List Wri}{K:List UInt8}(h: ∀s∈L,s.length=64)(hw: ∀w∈W,w.1<L.length∧w.2.length=64): ∀k,k≤W.length→ ∀s∈qJC L W K k,s.length=64
 |0,_=>h
 |k+1,hk=>by
  rw [qJC]
  split
  · exact qNM (qJB h hw k (by omega)) (by rw [qBN];exact qT9 hw (show k<W.length by omega)) (Nat.min_le_right _ _)
  · exact qJB h hw k (by omega)
theorem Dk.ok0.cut{d:Dk}(h:d.ok0)(K:List UInt8):(d.cut K).ok0:=
 ⟨qJB h.l64 h.w64 _ (jK _),(λw hw=>nomatch hw),by show 0<(qJC _ _ _ _).length;rw [qBN];exact h.n0,by show(qJC _ _ _ _).length≤_;rw [qBN];exact h.n1⟩
theorem Dk.ok.cut{d:Dk}(h:d.ok)(K:List UInt8):(d.cut K).ok:=⟨Dk.ok0.cut h.1 K,(λe=>nomatch e),h.fb⟩
theorem Dk.ok.burn{d:Dk}(h:d.ok):d.burn.ok:=by
  unfold Dk.burn
  split
  · rename_i ha
    have h1:=h.fz ha
    have h2:=h.fb
    split
    · exact⟨Dk.ok0.cut (d:={d with fuse:=d.fuse-1}) ⟨h.l64,h.w64,h.n0,h.n1⟩ _,(λe=>nomatch e),by show _≤d.fuse-1∧d.fuse-1≤_;omega⟩
    · exact⟨⟨h.l64,h.w64,h.n0,h.n1⟩,λ_=>by show 0≤d.fuse-1;omega,by show _≤d.fuse-1∧d.fuse-1≤_;omega⟩
  · exact h
def Dk.wErr(d:Dk)(i:Int)(s:List UInt8):Int:=if d.ready i≠0 then d.ready i else if 64<s.length then 2 else if d.burns then 8 else 0
def Dk.write(d:Dk)(i:Int)(s:List UInt8):Dk:=if d.ready i≠0 then d else if 64<s.length then d else if d.burns then d.burn else{d.burn with wait:=d.burn.wait++ [(i.toNat,qRL s)]}
def Dk.sErr(d:Dk):Int:=if d.ready 0≠0 then d.ready 0 else if d.burns then 8 else 0
def Dk.sync(d:Dk):Dk:=if d.ready 0≠0 then d else if d.burns then d.burn else{d.burn with last:=qDB d.burn.last d.burn.wait d.burn.wait.length,wait:= []}
def Dk.new(n:Nat):Dk:=⟨List.replicate n (List.replicate 64 0),[],false,false,0,[]⟩
theorem qMk{d:Dk}{i:Int}(h:d.ready i=0):0≤i∧i<d.last.length∧d.off=false:=by
  unfold Dk.ready at h
  split at h
  · cases h
  · rename_i h1
    split at h
    · cases h
    · exact⟨by omega,by omega,by simpa using h1⟩
theorem qDo{d:Dk}(h: ¬d.burns):d.burn.last=d.last∧d.burn.wait=d.wait∧d.burn.off=d.off:=by
  unfold Dk.burn
  split
  · rename_i ha
    rw [if_neg (λe=>h ⟨ha,e⟩)];exact⟨rfl,rfl,rfl⟩
  · exact⟨rfl,rfl,rfl⟩
theorem Dk.ok.write{d:Dk}(h:d.ok)(i:Int)(s:List UInt8):(d.write i s).ok:=by
  unfold Dk.write
  split
  · exact h
  · rename_i h0
    split
    · exact h
    · rename_i h1
      have hb:=h.burn
      split
      · exact hb
      · rename_i h2
        obtain ⟨r1,r2,_⟩:=qMk (Decidable.not_not.1 h0)
        refine⟨⟨hb.l64,λw hw=>?_,hb.n0,hb.n1⟩,hb.fz,hb.fb⟩
        rcases List.mem_append.1 hw with hw|hw
        · exact hb.w64 w hw
        · simp only [jR] at hw
          subst hw
          exact⟨by show i.toNat<d.burn.last.length;rw [(qDo h2).1];omega,qUB (by omega)⟩
theorem Dk.ok.sync{d:Dk}(h:d.ok):d.sync.ok:=by
  unfold Dk.sync
  split
  · exact h
  · have hb:=h.burn
    split
    · exact hb
    · exact⟨⟨qIM hb.l64 hb.w64 _ (jK _),(λw hw=>nomatch hw),by show 0<(qDB _ _ _).length;rw [qBK];exact hb.n0,by show(qDB _ _ _).length≤_;rw [qBK];exact hb.n1⟩,hb.fz,hb.fb⟩
theorem Dk.new_ok{n:Nat}(h:4≤n)(h2:n≤1024):(Dk.new n).ok:=⟨⟨λs hs=>by have:=zO hs;rw [this,jJ],(λw hw=>nomatch hw),by show 0<(List.replicate n _).length;rw [jJ];omega,by show(List.replicate n _).length≤_;rw [jJ];exact h2⟩,(λe=>nomatch e),⟨by show-9223372036854775808≤(0:Int);decide,by show(0:Int)≤_;decide⟩⟩
theorem qIX(F:Hp)(g:Nat)(d:Dk)(A:Option Addr)(c:Nat)(B:Option Addr)(e:Nat)(C:Option Addr)(f:Nat)(hc:qAR F ⟨g,0,none⟩ (d.cells A c B e C f))(i:Int)(hn:d.last.length≤1073741824):
    Cz prog 204 [Ptr g,I i] F (I (d.ready i)):=by
  refine Ct.walk func204 rfl ntmps204 rfl (λw0 hw0=>?_)
  refine J.f λ_ j1=>J.b O<|J.c j1<|J.k λ_ j2=>J.O<|J.f λ_ j3=>J.b O<|J.g ((qA6 underlying82 O O O).as (v':= .bool false) O) O<|J.b O<|J.c j3<|J.a1 ?_
  refine J.f λ_ j4=>J.b O<|J.g (qAC O O) O<|J.T 2 qCZ z4_ O O O O O<|J.g ((qAJ O O b4_ (m:=F) (by simp) (hc.at (i:=2) rfl)).as (v':= .bool (decide (d.off=true))) (congrArg Value.bool (by simp))) rfl<|J.b rfl<|J.c j4<|J.W rfl (λh8=>?_) (λh8=>?_)
  ·
    exact J.f λ_ j5=>J.b O<|J.c j5<|J.A<|J.a7<|J.V<|J.E hw0 O () (congrArg I (show(8:Int)=d.ready i by unfold Dk.ready;rw [if_pos h8])) trivial [0] rfl (by decide)
  refine J.f λ_ j6=>J.b O<|J.g (qAT O O O) O<|J.b O<|J.b9 (d:=16) O (λh16=>?_) (λh16=>?_)
  ·
    refine J.q 9 O<|J.c j6<|J.c4 ?_
    exact J.f λ_ j7=>J.b O<|J.c j7<|J.A<|J.a7<|J.V<|J.E hw0 O () (congrArg I (show(10:Int)=d.ready i by unfold Dk.ready;rw [if_neg h8,if_pos (by omega)])) trivial [0] rfl (by decide)
  refine J.q 2 O<|J.G (qAC O O) O<|J.G (qAA O O qCZ O qBs O) O<|J.G (qAJ O O qB8 (m:=F) (by simp) (hc.at (i:=0) rfl)) rfl<|J.G (qAU qAk rfl rfl) rfl<|J.G (qBA rfl rfl rfl) rfl<|J.q 2 rfl<|J.c j6<|J.W rfl (λh13=>?_) (λh13=>?_)
  ·
    exact J.f λ_ j8=>J.b O<|J.c j8<|J.A<|J.a7<|J.V<|J.E hw0 O () (congrArg I (show(10:Int)=d.ready i by unfold Dk.ready;rw [if_neg h8,if_pos (by omega)])) trivial [0] rfl (by decide)
  refine J.b5<|J.a2<|J.u (J.D j2 ?_)
  exact J.f λ_ j9=>J.b O<|J.c j9<|J.A<|J.E hw0 O () (congrArg I (show(0:Int)=d.ready i by unfold Dk.ready;rw [if_neg h8,if_neg (by omega)])) trivial [0] rfl (by decide)
theorem qNZ(F:Hp)(g:Nat)(d:Dk)(A:Option Addr)(c:Nat)(B:Option Addr)(e:Nat)(C:Option Addr)(f:Nat)(hc:qAR F ⟨g,0,none⟩ (d.cells A c B e C f)):
    Cz prog 123 [Ptr g] F (I d.last.length):=by
  refine Ct.walk func123 rfl ntmps123 rfl (λw0 hw0=>?_)
  refine J.f λ_ j1=>J.b O<|J.c j1<|J.k λ_ j2=>J.f λ_ j3=>J.b O<|J.g ((qA6 underlying82 O O O).as (v':= .bool false) O) O<|J.c j3<|J.a1 ?_
  exact J.M j2<|J.f λ_ j4=>J.b O<|J.g (qAC O O) O<|J.T 0 qCZ qBs O O O O O<|J.g (qAJ O O qB8 (m:=F) (by simp) (hc.at (i:=0) rfl)) rfl<|J.g (qAU qAk rfl rfl) rfl<|J.b rfl<|J.c j4<|J.A<|J.E hw0 rfl () rfl trivial [0] rfl (by decide)
theorem qUY(F:Hp)(B:Option Addr)(n e:Nat):Ct prog 205 [.slice B n e] [F] (λx:Nat=> .func (.func 234) #[] #[Ptr x]) (λ_=>True) (λx=> [F,blk x [.slice B n e] 132]):=by
 refine Ct.walk func205 rfl ntmps205 rfl (λw0 hw0=>?_)
 exact J.f λ_ j1=>J.p (qAd O O O) O λg1 _=>J.b O<|J.c j1<|J.f λ_ j2=>J.g (qBg O O) O<|J.b O<|J.c j2<|J.A<|J.E hw0 O g1 O trivial [0,1] O (by decide)
theorem qRz(Fr:Hp)(gB:Nat)(B:Option Addr)(W:List Wri)(e:Nat)(hn2:W.length≤1073741824)(ha:qAR Fr ⟨gB,0,none⟩ [.slice B W.length e])(hs:Sl Fr 2 B W.length e (qDP W)):
    qJL prog 234 [Ptr gB] Fr (λi=> [I ((W.length-1-i:Nat):Int),.agg #[I (W.getD (W.length-1-i) (0,[])).1,Str (W.getD (W.length-1-i) (0,[])).2]]) W.length:=by
  refine qJL.walk func234 rfl ntmps234 rfl (λ{X} M IY S l x0 w0 hw0 h0 hY=>?_)
  refine J.f λ_ j1=>J.g (qAJ O O isAgg132 (m:=Fr) (by simp) (ha)) rfl<|J.g (qAU qII rfl rfl) rfl<|J.g ((qA4 rfl rfl rfl (by omega)).as (v':=I ((W.length:Int)-1-((0:Nat):Int))) (congrArg I (by omega))) rfl<|J.b rfl<|J.c j1<|J.O<|J.b4 (X:=Nat×X) (λy=> [(0,.func (.yield l) #[] #[]),(1,Ptr gB),(3,I ((W.length:Int)-1-(y.1:Int)))]) (λy=> [Fr,M y.2]) (λy=>y.1≤W.length∧IY y.1 y.2) (λy=>W.length-y.1) (0,x0) (⟨jG _,h0⟩) ⟨rfl,rfl,rfl,trivial⟩ (λ_ h=>h) ?_
  rintro⟨i,x⟩ ⟨hi,hI⟩ I0 hI0
  dsimp only at hi hI⊢
  refine J.k λ_ j2=>J.f λ_ j3=>J.b O<|J.g (qBA O O O) O<|J.c j3<|J.W O (λh8=>?_) (λh8=>?_)
  ·
    refine J.M j2<|J.k λ_ j4=>J.O<|J.k λ_ j5=>J.f5 ?_
    refine J.c5 (qA0 O O) O O O ?_
    refine J.c5 ((qA0 O O).nat (W.length-1-i) (by omega)) O O O ?_
    refine J.c5 (qAJ O O isAgg132 (m:=Fr) (by simp) (ha)) rfl rfl rfl ?_
    refine J.c5 ((qA0 O O).nat (W.length-1-i) (by omega)) O O O ?_
    refine J.c5 (qAH O O O qII qF3 hs (by omega)) O O O ?_
    refine J.c5 (qAX O O isAgg308 qF3 (m:=Fr) (by simp) (hs.elem (qF8 (by omega))) rfl) rfl rfl rfl ?_
    refine J.f6 (ex:= []) O O O O O O (hY i x (by omega) hI) ?_
    rintro x' b hb1 hb2
    cases b
    ·
      have hyb:=hb2 rfl
      refine J.c5 (qAy O O) O O O ?_
      refine J.e2 ?_
      refine J.u (J.D j5 ?_)
      refine J.c4 ?_
      exact J.A<|J.a7<|J.V<|J.V<|J.a7<|J.a9 hw0 (λ_ _ h=>h) (qJP O) (λw hs=>⟨x',⟨_,O⟩,.inr hyb,hs⟩)
    have hyb:=hb1 rfl
    refine J.c5 (qAy O O) O O O ?_
    refine J.e2 ?_
    refine J.u (J.D j5 ?_)
    refine J.a1 ?_
    refine J.b5<|J.a2<|J.u (J.D j4 ?_)
    exact J.H<|J.b O<|J.g ((qA4 O O O (by omega)).as (v':=I ((W.length:Int)-1-((i+1:Nat):Int))) (congrArg I (by omega))) O<|J.b O<|J.a3<|J.u<|J.a4 (i+1,x') (λy (hy:_∧W.length-y.1<W.length-i)=>hI0 y hy.1 hy.2) ⟨⟨by dsimp only;omega,hyb⟩,by dsimp only;omega⟩ ⟨O,O,O,trivial⟩ (λ_ h=>h)
  refine J.b2<|J.a0<|J.a0<|J.b3 ?_
  exact J.d7 hw0 (λ_ _ h=>h) (qJP O) (λw hs=>⟨x,⟨_,O⟩,.inl (by rw [show W.length=i by omega];exact hI),hs⟩)
theorem qSt(F:Hp)(g:Nat)(d:Dk)(A:Option Addr)(c:Nat)(B:Option Addr)(e:Nat)(C:Option Addr)(f:Nat)(hc:qAR F ⟨g,0,none⟩ (d.cells A c B e C f))(hL:Sl F 1 A d.last.length c (qAI d.last))(hW:Sl F 2 B d.wait.length e (qDP d.wait))(i:Int)(hn:d.last.length≤1073741824)(hn2:d.wait.length≤1073741824):
    Cz prog 172 [Ptr g,I i] F (.tuple #[Str (d.read i),I (d.ready i)]):=by
  refine Ct.walk func172 rfl ntmps172 rfl (λw0 hw0=>?_)
  refine J.f λ_ j1=>J.p (qAd O O O) O λg3 _=>J.p (qAL O e9_ O) O λg4 _=>J.p (qAL O zeroValue28 O) O λg5 _=>J.c j1<|J.k λ_ j2=>J.f λ_ j3=>J.b O<|J.a5 1 b3_ O O O O O<|J.p (qAB O O ent204 (Ct.use0 (λF' hF=>qIX F' g d A c B e C f (hc.mono (Fa hF)) i hn))) O λg11 _=>J.b O<|J.c j3<|J.f λ_ j4=>J.b O<|J.g (qAe O O O) O<|J.c j4<|J.W O (λh13=>?_) (λh13=>?_)
  ·
    exact J.f λ_ j5=>J.b O<|J.a6 (qAF (i:=2) O O O O O z9_ O O) O O λ_ _=>J.a6 (qAF (l:= [I 0]) (i:=3) (vs:= [I (d.ready i)]) O O O O O qMI O O) O O λ_ _=>J.c j5<|J.A<|J.V<|J.a9 hw0 (λ_ _ h=>h) (rv2 O (RV.blk1 2 O O b9_) (RV.blk1 3 O O qSN)) (qAq () (by rw [show d.read i= [] from if_neg (by omega)]) trivial [0] rfl (by decide))
  refine J.M j2<|J.k λ_ j6=>J.k λ_ j7=>?_
  have h0:d.ready i=0:=by omega
  obtain ⟨hi0,hil⟩:0≤i∧i<d.last.length:=by
    unfold Dk.ready at h0
    split at h0
    · cases h0
    · split at h0
      · cases h0
      · omega
  obtain ⟨iN,hiN⟩:=zh hi0
  have hrd:d.read i=d.now iN:=by unfold Dk.read;rw [if_pos h0,hiN];rfl
  refine J.H<|J.b O<|J.g (qAC O O) O<|J.T 1 qCZ qHA O O O O O<|J.g (qAJ O O isAgg132 (m:=F) (by simp) (hc.at (i:=1) rfl)) rfl<|J.p (qAB rfl rfl ent205 (Ct.use (λF' _=>qUY F' B d.wait.length e))) rfl ?_
  rintro gB _
  refine J.c j7<|J.O<|J.c1 [2,3,0,1,4] [blk g4 [Str []] 9,blk g5 [I 0] 28,F,blk g3 [I i] 3,blk gB [.slice B d.wait.length e] 132] O (by decide)<|J.f8 (λx:List UInt8×Int=> [blk g4 [Str x.1] 9,blk g5 [I x.2] 28]) [F,blk g3 [I i] 3,blk gB [.slice B d.wait.length e] 132] (λr x=>x=([],0)∧d.now iN=(qU1 d.wait iN (d.wait.length-r)).getD (d.last.getD iN [])) (λcd x=>cd= .ret∧x=(d.now iN,0)) ([],0) O ent234 (λFr hF=>qRz Fr gB B d.wait e hn2 (qAR.blk0.mono (hF (blk gB [.slice B d.wait.length e] 132) (by simp))) (hW.mono (Fa hF))) (λ_ _=>rfl) rfl (⟨rfl,rfl⟩) ?_ ?_ ?_
  ·
    intro r x l wa wb hi hI K8 Post8 j8 hN8 hR8 hE8
    obtain ⟨x1,x2⟩:=x
    obtain ⟨hx,hnow⟩:=hI
    cases hx
    have hsk:qU1 d.wait iN (d.wait.length-r)=if(d.wait.getD (d.wait.length-1-r) (0,[])).1=iN then some (d.wait.getD (d.wait.length-1-r) (0,[])).2 else qU1 d.wait iN (d.wait.length-(r+1)):=by
      have:=qPl d.wait iN (d.wait.length-1-r)
      rw [show d.wait.length-1-r+1=d.wait.length-r by omega] at this
      rw [this,show d.wait.length-(r+1)=d.wait.length-1-r by omega]
    refine J.d9 ?_
    refine J.p (qAL O zeroValue308 O) O λg8 _=>J.a6 (qAF (l:= [I 0,Str []]) (i:=5) (vs:= [I (d.wait.getD (d.wait.length-1-r) (0,[])).1,Str (d.wait.getD (d.wait.length-1-r) (0,[])).2]) O O O O O qF3 O O) O O λ_ _=>J.e0 ?_
    refine J.u (j8 _ _ ?_)
    refine J.f4 ?_
    refine J.f3 (λ_ j9=>?_)
    refine J.d9 ?_
    refine J.T 0 qNw z3_ O O O O O<|J.a5 5 b3_ O O O O O<|J.a5 3 b3_ O O O O O<|J.g ((qAg O O O).as (v':= .bool (decide ((d.wait.getD (d.wait.length-1-r) (0,[])).1=iN))) (congrArg Value.bool (decide_eq_decide.2 (by omega)))) O<|J.e0 ?_
    refine J.u (J.D j9 ?_)
    refine J.g4 O (λh25=>?_) (λh25=>?_)
    ·
      refine J.f3 (λ_ j10=>?_)
      refine J.d9 ?_
      refine J.T 1 qNw z9_ O O O O O<|J.a5 5 b9_ O O O O O<|J.a6 (qAF (l:= [Str []]) (i:=0) (vs:= [Str (d.wait.getD (d.wait.length-1-r) (0,[])).2]) O O O O O z9_ O O) O O λ_ _=>J.a6 (qAF (i:=1) O O O O O qMI O O) O O λ_ _=>J.e0 ?_
      refine J.u (J.D j10 ?_)
      refine J.h2 ?_
      refine J.a7<|J.c1 [0,1,2,3,4] [blk g4 [Str (d.wait.getD (d.wait.length-1-r) (0,[])).2] 9,blk g5 [I 0] 28,F,blk g3 [I i] 3,blk gB [.slice B d.wait.length e] 132] O (by decide) ?_
      exact hR8 _ ((d.wait.getD (d.wait.length-1-r) (0,[])).2,0) ⟨rfl,by rw [hnow,hsk,if_pos h25];rfl⟩
    refine J.h1 ?_
    refine J.a2<|J.c1 [0,1,2,3,4] [blk g4 [Str []] 9,blk g5 [I 0] 28,F,blk g3 [I i] 3,blk gB [.slice B d.wait.length e] 132] O (by decide) ?_
    exact hN8 _ ([],0) ⟨rfl,by rw [hnow,hsk,if_neg h25]⟩
  ·
    intro w8 x hx8 hI
    obtain ⟨x1,x2⟩:=x
    obtain ⟨hx,hnow⟩:=hI
    cases hx
    rw [zH,qJo] at hnow
    refine J.a2<|J.u (J.D j6 ?_)
    refine J.k λ_ j11=>J.b0 [blk g4 [Str []] 9,blk g5 [I 0] 28,F,blk g3 [I i] 3,blk gB [.slice B d.wait.length e] 132] [7,8] (.y 0 (.y 1 (.y 2 (.y 3 (.y 4 (.y 5 (.y 6 (.e 7 (.e 8 .nil))))))))) Tryz.wide (by decide+kernel) (by simp) ?_
    refine J.L ?_
    refine J.j O (qAC O O) O O<|J.j O (qAA O O qCZ O qBs O) O O<|J.j O (qAJ O O qB8 (m:=F) (by simp) (hc.at (i:=0) rfl)) rfl rfl<|J.j rfl (qAE 3 rfl rfl rfl b3_ rfl) rfl rfl<|J.j rfl (qAH rfl rfl (by show some (I i)=_;rw [hiN]) qAk z9_ hL (by omega)) rfl rfl<|J.j rfl (qAJ rfl rfl b9_ (m:=F) (by simp) (hL.elem (qAa (qAj [] (show iN<d.last.length by omega))))) rfl rfl<|J.c2 rfl (qAF (l:= [Str []]) (i:=0) (vs:= [Str (d.last.getD iN [])]) rfl rfl rfl rfl rfl z9_ rfl rfl) rfl rfl rfl λ_ _=>J.c2 rfl (qAF (i:=1) rfl rfl rfl rfl rfl qMI rfl rfl) rfl rfl rfl λ_ _=>J.a8<|J.u (J.D j11 ?_)
    exact J.A<|J.e7 hw0 hx8 (λ_ _ h=>h) (rv2 O (RV.blk1 0 O O b9_) (RV.blk1 1 O O qSN)) (qAq () (by rw [hrd,h0,hnow];rfl) trivial [2] rfl (by decide))
  intro w8 x c hx8 hS
  obtain ⟨rfl,rfl⟩:=hS
  exact J.A<|J.a7<|J.V<|J.e7 hw0 hx8 (λ_ _ h=>h) (rv2 O (RV.blk1 0 O O b9_) (RV.blk1 1 O O qSN)) (qAq () (by rw [hrd,h0]) trivial [2] rfl (by decide))
theorem qRT(g i:Nat):qEt (some ⟨g,0,none⟩) i 1=⟨g,i,none⟩:=by rw [qGv];simp
theorem qQ0(F mL:Hp)(g gL c n:Nat)(d:Dk)(B:Option Addr)(e:Nat)(C:Option Addr)(f:Nat)(L:List (List UInt8))(hc:qAR F ⟨g,0,none⟩ [.slice (some ⟨gL,0,none⟩) L.length c,.slice B d.wait.length e,.bool d.off,.bool d.armed,I d.fuse,.slice C d.keep.length f])
    (hr:Row mL 9 1 (some ⟨gL,0,none⟩) L.length c (qAI L)) (at_:Nat) (t:List UInt8) (hat:at_<L.length) (ht:n≤t.length) (ho:n≤(L.getD at_ []).length) (hs:t.length≤1048576) (hs2:(L.getD at_ []).length≤1048576) (hn3:L.length≤1073741824):
    Ct prog 214 [Ptr g,.agg #[I at_,Str t],I n] [mL,F] (λ_:Hp=> .tuple #[]) (λm=>Row m 9 1 (some ⟨gL,0,none⟩) L.length c (qAI (qLt L (at_,t) n))) (λm=> [m,F]):=by
  refine Ct.walk func214 rfl ntmps214 rfl (λw0 hw0=>?_)
  refine J.f λ_ j1=>J.p (qAd O O O) O λg4 _=>J.c j1<|J.b0 [mL,F,blk g4 [I at_,Str t] 308] [22] (.y 0 (.y 1 (.y 2 (.y 3 (.y 4 (.y 5 (.y 6 (.y 7 (.y 8 (.y 9 (.y 10 (.y 11 (.y 12 (.y 13 (.y 14 (.y 15 (.y 16 (.y 17 (.y 18 (.y 19 (.y 20 (.y 21 (.e 22 .nil))))))))))))))))))))))) Tryz.wide (by decide+kernel) (by simp) ?_
  refine J.L ?_
  refine J.j O (qAC O O) O O<|J.j O (qAA O O qCZ O qBs O) O O<|J.j O (qAJ O O qB8 (m:=F) (by simp) (hc.at (i:=0) rfl)) rfl rfl<|J.j rfl (qAA rfl rfl qNw rfl z3_ rfl) rfl rfl<|J.j rfl (qAE 2 rfl rfl rfl b3_ rfl) rfl rfl<|J.j rfl (qAA rfl rfl qNw rfl z9_ rfl) rfl rfl<|J.j rfl (qAE 2 rfl rfl rfl b9_ rfl) rfl rfl<|J.L ?_
  refine J.j O ((qA9 u9_ O O O O ⟨by omega,by omega⟩).as (v':=Str (t.take n)) (congrArg Str zm)) O O<|J.L ?_
  refine J.j O (qAC O O) O O<|J.j O (qAA O O qCZ O qBs O) O O<|J.j O (qAJ O O qB8 (m:=F) (by simp) (hc.at (i:=0) rfl)) rfl rfl<|J.j rfl (qAA rfl rfl qNw rfl z3_ rfl) rfl rfl<|J.j rfl (qAE 2 rfl rfl rfl b3_ rfl) rfl rfl<|J.j rfl (qAH rfl rfl rfl qAk z9_ hr.sl (by omega)) rfl rfl<|J.j rfl (qAJ rfl rfl b9_ (m:=mL) (by simp) (hr.sl.elem (qAa (qAj [] hat)))) rfl rfl<|J.L ?_
  refine J.j O ((qA9 u9_ O O O O ⟨by omega,by omega⟩).as (v':=Str ((L.getD at_ []).drop n)) (by rw [jo])) rfl rfl<|J.j rfl ((qBI rfl rfl rfl (by simp only [jF,jI];omega)).as (v':=Str (qXu (L.getD at_ []) t n)) rfl) rfl rfl<|J.j rfl (qAH rfl rfl rfl qAk z9_ hr.sl (by omega)) rfl rfl<|J.c2 rfl (qBR (i:=0) (k:=at_) (off:=0) (b:= [Str (qXu (L.getD at_ []) t n)]) rfl (by show some _=some _;rw [qRT]) rfl rfl hr (vs:= [Str (qXu (L.getD at_ []) t n)]) rfl z9_ rfl (by omega) (qAa (qAj [] hat)) rfl (by show _+1≤1;decide)) rfl rfl rfl ?_
  rintro m9 h9
  exact J.a8<|J.d7 hw0 (λ_ _ h=>h) (qJP O) (qAq m9 O (by rw [qDb] at h9;exact h9) [0,1] rfl (by decide))
theorem qXP(F mL mW:Hp)(g:Nat)(d:Dk)(hok:d.ok0)(hn2:d.wait.length≤1073741824)(gL:Nat)(c:Nat)(B:Option Addr)(e:Nat)(C:Option Addr)(f:Nat)(hL:Row mL 9 1 (some ⟨gL,0,none⟩) d.last.length c (qAI d.last))(hW:Row mW 308 2 B d.wait.length e (qDP d.wait))(K:List UInt8)(E:Option Addr)(q:Nat)(hK:Sl F 1 E K.length q (qAf K))(hKn:K.length≤9223372036854775807):
    Ct prog 235 [Ptr g,.slice E K.length q] [blk g [.slice (some ⟨gL,0,none⟩) d.last.length c,.slice B d.wait.length e,.bool d.off,.bool d.armed,I d.fuse,.slice C d.keep.length f] 134,mL,mW,F] (λ_:Hp=> .tuple #[]) (λm=>Row m 9 1 (some ⟨gL,0,none⟩) d.last.length c (qAI (qJC d.last d.wait K d.wait.length))) (λm=> [blk g [.slice (some ⟨gL,0,none⟩) d.last.length c,.slice none 0 0,.bool true,.bool false,I d.fuse,.slice C d.keep.length f] 134,m,F]):=by
  refine Ct.walk func235 rfl ntmps235 rfl (λw0 hw0=>?_)
  refine J.k λ_ j1=>J.f λ_ j2=>J.b O<|J.g ((qA6 underlying82 O O O).as (v':= .bool false) O) O<|J.c j2<|J.a1 ?_
  refine J.M j1<|J.k λ_ j3=>J.f λ_ j4=>J.b O<|J.g (qAC O O) O<|J.T 1 qCZ qHA O O O O O<|J.a5 0 isAgg132 O O O O O<|J.g (qAU qII O O) O<|J.b O<|J.c j4<|J.O<|J.b4 (X:=Nat×Hp) (λx=> [(0,Ptr g),(1,.slice E K.length q),(11,.slice B d.wait.length e),(12,I d.wait.length),(13,I x.1)]) (λx=> [blk g [.slice (some ⟨gL,0,none⟩) d.last.length c,.slice B d.wait.length e,.bool d.off,.bool d.armed,I d.fuse,.slice C d.keep.length f] 134,x.2,mW,F]) (λx=>x.1≤d.wait.length∧Row x.2 9 1 (some ⟨gL,0,none⟩) d.last.length c (qAI (qJC d.last d.wait K x.1))) (λx=>d.wait.length-x.1) (0,mL) (⟨jG _,hL⟩) ⟨O,O,O,O,O,trivial⟩ (λ_ h=>h) ?_
  rintro⟨k,m⟩ ⟨hk,hr⟩ I0 hI0
  dsimp only at hk hr⊢
  refine J.f λ_ j5=>J.g (qAT O O O) O<|J.c j5<|J.k λ_ j6=>J.W O (λh14=>?_) (λh14=>?_)
  ·
    refine J.M j6<|J.k λ_ j7=>J.O<|J.f λ_ j8=>J.b O<|J.g (qAH O O O qII qF3 hW.sl (by omega)) O<|J.g (qAX O O isAgg308 qF3 (m:=mW) (by simp) (hW.sl.elem (qF8 (by omega))) rfl) rfl<|J.p (qAL rfl zeroValue308 rfl) rfl λg5 _=>J.b rfl<|J.a6 (qAF (l:= [I 0,Str []]) (i:=4) (vs:= [I (d.wait.getD k (0,[])).1,Str (d.wait.getD k (0,[])).2]) rfl rfl rfl rfl rfl qF3 rfl rfl) rfl rfl λ_ _=>J.c j8<|J.f λ_ j9=>J.q 2 rfl<|J.g (qAU qBl rfl rfl) rfl<|J.g (qAT rfl rfl rfl) rfl<|J.c j9<|J.W rfl (λh21=>?_) (λh21=>?_)
    ·
      have ⟨hw1,hw2⟩:=qT9 hok.w64 (show k<d.wait.length by omega)
      have h64:=qXG (qJB hok.l64 hok.w64 (K:=K) k hk) (show(d.wait.getD k (0,[])).1<(qJC d.last d.wait K k).length by rw [qBN];exact hw1)
      obtain ⟨nk,hnk⟩: ∃nk,nk=min (K.getD k 0).toNat 64:=⟨_,rfl⟩
      refine J.b0 [blk g5 [I (d.wait.getD k (0,[])).1,Str (d.wait.getD k (0,[])).2] 308,F] [] (.y 0 (.y 1 (.y 2 (.y 3 (.y 4 (.y 5 (.y 6 (.y 7 (.e 8 .nil))))))))) Tryz.wide (by decide+kernel) (by simp) ?_
      refine J.L ?_
      refine J.j O (qAY 0 O O O isAgg308 qF3 O) O O<|J.L ?_
      refine J.L ?_
      refine J.j O (qAH O O O qBl z5_ hK (by omega)) O O<|J.j O (qAJ O O b5_ (m:=F) (by simp) (hK.elem (qBk (qAj 0 (by omega))))) rfl rfl<|J.j rfl (qCj rfl rfl u5_ u3_) rfl rfl<|J.j rfl ((qFT rfl rfl rfl).nat (nk) (by omega)) rfl rfl<|J.Z rfl (qAB rfl rfl ent214 (Ct.use1 1 rfl (λF' hF=>by have:=qQ0 F' m g gL c nk d B e C f (qJC d.last d.wait K k) (by rw [qBN];exact qAR.blk0.mono (hF (blk g [.slice (some ⟨gL,0,none⟩) d.last.length c,.slice B d.wait.length e,.bool d.off,.bool d.armed,I d.fuse,.slice C d.keep.length f] 134) (by simp))) (by rw [qBN];exact hr) (d.wait.getD k (0,[])).1 (d.wait.getD k (0,[])).2 (by rw [qBN];exact hw1) (by omega) (by omega) (by omega) (by omega) (by rw [qBN];have:=hok.n1;omega);rw [qBN] at this;exact this))) rfl (by simp) ?_
      rintro m30 h30
      refine J.c1 [0,1,2,3] [blk g [.slice (some ⟨gL,0,none⟩) d.last.length c,.slice B d.wait.length e,.bool d.off,.bool d.armed,I d.fuse,.slice C d.keep.length f] 134,m30,mW,F] O (by decide)<|J.a8<|J.a2<|J.u (J.D j7 ?_)
      exact J.H<|J.g ((qAS O O O (by omega)).nat (k+1) (by omega)) O<|J.b O<|J.a3<|J.u<|J.a4 (k+1,m30) (λx (hx:_∧d.wait.length-x.1<d.wait.length-k)=>hI0 x hx.1 hx.2) ⟨⟨by dsimp only;omega,by dsimp only;rw [qJC,if_pos (by omega),←hnk];exact h30⟩,by dsimp only;omega⟩ ⟨rfl,rfl,rfl,rfl,rfl,trivial⟩ (λ_ h=>h)
    refine J.b5<|J.a2<|J.u (J.D j7 ?_)
    exact J.H<|J.g ((qAS O O O (by omega)).nat (k+1) (by omega)) O<|J.b O<|J.a3<|J.u<|J.c1 [0,1,2,3] [blk g [.slice (some ⟨gL,0,none⟩) d.last.length c,.slice B d.wait.length e,.bool d.off,.bool d.armed,I d.fuse,.slice C d.keep.length f] 134,m,mW,F] O (by decide)<|J.a4 (k+1,m) (λx (hx:_∧d.wait.length-x.1<d.wait.length-k)=>hI0 x hx.1 hx.2) ⟨⟨by dsimp only;omega,by dsimp only;rw [qJC,if_neg (by omega)];exact hr⟩,by dsimp only;omega⟩ ⟨rfl,rfl,rfl,rfl,rfl,trivial⟩ (λ_ h=>h)
  refine J.b2<|J.a0<|J.a0<|J.b3 ?_
  refine J.u (J.D j3 ?_)
  have hkn:k=d.wait.length:=by omega
  subst hkn
  refine J.H<|J.q 3 O<|J.g (qAC O O) O<|J.T 1 qCZ qHA O O O O O<|J.a6 (qAW (i:=0) O O O O O qHA O (by simp)) rfl rfl λ_ _=>?_
  change J _ _ _ [blk g [.slice (some ⟨gL,0,none⟩) d.last.length c,.slice none 0 0,.bool d.off,.bool d.armed,I d.fuse,.slice C d.keep.length f] 134,m,mW,F] _
  refine J.g (qAC O O) O<|J.T 2 qCZ z4_ O O O O O<|J.a6 (qAW (i:=0) (vs:= [.bool true]) O O O O O z4_ O (by simp)) rfl rfl λ_ _=>?_
  change J _ _ _ [blk g [.slice (some ⟨gL,0,none⟩) d.last.length c,.slice none 0 0,.bool true,.bool d.armed,I d.fuse,.slice C d.keep.length f] 134,_,_,_] _
  exact J.g (qAC O O) O<|J.T 3 qCZ z4_ O O O O O<|J.a6 (qAW (i:=0) (vs:= [.bool false]) O O O O O z4_ O (by simp)) rfl rfl λ_ _=>J.a3<|J.d7 hw0 (λ_ _ h=>h) (qJP rfl) (qAq m rfl hr [0,1,3] rfl (by decide))
theorem Dsk.open{mm:Hp}{g:Nat}{d:Dk}{C:Option Addr}{f:Nat}(h:Dsk mm g d C f)(h0:0<d.last.length): ∃gL c mL B e mW,mm=U [blk g (d.cells (some ⟨gL,0,none⟩) c B e C f) 134,mL,mW]∧Djs [blk g (d.cells (some ⟨gL,0,none⟩) c B e C f) 134,mL,mW]∧Row mL 9 1 (some ⟨gL,0,none⟩) d.last.length c (qAI d.last)∧Row mW 308 2 B d.wait.length e (qDP d.wait):=by
 obtain ⟨A,c,mL,B,e,mW,h1,h2,h3,h4⟩:=h
 obtain ⟨gL,rfl⟩:=h3.at h0
 exact⟨gL,c,mL,B,e,mW,h1,h2,h3,h4⟩
theorem qK1{a b:Hp}(h:Djs [a,b]):Djs [a,b,λ_=>none]:=by
 rw [qAZ] at h⊢
 simp only [js,zd,zC,or_false] at h⊢
 refine⟨?_,λ_ _ _=> .inr (by rename_i h _;rw [h]),λ_ hm=>hm.elim,.nil⟩
 rintro m (rfl|rfl)
 · exact h.1 m rfl
 · exact λ_=> .inr rfl
theorem qXO{g:Nat}(d:Dk)(gL c:Nat)(C:Option Addr)(f:Nat)(m:Hp)(K:List UInt8)(hm:Row m 9 1 (some ⟨gL,0,none⟩) d.last.length c (qAI (qJC d.last d.wait K d.wait.length)))(hj:Djs [blk g [.slice (some ⟨gL,0,none⟩) d.last.length c,.slice none 0 0,.bool true,.bool false,I d.fuse,.slice C d.keep.length f] 134,m]):
    Dsk (U [blk g [.slice (some ⟨gL,0,none⟩) d.last.length c,.slice none 0 0,.bool true,.bool false,I d.fuse,.slice C d.keep.length f] 134,m]) g (d.cut K) C f:=by
  refine⟨some ⟨gL,0,none⟩,c,m,none,0,λ_=>none,?_,?_,?_,qBb.nil⟩
  · show U [blk g [.slice (some ⟨gL,0,none⟩) d.last.length c,.slice none 0 0,.bool true,.bool false,I d.fuse,.slice C d.keep.length f] 134,m]=U [blk g [.slice (some ⟨gL,0,none⟩) (qJC d.last d.wait K d.wait.length).length c,.slice none 0 0,.bool true,.bool false,I d.fuse,.slice C d.keep.length f] 134,m,λ_=>none]
    rw [qBN];rfl
  · show Djs [blk g [.slice (some ⟨gL,0,none⟩) (qJC d.last d.wait K d.wait.length).length c,.slice none 0 0,.bool true,.bool false,I d.fuse,.slice C d.keep.length f] 134,m,λ_=>none]
    rw [qBN];exact qK1 hj
  · show Row m 9 1 (some ⟨gL,0,none⟩) (qJC d.last d.wait K d.wait.length).length c _
    rw [qBN];exact hm
theorem qRq(F mm:Hp)(g:Nat)(d:Dk)(C:Option Addr)(f:Nat)(hb:Dsk mm g d C f)(hok:d.ok)(hn2:d.wait.length≤1073741824)(hKp:Sl F 1 C d.keep.length f (qAf d.keep))(hn3:d.keep.length≤9223372036854775807):
    Ct prog 211 [Ptr g] [mm,F] (λ_:Hp=> .bool (decide d.burns)) (λm=>Dsk m g d.burn C f) (λm=> [m,F]):=by
  obtain ⟨gL,c,mL,B,e,mW,rfl,hd,hL,hW⟩:=hb.open hok.n0
  unfold Dk.cells at hd⊢
  refine Ct.walk func211 rfl ntmps211 rfl (λw0 hw0=>?_)
  refine J.f9 hd ?_
  refine J.f λ_ j1=>J.b O<|J.c j1<|J.k λ_ j2=>J.f λ_ j3=>J.b O<|J.g (qAC O O) O<|J.T 3 qCZ z4_ O O O O O<|J.a5 0 b4_ O O O O O<|J.g ((qAy O O).as (v':= .bool (decide (¬d.armed=true))) (congrArg Value.bool (by simp))) rfl<|J.c j3<|J.W rfl (λh7=>?_) (λh7=>?_)
  ·
    exact J.f λ_ j4=>J.b O<|J.c j4<|J.A<|J.V<|J.a9 hw0 (λ_ _ h=>h) (qJv O O) (qE4 [blk g [.slice (some ⟨gL,0,none⟩) d.last.length c,.slice B d.wait.length e,.bool d.off,.bool d.armed,I d.fuse,.slice C d.keep.length f] 134,mL,mW] [F] (U [blk g [.slice (some ⟨gL,0,none⟩) d.last.length c,.slice B d.wait.length e,.bool d.off,.bool d.armed,I d.fuse,.slice C d.keep.length f] 134,mL,mW]) (congrArg Value.bool (decide_eq_false (λh=>h7 h.1)).symm) (λhd=>by rw [show d.burn=d from if_neg h7];exact⟨_,c,mL,B,e,mW,rfl,hd,hL,hW⟩) [0,1,2,3] rfl rfl (by decide))
  refine J.M j2<|J.k λ_ j5=>?_
  have ha:d.armed=true:=by simpa using h7
  refine J.H<|J.b O<|J.g (qAC O O) O<|J.T 4 qCZ z3_ O O O O O<|J.a5 0 b3_ O O O O O<|J.g (qA4 O O O (by have:=hok.fb;have:=hok.fz ha;omega)) O<|J.g (qAC O O) O<|J.T 4 qCZ z3_ O O O O O<|J.a6 (qAW (i:=0) O O O O O z3_ O (by simp)) rfl rfl λ_ _=>J.c j5<|J.k λ_ j6=>J.f λ_ j7=>J.b rfl<|J.g (qAC rfl rfl) rfl<|J.T 4 qCZ z3_ rfl rfl rfl rfl rfl<|J.a5 0 b3_ rfl rfl rfl rfl rfl<|J.g (qBA rfl rfl rfl) rfl<|J.c j7<|J.W rfl (λh19=>?_) (λh19=>?_)
  ·
    exact J.f λ_ j8=>J.b O<|J.c j8<|J.A<|J.V<|J.a9 hw0 (λ_ _ h=>h) (qJv O O) (qE4 [blk g [.slice (some ⟨gL,0,none⟩) d.last.length c,.slice B d.wait.length e,.bool d.off,.bool d.armed,I (d.fuse-1),.slice C d.keep.length f] 134,mL,mW] [F] (U [blk g [.slice (some ⟨gL,0,none⟩) d.last.length c,.slice B d.wait.length e,.bool d.off,.bool d.armed,I (d.fuse-1),.slice C d.keep.length f] 134,mL,mW]) (congrArg Value.bool (decide_eq_false (λh=>by have:=h.2;omega)).symm) (λhd=>by rw [show d.burn={d with fuse:=d.fuse-1} from by unfold Dk.burn;rw [if_pos ha,if_neg (by omega)]];exact⟨_,c,mL,B,e,mW,rfl,hd,hL,hW⟩) [0,1,2,3] rfl rfl (by decide))
  refine J.M j6<|J.f λ_ j9=>J.q 2 O<|J.g (qAC O O) O<|J.T 5 qCZ qJM O O O O O<|J.a5 0 qO0 O O O O O<|J.p (qAB O O ent235 ((qXP F mL mW g {d with fuse:=d.fuse-1} ⟨hok.l64,hok.w64,hok.n0,hok.n1⟩ hn2 gL c B e C f hL hW d.keep C f hKp hn3))) rfl ?_
  rintro m25 h25
  exact J.c j9<|J.f λ_ j10=>J.b O<|J.c j10<|J.A<|J.a9 hw0 (λ_ _ h=>h) (qJv O O) (qE4 [blk g [.slice (some ⟨gL,0,none⟩) d.last.length c,.slice none 0 0,.bool true,.bool false,I (d.fuse-1),.slice C d.keep.length f] 134,m25] [F] (U [blk g [.slice (some ⟨gL,0,none⟩) d.last.length c,.slice none 0 0,.bool true,.bool false,I (d.fuse-1),.slice C d.keep.length f] 134,m25]) (congrArg Value.bool (decide_eq_true (show d.burns from⟨ha,by omega⟩)).symm) (λhj=>by rw [show d.burn={d with fuse:=d.fuse-1}.cut d.keep from by unfold Dk.burn;rw [if_pos ha,if_pos (by omega)]];exact qXO {d with fuse:=d.fuse-1} gL c C f m25 d.keep h25 hj) [0,1,2] rfl rfl (by decide))
theorem qKg(F:Hp)(K:List (List UInt8))(E:Option Addr)(q:Nat)(hK:Sl F 1 E K.length q (qAI K))(hn:K.length≤1073741824):
    Ct prog 31 [.slice E K.length q] [F] (λx:Option Addr×Nat×Hp=> .slice x.1 K.length x.2.1) (λx=>Row x.2.2 9 1 x.1 K.length x.2.1 (qAI K)) (λx=> [F,x.2.2]):=by
  refine Ct.walk func31 rfl ntmps31 rfl (λw0 hw0=>?_)
  refine J.f λ_ j1=>J.b O<|J.c j1<|J.k λ_ j2=>J.f λ_ j3=>J.b O<|J.g ((qEh qAk O O O).as (v':= .bool (decide (E.isNone=true))) (congrArg Value.bool (by cases E<;>rfl))) rfl<|J.c j3<|J.W rfl (λh4=>?_) (λh4=>?_)
  ·
    refine J.k λ_ j4=>?_
    have hnil:K= []:=by
      cases K with
      |nil=>rfl
      |cons a r=>
        obtain ⟨_,ad,hA,_⟩:=hK.2.2 0 _ rfl
        rw [hA] at h4;cases h4
    exact J.c7 [0,1] [F,λ_=>none] O (by decide)<|J.H<|J.b O<|J.c j4<|J.A<|J.V<|J.E hw0 O (none,0,λ_=>none) (by rw [hnil];rfl) (by rw [hnil];exact qBb.nil) [0,1] rfl (by decide)
  refine J.M j2<|J.f λ_ j5=>J.p (qBZ O qAk el9) O λg5 _=>J.b O<|J.p (qAV (i:=1) (m2:=F) O O O qAk qAk el9 O (qAl (q:=True) (xs:= []) O (by simp)) (by simp) hK (by simp [qAI,Value.oneCell']) (by omega) (by omega)) rfl ?_
  rintro⟨A7,c7,m7⟩ h7
  try dsimp only at h7
  exact J.b O<|J.c j5<|J.A<|J.E hw0 O (A7,c7,m7) (by rw [jj]) (by rw [jj] at h7;exact h7) [0,1] rfl (by decide)
theorem qSV(F mm:Hp)(g:Nat)(d:Dk)(C:Option Addr)(f:Nat)(hb:Dsk mm g d C f)(hok:d.ok)(hn2:d.wait.length≤1073741824)(hKp:Sl F 1 C d.keep.length f (qAf d.keep))(hn3:d.keep.length≤9223372036854775807)(i:Int)(s:List UInt8)(hs:s.length≤1048576):
    Ct prog 184 [Ptr g,I i,Str s] [mm,F] (λ_:Hp=>I (d.wErr i s)) (λm=>Dsk m g (d.write i s) C f) (λm=> [m,F]):=by
  obtain ⟨A0,c0,B0,e0,hc,hsL,hsW⟩:=hb.see
  have hn1:=hok.n1
  refine Ct.walk func184 rfl ntmps184 rfl (λw0 hw0=>?_)
  refine J.f λ_ j1=>J.b O<|J.c j1<|J.f λ_ j2=>J.q 2 O<|J.p (qAB O O ent204 (Ct.use0 (λF' hF=>qIX F' g d A0 c0 B0 e0 C f (hc.mono (Fa hF)) i (by omega)))) O λg10 _=>J.b O<|J.c j2<|J.k λ_ j3=>J.O<|J.f λ_ j4=>J.b O<|J.g (qAe O O O) O<|J.b O<|J.c j4<|J.W O (λh11=>?_) (λh11=>?_)
  ·
    exact J.f λ_ j5=>J.q 2 O<|J.c j5<|J.A<|J.a7<|J.V<|J.E hw0 O mm (congrArg I (by unfold Dk.wErr;rw [if_pos (by omega)])) (by rw [show d.write i s=d from if_pos (by omega)];exact hb) [0,1] rfl (by decide)
  refine J.f λ_ j6=>J.b O<|J.g (qAt u9_ O O) O<|J.g (qA5 O O O) O<|J.b O<|J.c j6<|J.W O (λh15=>?_) (λh15=>?_)
  ·
    exact J.f λ_ j7=>J.b O<|J.c j7<|J.A<|J.a7<|J.V<|J.E hw0 O mm (congrArg I (by unfold Dk.wErr;rw [if_neg (by omega),if_pos (by omega)])) (by rw [show d.write i s=d from by unfold Dk.write;rw [if_neg (by omega),if_pos (by omega)]];exact hb) [0,1] rfl (by decide)
  refine J.f λ_ j8=>J.b O<|J.p (qAB O O ent211 (Ct.use1 0 O (λF' hF=>qRq F' mm g d C f hb hok hn2 (hKp.mono (Fa hF)) hn3))) O ?_
  rintro m21 h21
  refine J.b O<|J.c j8<|J.W O (λh19=>?_) (λh19=>?_)
  ·
    exact J.f λ_ j9=>J.b O<|J.c j9<|J.A<|J.a7<|J.V<|J.E hw0 O m21 (congrArg I (by unfold Dk.wErr;rw [if_neg (by omega),if_neg (by omega),if_pos h19])) (by rw [show d.write i s=d.burn from by unfold Dk.write;rw [if_neg (by omega),if_neg (by omega),if_pos h19]];exact h21) [0,1] rfl (by decide)
  refine J.b5<|J.a2<|J.u (J.D j3 ?_)
  refine J.k λ_ j10=>?_
  have h0:d.ready i=0:=by omega
  obtain ⟨hi0,hil,_⟩:=qMk h0
  obtain ⟨iN,hiN⟩:=zh hi0
  have hnb: ¬d.burns:=h19
  obtain ⟨x,hx⟩: ∃x,x=d.burn:=⟨_,rfl⟩
  rw [←hx] at h21
  have hxo:x.ok:=hx▸hok.burn
  have hxw:x.wait=d.wait:=hx▸(qDo hnb).2.1
  have hxl:x.last=d.last:=hx▸(qDo hnb).1
  obtain ⟨gL,c,mL,B,e,mW,rfl,hd,hL,hW⟩:=h21.open hxo.n0
  unfold Dk.cells at hd⊢
  refine J.f9 hd ?_
  refine J.b0 [blk g [.slice (some ⟨gL,0,none⟩) x.last.length c,.slice B x.wait.length e,.bool x.off,.bool x.armed,I x.fuse,.slice C x.keep.length f] 134] [17] (.y 0 (.y 1 (.y 2 (.y 3 (.y 4 (.y 5 (.y 6 (.y 7 (.y 8 (.y 9 (.e 10 (.y 11 (.y 12 (.e 13 (.e 14 (.y 15 (.y 16 (.e 17 .nil)))))))))))))))))) Tryz.wide (by decide+kernel) (by simp) ?_
  refine J.L ?_
  refine J.L ?_
  refine J.j O (qAC O O) O O<|J.j O (qAA O O qCZ O qHA O) O O<|J.j O (qAE 0 O O O isAgg132 O) O O<|J.j O ((qA0 O O).as (v':=I (iN:Int)) (congrArg I hiN)) O O<|J.L ?_
  refine J.L ?_
  refine J.j O (qAt u9_ O O) O O<|J.j O ((qA4 O O O (by omega)).nat (64-s.length) (by omega)) O O<|J.Z O (qAB O O ent50 (Ct.use0 (λF' hF=>qE5 F' (64-s.length) (by omega)))) O (by simp) λg32 _=>J.j rfl ((qBI rfl rfl rfl (by simp only [jJ];omega)).as (v':=Str (qRL s)) rfl) rfl rfl<|J.j rfl (qAK (places:= [(0,1),(1,1)]) (r:= [I (iN:Int),Str (qRL s)]) rfl rfl rfl qNw zeroValue308 (λ_=>by kernel_rfl) rfl) rfl rfl<|J.Z rfl (qAG (l:= [.tmp 34]) (xs:= [[I (iN:Int),Str (qRL s)]]) rfl rfl rfl rfl qII el308 rfl (by decide) (by decide) (by simp)) rfl (by simp) λg35 _=>J.Z rfl (qAV (i:=2) (m2:=blk g35 [I (iN:Int),Str (qRL s)] 308) rfl rfl rfl qII qII el308 rfl hW (by simp) ((qAl (q:=True) (xs:=qDP [(iN,qRL s)]) rfl (by simp [qDP])).sl) (qO6 _) (by rw [hxw];omega) (by rw [hxw];omega)) rfl (by simp) ?_
  rintro⟨A36,c36,m36⟩ h36
  try dsimp only at h36
  refine J.j O (qAC O O) O O<|J.j O (qAA O O qCZ O qHA O) O O<|J.c2 O (qAW (i:=0) O O O O O qHA O (by simp)) rfl rfl rfl λ_ _=>J.a8<|J.u (J.D j10 ?_)
  exact J.f λ_ j11=>J.b O<|J.c j11<|J.A<|J.a9 hw0 (λ_ _ h=>h) (qJv O O) (qE4 [blk g [.slice (some ⟨gL,0,none⟩) x.last.length c,.slice A36 (x.wait.length+1) c36,.bool x.off,.bool x.armed,I x.fuse,.slice C x.keep.length f] 134,mL,m36] [F] (U [blk g [.slice (some ⟨gL,0,none⟩) x.last.length c,.slice A36 (x.wait.length+1) c36,.bool x.off,.bool x.armed,I x.fuse,.slice C x.keep.length f] 134,mL,m36]) (congrArg I (by unfold Dk.wErr;rw [if_neg (by omega),if_neg (by omega),if_neg hnb])) (λhd=>by rw [show d.write i s={x with wait:=x.wait++ [(iN,qRL s)]} from by unfold Dk.write;rw [if_neg (by omega),if_neg (by omega),if_neg hnb,←hx,hiN];rfl];refine⟨_,c,mL,A36,c36,m36,?_,?_,hL,?_⟩<;>(try unfold Dk.cells)<;>rw [jA]<;>first|rfl|exact hd|(rw [qO7];exact h36)) [0,1,2,3] rfl rfl (by decide))
theorem qSn{g:Nat}(x:Dk)(gL c:Nat)(C:Option Addr)(f:Nat)(m:Hp)(hm:Row m 9 1 (some ⟨gL,0,none⟩) x.last.length c (qAI (qDB x.last x.wait x.wait.length)))(hj:Djs [blk g [.slice (some ⟨gL,0,none⟩) x.last.length c,.slice none 0 0,.bool x.off,.bool x.armed,I x.fuse,.slice C x.keep.length f] 134,m]):
    Dsk (U [blk g [.slice (some ⟨gL,0,none⟩) x.last.length c,.slice none 0 0,.bool x.off,.bool x.armed,I x.fuse,.slice C x.keep.length f] 134,m]) g {x with last:=qDB x.last x.wait x.wait.length,wait:= []} C f:=by
  refine⟨some ⟨gL,0,none⟩,c,m,none,0,λ_=>none,?_,?_,?_,qBb.nil⟩
  · show U [blk g [.slice (some ⟨gL,0,none⟩) x.last.length c,.slice none 0 0,.bool x.off,.bool x.armed,I x.fuse,.slice C x.keep.length f] 134,m]=U [blk g [.slice (some ⟨gL,0,none⟩) (qDB x.last x.wait x.wait.length).length c,.slice none 0 0,.bool x.off,.bool x.armed,I x.fuse,.slice C x.keep.length f] 134,m,λ_=>none]
    rw [qBK];rfl
  · show Djs [blk g [.slice (some ⟨gL,0,none⟩) (qDB x.last x.wait x.wait.length).length c,.slice none 0 0,.bool x.off,.bool x.armed,I x.fuse,.slice C x.keep.length f] 134,m,λ_=>none]
    rw [qBK];exact qK1 hj
  · show Row m 9 1 (some ⟨gL,0,none⟩) (qDB x.last x.wait x.wait.length).length c _
    rw [qBK];exact hm
theorem qVo(F mm:Hp)(g:Nat)(d:Dk)(C:Option Addr)(f:Nat)(hb:Dsk mm g d C f)(hok:d.ok)(hn2:d.wait.length≤1073741824)(hKp:Sl F 1 C d.keep.length f (qAf d.keep))(hn3:d.keep.length≤9223372036854775807):
    Ct prog 186 [Ptr g] [mm,F] (λ_:Hp=>I d.sErr) (λm=>Dsk m g d.sync C f) (λm=> [m,F]):=by
  obtain ⟨A0,c0,B0,e0,hc,hsL,hsW⟩:=hb.see
  have hn1:=hok.n1
  refine Ct.walk func186 rfl ntmps186 rfl (λw0 hw0=>?_)
  refine J.f λ_ j1=>J.b O<|J.c j1<|J.k λ_ j2=>J.f λ_ j3=>J.b O<|J.p (qAB O O ent204 (Ct.use0 (λF' hF=>qIX F' g d A0 c0 B0 e0 C f (hc.mono (Fa hF)) 0 (by omega)))) O λg7 _=>J.b O<|J.c j3<|J.f λ_ j4=>J.b O<|J.g (qAe O O O) O<|J.c j4<|J.W O (λh9=>?_) (λh9=>?_)
  ·
    exact J.f λ_ j5=>J.q 2 O<|J.c j5<|J.A<|J.V<|J.E hw0 O mm (congrArg I (by unfold Dk.sErr;rw [if_pos (by omega)])) (by rw [show d.sync=d from if_pos (by omega)];exact hb) [0,1] rfl (by decide)
  refine J.M j2<|J.k λ_ j6=>J.f λ_ j7=>J.b O<|J.p (qAB O O ent211 (Ct.use1 0 O (λF' hF=>qRq F' mm g d C f hb hok hn2 (hKp.mono (Fa hF)) hn3))) O ?_
  rintro m12 h12
  refine J.c j7<|J.W O (λh12c=>?_) (λh12c=>?_)
  ·
    exact J.f λ_ j8=>J.b O<|J.c j8<|J.A<|J.V<|J.E hw0 O m12 (congrArg I (by unfold Dk.sErr;rw [if_neg (by omega),if_pos h12c])) (by rw [show d.sync=d.burn from by unfold Dk.sync;rw [if_neg (by omega),if_pos h12c]];exact h12) [0,1] rfl (by decide)
  refine J.M j6<|J.k λ_ j9=>J.k λ_ j10=>?_
  have h0:d.ready 0=0:=by omega
  have hnb: ¬d.burns:=h12c
  obtain ⟨x,hx⟩: ∃x,x=d.burn:=⟨_,rfl⟩
  rw [←hx] at h12
  have hxo:x.ok:=hx▸hok.burn
  have hxw:x.wait=d.wait:=hx▸(qDo hnb).2.1
  have hxl:x.last=d.last:=hx▸(qDo hnb).1
  obtain ⟨gL,c,mL,B,e,mW,rfl,hd,hL,hW⟩:=h12.open hxo.n0
  unfold Dk.cells at hd⊢
  refine J.f9 hd ?_
  have hxn:x.wait.length≤1073741824:=by rw [hxw];exact hn2
  refine J.H<|J.b O<|J.g (qAC O O) O<|J.T 1 qCZ qHA O O O O O<|J.a5 0 isAgg132 O O O O O<|J.g (qAU qII O O) O<|J.b O<|J.c j10<|J.O<|J.b4 (X:=Nat×Hp) (λy=> [(0,Ptr g),(16,.slice B x.wait.length e),(17,I x.wait.length),(18,I y.1)]) (λy=> [blk g [.slice (some ⟨gL,0,none⟩) x.last.length c,.slice B x.wait.length e,.bool x.off,.bool x.armed,I x.fuse,.slice C x.keep.length f] 134,y.2,mW,F]) (λy=>y.1≤x.wait.length∧Row y.2 9 1 (some ⟨gL,0,none⟩) x.last.length c (qAI (qDB x.last x.wait y.1))) (λy=>x.wait.length-y.1) (0,mL) (⟨jG _,hL⟩) ⟨O,O,O,O,trivial⟩ (λ_ h=>h) ?_
  rintro⟨k,m⟩ ⟨hk,hr⟩ I0 hI0
  dsimp only at hk hr⊢
  refine J.f λ_ j11=>J.g (qAT O O O) O<|J.c j11<|J.k λ_ j12=>J.W O (λh19=>?_) (λh19=>?_)
  ·
    refine J.M j12<|J.k λ_ j13=>J.O<|J.f λ_ j14=>J.g (qAH O O O qII qF3 hW.sl (by omega)) O<|J.g (qAX O O isAgg308 qF3 (m:=mW) (by simp) (hW.sl.elem (qF8 (by omega))) rfl) rfl<|J.p (qAL rfl zeroValue308 rfl) rfl λg5 _=>J.a6 (qAF (l:= [I 0,Str []]) (i:=4) (vs:= [I (x.wait.getD k (0,[])).1,Str (x.wait.getD k (0,[])).2]) rfl rfl rfl rfl rfl qF3 rfl rfl) rfl rfl λ_ _=>J.c j14 ?_
    have ⟨hw1,hw2⟩:=qT9 hxo.w64 (show k<x.wait.length by omega)
    have h64:=qXG (qIM hxo.l64 hxo.w64 k hk) (show(x.wait.getD k (0,[])).1<(qDB x.last x.wait k).length by rw [qBK];exact hw1)
    refine J.H<|J.b O<|J.b7 4 isAgg308 qF3 O O O O O<|J.p (qAB O O ent214 (Ct.use1 1 O (λF' hF=>by have:=qQ0 F' m g gL c 64 x B e C f (qDB x.last x.wait k) (by rw [qBK];exact qAR.blk0.mono (hF (blk g [.slice (some ⟨gL,0,none⟩) x.last.length c,.slice B x.wait.length e,.bool x.off,.bool x.armed,I x.fuse,.slice C x.keep.length f] 134) (by simp))) (by rw [qBK];exact hr) (x.wait.getD k (0,[])).1 (x.wait.getD k (0,[])).2 (by rw [qBK];exact hw1) (by omega) (by omega) (by omega) (by omega) (by rw [qBK];have:=hxo.n1;omega);rw [qBK] at this;exact this))) rfl ?_
    rintro m24 h24
    refine J.c1 [0,1,2,3] [blk g [.slice (some ⟨gL,0,none⟩) x.last.length c,.slice B x.wait.length e,.bool x.off,.bool x.armed,I x.fuse,.slice C x.keep.length f] 134,m24,mW,F] O (by decide)<|J.a3<|J.a2<|J.u (J.D j13 ?_)
    exact J.H<|J.g ((qAS O O O (by omega)).nat (k+1) (by omega)) O<|J.b O<|J.a3<|J.u<|J.a4 (k+1,m24) (λy (hy:_∧x.wait.length-y.1<x.wait.length-k)=>hI0 y hy.1 hy.2) ⟨⟨by dsimp only;omega,h24⟩,by dsimp only;omega⟩ ⟨O,O,O,O,trivial⟩ (λ_ h=>h)
  refine J.b2<|J.a0<|J.a0<|J.b3 ?_
  refine J.u (J.D j9 ?_)
  refine J.k λ_ j15=>?_
  have hkn:k=x.wait.length:=by omega
  subst hkn
  exact J.H<|J.b O<|J.g (qAC O O) O<|J.T 1 qCZ qHA O O O O O<|J.a6 (qAW (i:=0) O O O O O qHA O (by simp)) rfl rfl λ_ _=>J.c j15<|J.f λ_ j16=>J.b rfl<|J.c j16<|J.A<|J.a9 hw0 (λ_ _ h=>h) (qJv rfl rfl) (qE4 [blk g [.slice (some ⟨gL,0,none⟩) x.last.length c,.slice none 0 0,.bool x.off,.bool x.armed,I x.fuse,.slice C x.keep.length f] 134,m] [F] (U [blk g [.slice (some ⟨gL,0,none⟩) x.last.length c,.slice none 0 0,.bool x.off,.bool x.armed,I x.fuse,.slice C x.keep.length f] 134,m]) (congrArg I (by unfold Dk.sErr;rw [if_neg (by omega),if_neg hnb])) (λhj=>by rw [show d.sync={x with last:=qDB x.last x.wait x.wait.length,wait:= []} from by unfold Dk.sync;rw [if_neg (by omega),if_neg hnb,←hx]];exact qSn x gL c C f m hr hj) [0,1,3] rfl rfl (by decide))
theorem qN1(n:Nat):List.replicate n [Str []]=qAI (List.replicate n []):=by simp [qAI]
theorem qWI{n k:Nat}(a b:List UInt8)(h:k<n):(List.replicate k a++List.replicate (n-k) b).set k a=List.replicate (k+1) a++List.replicate (n-(k+1)) b:=by
 rw [List.set_append_right _ _ (by rw [jJ];exact jK _),jJ,zH,show n-k=(n-(k+1))+1 by omega,yH,List.set_cons_zero,zf,jV];rfl
theorem qWJ{n k:Nat}(a b:List UInt8)(h:k≤n):(List.replicate k a++List.replicate (n-k) b).length=n:=by rw [jA,jJ,jJ];omega
theorem qWt(k g g13:Nat)(m:Hp)(hr:Row m 9 1 (some ⟨g13,0,none⟩) k k (qAI (List.replicate k (List.replicate 64 (0:UInt8)))))(hj:Djs [blk g [.slice (some ⟨g13,0,none⟩) k k,.slice none 0 0,.bool false,.bool false,I 0,.slice none 0 0] 134,m,λ_=>none]):Dsk (U [blk g [.slice (some ⟨g13,0,none⟩) k k,.slice none 0 0,.bool false,.bool false,I 0,.slice none 0 0] 134,m,λ_=>none]) g (Dk.new k) none 0:=by
 have hl:(Dk.new k).last.length=k:=jJ
 refine⟨some ⟨g13,0,none⟩,k,m,none,0,λ_=>none,?_,?_,?_,qBb.nil⟩
 · unfold Dk.cells;rw [hl];rfl
 · unfold Dk.cells;rw [hl];exact hj
 · rw [hl];exact hr
theorem qYS(F:Hp)(i:Int):Ct prog 20 [I i] [F] (λx:Option (Nat×Hp)=>match x with|none=> .tuple #[.pointer none,I 1]|some y=> .tuple #[Ptr y.1,I 0]) (λx=>match x with|none=>i<4∨1024<i|some y=>(4≤i∧i≤1024)∧Dsk y.2 y.1 (Dk.new i.toNat) none 0) (λx=>match x with|none=> [F]|some y=> [y.2,F]):=by
 refine Ct.walk func20 rfl ntmps20 rfl (λw0 hw0=>?_)
 refine J.f λ_ j1=>J.q 2 O<|J.c j1<|J.k λ_ j2=>J.f λ_ j3=>J.b O<|J.g (qAT O O O) O<|J.b O<|J.b9 (d:=8) O (λh8=>?_) (λh8=>?_)
 ·
  refine J.q 3 O<|J.c j3<|J.c4 ?_
  exact J.f λ_ j4=>J.q 2 O<|J.c j4<|J.A<|J.V<|J.a9 hw0 (λ_ _ h=>h) (qCG O O O) (qAq none O (by show i<4∨1024<i;omega) [0] O (by decide))
 refine J.b O<|J.G (qA5 O O O) O<|J.b O<|J.c j3<|J.W O (λh11=>?_) (λh11=>?_)
 ·
  exact J.f λ_ j5=>J.q 2 O<|J.c j5<|J.A<|J.V<|J.a9 hw0 (λ_ _ h=>h) (qCG O O O) (qAq none O (by show i<4∨1024<i;omega) [0] O (by decide))
 refine J.M j2<|J.k λ_ j6=>?_
 obtain ⟨n,hn⟩:=zh (show 0≤i by omega)
 refine J.H<|J.b O<|J.p (qCC O (by show some (I i)=_;rw [hn]) qAk el9 (by omega) (by omega)) rfl λg13 _=>J.g (qAK (places:= [(0,1),(1,1),(2,1),(3,1),(4,1),(5,1)]) (r:= [.slice (some ⟨g13,0,none⟩) n n,.slice none 0 0,.bool false,.bool false,I 0,.slice none 0 0]) rfl rfl rfl qCZ zeroValue134 (λ_=>by kernel_rfl) rfl) rfl<|J.p (qAd rfl rfl rfl) rfl ?_
 rintro g15 _
 refine J.b O<|J.c j6<|J.k λ_ j7=>J.f λ_ j8=>J.b O<|J.g (qAC O O) O<|J.T 0 qCZ qBs O O O O O<|J.a5 2 qB8 O O O O O<|J.g (qAU qAk O O) O<|J.b O<|J.c j8<|J.O<|J.b4 (X:=Nat×Hp) (λx=> [(4,Ptr g15),(20,I n),(21,I x.1)]) (λx=> [F,x.2,blk g15 [.slice (some ⟨g13,0,none⟩) n n,.slice none 0 0,.bool false,.bool false,I 0,.slice none 0 0] 134]) (λx=>x.1≤n∧Row x.2 9 1 (some ⟨g13,0,none⟩) n n (qAI (List.replicate x.1 (List.replicate 64 (0:UInt8))++List.replicate (n-x.1) []))) (λx=>n-x.1) (0,blk g13 (List.replicate n [Str []]).flatten 9) (⟨jG _,by dsimp only;rw [List.replicate_zero,jq,zz,←qN1];exact qS9⟩) ⟨rfl,rfl,rfl,trivial⟩ (λ_ h=>h) ?_
 rintro⟨k,m⟩ ⟨hk,hr⟩ I0 hI0
 dsimp only at hk hr⊢
 refine J.f λ_ j9=>J.g (qAT O O O) O<|J.c j9<|J.k λ_ j10=>J.W O (λh22=>?_) (λh22=>?_)
 ·
  refine J.M j10<|J.k λ_ j11=>J.O<|J.f λ_ j12=>J.q 2 O<|J.c j12<|J.b0 [blk g15 [.slice (some ⟨g13,0,none⟩) n n,.slice none 0 0,.bool false,.bool false,I 0,.slice none 0 0] 134] [7] (.y 0 (.y 1 (.y 2 (.y 3 (.y 4 (.e 5 (.y 6 (.e 7 .nil)))))))) Tryz.wide (by decide+kernel) (by simp) ?_
  refine J.L ?_
  refine J.j O (qAC O O) O O<|J.j O (qAA O O qCZ O qBs O) O O<|J.j O (qAE 0 O O O qB8 O) O O<|J.L ?_
  refine J.Z O (qAB O O ent50 (Ct.use0 (λF' hF=>qE5 F' 64 (by decide)))) O (by simp) λg29 _=>J.j rfl (qAH rfl rfl rfl qAk z9_ hr.sl (by omega)) rfl rfl<|J.c2 rfl (qBR (i:=1) (k:=k) (off:=0) (b:= [Str (List.replicate 64 (0:UInt8))]) rfl (by show some _=some _;rw [qRT]) rfl rfl hr (vs:= [Str (List.replicate 64 (0:UInt8))]) rfl z9_ rfl (by omega) (qAa (qAj [] (by rw [qWJ _ _ hk];omega))) rfl (by show _+1≤1;decide)) rfl rfl rfl ?_
  rintro m9 h9
  refine J.a8<|J.a2<|J.u (J.D j11 ?_)
  exact J.H<|J.g ((qAS O O O (by omega)).nat (k+1) (by omega)) O<|J.b O<|J.a3<|J.u<|J.a4 (k+1,m9) (λy (hy:_∧n-y.1<n-k)=>hI0 y hy.1 hy.2) ⟨⟨by dsimp only;omega,by dsimp only;rw [qDb,qWI _ _ (by omega)] at h9;exact h9⟩,by dsimp only;omega⟩ ⟨rfl,rfl,rfl,trivial⟩ (λ_ h=>h)
 refine J.b2<|J.a0<|J.a0<|J.b3 ?_
 refine J.u (J.D j7 ?_)
 refine J.k λ_ j13=>?_
 have hkn:k=n:=by omega
 subst hkn
 rw [zH,List.replicate_zero,jQ] at hr
 exact J.H<|J.q 3 O<|J.c j13<|J.A<|J.c7 [0,1,2,3] [F,m,blk g15 [.slice (some ⟨g13,0,none⟩) k k,.slice none 0 0,.bool false,.bool false,I 0,.slice none 0 0] 134,λ_=>none] O (by decide)<|J.a9 hw0 (λ_ _ h=>h) (qCG O O O) (qE4 [blk g15 [.slice (some ⟨g13,0,none⟩) k k,.slice none 0 0,.bool false,.bool false,I 0,.slice none 0 0] 134,m,λ_=>none] [F] (some (g15,U [blk g15 [.slice (some ⟨g13,0,none⟩) k k,.slice none 0 0,.bool false,.bool false,I 0,.slice none 0 0] 134,m,λ_=>none])) O (λhj=>⟨by omega,by rw [show i.toNat=k by omega];exact qWt k g15 g13 m hr hj⟩) [2,1,3,0] rfl rfl (by decide))
theorem qQl(F:Hp)(n:Nat)(h4:4≤n)(hm:n≤1024):Ct prog 20 [I n] [F] (λx:Nat×Hp=> .tuple #[Ptr x.1,I 0]) (λx=>Dsk x.2 x.1 (Dk.new n) none 0) (λx=>F:: [x.2]):=λw0 w hs=>
 (qYS F n w0 w hs).mono λe w' ⟨x,he,hx,hs'⟩=>by
  cases x with
  |none=>exact absurd hx (by show¬((n:Int)<4∨1024<(n:Int));omega)
  |some y=>exact⟨y,he,by have:=hx.2;rwa [jT] at this,hs'.pick [1,0] (by decide)⟩
theorem qSU{d:Dk}{i:Int}{s:List UInt8}(h:d.ready i=0)(h1:s.length≤64)(h2: ¬d.burns):d.write i s={d.burn with wait:=d.burn.wait++ [(i.toNat,qRL s)]}∧d.wErr i s=0:=by
 unfold Dk.write Dk.wErr
 rw [if_neg (by omega),if_neg (by omega),if_neg h2,if_neg (by omega),if_neg (by omega),if_neg h2]
 exact⟨rfl,rfl⟩
theorem qQk{n:Nat}{i:Int}(h0:0≤i)(h:i<n):(Dk.new n).ready i=0:=by
 unfold Dk.ready Dk.new
 dsimp only
 rw [if_neg (by decide),jJ,if_neg (by omega)]
theorem qWs{n j:Nat}(h:j<n):(Dk.new n).now j=qRL []:=by
 unfold Dk.now Dk.new
 dsimp only [List.length_nil]
 rw [qJo,jB,yJ,if_pos h];rfl
theorem qWK{d:Dk}{i:Int}(h:d.ready i=0):d.read i=d.now i.toNat:=if_pos h
end Go.Proofs.YtcgcjaflllmlpaaGreatDoor
