/- A part of the proof. -/
import Derived.Test.YtmemgokiolfdoaaGreatDoorTopMsG10
set_option maxRecDepth 100000
set_option maxHeartbeats 1000000
set_option linter.unusedSimpArgs false
set_option linter.unusedVariables false
namespace Go.Proofs.YtmemgokiolfdoaaGreatDoor
open Go Go.Fw Go.Proofs.Tryz
theorem el368:qCY prog 368 [.int .i64 0,Str []] 24:=qCY.of xI O
abbrev Wri:=Nat×xA
structure Dk where
 last:List xA
 wait:List Wri
 off:Bool
 armed:Bool
 fuse:Int
 keep:xA
def qDk(l:List Wri):List (List Value):=l.map λw=> [I w.1,Str w.2]
theorem qPe(a b:List Wri):qDk (a++b)=qDk a++qDk b:=by simp [qDk]
theorem qGh{l:List Wri}{k:Nat}(h:k<l.length):(qDk l)[k]?=some [I (l.getD k (0,[])).1,Str (l.getD k (0,[])).2]:=by
 unfold qDk
 rw [jN,qAi (0,[]) h];rfl
theorem qPd(l:List Wri):(qDk l).all (λx=>x.all Value.oneCell')=true:=by simp [qDk,Value.oneCell']
theorem qIA(a b:List xA):qAH (a++b)=qAH a++qAH b:=by simp [qAH]
def Dk.cells(d:Dk)(A:Option Addr)(c:Nat)(B:Option Addr)(e:Nat)(C:Option Addr)(f:Nat):List Value:= [.slice A d.last.length c,.slice B d.wait.length e,.bool d.off,.bool d.armed,I d.fuse,.slice C d.keep.length f]
def Dsk(mm:Hp)(g:Nat)(d:Dk)(C:Option Addr)(f:Nat):Prop:= ∃A c mL B e mW,mm=U [blk g (d.cells A c B e C f) 116,mL,mW]∧Djs [blk g (d.cells A c B e C f) 116,mL,mW]∧Row mL 9 1 A d.last.length c (qAH d.last)∧Row mW 368 2 B d.wait.length e (qDk d.wait)
theorem Dsk.see{mm:Hp}{g:Nat}{d:Dk}{C:Option Addr}{f:Nat}(h:Dsk mm g d C f): ∃A c B e,qAG mm ⟨g,0,none⟩ (d.cells A c B e C f)∧Sl mm 1 A d.last.length c (qAH d.last)∧Sl mm 2 B d.wait.length e (qDk d.wait):=by
 obtain ⟨A,c,mL,B,e,mW,rfl,hd,h1,h2⟩:=h
 exact⟨A,c,B,e,qAG.blk0.mono (qFr hd (.head _)),h1.sl.mono (qFr hd (.tail _ (.head _))),h2.sl.mono (qFr hd (.tail _ (.tail _ (.head _))))⟩
def Dk.ready(d:Dk)(i:Int):Int:=if d.off then 8 else if i<0∨(d.last.length:Int)≤i then 10 else 0
def qVk(l:List Wri)(i:Nat):Nat→Option xA
 |0=>none
 |k+1=>if(l.getD k (0,[])).1=i then some (l.getD k (0,[])).2 else qVk l i k
theorem qKN(l:List Wri)(i:Nat):qVk l i 0=none:=rfl
theorem qQK(l:List Wri)(i k:Nat):qVk l i (k+1)=if(l.getD k (0,[])).1=i then some (l.getD k (0,[])).2 else qVk l i k:=rfl
def Dk.now(d:Dk)(i:Nat):xA:=(qVk d.wait i d.wait.length).getD (d.last.getD i [])
def Dk.read(d:Dk)(i:Int):xA:=if d.ready i=0 then d.now i.toNat else []
def qYf(old t:xA)(n:Nat):xA:=t.take n++old.drop n
def qMX(L:List xA)(w:Wri)(n:Nat):List xA:=L.set w.1 (qYf (L.getD w.1 []) w.2 n)
theorem qK2(L:List xA)(w:Wri)(n:Nat):(qMX L w n).length=L.length:=by unfold qMX;rw [jk]
def qDX(L:List xA)(W:List Wri):Nat→List xA
 |0=>L
 |k+1=>qMX (qDX L W k) (W.getD k (0,[])) 64
def qJk(L:List xA)(W:List Wri)(K:xA):Nat→List xA
 |0=>L
 |k+1=>if k<K.length then qMX (qJk L W K k) (W.getD k (0,[])) (min (K.getD k 0).toNat 64) else qJk L W K k
theorem qBQ(L:List xA)(W:List Wri): ∀k,(qDX L W k).length=L.length
 |0=>rfl
 |k+1=>by rw [qDX,qK2,qBQ L W k]
theorem qBS(L:List xA)(W:List Wri)(K:xA): ∀k,(qJk L W K k).length=L.length
 |0=>rfl
 |k+1=>by
  rw [qJk]
  split
  · rw [qK2,qBS L W K k]
  · exact qBS L W K k
def Dk.cut(d:Dk)(K:xA):Dk:={d with last:=qJk d.last d.wait K d.wait.length,wait:= [],off:=true,armed:=false}
def Dk.burns(d:Dk):Prop:=d.armed=true∧d.fuse-1<0
instance (d:Dk):Decidable d.burns:=by unfold Dk.burns;infer_instance
def Dk.burn(d:Dk):Dk:=if d.armed=true then(if d.fuse-1<0 then{d with fuse:=d.fuse-1}.cut d.keep else{d with fuse:=d.fuse-1}) else d
def qR3(s:xA):xA:=s++List.replicate (64-s.length) 0
theorem qU2{s:xA}(h:s.length≤64):(qR3 s).length=64:=by unfold qR3;rw [jA,jL];omega
structure Dk.ok0 (d:Dk):Prop where
 l64: ∀s∈d.last,s.length=64
 w64: ∀w∈d.wait,w.1<d.last.length∧w.2.length=64
 n0:0<d.last.length
 n1:d.last.length≤1024
structure Dk.ok (d:Dk):Prop extends Dk.ok0 d where
 fz:d.armed=true→0≤d.fuse
 fb: -9223372036854775808≤d.fuse∧d.fuse≤9223372036854775807
theorem qTM{o t:xA}{n:Nat}(ho:o.length=64)(ht:t.length=64)(hn:n≤64):(qYf o t n).length=64:=by unfold qYf;rw [jA,jF,jI];omega
theorem qX1{L:List xA}(h: ∀s∈L,s.length=64){k:Nat}(hk:k<L.length):(L.getD k []).length=64:=by
 rw [jB,jC hk];exact h _ (jQ hk)
theorem qU0{W:List Wri}{p:Wri→Prop}(h: ∀w∈W,p w){k:Nat}(hk:k<W.length):p (W.getD k (0,[])):=by
 rw [jB,jC hk];exact h _ (jQ hk)
theorem qNp{L:List xA}(h: ∀s∈L,s.length=64){w:Wri}(hw:w.1<L.length∧w.2.length=64){n:Nat}(hn:n≤64): ∀s∈qMX L w n,s.length=64:=λs hs=>by
 unfold qMX at hs
 rcases yG hs with hs|rfl
 · exact h s hs
 · exact qTM (qX1 h hw.1) hw.2 hn
theorem qIy{L:List xA}{W:List Wri}(h: ∀s∈L,s.length=64)(hw: ∀w∈W,w.1<L.length∧w.2.length=64): ∀k,k≤W.length→ ∀s∈qDX L W k,s.length=64
 |0,_=>h
 |k+1,hk=>by
  rw [qDX]
  exact qNp (qIy h hw k xB) (by rw [qBQ];exact qU0 hw (show k<W.length by omega)) (jJ _)
theorem qJj{L:List xA}{W:List Wri}{K:xA}(h: ∀s∈L,s.length=64)(hw: ∀w∈W,w.1<L.length∧w.2.length=64): ∀k,k≤W.length→ ∀s∈qJk L W K k,s.length=64
 |0,_=>h
 |k+1,hk=>by
  rw [qJk]
  split
  · exact qNp (qJj h hw k xB) (by rw [qBS];exact qU0 hw (show k<W.length by omega)) (Nat.min_le_right _ _)
  · exact qJj h hw k xB
theorem Dk.ok0.cut{d:Dk}(h:d.ok0)(K:xA):(d.cut K).ok0:=
 ⟨qJj h.l64 h.w64 _ (jJ _),(λw hw=>nomatch hw),by show 0<(qJk _ _ _ _).length;rw [qBS];exact h.n0,by show(qJk _ _ _ _).length≤_;rw [qBS];exact h.n1⟩
theorem Dk.ok.cut{d:Dk}(h:d.ok)(K:xA):(d.cut K).ok:=⟨Dk.ok0.cut h.1 K,(λe=>nomatch e),h.fb⟩
theorem Dk.ok.burn{d:Dk}(h:d.ok):d.burn.ok:=by
  unfold Dk.burn
  split
  · rename_i ha
    have h1:=h.fz ha
    have h2:=h.fb
    split
    · exact⟨Dk.ok0.cut (d:={d with fuse:=d.fuse-1}) ⟨h.l64,h.w64,h.n0,h.n1⟩ _,(λe=>nomatch e),by show _≤d.fuse-1∧d.fuse-1≤_;omega⟩
    · exact⟨⟨h.l64,h.w64,h.n0,h.n1⟩,λ_=>by show 0≤d.fuse-1;omega,by show _≤d.fuse-1∧d.fuse-1≤_;omega⟩
  · exact h
def Dk.wErr(d:Dk)(i:Int)(s:xA):Int:=if d.ready i≠0 then d.ready i else if 64<s.length then 2 else if d.burns then 8 else 0
def Dk.write(d:Dk)(i:Int)(s:xA):Dk:=if d.ready i≠0 then d else if 64<s.length then d else if d.burns then d.burn else{d.burn with wait:=d.burn.wait++ [(i.toNat,qR3 s)]}
def Dk.sErr(d:Dk):Int:=if d.ready 0≠0 then d.ready 0 else if d.burns then 8 else 0
def Dk.sync(d:Dk):Dk:=if d.ready 0≠0 then d else if d.burns then d.burn else{d.burn with last:=qDX d.burn.last d.burn.wait d.burn.wait.length,wait:= []}
def Dk.new(n:Nat):Dk:=⟨List.replicate n (List.replicate 64 0),[],false,false,0,[]⟩
theorem qNH{d:Dk}{i:Int}(h:d.ready i=0):0≤i∧i<d.last.length∧d.off=false:=by
  unfold Dk.ready at h
  split at h
  · cases h
  · rename_i h1
    split at h
    · cases h
    · exact⟨xB,xB,by simpa using h1⟩
theorem qED{d:Dk}(h: ¬d.burns):d.burn.last=d.last∧d.burn.wait=d.wait∧d.burn.off=d.off:=by
  unfold Dk.burn
  split
  · rename_i ha
    rw [if_neg (λe=>h ⟨ha,e⟩)];exact⟨O,O,O⟩
  · exact⟨O,O,O⟩
theorem Dk.ok.write{d:Dk}(h:d.ok)(i:Int)(s:xA):(d.write i s).ok:=by
  unfold Dk.write
  split
  · exact h
  · rename_i h0
    split
    · exact h
    · rename_i h1
      have hb:=h.burn
      split
      · exact hb
      · rename_i h2
        obtain ⟨r1,r2,_⟩:=qNH (Decidable.not_not.1 h0)
        refine⟨⟨hb.l64,λw hw=>?_,hb.n0,hb.n1⟩,hb.fz,hb.fb⟩
        rcases List.mem_append.1 hw with hw|hw
        · exact hb.w64 w hw
        · simp only [jS] at hw
          subst hw
          exact⟨by show i.toNat<d.burn.last.length;rw [(qED h2).1];omega,qU2 xB⟩
theorem Dk.ok.sync{d:Dk}(h:d.ok):d.sync.ok:=by
  unfold Dk.sync
  split
  · exact h
  · have hb:=h.burn
    split
    · exact hb
    · exact⟨⟨qIy hb.l64 hb.w64 _ (jJ _),(λw hw=>nomatch hw),by show 0<(qDX _ _ _).length;rw [qBQ];exact hb.n0,by show(qDX _ _ _).length≤_;rw [qBQ];exact hb.n1⟩,hb.fz,hb.fb⟩
theorem Dk.new_ok{n:Nat}(h:4≤n)(h2:n≤1024):(Dk.new n).ok:=⟨⟨λs hs=>by have:=zN hs;rw [this,jL],(λw hw=>nomatch hw),by show 0<(List.replicate n _).length;rw [jL];omega,by show(List.replicate n _).length≤_;rw [jL];exact h2⟩,(λe=>nomatch e),⟨by show-9223372036854775808≤(0:Int);decide,by show(0:Int)≤_;decide⟩⟩
theorem qI8(F:Hp)(g:Nat)(d:Dk)(A:Option Addr)(c:Nat)(B:Option Addr)(e:Nat)(C:Option Addr)(f:Nat)(hc:qAG F ⟨g,0,none⟩ (d.cells A c B e C f))(i:Int)(hn:d.last.length≤1073741824):
    Cz prog 253 [Ptr g,I i] F (I (d.ready i)):=by
  refine Ct.walk func253 O ntmps253 O (λw0 hw0=>?_)
  refine J.f λ_ j1=>J.b O<|J.c j1<|J.k λ_ j2=>J.T<|J.f λ_ j3=>J.b O<|J.g ((qA6 underlying24 O O O).as (v':= .bool false) O) O<|J.b O<|J.c j3<|J.a3 ?_
  refine J.f λ_ j4=>J.b O<|J.g (qAB O O) O<|J.W 2 qCr z4_ O O O O O<|J.g ((qAI O O b4_ (m:=F) xD (hc.at (i:=2) O)).as (v':= .bool (decide (d.off=true))) (congrArg Value.bool xD)) O<|J.b O<|J.c j4<|J.Z O (λh8=>?_) (λh8=>?_)
  ·
    exact J.f λ_ j5=>J.b O<|J.c j5<|J.A<|J.a5<|J.V<|J.E hw0 O () (congrArg I (show(8:Int)=d.ready i by unfold Dk.ready;rw [if_pos h8])) trivial [0] O xC
  refine J.f λ_ j6=>J.b O<|J.g (qAS O O O) O<|J.b O<|J.b9 (d:=16) O (λh16=>?_) (λh16=>?_)
  ·
    refine J.p 9 O<|J.c j6<|J.c3 ?_
    exact J.f λ_ j7=>J.b O<|J.c j7<|J.A<|J.a5<|J.V<|J.E hw0 O () (congrArg I (show(10:Int)=d.ready i by unfold Dk.ready;rw [if_neg h8,if_pos xB])) trivial [0] O xC
  refine J.p 2 O<|J.G (qAB O O) O<|J.G (qAA O O qCr O qB9 O) O<|J.G (qAI O O qCQ (m:=F) xD (hc.at (i:=0) O)) O<|J.G (qAO qAn O O) O<|J.G (qBI O O O) O<|J.p 2 O<|J.c j6<|J.Z O (λh13=>?_) (λh13=>?_)
  ·
    exact J.f λ_ j8=>J.b O<|J.c j8<|J.A<|J.a5<|J.V<|J.E hw0 O () (congrArg I (show(10:Int)=d.ready i by unfold Dk.ready;rw [if_neg h8,if_pos xB])) trivial [0] O xC
  refine J.b2<|J.a2<|J.u (J.D j2 ?_)
  exact J.f λ_ j9=>J.b O<|J.c j9<|J.A<|J.E hw0 O () (congrArg I (show(0:Int)=d.ready i by unfold Dk.ready;rw [if_neg h8,if_neg xB])) trivial [0] O xC
theorem qN4(F:Hp)(g:Nat)(d:Dk)(A:Option Addr)(c:Nat)(B:Option Addr)(e:Nat)(C:Option Addr)(f:Nat)(hc:qAG F ⟨g,0,none⟩ (d.cells A c B e C f)):
    Cz prog 120 [Ptr g] F (I d.last.length):=by
  refine Ct.walk func120 O ntmps120 O (λw0 hw0=>?_)
  refine J.f λ_ j1=>J.b O<|J.c j1<|J.k λ_ j2=>J.f λ_ j3=>J.b O<|J.g ((qA6 underlying24 O O O).as (v':= .bool false) O) O<|J.c j3<|J.a3 ?_
  exact J.M j2<|J.f λ_ j4=>J.b O<|J.g (qAB O O) O<|J.W 0 qCr qB9 O O O O O<|J.g (qAI O O qCQ (m:=F) xD (hc.at (i:=0) O)) O<|J.g (qAO qAn O O) O<|J.b O<|J.c j4<|J.A<|J.E hw0 O () O trivial [0] O xC
theorem qVN(F:Hp)(B:Option Addr)(n e:Nat):Ct prog 254 [.slice B n e] [F] (λx:Nat=> .func (.func 285) #[] #[Ptr x]) (λ_=>True) (λx=> [F,blk x [.slice B n e] 114]):=by
 refine Ct.walk func254 O ntmps254 O (λw0 hw0=>?_)
 exact J.f λ_ j1=>J.q (qAb O O O) O λg1 _=>J.b O<|J.c j1<|J.f λ_ j2=>J.g (qBM O O) O<|J.b O<|J.c j2<|J.A<|J.E hw0 O g1 O trivial [0,1] O xC
theorem qSf(Fr:Hp)(gB:Nat)(B:Option Addr)(W:List Wri)(e:Nat)(hn2:W.length≤1073741824)(ha:qAG Fr ⟨gB,0,none⟩ [.slice B W.length e])(hs:Sl Fr 2 B W.length e (qDk W)):
    qJt prog 285 [Ptr gB] Fr (λi=> [I (W.length-1-i:Nat),.agg #[I (W.getD (W.length-1-i) (0,[])).1,Str (W.getD (W.length-1-i) (0,[])).2]]) W.length:=by
  refine qJt.walk func285 O ntmps285 O (λ{X} M IY S l x0 w0 hw0 h0 hY=>?_)
  refine J.f λ_ j1=>J.g (qAI O O isAgg114 (m:=Fr) xD (ha)) O<|J.g (qAO qIv O O) O<|J.g ((qA4 O O O xB).as (v':=I ((W.length:Int)-1-((0:Nat):Int))) (congrArg I xB)) O<|J.b O<|J.c j1<|J.T<|J.b5 (X:=Nat×X) (λy=> [(0,.func (.yield l) #[] #[]),(1,Ptr gB),(3,I ((W.length:Int)-1-(y.1:Int)))]) (λy=> [Fr,M y.2]) (λy=>y.1≤W.length∧IY y.1 y.2) (λy=>W.length-y.1) (0,x0) (⟨jE _,h0⟩) ⟨O,O,O,trivial⟩ (λ_ h=>h) ?_
  rintro⟨i,x⟩ ⟨hi,hI⟩ I0 hI0
  dsimp only at hi hI⊢
  refine J.k λ_ j2=>J.f λ_ j3=>J.b O<|J.g (qBI O O O) O<|J.c j3<|J.Z O (λh8=>?_) (λh8=>?_)
  ·
    refine J.M j2<|J.k λ_ j4=>J.T<|J.k λ_ j5=>J.f6 ?_
    refine J.c8 (qA2 O O) O O O ?_
    refine J.c8 ((qA2 O O).nat (W.length-1-i) xB) O O O ?_
    refine J.c8 (qAI O O isAgg114 (m:=Fr) xD (ha)) O O O ?_
    refine J.c8 ((qA2 O O).nat (W.length-1-i) xB) O O O ?_
    refine J.c8 (qAF O O O qIv qGd hs xB) O O O ?_
    refine J.c8 (qAP O O isAgg368 qGd (m:=Fr) xD (hs.elem (qGh xB)) O) O O O ?_
    refine J.f7 (ex:= []) O O O O O O (hY i x xB hI) ?_
    rintro x' b hb1 hb2
    cases b
    ·
      have hyb:=hb2 O
      refine J.c8 (qAs O O) O O O ?_
      refine J.e2 ?_
      refine J.u (J.D j5 ?_)
      refine J.c3 ?_
      exact J.A<|J.a5<|J.V<|J.V<|J.a5<|J.a9 hw0 (λ_ _ h=>h) (qI7 O) (λw hs=>⟨x',⟨_,O⟩,.inr hyb,hs⟩)
    have hyb:=hb1 O
    refine J.c8 (qAs O O) O O O ?_
    refine J.e2 ?_
    refine J.u (J.D j5 ?_)
    refine J.a3 ?_
    refine J.b2<|J.a2<|J.u (J.D j4 ?_)
    exact J.H<|J.b O<|J.g ((qA4 O O O xB).as (v':=I ((W.length:Int)-1-((i+1:Nat):Int))) (congrArg I xB)) O<|J.b O<|J.a4<|J.u<|J.a8 (i+1,x') (λy (hy:_∧W.length-y.1<W.length-i)=>hI0 y hy.1 hy.2) ⟨⟨by dsimp only;omega,hyb⟩,by dsimp only;omega⟩ ⟨O,O,O,trivial⟩ (λ_ h=>h)
  refine J.b3<|J.a0<|J.a0<|J.b4 ?_
  exact J.d3 hw0 (λ_ _ h=>h) (qI7 O) (λw hs=>⟨x,⟨_,O⟩,.inl (by rw [show W.length=i by omega];exact hI),hs⟩)
theorem qTZ(F:Hp)(g:Nat)(d:Dk)(A:Option Addr)(c:Nat)(B:Option Addr)(e:Nat)(C:Option Addr)(f:Nat)(hc:qAG F ⟨g,0,none⟩ (d.cells A c B e C f))(hL:Sl F 1 A d.last.length c (qAH d.last))(hW:Sl F 2 B d.wait.length e (qDk d.wait))(i:Int)(hn:d.last.length≤1073741824)(hn2:d.wait.length≤1073741824):
    Cz prog 198 [Ptr g,I i] F (.tuple #[Str (d.read i),I (d.ready i)]):=by
  refine Ct.walk func198 O ntmps198 O (λw0 hw0=>?_)
  refine J.f λ_ j1=>J.q (qAb O O O) O λg3 _=>J.q (qAJ O e9_ O) O λg4 _=>J.q (qAJ O zeroValue25 O) O λg5 _=>J.c j1<|J.k λ_ j2=>J.f λ_ j3=>J.b O<|J.a6 1 b3_ O O O O O<|J.q (qAZ O O (λF' hF=>qI8 F' g d A c B e C f (hc.mono (Fa hF)) i hn)) O λg11 _=>J.b O<|J.c j3<|J.f λ_ j4=>J.b O<|J.g (qAV O O O) O<|J.c j4<|J.Z O (λh13=>?_) (λh13=>?_)
  ·
    exact J.f λ_ j5=>J.b O<|J.a7 (qAC (i:=2) O O O O O z9_ O O) O O λ_ _=>J.a7 (qAC (l:= [I 0]) (i:=3) (vs:= [I (d.ready i)]) O O O O O qLk O O) O O λ_ _=>J.c j5<|J.A<|J.V<|J.a9 hw0 (λ_ _ h=>h) (rv2 O (RV.blk1 2 O O b9_) (RV.blk1 3 O O qMs)) (qAg () (by rw [show d.read i= [] from if_neg xB]) trivial [0] O xC)
  refine J.M j2<|J.k λ_ j6=>J.k λ_ j7=>?_
  have h0:d.ready i=0:=xB
  obtain ⟨hi0,hil⟩:0≤i∧i<d.last.length:=by
    unfold Dk.ready at h0
    split at h0
    · cases h0
    · split at h0
      · cases h0
      · omega
  obtain ⟨iN,hiN⟩:=zw hi0
  have hrd:d.read i=d.now iN:=by unfold Dk.read;rw [if_pos h0,hiN];rfl
  refine J.H<|J.b O<|J.g (qAB O O) O<|J.W 1 qCr qHl O O O O O<|J.g (qAI O O isAgg114 (m:=F) xD (hc.at (i:=1) O)) O<|J.q (qBb O O (λF' _=>qVN F' B d.wait.length e)) O ?_
  rintro gB _
  refine J.c j7<|J.T<|J.c2 [2,3,0,1,4] [blk g4 [Str []] 9,blk g5 [I 0] 25,F,blk g3 [I i] 3,blk gB [.slice B d.wait.length e] 114] O xC<|J.g0 (λx:xA×Int=> [blk g4 [Str x.1] 9,blk g5 [I x.2] 25]) [F,blk g3 [I i] 3,blk gB [.slice B d.wait.length e] 114] (λr x=>x=([],0)∧d.now iN=(qVk d.wait iN (d.wait.length-r)).getD (d.last.getD iN [])) (λcd x=>cd= .ret∧x=(d.now iN,0)) ([],0) O ent (λFr hF=>qSf Fr gB B d.wait e hn2 (qAG.blk0.mono (hF (blk gB [.slice B d.wait.length e] 114) xD)) (hW.mono (Fa hF))) (λ_ _=>rfl) O (⟨O,O⟩) ?_ ?_ ?_
  ·
    intro r x l wa wb hi hI K8 Post8 j8 hN8 hR8 hE8
    obtain ⟨x1,x2⟩:=x
    obtain ⟨hx,hnow⟩:=hI
    cases hx
    have hsk:qVk d.wait iN (d.wait.length-r)=if(d.wait.getD (d.wait.length-1-r) (0,[])).1=iN then some (d.wait.getD (d.wait.length-1-r) (0,[])).2 else qVk d.wait iN (d.wait.length-(r+1)):=by
      have:=qQK d.wait iN (d.wait.length-1-r)
      rw [show d.wait.length-1-r+1=d.wait.length-r by omega] at this
      rw [this,show d.wait.length-(r+1)=d.wait.length-1-r by omega]
    refine J.d7 ?_
    refine J.q (qAJ O zeroValue368 O) O λg8 _=>J.a7 (qAC (l:= [I 0,Str []]) (i:=5) (vs:= [I (d.wait.getD (d.wait.length-1-r) (0,[])).1,Str (d.wait.getD (d.wait.length-1-r) (0,[])).2]) O O O O O qGd O O) O O λ_ _=>J.d8 ?_
    refine J.u (j8 _ _ ?_)
    refine J.f5 ?_
    refine J.f4 (λ_ j9=>?_)
    refine J.d7 ?_
    refine J.W 0 qOQ z3_ O O O O O<|J.a6 5 b3_ O O O O O<|J.a6 3 b3_ O O O O O<|J.g ((qAe O O O).as (v':= .bool (decide ((d.wait.getD (d.wait.length-1-r) (0,[])).1=iN))) (congrArg Value.bool (decide_eq_decide.2 xB))) O<|J.d8 ?_
    refine J.u (J.D j9 ?_)
    refine J.g8 O (λh25=>?_) (λh25=>?_)
    ·
      refine J.f4 (λ_ j10=>?_)
      refine J.d7 ?_
      refine J.W 1 qOQ z9_ O O O O O<|J.a6 5 b9_ O O O O O<|J.a7 (qAC (l:= [Str []]) (i:=0) (vs:= [Str (d.wait.getD (d.wait.length-1-r) (0,[])).2]) O O O O O z9_ O O) O O λ_ _=>J.a7 (qAC (i:=1) O O O O O qLk O O) O O λ_ _=>J.d8 ?_
      refine J.u (J.D j10 ?_)
      refine J.h8 ?_
      refine J.a5<|J.c2 [0,1,2,3,4] [blk g4 [Str (d.wait.getD (d.wait.length-1-r) (0,[])).2] 9,blk g5 [I 0] 25,F,blk g3 [I i] 3,blk gB [.slice B d.wait.length e] 114] O xC ?_
      exact hR8 _ ((d.wait.getD (d.wait.length-1-r) (0,[])).2,0) ⟨O,by rw [hnow,hsk,if_pos h25];rfl⟩
    refine J.h7 ?_
    refine J.a2<|J.c2 [0,1,2,3,4] [blk g4 [Str []] 9,blk g5 [I 0] 25,F,blk g3 [I i] 3,blk gB [.slice B d.wait.length e] 114] O xC ?_
    exact hN8 _ ([],0) ⟨O,by rw [hnow,hsk,if_neg h25]⟩
  ·
    intro w8 x hx8 hI
    obtain ⟨x1,x2⟩:=x
    obtain ⟨hx,hnow⟩:=hI
    cases hx
    rw [jv,qKN] at hnow
    refine J.a2<|J.u (J.D j6 ?_)
    refine J.k λ_ j11=>J.b1 [blk g4 [Str []] 9,blk g5 [I 0] 25,F,blk g3 [I i] 3,blk gB [.slice B d.wait.length e] 114] [7,8] (.y 0 (.y 1 (.y 2 (.y 3 (.y 4 (.y 5 (.y 6 (.e 7 (.e 8 .nil))))))))) Tryz.wide xF xD ?_
    refine J.L ?_
    refine J.j O (qAB O O) O O<|J.j O (qAA O O qCr O qB9 O) O O<|J.j O (qAI O O qCQ (m:=F) xD (hc.at (i:=0) O)) O O<|J.j O (qAD 3 O O O b3_ O) O O<|J.j O (qAF O O (by show some (I i)=_;rw [hiN]) qAn z9_ hL xB) O O<|J.j O (qAI O O b9_ (m:=F) xD (hL.elem (qAc (qAi [] (show iN<d.last.length by omega))))) O O<|J.c1 O (qAC (l:= [Str []]) (i:=0) (vs:= [Str (d.last.getD iN [])]) O O O O O z9_ O O) O O O λ_ _=>J.c1 O (qAC (i:=1) O O O O O qLk O O) O O O λ_ _=>J.b0<|J.u (J.D j11 ?_)
    exact J.A<|J.e8 hw0 hx8 (λ_ _ h=>h) (rv2 O (RV.blk1 0 O O b9_) (RV.blk1 1 O O qMs)) (qAg () (by rw [hrd,h0,hnow];rfl) trivial [2] O xC)
  intro w8 x c hx8 hS
  obtain ⟨rfl,rfl⟩:=hS
  exact J.A<|J.a5<|J.V<|J.e8 hw0 hx8 (λ_ _ h=>h) (rv2 O (RV.blk1 0 O O b9_) (RV.blk1 1 O O qMs)) (qAg () (by rw [hrd,h0]) trivial [2] O xC)
theorem qSC(g i:Nat):qFN (some ⟨g,0,none⟩) i 1=⟨g,i,none⟩:=by rw [qHY];simp
theorem qRg(F mL:Hp)(g gL c n:Nat)(d:Dk)(B:Option Addr)(e:Nat)(C:Option Addr)(f:Nat)(L:List xA)(hc:qAG F ⟨g,0,none⟩ [.slice (some ⟨gL,0,none⟩) L.length c,.slice B d.wait.length e,.bool d.off,.bool d.armed,I d.fuse,.slice C d.keep.length f])
    (hr:Row mL 9 1 (some ⟨gL,0,none⟩) L.length c (qAH L)) (at_:Nat) (t:xA) (hat:at_<L.length) (ht:n≤t.length) (ho:n≤(L.getD at_ []).length) (hs:t.length≤1048576) (hs2:(L.getD at_ []).length≤1048576) (hn3:L.length≤1073741824):
    Ct prog 289 [Ptr g,.agg #[I at_,Str t],I n] [mL,F] (λ_:Hp=> .tuple #[]) (λm=>Row m 9 1 (some ⟨gL,0,none⟩) L.length c (qAH (qMX L (at_,t) n))) (λm=> [m,F]):=by
  refine Ct.walk func289 O ntmps289 O (λw0 hw0=>?_)
  refine J.f λ_ j1=>J.q (qAb O O O) O λg4 _=>J.c j1<|J.b1 [mL,F,blk g4 [I at_,Str t] 368] [22] (.y 0 (.y 1 (.y 2 (.y 3 (.y 4 (.y 5 (.y 6 (.y 7 (.y 8 (.y 9 (.y 10 (.y 11 (.y 12 (.y 13 (.y 14 (.y 15 (.y 16 (.y 17 (.y 18 (.y 19 (.y 20 (.y 21 (.e 22 .nil))))))))))))))))))))))) Tryz.wide xF xD ?_
  refine J.L ?_
  refine J.j O (qAB O O) O O<|J.j O (qAA O O qCr O qB9 O) O O<|J.j O (qAI O O qCQ (m:=F) xD (hc.at (i:=0) O)) O O<|J.j O (qAA O O qOQ O z3_ O) O O<|J.j O (qAD 2 O O O b3_ O) O O<|J.j O (qAA O O qOQ O z9_ O) O O<|J.j O (qAD 2 O O O b9_ O) O O<|J.L ?_
  refine J.j O ((qA9 u9_ O O O O ⟨xB,xB⟩).as (v':=Str (t.take n)) (congrArg Str ze)) O O<|J.L ?_
  refine J.j O (qAB O O) O O<|J.j O (qAA O O qCr O qB9 O) O O<|J.j O (qAI O O qCQ (m:=F) xD (hc.at (i:=0) O)) O O<|J.j O (qAA O O qOQ O z3_ O) O O<|J.j O (qAD 2 O O O b3_ O) O O<|J.j O (qAF O O O qAn z9_ hr.sl xB) O O<|J.j O (qAI O O b9_ (m:=mL) xD (hr.sl.elem (qAc (qAi [] hat)))) O O<|J.L ?_
  refine J.j O ((qA9 u9_ O O O O ⟨xB,xB⟩).as (v':=Str ((L.getD at_ []).drop n)) (by rw [jm])) O O<|J.j O ((qBe O O O (by simp only [jF,jI];omega)).as (v':=Str (qYf (L.getD at_ []) t n)) O) O O<|J.j O (qAF O O O qAn z9_ hr.sl xB) O O<|J.c1 O (qBL (i:=0) (k:=at_) (off:=0) (b:= [Str (qYf (L.getD at_ []) t n)]) O (by show some _=some _;rw [qSC]) O O hr (vs:= [Str (qYf (L.getD at_ []) t n)]) O z9_ O xB (qAc (qAi [] hat)) O (by show _+1≤1;decide)) O O O ?_
  rintro m9 h9
  exact J.b0<|J.d3 hw0 (λ_ _ h=>h) (qI7 O) (qAg m9 O (by rw [qDx] at h9;exact h9) [0,1] O xC)
theorem qYD(F mL mW:Hp)(g:Nat)(d:Dk)(hok:d.ok0)(hn2:d.wait.length≤1073741824)(gL:Nat)(c:Nat)(B:Option Addr)(e:Nat)(C:Option Addr)(f:Nat)(hL:Row mL 9 1 (some ⟨gL,0,none⟩) d.last.length c (qAH d.last))(hW:Row mW 368 2 B d.wait.length e (qDk d.wait))(K:xA)(E:Option Addr)(q:Nat)(hK:Sl F 1 E K.length q (qAf K))(hKn:K.length≤9223372036854775807):
    Ct prog 301 [Ptr g,.slice E K.length q] [blk g [.slice (some ⟨gL,0,none⟩) d.last.length c,.slice B d.wait.length e,.bool d.off,.bool d.armed,I d.fuse,.slice C d.keep.length f] 116,mL,mW,F] (λ_:Hp=> .tuple #[]) (λm=>Row m 9 1 (some ⟨gL,0,none⟩) d.last.length c (qAH (qJk d.last d.wait K d.wait.length))) (λm=> [blk g [.slice (some ⟨gL,0,none⟩) d.last.length c,.slice none 0 0,.bool true,.bool false,I d.fuse,.slice C d.keep.length f] 116,m,F]):=by
  refine Ct.walk func301 O ntmps301 O (λw0 hw0=>?_)
  refine J.k λ_ j1=>J.f λ_ j2=>J.b O<|J.g ((qA6 underlying24 O O O).as (v':= .bool false) O) O<|J.c j2<|J.a3 ?_
  refine J.M j1<|J.k λ_ j3=>J.f λ_ j4=>J.b O<|J.g (qAB O O) O<|J.W 1 qCr qHl O O O O O<|J.a6 0 isAgg114 O O O O O<|J.g (qAO qIv O O) O<|J.b O<|J.c j4<|J.T<|J.b5 (X:=Nat×Hp) (λx=> [(0,Ptr g),(1,.slice E K.length q),(11,.slice B d.wait.length e),(12,I d.wait.length),(13,I x.1)]) (λx=> [blk g [.slice (some ⟨gL,0,none⟩) d.last.length c,.slice B d.wait.length e,.bool d.off,.bool d.armed,I d.fuse,.slice C d.keep.length f] 116,x.2,mW,F]) (λx=>x.1≤d.wait.length∧Row x.2 9 1 (some ⟨gL,0,none⟩) d.last.length c (qAH (qJk d.last d.wait K x.1))) (λx=>d.wait.length-x.1) (0,mL) (⟨jE _,hL⟩) ⟨O,O,O,O,O,trivial⟩ (λ_ h=>h) ?_
  rintro⟨k,m⟩ ⟨hk,hr⟩ I0 hI0
  dsimp only at hk hr⊢
  refine J.f λ_ j5=>J.g (qAS O O O) O<|J.c j5<|J.k λ_ j6=>J.Z O (λh14=>?_) (λh14=>?_)
  ·
    refine J.M j6<|J.k λ_ j7=>J.T<|J.f λ_ j8=>J.b O<|J.g (qAF O O O qIv qGd hW.sl xB) O<|J.g (qAP O O isAgg368 qGd (m:=mW) xD (hW.sl.elem (qGh xB)) O) O<|J.q (qAJ O zeroValue368 O) O λg5 _=>J.b O<|J.a7 (qAC (l:= [I 0,Str []]) (i:=4) (vs:= [I (d.wait.getD k (0,[])).1,Str (d.wait.getD k (0,[])).2]) O O O O O qGd O O) O O λ_ _=>J.c j8<|J.f λ_ j9=>J.p 2 O<|J.g (qAO qBu O O) O<|J.g (qAS O O O) O<|J.c j9<|J.Z O (λh21=>?_) (λh21=>?_)
    ·
      have ⟨hw1,hw2⟩:=qU0 hok.w64 (show k<d.wait.length by omega)
      have h64:=qX1 (qJj hok.l64 hok.w64 (K:=K) k hk) (show(d.wait.getD k (0,[])).1<(qJk d.last d.wait K k).length by rw [qBS];exact hw1)
      obtain ⟨nk,hnk⟩: ∃nk,nk=min (K.getD k 0).toNat 64:=⟨_,rfl⟩
      refine J.b1 [blk g5 [I (d.wait.getD k (0,[])).1,Str (d.wait.getD k (0,[])).2] 368,F] [] (.y 0 (.y 1 (.y 2 (.y 3 (.y 4 (.y 5 (.y 6 (.y 7 (.e 8 .nil))))))))) Tryz.wide xF xD ?_
      refine J.L ?_
      refine J.j O (qAU 0 O O O isAgg368 qGd O) O O<|J.L ?_
      refine J.L ?_
      refine J.j O (qAF O O O qBu z5_ hK xB) O O<|J.j O (qAI O O b5_ (m:=F) xD (hK.elem (qBh (qAi 0 xB)))) O O<|J.j O (qCM O O u5_ u3_) O O<|J.j O ((qF4 O O O).nat (nk) xB) O O<|J.a1 O (qAK O O ent (Ct.use1 1 O (λF' hF=>by have:=qRg F' m g gL c nk d B e C f (qJk d.last d.wait K k) (by rw [qBS];exact qAG.blk0.mono (hF (blk g [.slice (some ⟨gL,0,none⟩) d.last.length c,.slice B d.wait.length e,.bool d.off,.bool d.armed,I d.fuse,.slice C d.keep.length f] 116) xD)) (by rw [qBS];exact hr) (d.wait.getD k (0,[])).1 (d.wait.getD k (0,[])).2 (by rw [qBS];exact hw1) xB xB xB xB (by rw [qBS];have:=hok.n1;omega);rw [qBS] at this;exact this))) O xD ?_
      rintro m30 h30
      refine J.c2 [0,1,2,3] [blk g [.slice (some ⟨gL,0,none⟩) d.last.length c,.slice B d.wait.length e,.bool d.off,.bool d.armed,I d.fuse,.slice C d.keep.length f] 116,m30,mW,F] O xC<|J.b0<|J.a2<|J.u (J.D j7 ?_)
      exact J.H<|J.g ((qAR O O O xB).nat (k+1) xB) O<|J.b O<|J.a4<|J.u<|J.a8 (k+1,m30) (λx (hx:_∧d.wait.length-x.1<d.wait.length-k)=>hI0 x hx.1 hx.2) ⟨⟨by dsimp only;omega,by dsimp only;rw [qJk,if_pos xB,←hnk];exact h30⟩,by dsimp only;omega⟩ ⟨O,O,O,O,O,trivial⟩ (λ_ h=>h)
    refine J.b2<|J.a2<|J.u (J.D j7 ?_)
    exact J.H<|J.g ((qAR O O O xB).nat (k+1) xB) O<|J.b O<|J.a4<|J.u<|J.c2 [0,1,2,3] [blk g [.slice (some ⟨gL,0,none⟩) d.last.length c,.slice B d.wait.length e,.bool d.off,.bool d.armed,I d.fuse,.slice C d.keep.length f] 116,m,mW,F] O xC<|J.a8 (k+1,m) (λx (hx:_∧d.wait.length-x.1<d.wait.length-k)=>hI0 x hx.1 hx.2) ⟨⟨by dsimp only;omega,by dsimp only;rw [qJk,if_neg xB];exact hr⟩,by dsimp only;omega⟩ ⟨O,O,O,O,O,trivial⟩ (λ_ h=>h)
  refine J.b3<|J.a0<|J.a0<|J.b4 ?_
  refine J.u (J.D j3 ?_)
  have hkn:k=d.wait.length:=xB
  subst hkn
  refine J.H<|J.p 3 O<|J.g (qAB O O) O<|J.W 1 qCr qHl O O O O O<|J.a7 (qAW (i:=0) O O O O O qHl O xD) O O λ_ _=>?_
  change J _ _ _ [blk g [.slice (some ⟨gL,0,none⟩) d.last.length c,.slice none 0 0,.bool d.off,.bool d.armed,I d.fuse,.slice C d.keep.length f] 116,m,mW,F] _
  refine J.g (qAB O O) O<|J.W 2 qCr z4_ O O O O O<|J.a7 (qAW (i:=0) (vs:= [.bool true]) O O O O O z4_ O xD) O O λ_ _=>?_
  change J _ _ _ [blk g [.slice (some ⟨gL,0,none⟩) d.last.length c,.slice none 0 0,.bool true,.bool d.armed,I d.fuse,.slice C d.keep.length f] 116,_,_,_] _
  exact J.g (qAB O O) O<|J.W 3 qCr z4_ O O O O O<|J.a7 (qAW (i:=0) (vs:= [.bool false]) O O O O O z4_ O xD) O O λ_ _=>J.a4<|J.d3 hw0 (λ_ _ h=>h) (qI7 O) (qAg m O hr [0,1,3] O xC)
theorem Dsk.open{mm:Hp}{g:Nat}{d:Dk}{C:Option Addr}{f:Nat}(h:Dsk mm g d C f)(h0:0<d.last.length): ∃gL c mL B e mW,mm=U [blk g (d.cells (some ⟨gL,0,none⟩) c B e C f) 116,mL,mW]∧Djs [blk g (d.cells (some ⟨gL,0,none⟩) c B e C f) 116,mL,mW]∧Row mL 9 1 (some ⟨gL,0,none⟩) d.last.length c (qAH d.last)∧Row mW 368 2 B d.wait.length e (qDk d.wait):=by
 obtain ⟨A,c,mL,B,e,mW,h1,h2,h3,h4⟩:=h
 obtain ⟨gL,rfl⟩:=h3.at h0
 exact⟨gL,c,mL,B,e,mW,h1,h2,h3,h4⟩
theorem qLh{a b:Hp}(h:Djs [a,b]):Djs [a,b,λ_=>none]:=by
 rw [qAa] at h⊢
 simp only [jt,zM,zE,or_false] at h⊢
 refine⟨?_,λ_ _ _=> .inr (by rename_i h _;rw [h]),λ_ hm=>hm.elim,.nil⟩
 rintro m (rfl|rfl)
 · exact h.1 m O
 · exact λ_=> .inr O
theorem qYC{g:Nat}(d:Dk)(gL c:Nat)(C:Option Addr)(f:Nat)(m:Hp)(K:xA)(hm:Row m 9 1 (some ⟨gL,0,none⟩) d.last.length c (qAH (qJk d.last d.wait K d.wait.length)))(hj:Djs [blk g [.slice (some ⟨gL,0,none⟩) d.last.length c,.slice none 0 0,.bool true,.bool false,I d.fuse,.slice C d.keep.length f] 116,m]):
    Dsk (U [blk g [.slice (some ⟨gL,0,none⟩) d.last.length c,.slice none 0 0,.bool true,.bool false,I d.fuse,.slice C d.keep.length f] 116,m]) g (d.cut K) C f:=by
  refine⟨some ⟨gL,0,none⟩,c,m,none,0,λ_=>none,?_,?_,?_,qBZ.nil⟩
  · show U [blk g [.slice (some ⟨gL,0,none⟩) d.last.length c,.slice none 0 0,.bool true,.bool false,I d.fuse,.slice C d.keep.length f] 116,m]=U [blk g [.slice (some ⟨gL,0,none⟩) (qJk d.last d.wait K d.wait.length).length c,.slice none 0 0,.bool true,.bool false,I d.fuse,.slice C d.keep.length f] 116,m,λ_=>none]
    rw [qBS];rfl
  · show Djs [blk g [.slice (some ⟨gL,0,none⟩) (qJk d.last d.wait K d.wait.length).length c,.slice none 0 0,.bool true,.bool false,I d.fuse,.slice C d.keep.length f] 116,m,λ_=>none]
    rw [qBS];exact qLh hj
  · show Row m 9 1 (some ⟨gL,0,none⟩) (qJk d.last d.wait K d.wait.length).length c _
    rw [qBS];exact hm
theorem qSW(F mm:Hp)(g:Nat)(d:Dk)(C:Option Addr)(f:Nat)(hb:Dsk mm g d C f)(hok:d.ok)(hn2:d.wait.length≤1073741824)(hKp:Sl F 1 C d.keep.length f (qAf d.keep))(hn3:d.keep.length≤9223372036854775807):
    Ct prog 288 [Ptr g] [mm,F] (λ_:Hp=> .bool (decide d.burns)) (λm=>Dsk m g d.burn C f) (λm=> [m,F]):=by
  obtain ⟨gL,c,mL,B,e,mW,rfl,hd,hL,hW⟩:=hb.open hok.n0
  unfold Dk.cells at hd⊢
  refine Ct.walk func288 O ntmps288 O (λw0 hw0=>?_)
  refine J.g1 hd ?_
  refine J.f λ_ j1=>J.b O<|J.c j1<|J.k λ_ j2=>J.f λ_ j3=>J.b O<|J.g (qAB O O) O<|J.W 3 qCr z4_ O O O O O<|J.a6 0 b4_ O O O O O<|J.g ((qAs O O).as (v':= .bool (decide (¬d.armed=true))) (congrArg Value.bool xD)) O<|J.c j3<|J.Z O (λh7=>?_) (λh7=>?_)
  ·
    exact J.f λ_ j4=>J.b O<|J.c j4<|J.A<|J.V<|J.a9 hw0 (λ_ _ h=>h) (qKV O O) (qFY [blk g [.slice (some ⟨gL,0,none⟩) d.last.length c,.slice B d.wait.length e,.bool d.off,.bool d.armed,I d.fuse,.slice C d.keep.length f] 116,mL,mW] [F] (U [blk g [.slice (some ⟨gL,0,none⟩) d.last.length c,.slice B d.wait.length e,.bool d.off,.bool d.armed,I d.fuse,.slice C d.keep.length f] 116,mL,mW]) (congrArg Value.bool (decide_eq_false (λh=>h7 h.1)).symm) (λhd=>by rw [show d.burn=d from if_neg h7];exact⟨_,c,mL,B,e,mW,O,hd,hL,hW⟩) [0,1,2,3] O O xC)
  refine J.M j2<|J.k λ_ j5=>?_
  have ha:d.armed=true:=by simpa using h7
  refine J.H<|J.b O<|J.g (qAB O O) O<|J.W 4 qCr z3_ O O O O O<|J.a6 0 b3_ O O O O O<|J.g (qA4 O O O (by have:=hok.fb;have:=hok.fz ha;omega)) O<|J.g (qAB O O) O<|J.W 4 qCr z3_ O O O O O<|J.a7 (qAW (i:=0) O O O O O z3_ O xD) O O λ_ _=>J.c j5<|J.k λ_ j6=>J.f λ_ j7=>J.b O<|J.g (qAB O O) O<|J.W 4 qCr z3_ O O O O O<|J.a6 0 b3_ O O O O O<|J.g (qBI O O O) O<|J.c j7<|J.Z O (λh19=>?_) (λh19=>?_)
  ·
    exact J.f λ_ j8=>J.b O<|J.c j8<|J.A<|J.V<|J.a9 hw0 (λ_ _ h=>h) (qKV O O) (qFY [blk g [.slice (some ⟨gL,0,none⟩) d.last.length c,.slice B d.wait.length e,.bool d.off,.bool d.armed,I (d.fuse-1),.slice C d.keep.length f] 116,mL,mW] [F] (U [blk g [.slice (some ⟨gL,0,none⟩) d.last.length c,.slice B d.wait.length e,.bool d.off,.bool d.armed,I (d.fuse-1),.slice C d.keep.length f] 116,mL,mW]) (congrArg Value.bool (decide_eq_false (λh=>by have:=h.2;omega)).symm) (λhd=>by rw [show d.burn={d with fuse:=d.fuse-1} from by unfold Dk.burn;rw [if_pos ha,if_neg xB]];exact⟨_,c,mL,B,e,mW,O,hd,hL,hW⟩) [0,1,2,3] O O xC)
  refine J.M j6<|J.f λ_ j9=>J.p 2 O<|J.g (qAB O O) O<|J.W 5 qCr qJu O O O O O<|J.a6 0 qPX O O O O O<|J.q (qAK O O ent ((qYD F mL mW g {d with fuse:=d.fuse-1} ⟨hok.l64,hok.w64,hok.n0,hok.n1⟩ hn2 gL c B e C f hL hW d.keep C f hKp hn3))) O ?_
  rintro m25 h25
  exact J.c j9<|J.f λ_ j10=>J.b O<|J.c j10<|J.A<|J.a9 hw0 (λ_ _ h=>h) (qKV O O) (qFY [blk g [.slice (some ⟨gL,0,none⟩) d.last.length c,.slice none 0 0,.bool true,.bool false,I (d.fuse-1),.slice C d.keep.length f] 116,m25] [F] (U [blk g [.slice (some ⟨gL,0,none⟩) d.last.length c,.slice none 0 0,.bool true,.bool false,I (d.fuse-1),.slice C d.keep.length f] 116,m25]) (congrArg Value.bool (decide_eq_true (show d.burns from⟨ha,xB⟩)).symm) (λhj=>by rw [show d.burn={d with fuse:=d.fuse-1}.cut d.keep from by unfold Dk.burn;rw [if_pos ha,if_pos xB]];exact qYC {d with fuse:=d.fuse-1} gL c C f m25 d.keep h25 hj) [0,1,2] O O xC)
theorem qLP(F:Hp)(K:List xA)(E:Option Addr)(q:Nat)(hK:Sl F 1 E K.length q (qAH K))(hn:K.length≤1073741824):
    Ct prog 126 [.slice E K.length q] [F] (λx:Option Addr×Nat×Hp=> .slice x.1 K.length x.2.1) (λx=>Row x.2.2 9 1 x.1 K.length x.2.1 (qAH K)) (λx=> [F,x.2.2]):=by
  refine Ct.walk func126 O ntmps126 O (λw0 hw0=>?_)
  refine J.f λ_ j1=>J.b O<|J.c j1<|J.k λ_ j2=>J.f λ_ j3=>J.b O<|J.g ((qFA qAn O O O).as (v':= .bool (decide (E.isNone=true))) (congrArg Value.bool (by cases E<;>rfl))) O<|J.c j3<|J.Z O (λh4=>?_) (λh4=>?_)
  ·
    refine J.k λ_ j4=>?_
    have hnil:K= []:=by
      cases K with
      |nil=>rfl
      |cons a r=>
        obtain ⟨_,ad,hA,_⟩:=hK.2.2 0 _ rfl
        rw [hA] at h4;cases h4
    exact J.c6 [0,1] [F,λ_=>none] O xC<|J.H<|J.b O<|J.c j4<|J.A<|J.V<|J.E hw0 O (none,0,λ_=>none) (by rw [hnil];rfl) (by rw [hnil];exact qBZ.nil) [0,1] O xC
  refine J.M j2<|J.f λ_ j5=>J.q (qBs O qAn el9) O λg5 _=>J.b O<|J.q (qAX (i:=1) (m2:=F) O O O qAn qAn el9 O (qAm (q:=True) (xs:= []) O xD) xD hK (by simp [qAH,Value.oneCell']) xB xB) O ?_
  rintro⟨A7,c7,m7⟩ h7
  try dsimp only at h7
  exact J.b O<|J.c j5<|J.A<|J.E hw0 O (A7,c7,m7) (by rw [jj]) (by rw [jj] at h7;exact h7) [0,1] O xC
theorem qS8(F mm:Hp)(g:Nat)(d:Dk)(C:Option Addr)(f:Nat)(hb:Dsk mm g d C f)(hok:d.ok)(hn2:d.wait.length≤1073741824)(hKp:Sl F 1 C d.keep.length f (qAf d.keep))(hn3:d.keep.length≤9223372036854775807)(i:Int)(s:xA)(hs:s.length≤1048576):
    Ct prog 260 [Ptr g,I i,Str s] [mm,F] (λ_:Hp=>I (d.wErr i s)) (λm=>Dsk m g (d.write i s) C f) (λm=> [m,F]):=by
  obtain ⟨A0,c0,B0,e0,hc,hsL,hsW⟩:=hb.see
  have hn1:=hok.n1
  refine Ct.walk func260 O ntmps260 O (λw0 hw0=>?_)
  refine J.f λ_ j1=>J.b O<|J.c j1<|J.f λ_ j2=>J.p 2 O<|J.q (qAZ O O (λF' hF=>qI8 F' g d A0 c0 B0 e0 C f (hc.mono (Fa hF)) i xB)) O λg10 _=>J.b O<|J.c j2<|J.k λ_ j3=>J.T<|J.f λ_ j4=>J.b O<|J.g (qAV O O O) O<|J.b O<|J.c j4<|J.Z O (λh11=>?_) (λh11=>?_)
  ·
    exact J.f λ_ j5=>J.p 2 O<|J.c j5<|J.A<|J.a5<|J.V<|J.E hw0 O mm (congrArg I (by unfold Dk.wErr;rw [if_pos xB])) (by rw [show d.write i s=d from if_pos xB];exact hb) [0,1] O xC
  refine J.f λ_ j6=>J.b O<|J.g (qAu u9_ O O) O<|J.g (qA5 O O O) O<|J.b O<|J.c j6<|J.Z O (λh15=>?_) (λh15=>?_)
  ·
    exact J.f λ_ j7=>J.b O<|J.c j7<|J.A<|J.a5<|J.V<|J.E hw0 O mm (congrArg I (by unfold Dk.wErr;rw [if_neg xB,if_pos xB])) (by rw [show d.write i s=d from by unfold Dk.write;rw [if_neg xB,if_pos xB]];exact hb) [0,1] O xC
  refine J.f λ_ j8=>J.b O<|J.q (qAK O O ent (Ct.use1 0 O (λF' hF=>qSW F' mm g d C f hb hok hn2 (hKp.mono (Fa hF)) hn3))) O ?_
  rintro m21 h21
  refine J.b O<|J.c j8<|J.Z O (λh19=>?_) (λh19=>?_)
  ·
    exact J.f λ_ j9=>J.b O<|J.c j9<|J.A<|J.a5<|J.V<|J.E hw0 O m21 (congrArg I (by unfold Dk.wErr;rw [if_neg xB,if_neg xB,if_pos h19])) (by rw [show d.write i s=d.burn from by unfold Dk.write;rw [if_neg xB,if_neg xB,if_pos h19]];exact h21) [0,1] O xC
  refine J.b2<|J.a2<|J.u (J.D j3 ?_)
  refine J.k λ_ j10=>?_
  have h0:d.ready i=0:=xB
  obtain ⟨hi0,hil,_⟩:=qNH h0
  obtain ⟨iN,hiN⟩:=zw hi0
  have hnb: ¬d.burns:=h19
  obtain ⟨x,hx⟩: ∃x,x=d.burn:=⟨_,rfl⟩
  rw [←hx] at h21
  have hxo:x.ok:=hx▸hok.burn
  have hxw:x.wait=d.wait:=hx▸(qED hnb).2.1
  have hxl:x.last=d.last:=hx▸(qED hnb).1
  obtain ⟨gL,c,mL,B,e,mW,rfl,hd,hL,hW⟩:=h21.open hxo.n0
  unfold Dk.cells at hd⊢
  refine J.g1 hd ?_
  refine J.b1 [blk g [.slice (some ⟨gL,0,none⟩) x.last.length c,.slice B x.wait.length e,.bool x.off,.bool x.armed,I x.fuse,.slice C x.keep.length f] 116] [17] (.y 0 (.y 1 (.y 2 (.y 3 (.y 4 (.y 5 (.y 6 (.y 7 (.y 8 (.y 9 (.e 10 (.y 11 (.y 12 (.e 13 (.e 14 (.y 15 (.y 16 (.e 17 .nil)))))))))))))))))) Tryz.wide xF xD ?_
  refine J.L ?_
  refine J.L ?_
  refine J.j O (qAB O O) O O<|J.j O (qAA O O qCr O qHl O) O O<|J.j O (qAD 0 O O O isAgg114 O) O O<|J.j O ((qA2 O O).as (v':=I (iN:Int)) (congrArg I hiN)) O O<|J.L ?_
  refine J.L ?_
  refine J.j O (qAu u9_ O O) O O<|J.j O ((qA4 O O O xB).nat (64-s.length) xB) O O<|J.a1 O (qAZ O O (λF' hF=>qFZ F' (64-s.length) xB)) O xD λg32 _=>J.j O ((qBe O O O (by simp only [jL];omega)).as (v':=Str (qR3 s)) O) O O<|J.j O (qAL (places:= [(0,1),(1,1)]) (r:= [I (iN:Int),Str (qR3 s)]) O O O qOQ zeroValue368 (λ_=>xI) O) O O<|J.a1 O (qAE (l:= [.tmp 34]) (xs:= [[I (iN:Int),Str (qR3 s)]]) O O O O qIv el368 O xC xC xD) O xD λg35 _=>J.a1 O (qAX (i:=2) (m2:=blk g35 [I (iN:Int),Str (qR3 s)] 368) O O O qIv qIv el368 O hW xD ((qAm (q:=True) (xs:=qDk [(iN,qR3 s)]) O (by simp [qDk])).sl) (qPd _) (by rw [hxw];omega) (by rw [hxw];omega)) O xD ?_
  rintro⟨A36,c36,m36⟩ h36
  try dsimp only at h36
  refine J.j O (qAB O O) O O<|J.j O (qAA O O qCr O qHl O) O O<|J.c1 O (qAW (i:=0) O O O O O qHl O xD) O O O λ_ _=>J.b0<|J.u (J.D j10 ?_)
  exact J.f λ_ j11=>J.b O<|J.c j11<|J.A<|J.a9 hw0 (λ_ _ h=>h) (qKV O O) (qFY [blk g [.slice (some ⟨gL,0,none⟩) x.last.length c,.slice A36 (x.wait.length+1) c36,.bool x.off,.bool x.armed,I x.fuse,.slice C x.keep.length f] 116,mL,m36] [F] (U [blk g [.slice (some ⟨gL,0,none⟩) x.last.length c,.slice A36 (x.wait.length+1) c36,.bool x.off,.bool x.armed,I x.fuse,.slice C x.keep.length f] 116,mL,m36]) (congrArg I (by unfold Dk.wErr;rw [if_neg xB,if_neg xB,if_neg hnb])) (λhd=>by rw [show d.write i s={x with wait:=x.wait++ [(iN,qR3 s)]} from by unfold Dk.write;rw [if_neg xB,if_neg xB,if_neg hnb,←hx,hiN];rfl];refine⟨_,c,mL,A36,c36,m36,?_,?_,hL,?_⟩<;>(try unfold Dk.cells)<;>rw [jA]<;>first|rfl|exact hd|(rw [qPe];exact h36)) [0,1,2,3] O O xC)
theorem qTS{g:Nat}(x:Dk)(gL c:Nat)(C:Option Addr)(f:Nat)(m:Hp)(hm:Row m 9 1 (some ⟨gL,0,none⟩) x.last.length c (qAH (qDX x.last x.wait x.wait.length)))(hj:Djs [blk g [.slice (some ⟨gL,0,none⟩) x.last.length c,.slice none 0 0,.bool x.off,.bool x.armed,I x.fuse,.slice C x.keep.length f] 116,m]):
    Dsk (U [blk g [.slice (some ⟨gL,0,none⟩) x.last.length c,.slice none 0 0,.bool x.off,.bool x.armed,I x.fuse,.slice C x.keep.length f] 116,m]) g {x with last:=qDX x.last x.wait x.wait.length,wait:= []} C f:=by
  refine⟨some ⟨gL,0,none⟩,c,m,none,0,λ_=>none,?_,?_,?_,qBZ.nil⟩
  · show U [blk g [.slice (some ⟨gL,0,none⟩) x.last.length c,.slice none 0 0,.bool x.off,.bool x.armed,I x.fuse,.slice C x.keep.length f] 116,m]=U [blk g [.slice (some ⟨gL,0,none⟩) (qDX x.last x.wait x.wait.length).length c,.slice none 0 0,.bool x.off,.bool x.armed,I x.fuse,.slice C x.keep.length f] 116,m,λ_=>none]
    rw [qBQ];rfl
  · show Djs [blk g [.slice (some ⟨gL,0,none⟩) (qDX x.last x.wait x.wait.length).length c,.slice none 0 0,.bool x.off,.bool x.armed,I x.fuse,.slice C x.keep.length f] 116,m,λ_=>none]
    rw [qBQ];exact qLh hj
  · show Row m 9 1 (some ⟨gL,0,none⟩) (qDX x.last x.wait x.wait.length).length c _
    rw [qBQ];exact hm
theorem qWW(F mm:Hp)(g:Nat)(d:Dk)(C:Option Addr)(f:Nat)(hb:Dsk mm g d C f)(hok:d.ok)(hn2:d.wait.length≤1073741824)(hKp:Sl F 1 C d.keep.length f (qAf d.keep))(hn3:d.keep.length≤9223372036854775807):
    Ct prog 262 [Ptr g] [mm,F] (λ_:Hp=>I d.sErr) (λm=>Dsk m g d.sync C f) (λm=> [m,F]):=by
  obtain ⟨A0,c0,B0,e0,hc,hsL,hsW⟩:=hb.see
  have hn1:=hok.n1
  refine Ct.walk func262 O ntmps262 O (λw0 hw0=>?_)
  refine J.f λ_ j1=>J.b O<|J.c j1<|J.k λ_ j2=>J.f λ_ j3=>J.b O<|J.q (qAZ O O (λF' hF=>qI8 F' g d A0 c0 B0 e0 C f (hc.mono (Fa hF)) 0 xB)) O λg7 _=>J.b O<|J.c j3<|J.f λ_ j4=>J.b O<|J.g (qAV O O O) O<|J.c j4<|J.Z O (λh9=>?_) (λh9=>?_)
  ·
    exact J.f λ_ j5=>J.p 2 O<|J.c j5<|J.A<|J.V<|J.E hw0 O mm (congrArg I (by unfold Dk.sErr;rw [if_pos xB])) (by rw [show d.sync=d from if_pos xB];exact hb) [0,1] O xC
  refine J.M j2<|J.k λ_ j6=>J.f λ_ j7=>J.b O<|J.q (qAK O O ent (Ct.use1 0 O (λF' hF=>qSW F' mm g d C f hb hok hn2 (hKp.mono (Fa hF)) hn3))) O ?_
  rintro m12 h12
  refine J.c j7<|J.Z O (λh12c=>?_) (λh12c=>?_)
  ·
    exact J.f λ_ j8=>J.b O<|J.c j8<|J.A<|J.V<|J.E hw0 O m12 (congrArg I (by unfold Dk.sErr;rw [if_neg xB,if_pos h12c])) (by rw [show d.sync=d.burn from by unfold Dk.sync;rw [if_neg xB,if_pos h12c]];exact h12) [0,1] O xC
  refine J.M j6<|J.k λ_ j9=>J.k λ_ j10=>?_
  have h0:d.ready 0=0:=xB
  have hnb: ¬d.burns:=h12c
  obtain ⟨x,hx⟩: ∃x,x=d.burn:=⟨_,rfl⟩
  rw [←hx] at h12
  have hxo:x.ok:=hx▸hok.burn
  have hxw:x.wait=d.wait:=hx▸(qED hnb).2.1
  have hxl:x.last=d.last:=hx▸(qED hnb).1
  obtain ⟨gL,c,mL,B,e,mW,rfl,hd,hL,hW⟩:=h12.open hxo.n0
  unfold Dk.cells at hd⊢
  refine J.g1 hd ?_
  have hxn:x.wait.length≤1073741824:=by rw [hxw];exact hn2
  refine J.H<|J.b O<|J.g (qAB O O) O<|J.W 1 qCr qHl O O O O O<|J.a6 0 isAgg114 O O O O O<|J.g (qAO qIv O O) O<|J.b O<|J.c j10<|J.T<|J.b5 (X:=Nat×Hp) (λy=> [(0,Ptr g),(16,.slice B x.wait.length e),(17,I x.wait.length),(18,I y.1)]) (λy=> [blk g [.slice (some ⟨gL,0,none⟩) x.last.length c,.slice B x.wait.length e,.bool x.off,.bool x.armed,I x.fuse,.slice C x.keep.length f] 116,y.2,mW,F]) (λy=>y.1≤x.wait.length∧Row y.2 9 1 (some ⟨gL,0,none⟩) x.last.length c (qAH (qDX x.last x.wait y.1))) (λy=>x.wait.length-y.1) (0,mL) (⟨jE _,hL⟩) ⟨O,O,O,O,trivial⟩ (λ_ h=>h) ?_
  rintro⟨k,m⟩ ⟨hk,hr⟩ I0 hI0
  dsimp only at hk hr⊢
  refine J.f λ_ j11=>J.g (qAS O O O) O<|J.c j11<|J.k λ_ j12=>J.Z O (λh19=>?_) (λh19=>?_)
  ·
    refine J.M j12<|J.k λ_ j13=>J.T<|J.f λ_ j14=>J.g (qAF O O O qIv qGd hW.sl xB) O<|J.g (qAP O O isAgg368 qGd (m:=mW) xD (hW.sl.elem (qGh xB)) O) O<|J.q (qAJ O zeroValue368 O) O λg5 _=>J.a7 (qAC (l:= [I 0,Str []]) (i:=4) (vs:= [I (x.wait.getD k (0,[])).1,Str (x.wait.getD k (0,[])).2]) O O O O O qGd O O) O O λ_ _=>J.c j14 ?_
    have ⟨hw1,hw2⟩:=qU0 hxo.w64 (show k<x.wait.length by omega)
    have h64:=qX1 (qIy hxo.l64 hxo.w64 k hk) (show(x.wait.getD k (0,[])).1<(qDX x.last x.wait k).length by rw [qBQ];exact hw1)
    refine J.H<|J.b O<|J.c0 4 isAgg368 qGd O O O O O<|J.q (qAK O O ent (Ct.use1 1 O (λF' hF=>by have:=qRg F' m g gL c 64 x B e C f (qDX x.last x.wait k) (by rw [qBQ];exact qAG.blk0.mono (hF (blk g [.slice (some ⟨gL,0,none⟩) x.last.length c,.slice B x.wait.length e,.bool x.off,.bool x.armed,I x.fuse,.slice C x.keep.length f] 116) xD)) (by rw [qBQ];exact hr) (x.wait.getD k (0,[])).1 (x.wait.getD k (0,[])).2 (by rw [qBQ];exact hw1) xB xB xB xB (by rw [qBQ];have:=hxo.n1;omega);rw [qBQ] at this;exact this))) O ?_
    rintro m24 h24
    refine J.c2 [0,1,2,3] [blk g [.slice (some ⟨gL,0,none⟩) x.last.length c,.slice B x.wait.length e,.bool x.off,.bool x.armed,I x.fuse,.slice C x.keep.length f] 116,m24,mW,F] O xC<|J.a4<|J.a2<|J.u (J.D j13 ?_)
    exact J.H<|J.g ((qAR O O O xB).nat (k+1) xB) O<|J.b O<|J.a4<|J.u<|J.a8 (k+1,m24) (λy (hy:_∧x.wait.length-y.1<x.wait.length-k)=>hI0 y hy.1 hy.2) ⟨⟨by dsimp only;omega,h24⟩,by dsimp only;omega⟩ ⟨O,O,O,O,trivial⟩ (λ_ h=>h)
  refine J.b3<|J.a0<|J.a0<|J.b4 ?_
  refine J.u (J.D j9 ?_)
  refine J.k λ_ j15=>?_
  have hkn:k=x.wait.length:=xB
  subst hkn
  exact J.H<|J.b O<|J.g (qAB O O) O<|J.W 1 qCr qHl O O O O O<|J.a7 (qAW (i:=0) O O O O O qHl O xD) O O λ_ _=>J.c j15<|J.f λ_ j16=>J.b O<|J.c j16<|J.A<|J.a9 hw0 (λ_ _ h=>h) (qKV O O) (qFY [blk g [.slice (some ⟨gL,0,none⟩) x.last.length c,.slice none 0 0,.bool x.off,.bool x.armed,I x.fuse,.slice C x.keep.length f] 116,m] [F] (U [blk g [.slice (some ⟨gL,0,none⟩) x.last.length c,.slice none 0 0,.bool x.off,.bool x.armed,I x.fuse,.slice C x.keep.length f] 116,m]) (congrArg I (by unfold Dk.sErr;rw [if_neg xB,if_neg hnb])) (λhj=>by rw [show d.sync={x with last:=qDX x.last x.wait x.wait.length,wait:= []} from by unfold Dk.sync;rw [if_neg xB,if_neg hnb,←hx]];exact qTS x gL c C f m hr hj) [0,1,3] O O xC)
theorem qOW(n:Nat):List.replicate n [Str []]=qAH (List.replicate n []):=by simp [qAH]
theorem qW1{n k:Nat}(a b:xA)(h:k<n):(List.replicate k a++List.replicate (n-k) b).set k a=List.replicate (k+1) a++List.replicate (n-(k+1)) b:=by
 rw [List.set_append_right _ _ (by rw [jL];exact jJ _),jL,jv,show n-k=(n-(k+1))+1 by omega,yI,List.set_cons_zero,List.replicate_succ',jX];rfl
theorem qW2{n k:Nat}(a b:xA)(h:k≤n):(List.replicate k a++List.replicate (n-k) b).length=n:=by rw [jA,jL,jL];omega
theorem qXh(k g g13:Nat)(m:Hp)(hr:Row m 9 1 (some ⟨g13,0,none⟩) k k (qAH (List.replicate k (List.replicate 64 (0:UInt8)))))(hj:Djs [blk g [.slice (some ⟨g13,0,none⟩) k k,.slice none 0 0,.bool false,.bool false,I 0,.slice none 0 0] 116,m,λ_=>none]):Dsk (U [blk g [.slice (some ⟨g13,0,none⟩) k k,.slice none 0 0,.bool false,.bool false,I 0,.slice none 0 0] 116,m,λ_=>none]) g (Dk.new k) none 0:=by
 have hl:(Dk.new k).last.length=k:=jL
 refine⟨some ⟨g13,0,none⟩,k,m,none,0,λ_=>none,?_,?_,?_,qBZ.nil⟩
 · unfold Dk.cells;rw [hl];rfl
 · unfold Dk.cells;rw [hl];exact hj
 · rw [hl];exact hr
theorem qZP(F:Hp)(i:Int):Ct prog 8 [I i] [F] (λx:Option (Nat×Hp)=>match x with|none=> .tuple #[.pointer none,I 1]|some y=> .tuple #[Ptr y.1,I 0]) (λx=>match x with|none=>i<4∨1024<i|some y=>(4≤i∧i≤1024)∧Dsk y.2 y.1 (Dk.new i.toNat) none 0) (λx=>match x with|none=> [F]|some y=> [y.2,F]):=by
 refine Ct.walk func8 O ntmps8 O (λw0 hw0=>?_)
 refine J.f λ_ j1=>J.p 2 O<|J.c j1<|J.k λ_ j2=>J.f λ_ j3=>J.b O<|J.g (qAS O O O) O<|J.b O<|J.b9 (d:=8) O (λh8=>?_) (λh8=>?_)
 ·
  refine J.p 3 O<|J.c j3<|J.c3 ?_
  exact J.f λ_ j4=>J.p 2 O<|J.c j4<|J.A<|J.V<|J.a9 hw0 (λ_ _ h=>h) (qBw O O O) (qAg none O (by show i<4∨1024<i;omega) [0] O xC)
 refine J.b O<|J.G (qA5 O O O) O<|J.b O<|J.c j3<|J.Z O (λh11=>?_) (λh11=>?_)
 ·
  exact J.f λ_ j5=>J.p 2 O<|J.c j5<|J.A<|J.V<|J.a9 hw0 (λ_ _ h=>h) (qBw O O O) (qAg none O (by show i<4∨1024<i;omega) [0] O xC)
 refine J.M j2<|J.k λ_ j6=>?_
 obtain ⟨n,hn⟩:=zw (show 0≤i by omega)
 refine J.H<|J.b O<|J.q (qBx O (by show some (I i)=_;rw [hn]) qAn el9 xB xB) O λg13 _=>J.g (qAL (places:= [(0,1),(1,1),(2,1),(3,1),(4,1),(5,1)]) (r:= [.slice (some ⟨g13,0,none⟩) n n,.slice none 0 0,.bool false,.bool false,I 0,.slice none 0 0]) O O O qCr zeroValue116 (λ_=>xI) O) O<|J.q (qAb O O O) O ?_
 rintro g15 _
 refine J.b O<|J.c j6<|J.k λ_ j7=>J.f λ_ j8=>J.b O<|J.g (qAB O O) O<|J.W 0 qCr qB9 O O O O O<|J.a6 2 qCQ O O O O O<|J.g (qAO qAn O O) O<|J.b O<|J.c j8<|J.T<|J.b5 (X:=Nat×Hp) (λx=> [(4,Ptr g15),(20,I n),(21,I x.1)]) (λx=> [F,x.2,blk g15 [.slice (some ⟨g13,0,none⟩) n n,.slice none 0 0,.bool false,.bool false,I 0,.slice none 0 0] 116]) (λx=>x.1≤n∧Row x.2 9 1 (some ⟨g13,0,none⟩) n n (qAH (List.replicate x.1 (List.replicate 64 (0:UInt8))++List.replicate (n-x.1) []))) (λx=>n-x.1) (0,blk g13 (List.replicate n [Str []]).flatten 9) (⟨jE _,by dsimp only;rw [List.replicate_zero,jr,zr,←qOW];exact qTs⟩) ⟨O,O,O,trivial⟩ (λ_ h=>h) ?_
 rintro⟨k,m⟩ ⟨hk,hr⟩ I0 hI0
 dsimp only at hk hr⊢
 refine J.f λ_ j9=>J.g (qAS O O O) O<|J.c j9<|J.k λ_ j10=>J.Z O (λh22=>?_) (λh22=>?_)
 ·
  refine J.M j10<|J.k λ_ j11=>J.T<|J.f λ_ j12=>J.p 2 O<|J.c j12<|J.b1 [blk g15 [.slice (some ⟨g13,0,none⟩) n n,.slice none 0 0,.bool false,.bool false,I 0,.slice none 0 0] 116] [7] (.y 0 (.y 1 (.y 2 (.y 3 (.y 4 (.e 5 (.y 6 (.e 7 .nil)))))))) Tryz.wide xF xD ?_
  refine J.L ?_
  refine J.j O (qAB O O) O O<|J.j O (qAA O O qCr O qB9 O) O O<|J.j O (qAD 0 O O O qCQ O) O O<|J.L ?_
  refine J.a1 O (qAZ O O (λF' hF=>qFZ F' 64 xC)) O xD λg29 _=>J.j O (qAF O O O qAn z9_ hr.sl xB) O O<|J.c1 O (qBL (i:=1) (k:=k) (off:=0) (b:= [Str (List.replicate 64 (0:UInt8))]) O (by show some _=some _;rw [qSC]) O O hr (vs:= [Str (List.replicate 64 (0:UInt8))]) O z9_ O xB (qAc (qAi [] (by rw [qW2 _ _ hk];omega))) O (by show _+1≤1;decide)) O O O ?_
  rintro m9 h9
  refine J.b0<|J.a2<|J.u (J.D j11 ?_)
  exact J.H<|J.g ((qAR O O O xB).nat (k+1) xB) O<|J.b O<|J.a4<|J.u<|J.a8 (k+1,m9) (λy (hy:_∧n-y.1<n-k)=>hI0 y hy.1 hy.2) ⟨⟨by dsimp only;omega,by dsimp only;rw [qDx,qW1 _ _ xB] at h9;exact h9⟩,by dsimp only;omega⟩ ⟨O,O,O,trivial⟩ (λ_ h=>h)
 refine J.b3<|J.a0<|J.a0<|J.b4 ?_
 refine J.u (J.D j7 ?_)
 refine J.k λ_ j13=>?_
 have hkn:k=n:=xB
 subst hkn
 rw [jv,List.replicate_zero,jR] at hr
 exact J.H<|J.p 3 O<|J.c j13<|J.A<|J.c6 [0,1,2,3] [F,m,blk g15 [.slice (some ⟨g13,0,none⟩) k k,.slice none 0 0,.bool false,.bool false,I 0,.slice none 0 0] 116,λ_=>none] O xC<|J.a9 hw0 (λ_ _ h=>h) (qBw O O O) (qFY [blk g15 [.slice (some ⟨g13,0,none⟩) k k,.slice none 0 0,.bool false,.bool false,I 0,.slice none 0 0] 116,m,λ_=>none] [F] (some (g15,U [blk g15 [.slice (some ⟨g13,0,none⟩) k k,.slice none 0 0,.bool false,.bool false,I 0,.slice none 0 0] 116,m,λ_=>none])) O (λhj=>⟨xB,by rw [show i.toNat=k by omega];exact qXh k g15 g13 m hr hj⟩) [2,1,3,0] O O xC)
theorem qRJ(F:Hp)(n:Nat)(h4:4≤n)(hm:n≤1024):Ct prog 8 [I n] [F] (λx:Nat×Hp=> .tuple #[Ptr x.1,I 0]) (λx=>Dsk x.2 x.1 (Dk.new n) none 0) (λx=>F:: [x.2]):=λw0 w hs=>
 (qZP F n w0 w hs).mono λe w' ⟨x,he,hx,hs'⟩=>by
  cases x with
  |none=>exact absurd hx (by show¬((n:Int)<4∨1024<(n:Int));omega)
  |some y=>exact⟨y,he,by have:=hx.2;rwa [jY] at this,hs'.pick [1,0] xC⟩
theorem qS7{d:Dk}{i:Int}{s:xA}(h:d.ready i=0)(h1:s.length≤64)(h2: ¬d.burns):d.write i s={d.burn with wait:=d.burn.wait++ [(i.toNat,qR3 s)]}∧d.wErr i s=0:=by
 unfold Dk.write Dk.wErr
 rw [if_neg xB,if_neg xB,if_neg h2,if_neg xB,if_neg xB,if_neg h2]
 exact⟨O,O⟩
theorem qRI{n:Nat}{i:Int}(h0:0≤i)(h:i<n):(Dk.new n).ready i=0:=by
 unfold Dk.ready Dk.new
 dsimp only
 rw [if_neg xC,jL,if_neg xB]
theorem qXg{n j:Nat}(h:j<n):(Dk.new n).now j=qR3 []:=by
 unfold Dk.now Dk.new
 dsimp only [List.length_nil]
 rw [qKN,jB,List.getElem?_replicate,if_pos h];rfl
theorem qW3{d:Dk}{i:Int}(h:d.ready i=0):d.read i=d.now i.toNat:=if_pos h
end Go.Proofs.YtmemgokiolfdoaaGreatDoor
namespace Go.Proofs.YtmemgokiolfdoaaGreatDoor
namespace SN
def qAy{α:Type}(n:Nat)(g:Nat→α):α:=Nat.rec (g 0) (λm _=>g (Nat.succ m)) n
theorem qAq{α:Type}(n:Nat)(g:Nat→α):qAy n g=g n:=by cases n<;>rfl
noncomputable def forceL{α:Type}(l:List Nat):(List Nat→α)→α:=List.rec (λg=>g []) (λa _ ih g=>qAy a λx=>ih λr=>g (x::r)) l
theorem qBG{α:Type}: ∀(l:List Nat) (g:List Nat→α),forceL l g=g l
 | [],_=>rfl
 |a::l,g=>by
  show qAy a (λx=>forceL l λr=>g (x::r))=g (a::l)
  rw [qAq,qBG l]
def rot(x r q:Nat):Nat:=x/r+x%r*q
noncomputable def sch(n:Nat):Nat→Nat→Nat→Nat→Nat→Nat→Nat→Nat→Nat→Nat→Nat→Nat→Nat→Nat→Nat→Nat→List Nat:=
 Nat.rec (λa b c d e f g h i j k l m n o p=> [a,b,c,d,e,f,g,h,i,j,k,l,m,n,o,p])
  (λ_ ih a b c d e f g h i j k l m n o p=>a::qAy ((a+Nat.xor (Nat.xor (rot b 128 33554432) (rot b 262144 16384)) (b/8)+j+Nat.xor (Nat.xor (rot o 131072 32768) (rot o 524288 8192)) (o/1024))%4294967296) λx=>ih b c d e f g h i j k l m n o p x) n
noncomputable def rds(kw:List Nat):List Nat→Nat→Nat→Nat→Nat→Nat→Nat→Nat→Nat→List Nat:=
 List.rec (λ_ a b c d e f g h=> [a,b,c,d,e,f,g,h])
  (λk _ ih ws a b c d e f g h=>List.rec [] (λw ws _=>
   qAy ((h+Nat.xor (Nat.xor (rot e 64 67108864) (rot e 2048 2097152)) (rot e 33554432 128)+Nat.xor (Nat.land e f) (Nat.land (4294967295-e) g)+k+w)%4294967296) λt1=>
   qAy ((t1+(Nat.xor (Nat.xor (rot a 4 1073741824) (rot a 8192 524288)) (rot a 4194304 1024)+Nat.xor (Nat.xor (Nat.land a b) (Nat.land a c)) (Nat.land b c)))%4294967296) λx=>
   qAy ((d+t1)%4294967296) λy=>ih ws x a b c y e f g) ws) kw
theorem qT1(k w:Nat)(ks ws:List Nat)(a b c d e f g h:Nat):rds (k::ks) (w::ws) a b c d e f g h=
      qAy ((h+Nat.xor (Nat.xor (rot e 64 67108864) (rot e 2048 2097152)) (rot e 33554432 128)+Nat.xor (Nat.land e f) (Nat.land (4294967295-e) g)+k+w)%4294967296) λt1=>
      qAy ((t1+(Nat.xor (Nat.xor (rot a 4 1073741824) (rot a 8192 524288)) (rot a 4194304 1024)+Nat.xor (Nat.xor (Nat.land a b) (Nat.land a c)) (Nat.land b c)))%4294967296) λx=>
      qAy ((d+t1)%4294967296) λy=>rds ks ws x a b c y e f g:=rfl
theorem qTm(n' a b c d e f g h i j k l m n o p:Nat):sch (n'+1) a b c d e f g h i j k l m n o p=a::qAy ((a+Nat.xor (Nat.xor (rot b 128 33554432) (rot b 262144 16384)) (b/8)+j+Nat.xor (Nat.xor (rot o 131072 32768) (rot o 524288 8192)) (o/1024))%4294967296) λx=>sch n' b c d e f g h i j k l m n o p x:=rfl
theorem qW5(ws:List Nat)(a b c d e f g h:Nat):rds [] ws a b c d e f g h= [a,b,c,d,e,f,g,h]:=rfl
theorem qTl(a b c d e f g h i j k l m n o p:Nat):sch 0 a b c d e f g h i j k l m n o p= [a,b,c,d,e,f,g,h,i,j,k,l,m,n,o,p]:=rfl
attribute [local irreducible] rds sch
theorem rot_eq(x:UInt32)(r:Nat)(h1:1≤r)(h2:r<32):rot x.toNat (2^r) (4294967296/2^r)=(Sha.rotr x r).toNat:=(R3.rotr_nat x r h1 h2).symm
theorem xor_eq(a b:UInt32):Nat.xor a.toNat b.toNat=(a^^^b).toNat:=(UInt32.toNat_xor a b).symm
theorem and_eq(a b:UInt32):Nat.land a.toNat b.toNat=(a&&&b).toNat:=(UInt32.toNat_and a b).symm
theorem not_eq(a:UInt32):4294967295-a.toNat=(~~~ a).toNat:=by simp
theorem qT3(k w:UInt32)(ks ws:List Nat)(s:Sha.St8):rds (k.toNat::ks) (w.toNat::ws) s.a.toNat s.b.toNat s.c.toNat s.d.toNat s.e.toNat s.f.toNat s.g.toNat s.h.toNat=
    rds ks ws (Sha.rnd w k s).a.toNat (Sha.rnd w k s).b.toNat (Sha.rnd w k s).c.toNat (Sha.rnd w k s).d.toNat (Sha.rnd w k s).e.toNat (Sha.rnd w k s).f.toNat (Sha.rnd w k s).g.toNat (Sha.rnd w k s).h.toNat:=by
  obtain ⟨S1,hS1⟩: ∃x,x=Sha.rotr s.e 6^^^Sha.rotr s.e 11^^^Sha.rotr s.e 25:=⟨_,rfl⟩
  obtain ⟨CH,hCH⟩: ∃x,x=s.e&&&s.f^^^ ~~~ s.e&&&s.g:=⟨_,rfl⟩
  obtain ⟨T1,hT1⟩: ∃x,x=s.h+S1+CH+k+w:=⟨_,rfl⟩
  obtain ⟨S0,hS0⟩: ∃x,x=Sha.rotr s.a 2^^^Sha.rotr s.a 13^^^Sha.rotr s.a 22:=⟨_,rfl⟩
  obtain ⟨MJ,hMJ⟩: ∃x,x=s.a&&&s.b^^^s.a&&&s.c^^^s.b&&&s.c:=⟨_,rfl⟩
  have hrn:Sha.rnd w k s=⟨T1+(S0+MJ),s.a,s.b,s.c,s.d+T1,s.e,s.f,s.g⟩:=by rw [hT1,hS0,hMJ,hS1,hCH];rfl
  have e1:Nat.xor (Nat.xor (rot s.e.toNat 64 67108864) (rot s.e.toNat 2048 2097152)) (rot s.e.toNat 33554432 128)=S1.toNat:=by
    rw [show rot s.e.toNat 64 67108864=_ from rot_eq s.e 6 (by decide) (by decide),show rot s.e.toNat 2048 2097152=_ from rot_eq s.e 11 (by decide) (by decide),show rot s.e.toNat 33554432 128=_ from rot_eq s.e 25 (by decide) (by decide),xor_eq,xor_eq,←hS1]
  have e2:Nat.xor (Nat.land s.e.toNat s.f.toNat) (Nat.land (4294967295-s.e.toNat) s.g.toNat)=CH.toNat:=by rw [not_eq,and_eq,and_eq,xor_eq,←hCH]
  have e3:Nat.xor (Nat.xor (rot s.a.toNat 4 1073741824) (rot s.a.toNat 8192 524288)) (rot s.a.toNat 4194304 1024)=S0.toNat:=by
    rw [show rot s.a.toNat 4 1073741824=_ from rot_eq s.a 2 (by decide) (by decide),show rot s.a.toNat 8192 524288=_ from rot_eq s.a 13 (by decide) (by decide),show rot s.a.toNat 4194304 1024=_ from rot_eq s.a 22 (by decide) (by decide),xor_eq,xor_eq,←hS0]
  have e4:Nat.xor (Nat.xor (Nat.land s.a.toNat s.b.toNat) (Nat.land s.a.toNat s.c.toNat)) (Nat.land s.b.toNat s.c.toNat)=MJ.toNat:=by rw [and_eq,and_eq,and_eq,xor_eq,xor_eq,←hMJ]
  have t1:(s.h.toNat+S1.toNat+CH.toNat+k.toNat+w.toNat)%4294967296=T1.toNat:=by rw [hT1];simp only [UInt32.toNat_add];omega
  have t2:(T1.toNat+(S0.toNat+MJ.toNat))%4294967296=(T1+(S0+MJ)).toNat:=by simp only [UInt32.toNat_add];omega
  have t3:(s.d.toNat+T1.toNat)%4294967296=(s.d+T1).toNat:=by simp only [UInt32.toNat_add]
  rw [hrn,qT1,qAq,e1,e2,t1,qAq,e3,e4,t2,qAq,t3]
def fold(ks ws:List UInt32)(s:Sha.St8):Sha.St8:=(ks.zip ws).foldl (λs kw=>Sha.rnd kw.2 kw.1 s) s
theorem fold_cons(k w:UInt32)(ks ws:List UInt32)(s:Sha.St8):fold (k::ks) (w::ws) s=fold ks ws (Sha.rnd w k s):=by unfold fold;rw [List.zip_cons_cons,List.foldl_cons]
theorem qN0(ws:List UInt32)(s:Sha.St8):fold [] ws s=s:=by unfold fold;rw [List.zip_nil_left,List.foldl_nil]
theorem qT2(ks:List UInt32): ∀(ws:List UInt32) (s:Sha.St8),ks.length=ws.length→rds (ks.map UInt32.toNat) (ws.map UInt32.toNat) s.a.toNat s.b.toNat s.c.toNat s.d.toNat s.e.toNat s.f.toNat s.g.toNat s.h.toNat=(fold ks ws s).list.map UInt32.toNat:=by
 induction ks with
 |nil=>
  intro ws s h
  cases ws with
  |nil=>rw [List.map_nil,qW5,qN0,Sha.St8.list];rfl
  |cons _ _=>cases h
 |cons k ks ih=>
  intro ws s h
  cases ws with
  |nil=>cases h
  |cons w ws=>
   rw [List.map_cons,List.map_cons,qT3 k w (ks.map UInt32.toNat) (ws.map UInt32.toNat) s,fold_cons,ih ws (Sha.rnd w k s) (by simpa using h)]
theorem fold_rnds(ws:List UInt32)(s:Sha.St8)(hw:ws.length=64): ∀m i,i+m=64→fold (Sha.K.drop i) (ws.drop i) (Sha.rnds ws s i)=Sha.rnds ws s 64
 |0,i,h=>by
  obtain rfl:i=64:=by omega
  rw [List.drop_of_length_le (l:=ws) (by omega),List.drop_of_length_le (l:=Sha.K) (Nat.le_refl 64),qN0]
 |m+1,i,h=>by
  have h1:i<Sha.K.length:=by show i<64;omega
  have h2:i<ws.length:=by omega
  rw [List.drop_eq_getElem_cons h1,List.drop_eq_getElem_cons h2,fold_cons]
  have e:Sha.rnd ws[i] Sha.K[i] (Sha.rnds ws s i)=Sha.rnds ws s (i+1):=by
   rw [Sha.rnds,List.getD_eq_getElem?_getD,List.getD_eq_getElem?_getD,List.getElem?_eq_getElem h1,List.getElem?_eq_getElem h2];rfl
  rw [e]
  exact fold_rnds ws s hw m (i+1) (by omega)
theorem exts_succ'(l:List UInt32): ∀n,Sha.exts (n+1) l=Sha.exts n (Sha.ext l)
 |0=>rfl
 |n+1=>by rw [Sha.exts,exts_succ' l n];rfl
theorem qGR(p l:List UInt32)(k:Nat):(p++l).getD (p.length+k) 0=l.getD k 0:=by
 rw [List.getD_eq_getElem?_getD,List.getElem?_append_right (by omega),Nat.add_sub_cancel_left,←List.getD_eq_getElem?_getD]
theorem qYz(b:UInt32):Nat.xor (Nat.xor (rot b.toNat 128 33554432) (rot b.toNat 262144 16384)) (b.toNat/8)=(Sha.sg0 b).toNat:=by
 have h1:rot b.toNat 128 33554432=(Sha.rotr b 7).toNat:=rot_eq b 7 (by decide) (by decide)
 have h2:rot b.toNat 262144 16384=(Sha.rotr b 18).toNat:=rot_eq b 18 (by decide) (by decide)
 have h3:b.toNat/8=(Sha.shr b 3).toNat:=(R3.shr_nat b 3 (by decide)).symm
 rw [h1,h2,h3,xor_eq,xor_eq];unfold Sha.sg0;rfl
theorem qYy(b:UInt32):Nat.xor (Nat.xor (rot b.toNat 131072 32768) (rot b.toNat 524288 8192)) (b.toNat/1024)=(Sha.sg1 b).toNat:=by
 have h1:rot b.toNat 131072 32768=(Sha.rotr b 17).toNat:=rot_eq b 17 (by decide) (by decide)
 have h2:rot b.toNat 524288 8192=(Sha.rotr b 19).toNat:=rot_eq b 19 (by decide) (by decide)
 have h3:b.toNat/1024=(Sha.shr b 10).toNat:=(R3.shr_nat b 10 (by decide)).symm
 rw [h1,h2,h3,xor_eq,xor_eq];unfold Sha.sg1;rfl
theorem ext_eq(q:List UInt32)(a b c d e f g h i j k l m n' o p:UInt32):Sha.ext (q++ [a,b,c,d,e,f,g,h,i,j,k,l,m,n',o,p])=(q++ [a])++ [b,c,d,e,f,g,h,i,j,k,l,m,n',o,p,a+Sha.sg0 b+j+Sha.sg1 o]:=by
 have hlen:(q++ [a,b,c,d,e,f,g,h,i,j,k,l,m,n',o,p]).length=q.length+16:=by rw [List.length_append];rfl
 unfold Sha.ext
 have g0:(q++ [a,b,c,d,e,f,g,h,i,j,k,l,m,n',o,p]).getD (q.length+0) 0=a:=qGR q [a,b,c,d,e,f,g,h,i,j,k,l,m,n',o,p] 0
 have g1:(q++ [a,b,c,d,e,f,g,h,i,j,k,l,m,n',o,p]).getD (q.length+1) 0=b:=qGR q [a,b,c,d,e,f,g,h,i,j,k,l,m,n',o,p] 1
 have g9:(q++ [a,b,c,d,e,f,g,h,i,j,k,l,m,n',o,p]).getD (q.length+9) 0=j:=qGR q [a,b,c,d,e,f,g,h,i,j,k,l,m,n',o,p] 9
 have g14:(q++ [a,b,c,d,e,f,g,h,i,j,k,l,m,n',o,p]).getD (q.length+14) 0=o:=qGR q [a,b,c,d,e,f,g,h,i,j,k,l,m,n',o,p] 14
 rw [hlen,show q.length+16-16=q.length+0 by omega,show q.length+16-15=q.length+1 by omega,show q.length+16-7=q.length+9 by omega,show q.length+16-2=q.length+14 by omega,g0,g1,g9,g14]
 generalize a+Sha.sg0 b+j+Sha.sg1 o=x
 simp only [List.append_assoc,List.cons_append,List.nil_append]
theorem sch_sum(a b j o:UInt32):(a.toNat+(Sha.sg0 b).toNat+j.toNat+(Sha.sg1 o).toNat)%4294967296=(a+Sha.sg0 b+j+Sha.sg1 o).toNat:=by
 generalize Sha.sg0 b=x
 generalize Sha.sg1 o=y
 simp only [UInt32.toNat_add];omega
theorem qTn(n:Nat): ∀(q:List UInt32) (a b c d e f g h i j k l m n' o p:UInt32),(Sha.exts n (q++ [a,b,c,d,e,f,g,h,i,j,k,l,m,n',o,p])).map UInt32.toNat=q.map UInt32.toNat++sch n a.toNat b.toNat c.toNat d.toNat e.toNat f.toNat g.toNat h.toNat i.toNat j.toNat k.toNat l.toNat m.toNat n'.toNat o.toNat p.toNat:=by
 induction n with
 |zero=>intro q a b c d e f g h i j k l m n' o p;rw [Sha.exts,List.map_append,qTl];rfl
 |succ n ih=>
  intro q a b c d e f g h i j k l m n' o p
  rw [exts_succ',ext_eq,ih (q++ [a]),qTm,qAq,qYz,qYy,sch_sum]
  generalize sch n b.toNat c.toNat d.toNat e.toNat f.toNat g.toNat h.toNat i.toNat j.toNat k.toNat l.toNat m.toNat n'.toNat o.toNat p.toNat _=z
  simp only [List.map_append,List.append_assoc,List.map_cons,List.map_nil,List.cons_append,List.nil_append]
def w4(l:List Nat):Nat:=((l.getD 0 0*256+l.getD 1 0)*256+l.getD 2 0)*256+l.getD 3 0
theorem getD_map(l:List UInt8)(i:Nat):(l.map UInt8.toNat).getD i 0=(l.getD i 0).toNat:=by
 rw [List.getD_eq_getElem?_getD,List.getD_eq_getElem?_getD,List.getElem?_map]
 cases l[i]?<;>rfl
theorem w4_eq(l:List UInt8)(i:Nat):w4 ((l.map UInt8.toNat).drop (4*i))=(Sha.word l i).toNat:=by
 have hg: ∀k,(((l.map UInt8.toNat).drop (4*i)).getD k 0)=(l.getD (4*i+k) 0).toNat:=λk=>by
  rw [List.getD_eq_getElem?_getD,List.getElem?_drop,←List.getD_eq_getElem?_getD,getD_map]
 unfold w4 Sha.word
 rw [hg,hg,hg,hg,R3.be32_nat,Nat.add_zero]
 omega
noncomputable def mixN(ks:List Nat)(b:List Nat)(A B C D E F G H:Nat):List Nat:=
 qAy (w4 b) λa0=>qAy (w4 (b.drop 4)) λa1=>qAy (w4 (b.drop 8)) λa2=>qAy (w4 (b.drop 12)) λa3=>
 qAy (w4 (b.drop 16)) λa4=>qAy (w4 (b.drop 20)) λa5=>qAy (w4 (b.drop 24)) λa6=>qAy (w4 (b.drop 28)) λa7=>
 qAy (w4 (b.drop 32)) λa8=>qAy (w4 (b.drop 36)) λa9=>qAy (w4 (b.drop 40)) λa10=>qAy (w4 (b.drop 44)) λa11=>
 qAy (w4 (b.drop 48)) λa12=>qAy (w4 (b.drop 52)) λa13=>qAy (w4 (b.drop 56)) λa14=>qAy (w4 (b.drop 60)) λa15=>
 rds ks (sch 48 a0 a1 a2 a3 a4 a5 a6 a7 a8 a9 a10 a11 a12 a13 a14 a15) A B C D E F G H
def KN:List Nat:= [1116352408,1899447441,3049323471,3921009573,961987163,1508970993,2453635748,2870763221,3624381080,310598401,607225278,1426881987,1925078388,2162078206,2614888103,3248222580,3835390401,4022224774,264347078,604807628,770255983,1249150122,1555081692,1996064986,2554220882,2821834349,2952996808,3210313671,3336571891,3584528711,113926993,338241895,666307205,773529912,1294757372,1396182291,1695183700,1986661051,2177026350,2456956037,2730485921,2820302411,3259730800,3345764771,3516065817,3600352804,4094571909,275423344,430227734,506948616,659060556,883997877,958139571,1322822218,1537002063,1747873779,1955562222,2024104815,2227730452,2361852424,2428436474,2756734187,3204031479,3329325298]
theorem KN_eq:KN=Sha.K.map UInt32.toNat:=by decide+kernel
theorem qXo(b:List UInt8)(s:Sha.St8):mixN KN (b.map UInt8.toNat) s.a.toNat s.b.toNat s.c.toNat s.d.toNat s.e.toNat s.f.toNat s.g.toNat s.h.toNat=(Sha.rnds (Sha.sched b) s 64).list.map UInt32.toNat:=by
 have hw:=λi=>w4_eq b i
 have h0:=hw 0;have h1:=hw 1;have h2:=hw 2;have h3:=hw 3;have h4:=hw 4;have h5:=hw 5;have h6:=hw 6;have h7:=hw 7
 have h8:=hw 8;have h9:=hw 9;have h10:=hw 10;have h11:=hw 11;have h12:=hw 12;have h13:=hw 13;have h14:=hw 14;have h15:=hw 15
 simp only [Nat.reduceMul,Nat.mul_zero,List.drop_zero] at h0 h1 h2 h3 h4 h5 h6 h7 h8 h9 h10 h11 h12 h13 h14 h15
 unfold mixN
 simp only [qAq]
 rw [h0,h1,h2,h3,h4,h5,h6,h7,h8,h9,h10,h11,h12,h13,h14,h15]
 have hs:=qTn 48 [] (Sha.word b 0) (Sha.word b 1) (Sha.word b 2) (Sha.word b 3) (Sha.word b 4) (Sha.word b 5) (Sha.word b 6) (Sha.word b 7) (Sha.word b 8) (Sha.word b 9) (Sha.word b 10) (Sha.word b 11) (Sha.word b 12) (Sha.word b 13) (Sha.word b 14) (Sha.word b 15)
 have hf: []++ [Sha.word b 0,Sha.word b 1,Sha.word b 2,Sha.word b 3,Sha.word b 4,Sha.word b 5,Sha.word b 6,Sha.word b 7,Sha.word b 8,Sha.word b 9,Sha.word b 10,Sha.word b 11,Sha.word b 12,Sha.word b 13,Sha.word b 14,Sha.word b 15]=Sha.firsts b 16:=rfl
 rw [hf,List.map_nil,List.nil_append] at hs
 rw [←hs,show Sha.exts 48 (Sha.firsts b 16)=Sha.sched b from rfl,KN_eq,qT2 _ _ _ (by rw [Sha.sched_length];rfl)]
 have:=fold_rnds (Sha.sched b) s (Sha.sched_length b) 64 0 rfl
 rw [List.drop_zero,List.drop_zero] at this
 rw [show Sha.rnds (Sha.sched b) s 0=s from rfl] at this
 rw [this]
noncomputable def blocks(n:Nat):List Nat→Nat→Nat→Nat→Nat→Nat→Nat→Nat→Nat→List Nat:=
 Nat.rec (λ_ a b c d e f g h=> [a,b,c,d,e,f,g,h])
  (λ_ ih p a b c d e f g h=>forceL (mixN KN p a b c d e f g h) λr=>
   qAy ((a+r.getD 0 0)%4294967296) λa'=>qAy ((b+r.getD 1 0)%4294967296) λb'=>qAy ((c+r.getD 2 0)%4294967296) λc'=>qAy ((d+r.getD 3 0)%4294967296) λd'=>
   qAy ((e+r.getD 4 0)%4294967296) λe'=>qAy ((f+r.getD 5 0)%4294967296) λf'=>qAy ((g+r.getD 6 0)%4294967296) λg'=>qAy ((h+r.getD 7 0)%4294967296) λh'=>
   ih (p.drop 64) a' b' c' d' e' f' g' h') n
theorem qIS(s:Sha.St8)(p:List UInt8): ∀k,Sha.mixes s p (k+1)=Sha.mixes (Sha.mix s p) (p.drop 64) k
 |0=>by rw [Sha.mixes,Sha.mixes,Sha.mixes,Nat.mul_zero,List.drop_zero]
 |k+1=>by
  rw [Sha.mixes,qIS s p k,Sha.mixes,List.drop_drop]
  congr 2
  omega
theorem qMp(n:Nat)(p:List Nat)(a b c d e f g h:Nat):blocks (n+1) p a b c d e f g h=forceL (mixN KN p a b c d e f g h) λr=>qAy ((a+r.getD 0 0)%4294967296) λa'=>qAy ((b+r.getD 1 0)%4294967296) λb'=>qAy ((c+r.getD 2 0)%4294967296) λc'=>qAy ((d+r.getD 3 0)%4294967296) λd'=>qAy ((e+r.getD 4 0)%4294967296) λe'=>qAy ((f+r.getD 5 0)%4294967296) λf'=>qAy ((g+r.getD 6 0)%4294967296) λg'=>qAy ((h+r.getD 7 0)%4294967296) λh'=>blocks n (p.drop 64) a' b' c' d' e' f' g' h':=rfl
theorem qMo(p:List Nat)(a b c d e f g h:Nat):blocks 0 p a b c d e f g h= [a,b,c,d,e,f,g,h]:=rfl
attribute [local irreducible] blocks mixN KN
theorem add_eq(x y:UInt32):(x.toNat+y.toNat)%4294967296=(x+y).toNat:=by simp only [UInt32.toNat_add]
theorem g0(r:Sha.St8):(r.list.map UInt32.toNat).getD 0 0=r.a.toNat:=rfl
theorem f0(s r:Sha.St8):(s.add r).a=s.a+r.a:=rfl
theorem g1(r:Sha.St8):(r.list.map UInt32.toNat).getD 1 0=r.b.toNat:=rfl
theorem f1(s r:Sha.St8):(s.add r).b=s.b+r.b:=rfl
theorem g2(r:Sha.St8):(r.list.map UInt32.toNat).getD 2 0=r.c.toNat:=rfl
theorem f2(s r:Sha.St8):(s.add r).c=s.c+r.c:=rfl
theorem g3(r:Sha.St8):(r.list.map UInt32.toNat).getD 3 0=r.d.toNat:=rfl
theorem f3(s r:Sha.St8):(s.add r).d=s.d+r.d:=rfl
theorem g4(r:Sha.St8):(r.list.map UInt32.toNat).getD 4 0=r.e.toNat:=rfl
theorem f4(s r:Sha.St8):(s.add r).e=s.e+r.e:=rfl
theorem g5(r:Sha.St8):(r.list.map UInt32.toNat).getD 5 0=r.f.toNat:=rfl
theorem f5(s r:Sha.St8):(s.add r).f=s.f+r.f:=rfl
theorem g6(r:Sha.St8):(r.list.map UInt32.toNat).getD 6 0=r.g.toNat:=rfl
theorem f6(s r:Sha.St8):(s.add r).g=s.g+r.g:=rfl
theorem g7(r:Sha.St8):(r.list.map UInt32.toNat).getD 7 0=r.h.toNat:=rfl
theorem f7(s r:Sha.St8):(s.add r).h=s.h+r.h:=rfl
theorem qSc(n:Nat): ∀(p:List UInt8) (s:Sha.St8),blocks n (p.map UInt8.toNat) s.a.toNat s.b.toNat s.c.toNat s.d.toNat s.e.toNat s.f.toNat s.g.toNat s.h.toNat=(Sha.mixes s p n).list.map UInt32.toNat:=by
 induction n with
 |zero=>intro p s;rw [qMo,Sha.mixes];rfl
 |succ n ih=>
  intro p s
  have hm:=qXo p s
  generalize hr:Sha.rnds (Sha.sched p) s 64=r at hm
  have hmx:Sha.mix s p=s.add r:=by unfold Sha.mix;rw [hr]
  have hi:=ih (p.drop 64) (s.add r)
  rw [qIS,hmx,←hi,qMp,qBG,hm,qAq,qAq,qAq,qAq,qAq,qAq,qAq,qAq]
  have h0:(s.a.toNat+(r.list.map UInt32.toNat).getD 0 0)%4294967296=(s.add r).a.toNat:=by rw [g0,f0,add_eq]
  have h1:(s.b.toNat+(r.list.map UInt32.toNat).getD 1 0)%4294967296=(s.add r).b.toNat:=by rw [g1,f1,add_eq]
  have h2:(s.c.toNat+(r.list.map UInt32.toNat).getD 2 0)%4294967296=(s.add r).c.toNat:=by rw [g2,f2,add_eq]
  have h3:(s.d.toNat+(r.list.map UInt32.toNat).getD 3 0)%4294967296=(s.add r).d.toNat:=by rw [g3,f3,add_eq]
  have h4:(s.e.toNat+(r.list.map UInt32.toNat).getD 4 0)%4294967296=(s.add r).e.toNat:=by rw [g4,f4,add_eq]
  have h5:(s.f.toNat+(r.list.map UInt32.toNat).getD 5 0)%4294967296=(s.add r).f.toNat:=by rw [g5,f5,add_eq]
  have h6:(s.g.toNat+(r.list.map UInt32.toNat).getD 6 0)%4294967296=(s.add r).g.toNat:=by rw [g6,f6,add_eq]
  have h7:(s.h.toNat+(r.list.map UInt32.toNat).getD 7 0)%4294967296=(s.add r).h.toNat:=by rw [g7,f7,add_eq]
  rw [List.map_drop,h0,h1,h2,h3,h4,h5,h6,h7]
def bytes4(x:Nat):List Nat:= [x/16777216%256,x/65536%256,x/256%256,x%256]
theorem bytes4_eq(x:Nat)(h:x<18446744073709551616):bytes4 x=(Sha.numB (UInt64.ofNat x) 4).map UInt8.toNat:=by
 rw [R3.four_nat x h]
 simp [bytes4,UInt8.toNat_ofNat']
noncomputable def padN(l:List Nat):List Nat:=l++128::List.replicate ((119-l.length%64)%64) 0++(bytes4 (8*l.length/4294967296)++bytes4 (8*l.length))
theorem padN_eq(l:List UInt8)(h:l.length<1152921504606846976):padN (l.map UInt8.toNat)=(Sha.pad l).map UInt8.toNat:=by
 unfold padN Sha.pad
 simp only [List.map_append,List.length_map,List.map_replicate,List.map_cons,List.map_nil,List.append_assoc,List.cons_append,List.nil_append]
 have e:(8*UInt64.ofNat l.length).toNat=8*l.length:=by
  rw [UInt64.toNat_mul,UInt64.toNat_ofNat',Nat.mod_eq_of_lt (show l.length<2^64 by omega)]
  exact Nat.mod_eq_of_lt (by show 8*l.length<18446744073709551616;omega)
 have h8:(Sha.numB (8*UInt64.ofNat l.length) 8).map UInt8.toNat=bytes4 (8*l.length/4294967296)++bytes4 (8*l.length):=by
  unfold Sha.numB
  rw [e]
  simp [List.range_succ,R3.u8_of64,bytes4,UInt8.toNat_ofNat',Nat.div_div_eq_div_mul]
 rw [h8]
 rfl
noncomputable def sumN(l:List Nat):List Nat:=forceL (padN l) λp=>(blocks (p.length/64) p 1779033703 3144134277 1013904242 2773480762 1359893119 2600822924 528734635 1541459225).flatMap bytes4
theorem qWX(l:List UInt8)(h:l.length<1152921504606846976):sumN (l.map UInt8.toNat)=(Sha.sum l).map UInt8.toNat:=by
 unfold sumN
 rw [qBG,padN_eq l h,List.length_map]
 have hb:=qSc ((Sha.pad l).length/64) (Sha.pad l) Sha.init
 rw [show blocks ((Sha.pad l).length/64) ((Sha.pad l).map UInt8.toNat) 1779033703 3144134277 1013904242 2773480762 1359893119 2600822924 528734635 1541459225=_ from hb]
 unfold Sha.sum Sha.out
 generalize (Sha.mixes Sha.init (Sha.pad l) ((Sha.pad l).length/64)).list=L
 induction L with
 |nil=>rfl
 |cons x L ih=>
  rw [List.map_cons,List.flatMap_cons,List.flatMap_cons,List.map_append,ih,bytes4_eq _ (by have:=x.toNat_lt;omega)]
  congr 2
  rw [show x.toUInt64=UInt64.ofNat x.toNat from by apply UInt64.toNat_inj.1;simp]
noncomputable def tagN(tag:Nat)(ls:List (List Nat)):List Nat:=(sumN (tag::ls.flatMap λs=>bytes4 s.length++s)).take 16
theorem tagN_eq(tag:UInt8)(ls:List (List UInt8))(h:ls.flatten.length+4*ls.length<1152921504606846975):tagN tag.toNat (ls.map (List.map UInt8.toNat))=(Sha.tagged tag ls).map UInt8.toNat:=by
 unfold tagN Sha.tagged
 have e:tag.toNat::(ls.map (List.map UInt8.toNat)).flatMap (λs=>bytes4 s.length++s)=(Sha.tagB tag ls).map UInt8.toNat:=by
  unfold Sha.tagB
  simp only [List.map_append,List.map_cons,List.map_nil,List.cons_append,List.nil_append]
  congr 1
  induction ls with
  |nil=>rfl
  |cons a l ih=>
   simp only [List.flatten_cons,List.length_append,List.length_cons] at h
   rw [List.map_cons,List.flatMap_cons,List.flatMap_cons,List.map_append,List.map_append,List.length_map,ih (by omega),bytes4_eq _ (by omega)]
 rw [e,qWX _ (by rw [Sha.tagB_length];omega),List.map_take]
end SN
end Go.Proofs.YtmemgokiolfdoaaGreatDoor
namespace Go.Proofs.YtmemgokiolfdoaaGreatDoor
def qNP:List (List Nat):= [[105,72,128,237,61,5,50,182,223,75,24,94,147,245,19,39],
 [88,245,185,155,41,107,180,138,125,166,83,171,115,216,18,165],
 [93,80,203,230,14,126,127,19,21,244,174,144,89,226,94,228],
 [148,10,18,170,77,162,171,186,8,98,48,154,194,169,63,108],
 [236,85,91,97,199,175,137,90,50,65,185,193,130,224,18,81],
 [79,166,20,31,51,117,145,24,240,79,98,79,106,240,3,239],
 [238,121,90,181,53,208,204,57,93,94,55,236,103,150,52,189],
 [206,246,68,71,242,240,44,227,11,163,124,42,109,136,184,223],
 [102,153,141,118,18,20,90,81,197,162,183,200,132,241,168,231],
 [105,185,227,83,69,124,42,97,92,121,35,66,28,255,32,8],
 [63,79,253,228,120,212,65,1,74,138,77,92,45,83,29,6],
 [6,68,43,83,187,176,175,5,40,111,126,28,241,42,58,162],
 [84,209,206,161,181,40,188,84,7,18,199,241,13,30,46,161],
 [176,37,113,44,248,46,217,3,30,200,199,117,42,191,130,40],
 [31,198,219,239,77,143,38,133,43,141,86,40,35,16,12,192]]
attribute [local irreducible] SN.tagN Sha.tagged
theorem qQt:(List.range 15).map (λi=>SN.tagN 15 [[0,i]])=qNP:=by decide+kernel
def qAM(n:Nat):List UInt8:=Sha.tagged 15 [[UInt8.ofNat (n/256),UInt8.ofNat n]]
theorem qBm(n:Nat):(qAM n).length=16:=Sha.tagged_length _ _
theorem qIH{i:Nat}(hi:i<15):(qAM i).map UInt8.toNat=qNP.getD i []:=by
 have h:=SN.tagN_eq 15 [[UInt8.ofNat (i/256),UInt8.ofNat i]] (by simp)
 have h2:SN.tagN 15 [[0,i]]=(qAM i).map UInt8.toNat:=by
  rw [←qAM] at h
  rw [←h]
  have e1:(UInt8.ofNat (i/256)).toNat=0:=by rw [show i/256=0 by omega];rfl
  have e2:(UInt8.ofNat i).toNat=i:=by rw [UInt8.toNat_ofNat'];omega
  show SN.tagN 15 [[0,i]]=SN.tagN 15 [[(UInt8.ofNat (i/256)).toNat,(UInt8.ofNat i).toNat]]
  rw [e1,e2]
 rw [←h2,←qQt,List.getD_eq_getElem?_getD,List.getElem?_map,List.getElem?_range hi];rfl
theorem qQs: ∀i j:Fin 15,i≠j→qNP.getD i.val []≠qNP.getD j.val []:=by decide+kernel
theorem qQu{i j:Nat}(hi:i<15)(hj:j<15)(h:i≠j):qAM i≠qAM j:=λe=>
 qQs ⟨i,hi⟩ ⟨j,hj⟩ (λq=>h (congrArg Fin.val q)) (by rw [←qIH hi,←qIH hj,e])
end Go.Proofs.YtmemgokiolfdoaaGreatDoor
namespace Go.Proofs.YtmemgokiolfdoaaGreatDoor
open Go Go.Fw Go.Proofs.Tryz
namespace Sha
structure Strm where
 seed:xA
 count:UInt64
 left:xA
def Strm.cells(s:Strm):List Value:= [Str s.seed,W64 s.count,Str s.left]
def Strm.new(seed:xA):Strm:=⟨seed,0,[]⟩
def Strm.Ok(s:Strm):Prop:=s.left= []∨8≤s.left.length
def Strm.fill(s:Strm):Strm:=if s.left= [] then⟨s.seed,s.count+1,sum (s.seed++numB s.count 4)⟩ else s
def val:xA→Nat→UInt64
 |_,0=>0
 |l,k+1=>UInt64.ofNat ((val l k).toNat*2^min 8 64)|||(l.getD k 0).toUInt64
def Strm.num(s:Strm):UInt64:=val s.fill.left 8
def Strm.next(s:Strm):Strm:=⟨s.fill.seed,s.fill.count,s.fill.left.drop 8⟩
def stop(n:UInt64):UInt64:=18446744073709551615-18446744073709551615%n
def draw(e:UInt64):Nat→Strm→Option (UInt64×Strm)
 |0,_=>none
 |f+1,s=>if s.num.toNat<e.toNat then some (s.num,s.next) else draw e f s.next
theorem Strm.fill_len{s:Strm}(h:s.Ok):8≤s.fill.left.length:=by
  unfold Strm.fill
  split
  · dsimp only;rw [sum_length];decide
  · rcases h with h|h
    · contradiction
    · exact h
theorem Strm.fill_seed(s:Strm):s.fill.seed=s.seed:=by unfold Strm.fill;split<;>rfl
def Strm.Ok8(s:Strm):Prop:=s.left.length%8=0
theorem Strm.Ok8.ok{s:Strm}(h:s.Ok8):s.Ok:=by
 unfold Strm.Ok8 at h
 unfold Strm.Ok
 cases hl:s.left with
 |nil=>exact .inl O
 |cons a l=>rw [hl] at h;simp only [jD] at h⊢;right;omega
theorem Strm.Ok8.next{s:Strm}(h:s.Ok8):s.next.Ok8:=by
 unfold Strm.Ok8 Strm.next Strm.fill at*
 dsimp only
 rw [jI]
 split
 · dsimp only;rw [sum_length]
 · omega
theorem Strm.next_seed(s:Strm):s.next.seed=s.seed:=s.fill_seed
theorem qSE{e:UInt64}: ∀{f:Nat} {s:Strm} {k:UInt64} {s':Strm},draw e f s=some (k,s')→s.Ok8→s'.Ok8∧s'.seed=s.seed
  |0,_,_,_,h,_=>by simp [draw] at h
  |f+1,s,k,s',h,ho=>by
    unfold draw at h
    split at h
    · simp only [zG,zd] at h
      obtain ⟨_,rfl⟩:=h
      exact⟨ho.next,s.next_seed⟩
    · have:=qSE h ho.next
      exact⟨this.1,this.2.trans s.next_seed⟩
end Sha
attribute [local irreducible] Sha.val Sha.Strm.fill
theorem qKu(F:Hp)(seed:xA):
    Ct prog 295 [Str seed] [F] (λg:Nat=>Ptr g) (λ_=>True) (λg=> [F,blk g (Sha.Strm.new seed).cells 420]):=by
  refine Ct.walk func295 O ntmps295 O (λw0 hw0=>?_)
  exact J.f λ_ j1=>J.b O<|J.c j1<|J.f λ_ j2=>J.b O<|J.g (qAL (places:= [(0,1),(1,1),(2,1)]) (r:=(Sha.Strm.new seed).cells) O O O qHn zeroValue420 (λ_=>xI) O) O<|J.q (qAb O O O) O λg5 _=>J.b O<|J.c j2<|J.A<|J.E hw0 O g5 O trivial [0,1] O xC
theorem qXf(F:Hp)(hK:qAG F ⟨3,0,none⟩ (Sha.K.map W32))(g:Nat)(s:Sha.Strm)(ho:s.Ok)(hs:s.seed.length≤1048576):
    Ct prog 307 [Ptr g] [blk g s.cells 420,F] (λ_:Unit=>W64 s.num) (λ_=>True) (λ_=> [blk g s.next.cells 420,F]):=by
  have hfl:=s.fill_len ho
  refine Ct.walk func307 O ntmps307 O (λw0 hw0=>?_)
  refine J.f λ_ j1=>J.b O<|J.c j1<|J.d9 (λ_:Unit=> [(0,Ptr g)]) (λ_=> [blk g s.fill.cells 420,F]) (λ_=>True) (λ_ j2=>?_) ?_
  ·
    refine J.f λ_ j3=>J.b O<|J.g (qAB O O) O<|J.W 2 qHn z9_ O O O O O<|J.a6 0 b9_ O O O O O<|J.g (qBY O O O) O<|J.c j3<|J.Z O (λh9=>?_) (λh9=>?_)
    ·
      refine J.k λ_ j4=>J.b1 [blk g s.cells 420,F] [15] (.y 0 (.y 1 (.y 2 (.y 3 (.y 4 (.y 5 (.y 6 (.y 7 (.y 8 (.e 9 (.y 10 (.e 11 (.e 12 (.y 13 (.y 14 (.e 15 .nil)))))))))))))))) Tryz.wide xF xD ?_
      refine J.L ?_
      refine J.L ?_
      refine J.j O (qAB O O) O O<|J.j O (qAA O O qHn O z9_ O) O O<|J.j O (qAD 0 O O O b9_ O) O O<|J.L ?_
      refine J.j O (qAB O O) O O<|J.j O (qAA O O qHn O qDs O) O O<|J.j O (qAD 0 O O O qEv O) O O<|J.h3 (λx=> [blk g s.cells 420,F]++ [x.2.2]) O (qBb O O (λF' _=>qFI F' s.count 4 xC)) O O O (λ_ _ h=>jh _ h) xD ?_
      rintro⟨A19,c19,m19⟩ h19
      try dsimp only at h19
      refine J.j O (qB3 O O qBu u5_ u9_ (m:=m19) xD h19.sl) O O<|J.a1 O (qAE (l:= [.tmp 14,.tmp 20]) (xs:= [[Str s.seed],[Str (Sha.numB s.count 4)]]) O O O O qAn el9 O xC xC xD) O xD λg21 _=>J.a1 O (qAZ O O (λF' hF=>qVi F' (hK.mono (Fa hF)) (some ⟨g21,0,none⟩) 2 2 [s.seed,(Sha.numB s.count 4)] (((qAm (q:=True) (xs:=qAH [s.seed,(Sha.numB s.count 4)]) O (by simp [qAH])).sl (m:=blk g21 [Str s.seed,Str (Sha.numB s.count 4)] 9)).mono (Fa hF)) (by simp [Sha.numB_length];omega) xC)) O xD λg22 _=>J.j O (qAB O O) O O<|J.j O (qAA O O qHn O z9_ O) O O<|J.c1 O (qAW (i:=0) O O O O O z9_ O (by show 2+1≤3;decide)) O O O λ_ _=>J.b0<|J.u (J.D j4 ?_)
      refine J.H<|J.b O<|J.g (qAB O O) O<|J.W 1 qHn qDs O O O O O<|J.a6 0 qEv O O O O O<|J.g (qNc (b:=1) O O O) O<|J.g (qAB O O) O<|J.W 1 qHn qDs O O O O O<|J.a7 (qAW (i:=0) O O O O O qDs O (by show 1+1≤3;decide)) O O λ_ _=>J.a4<|J.u ?_
      have hf:s.fill.cells= [Str s.seed,W64 (s.count+1),Str (Sha.sum [s.seed,(Sha.numB s.count 4)].flatten)]:=by
        unfold Sha.Strm.fill Sha.Strm.cells
        rw [if_pos h9]
        simp
      exact J.a8 () j2 trivial ⟨O,trivial⟩ (λ_ h=>by rw [hf];exact h.pick [0,1] xC)
    refine J.b2<|J.u ?_
    have hf:s.fill=s:=by unfold Sha.Strm.fill;rw [if_neg h9]
    exact J.a8 () j2 trivial ⟨O,trivial⟩ (λ_ h=>by rw [hf];exact h)
  rintro _ _
  refine J.f λ_ j5=>J.b O<|J.c j5<|J.k λ_ j6=>J.f λ_ j7=>J.b O<|J.c j7<|J.T<|J.b5 (λk:Nat=> [(0,Ptr g),(3,W64 (Sha.val s.fill.left k)),(32,I k)]) (λ_=> [blk g s.fill.cells 420,F]) (λk=>k≤8) (λk=>8-k) 0 (jE _) ⟨O,by unfold Sha.val;rfl,O,trivial⟩ (λ_ h=>h) ?_
  intro k hk I0 hI0
  refine J.f λ_ j8=>J.g (qAS O O O) O<|J.c j8<|J.k λ_ j9=>J.Z O (λh33=>?_) (λh33=>?_)
  ·
    refine J.M j9<|J.k λ_ j10=>J.T<|J.f λ_ j11=>J.p 2 O<|J.c j11 ?_
    have hk8:k<8:=xB
    refine J.H<|J.b O<|J.g (qNV O O O) O<|J.b O<|J.g (qAB O O) O<|J.W 2 qHn z9_ O O O O O<|J.a6 0 b9_ O O O O O<|J.b O<|J.g (qBl u9_ O O O (getB (b:=s.fill.left) (j:=k) xB)) O<|J.g (qF5 O O u5_ qEV) O<|J.g (qQ5 O O O) O<|J.b O<|J.a4<|J.a2<|J.u (J.D j10 ?_)
    exact J.H<|J.g (qAR O O O xB) O<|J.b O<|J.a4<|J.u<|J.a8 (k+1) (λx (hx:x≤8∧8-x<8-k)=>hI0 x hx.1 hx.2) ⟨xB,xB⟩ ⟨O,by rw [Sha.val];rfl,O,trivial⟩ (λ_ h=>h)
  refine J.b3<|J.a0<|J.a0<|J.b4 ?_
  refine J.u (J.D j6 ?_)
  refine J.k λ_ j12=>?_
  have hk8:k=8:=xB
  subst hk8
  exact J.H<|J.p 2 O<|J.g (qAB O O) O<|J.W 2 qHn z9_ O O O O O<|J.a6 0 b9_ O O O O O<|J.g ((qA9 u9_ O O O O ⟨hfl,jJ _⟩).as (v':=Str s.next.left) (by rw [jm];rfl)) O<|J.g (qAB O O) O<|J.W 2 qHn z9_ O O O O O<|J.a7 (qAW (i:=0) O O O O O z9_ O (by show 2+1≤3;decide)) O O λ_ _=>J.c j12<|J.f λ_ j13=>J.p 2 O<|J.c j13<|J.A<|J.E hw0 O () O trivial [0,1] (by simp only [Sha.Strm.next,Sha.Strm.cells];rfl) xC
theorem qOZ(F:Hp)(hK:qAG F ⟨3,0,none⟩ (Sha.K.map W32))(g:Nat)(s:Sha.Strm)(ho0:s.Ok8)(hs:s.seed.length≤1048576)(n:UInt64)(hn:2≤n.toNat)(fuel:Nat)(k:UInt64)(s':Sha.Strm)(hd:Sha.draw (Sha.stop n) fuel s=some (k,s')):
    Ct prog 296 [Ptr g,W64 n] [blk g s.cells 420,F] (λ_:Unit=>W64 (k%n)) (λ_=>True) (λ_=> [blk g s'.cells 420,F]):=by
  have hn0:n≠0:=λe=>by rw [e] at hn;exact absurd hn xC
  refine Ct.walk func296 O ntmps296 O (λw0 hw0=>?_)
  refine J.f λ_ j1=>J.b O<|J.c j1<|J.k λ_ j2=>J.f λ_ j3=>J.b O<|J.g ((qA6 underlying410 O O O).as (v':= .bool false) O) O<|J.p 2 O<|J.G ((qAS O O O).no xB) O<|J.b O<|J.c j3<|J.a3 ?_
  refine J.M j2<|J.f λ_ j4=>J.b O<|J.g (qNW (a:=18446744073709551615) O O O hn0) O<|J.g (qNU (a:=18446744073709551615) O O O) O<|J.b O<|J.c j4<|J.T<|J.b5 (X:=Nat×Sha.Strm) (λ_=> [(0,Ptr g),(1,W64 n),(5,W64 (Sha.stop n))]) (λx=> [blk g x.2.cells 420,F]) (λx=>Sha.draw (Sha.stop n) x.1 x.2=some (k,s')∧x.2.Ok8∧x.2.seed=s.seed) (λx=>x.1) (fuel,s) (⟨hd,ho0,O⟩) ⟨O,O,O,trivial⟩ (λ_ h=>h) ?_
  rintro⟨f,st⟩ ⟨hdr,ho,hsd⟩ I0 hI0
  dsimp only at hdr ho hsd⊢
  obtain ⟨f,rfl⟩: ∃f',f=f'+1:=by cases f with
    |zero=>simp [Sha.draw] at hdr
    |succ f=>exact⟨f,O⟩
  unfold Sha.draw at hdr
  refine J.T<|J.f λ_ j5=>J.b O<|J.q (qAK O O ent (qXf F hK g st ho.ok (by rw [hsd];exact hs))) O λg17 _=>J.b O<|J.c j5<|J.f λ_ j6=>J.p 2 O<|J.g (qAS O O O) O<|J.c j6<|J.Z O (λh20=>?_) (λh20=>?_)
  ·
    refine J.f λ_ j7=>J.p 2 O<|J.g (qNW O O O hn0) O<|J.b O<|J.c j7<|J.A<|J.a5<|J.V<|J.a5 ?_
    rw [if_pos xB] at hdr
    simp only [zG,zd] at hdr
    obtain ⟨hk1,hk2⟩:=hdr
    exact J.E hw0 O () (by rw [←hk1]) trivial [0,1] (by rw [←hk2];rfl) xC
  refine J.b2<|J.a2<|J.u ?_
  rw [if_neg xB] at hdr
  exact J.a8 (f,st.next) (λx (hx:_∧x.1<f+1)=>hI0 x hx.1 hx.2) ⟨⟨hdr,ho.next,st.next_seed.trans hsd⟩,Nat.lt_succ_self f⟩ ⟨O,O,O,trivial⟩ (λ_ h=>h)
theorem qMq(F:Hp)(g:Nat)(s:Sha.Strm)(n:UInt64)(hn:n.toNat<2):
    Ct prog 296 [Ptr g,W64 n] [blk g s.cells 420,F] (λ_:Unit=>W64 0) (λ_=>True) (λ_=> [blk g s.cells 420,F]):=by
  refine Ct.walk func296 O ntmps296 O (λw0 hw0=>?_)
  refine J.f λ_ j1=>J.b O<|J.c j1<|J.k λ_ j2=>J.f λ_ j3=>J.b O<|J.g ((qA6 underlying410 O O O).as (v':= .bool false) O) O<|J.p 2 O<|J.G ((qAS O O O).yes xB) O<|J.b O<|J.c j3<|J.c3 ?_
  exact J.f λ_ j4=>J.b O<|J.c j4<|J.A<|J.V<|J.E hw0 O () O trivial [0,1] O xC
end Go.Proofs.YtmemgokiolfdoaaGreatDoor