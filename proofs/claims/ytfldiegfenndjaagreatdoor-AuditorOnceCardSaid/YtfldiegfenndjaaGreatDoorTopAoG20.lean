/- A part of the proof. -/
import Derived.Test.YtfldiegfenndjaaGreatDoorTopAoG8
import Derived.Test.YtfldiegfenndjaaGreatDoorTopAoG18
set_option linter.unusedSimpArgs false
set_option linter.unusedVariables false
namespace Go.Proofs.YtfldiegfenndjaaGreatDoor
open Go Go.Fw Go.Proofs.Tryz
set_option maxRecDepth 100000
set_option maxHeartbeats 1000000
theorem ent28:qAE prog 28:=qAE.of func28 rfl (by kernel_rfl)
theorem ent51:qAE prog 51:=qAE.of func51 rfl (by kernel_rfl)
theorem ent65:qAE prog 65:=qAE.of func65 rfl (by kernel_rfl)
theorem ent67:qAE prog 67:=qAE.of func67 rfl (by kernel_rfl)
theorem ent190:qAE prog 190:=qAE.of func190 rfl (by kernel_rfl)
theorem ent191:qAE prog 191:=qAE.of func191 rfl (by kernel_rfl)
theorem ent221:qAE prog 221:=qAE.of func221 rfl (by kernel_rfl)
theorem ent225:qAE prog 225:=qAE.of func225 rfl (by kernel_rfl)
theorem el162:qCv prog 162 [.int .i64 0,Str []] 24:=qCv.of (by kernel_rfl) rfl
abbrev Wri:=Nat×List UInt8
structure Dk where
 last:List (List UInt8)
 wait:List Wri
 off:Bool
 armed:Bool
 fuse:Int
 keep:List UInt8
def qCC(l:List Wri):List (List Value):=l.map λw=> [I w.1,Str w.2]
theorem qMg(a b:List Wri):qCC (a++b)=qCC a++qCC b:=by simp [qCC]
theorem qFf{l:List Wri}{k:Nat}(h:k<l.length):(qCC l)[k]?=some [I (l.getD k (0,[])).1,Str (l.getD k (0,[])).2]:=by
 unfold qCC
 rw [jN,qAd (0,[]) h];rfl
theorem qMf(l:List Wri):(qCC l).all (λx=>x.all Value.oneCell')=true:=by simp [qCC,Value.oneCell']
theorem qLo(a b:List (List UInt8)):qAH (a++b)=qAH a++qAH b:=by simp [qAH]
def Dk.cells(d:Dk)(A:Option Addr)(c:Nat)(B:Option Addr)(e:Nat)(C:Option Addr)(f:Nat):List Value:= [.slice A d.last.length c,.slice B d.wait.length e,.bool d.off,.bool d.armed,I d.fuse,.slice C d.keep.length f]
def Dsk(mm:Hp)(g:Nat)(d:Dk)(C:Option Addr)(f:Nat):Prop:= ∃A c mL B e mW,mm=U [blk g (d.cells A c B e C f) 135,mL,mW]∧Djs [blk g (d.cells A c B e C f) 135,mL,mW]∧Row mL 9 1 A d.last.length c (qAH d.last)∧Row mW 162 2 B d.wait.length e (qCC d.wait)
theorem Dsk.see{mm:Hp}{g:Nat}{d:Dk}{C:Option Addr}{f:Nat}(h:Dsk mm g d C f): ∃A c B e,qAP mm ⟨g,0,none⟩ (d.cells A c B e C f)∧Sl mm 1 A d.last.length c (qAH d.last)∧Sl mm 2 B d.wait.length e (qCC d.wait):=by
 obtain ⟨A,c,mL,B,e,mW,rfl,hd,h1,h2⟩:=h
 exact⟨A,c,B,e,qAP.blk0.mono (qG2 hd (.head _)),h1.sl.mono (qG2 hd (.tail _ (.head _))),h2.sl.mono (qG2 hd (.tail _ (.tail _ (.head _))))⟩
def Dk.ready(d:Dk)(i:Int):Int:=if d.off then 8 else if i<0∨(d.last.length:Int)≤i then 10 else 0
def qOs(l:List Wri)(i:Nat):Nat→Option (List UInt8)
 |0=>none
 |k+1=>if(l.getD k (0,[])).1=i then some (l.getD k (0,[])).2 else qOs l i k
theorem qNE(l:List Wri)(i:Nat):qOs l i 0=none:=rfl
theorem qIV(l:List Wri)(i k:Nat):qOs l i (k+1)=if(l.getD k (0,[])).1=i then some (l.getD k (0,[])).2 else qOs l i k:=rfl
def Dk.now(d:Dk)(i:Nat):List UInt8:=(qOs d.wait i d.wait.length).getD (d.last.getD i [])
def Dk.read(d:Dk)(i:Int):List UInt8:=if d.ready i=0 then d.now i.toNat else []
def qGo(old t:List UInt8)(n:Nat):List UInt8:=t.take n++old.drop n
def qHp(L:List (List UInt8))(w:Wri)(n:Nat):List (List UInt8):=L.set w.1 (qGo (L.getD w.1 []) w.2 n)
theorem qIt(L:List (List UInt8))(w:Wri)(n:Nat):(qHp L w n).length=L.length:=by unfold qHp;rw [jm]
def qCb(L:List (List UInt8))(W:List Wri):Nat→List (List UInt8)
 |0=>L
 |k+1=>qHp (qCb L W k) (W.getD k (0,[])) 64
def qDE(L:List (List UInt8))(W:List Wri)(K:List UInt8):Nat→List (List UInt8)
 |0=>L
 |k+1=>if k<K.length then qHp (qDE L W K k) (W.getD k (0,[])) (min (K.getD k 0).toNat 64) else qDE L W K k
theorem qBI(L:List (List UInt8))(W:List Wri): ∀k,(qCb L W k).length=L.length
 |0=>rfl
 |k+1=>by rw [qCb,qIt,qBI L W k]
theorem qBC(L:List (List UInt8))(W:List Wri)(K:List UInt8): ∀k,(qDE L W K k).length=L.length
 |0=>rfl
 |k+1=>by
  rw [qDE]
  split
  · rw [qIt,qBC L W K k]
  · exact qBC L W K k
def Dk.cut(d:Dk)(K:List UInt8):Dk:={d with last:=qDE d.last d.wait K d.wait.length,wait:= [],off:=true,armed:=false}
def Dk.burns(d:Dk):Prop:=d.armed=true∧d.fuse-1<0
instance (d:Dk):Decidable d.burns:=by unfold Dk.burns;infer_instance
def Dk.burn(d:Dk):Dk:=if d.armed=true then(if d.fuse-1<0 then{d with fuse:=d.fuse-1}.cut d.keep else{d with fuse:=d.fuse-1}) else d
def qHA(s:List UInt8):List UInt8:=s++List.replicate (64-s.length) 0
theorem qQB{s:List UInt8}(h:s.length≤64):(qHA s).length=64:=by unfold qHA;rw [jA,jG];omega
structure Dk.ok0 (d:Dk):Prop where
 l64: ∀s∈d.last,s.length=64
 w64: ∀w∈d.wait,w.1<d.last.length∧w.2.length=64
 n0:0<d.last.length
 n1:d.last.length≤1024
structure Dk.ok (d:Dk):Prop extends Dk.ok0 d where
 fz:d.armed=true→0≤d.fuse
 fb: -9223372036854775808≤d.fuse∧d.fuse≤9223372036854775807
theorem qO7{o t:List UInt8}{n:Nat}(ho:o.length=64)(ht:t.length=64)(hn:n≤64):(qGo o t n).length=64:=by unfold qGo;rw [jA,jE,jL];omega
theorem qIy{L:List (List UInt8)}(h: ∀s∈L,s.length=64){k:Nat}(hk:k<L.length):(L.getD k []).length=64:=by
 rw [jB,jC hk];exact h _ (jc hk)
theorem qOE{W:List Wri}{p:Wri→Prop}(h: ∀w∈W,p w){k:Nat}(hk:k<W.length):p (W.getD k (0,[])):=by
 rw [jB,jC hk];exact h _ (jc hk)
theorem qK7{L:List (List UInt8)}(h: ∀s∈L,s.length=64){w:Wri}(hw:w.1<L.length∧w.2.length=64){n:Nat}(hn:n≤64): ∀s∈qHp L w n,s.length=64:=λs hs=>by
 unfold qHp at hs
 rcases zf hs with hs|rfl
 · exact h s hs
 · exact qO7 (qIy h hw.1) hw.2 hn
theorem qHN{L:List (List UInt8)}{W:List Wri}(h: ∀s∈L,s.length=64)(hw: ∀w∈W,w.1<L.length∧w.2.length=64): ∀k,k≤W.length→ ∀s∈qCb L W k,s.length=64
 |0,_=>h
 |k+1,hk=>by
  rw [qCb]
  exact qK7 (qHN h hw k (by omega)) (by rw [qBI];exact qOE hw (show k<W.length by omega)) (jJ _)
theorem qHx{L:List (List UInt8)}{W:List Wri}{K:List UInt8}(h: ∀s∈L,s.length=64)(hw: ∀w∈W,w.1<L.length∧w.2.length=64): ∀k,k≤W.length→ ∀s∈qDE L W K k,s.length=64
 |0,_=>h
 |k+1,hk=>by
  rw [qDE]
  split
  · exact qK7 (qHx h hw k (by omega)) (by rw [qBC];exact qOE hw (show k<W.length by omega)) (Nat.min_le_right _ _)
  · exact qHx h hw k (by omega)
theorem Dk.ok0.cut{d:Dk}(h:d.ok0)(K:List UInt8):(d.cut K).ok0:=
 ⟨qHx h.l64 h.w64 _ (jJ _),(λw hw=>nomatch hw),by show 0<(qDE _ _ _ _).length;rw [qBC];exact h.n0,by show(qDE _ _ _ _).length≤_;rw [qBC];exact h.n1⟩
theorem Dk.ok.cut{d:Dk}(h:d.ok)(K:List UInt8):(d.cut K).ok:=⟨Dk.ok0.cut h.1 K,(λe=>nomatch e),h.fb⟩
theorem Dk.ok.burn{d:Dk}(h:d.ok):d.burn.ok:=by
  unfold Dk.burn
  split
  · rename_i ha
    have h1:=h.fz ha
    have h2:=h.fb
    split
    · exact⟨Dk.ok0.cut (d:={d with fuse:=d.fuse-1}) ⟨h.l64,h.w64,h.n0,h.n1⟩ _,(λe=>nomatch e),by show _≤d.fuse-1∧d.fuse-1≤_;omega⟩
    · exact⟨⟨h.l64,h.w64,h.n0,h.n1⟩,λ_=>by show 0≤d.fuse-1;omega,by show _≤d.fuse-1∧d.fuse-1≤_;omega⟩
  · exact h
def Dk.wErr(d:Dk)(i:Int)(s:List UInt8):Int:=if d.ready i≠0 then d.ready i else if 64<s.length then 2 else if d.burns then 8 else 0
def Dk.write(d:Dk)(i:Int)(s:List UInt8):Dk:=if d.ready i≠0 then d else if 64<s.length then d else if d.burns then d.burn else{d.burn with wait:=d.burn.wait++ [(i.toNat,qHA s)]}
def Dk.sErr(d:Dk):Int:=if d.ready 0≠0 then d.ready 0 else if d.burns then 8 else 0
def Dk.sync(d:Dk):Dk:=if d.ready 0≠0 then d else if d.burns then d.burn else{d.burn with last:=qCb d.burn.last d.burn.wait d.burn.wait.length,wait:= []}
def Dk.setFuse(d:Dk)(n:Int)(K:List UInt8):Dk:={d with armed:=decide (0≤n),fuse:=n,keep:=K}
def Dk.start(d:Dk):Dk:={d with off:=false}
def Dk.new(n:Nat):Dk:=⟨List.replicate n (List.replicate 64 0),[],false,false,0,[]⟩
theorem qKg{d:Dk}{i:Int}(h:d.ready i=0):0≤i∧i<d.last.length∧d.off=false:=by
  unfold Dk.ready at h
  split at h
  · cases h
  · rename_i h1
    split at h
    · cases h
    · exact⟨by omega,by omega,by simpa using h1⟩
theorem qBe{d:Dk}(h: ¬d.burns):d.burn.last=d.last∧d.burn.wait=d.wait∧d.burn.off=d.off:=by
  unfold Dk.burn
  split
  · rename_i ha
    rw [if_neg (λe=>h ⟨ha,e⟩)];exact⟨rfl,rfl,rfl⟩
  · exact⟨rfl,rfl,rfl⟩
theorem Dk.ok.write{d:Dk}(h:d.ok)(i:Int)(s:List UInt8):(d.write i s).ok:=by
  unfold Dk.write
  split
  · exact h
  · rename_i h0
    split
    · exact h
    · rename_i h1
      have hb:=h.burn
      split
      · exact hb
      · rename_i h2
        obtain ⟨r1,r2,_⟩:=qKg (Decidable.not_not.1 h0)
        refine⟨⟨hb.l64,λw hw=>?_,hb.n0,hb.n1⟩,hb.fz,hb.fb⟩
        rcases List.mem_append.1 hw with hw|hw
        · exact hb.w64 w hw
        · simp only [jU] at hw
          subst hw
          exact⟨by show i.toNat<d.burn.last.length;rw [(qBe h2).1];omega,qQB (by omega)⟩
theorem Dk.ok.sync{d:Dk}(h:d.ok):d.sync.ok:=by
  unfold Dk.sync
  split
  · exact h
  · have hb:=h.burn
    split
    · exact hb
    · exact⟨⟨qHN hb.l64 hb.w64 _ (jJ _),(λw hw=>nomatch hw),by show 0<(qCb _ _ _).length;rw [qBI];exact hb.n0,by show(qCb _ _ _).length≤_;rw [qBI];exact hb.n1⟩,hb.fz,hb.fb⟩
theorem Dk.ok.setFuse{d:Dk}(h:d.ok)(n:Int)(hn: -9223372036854775808≤n∧n≤9223372036854775807)(K:List UInt8):(d.setFuse n K).ok:=⟨⟨h.l64,h.w64,h.n0,h.n1⟩,λe=>by simpa [Dk.setFuse] using e,hn⟩
theorem Dk.ok.start{d:Dk}(h:d.ok):d.start.ok:=⟨⟨h.l64,h.w64,h.n0,h.n1⟩,h.fz,h.fb⟩
theorem Dk.new_ok{n:Nat}(h:4≤n)(h2:n≤1024):(Dk.new n).ok:=⟨⟨λs hs=>by have:=zJ hs;rw [this,jG],(λw hw=>nomatch hw),by show 0<(List.replicate n _).length;rw [jG];omega,by show(List.replicate n _).length≤_;rw [jG];exact h2⟩,(λe=>nomatch e),⟨by show-9223372036854775808≤(0:Int);decide,by show(0:Int)≤_;decide⟩⟩
theorem qHU(F:Hp)(g:Nat)(d:Dk)(A:Option Addr)(c:Nat)(B:Option Addr)(e:Nat)(C:Option Addr)(f:Nat)(hc:qAP F ⟨g,0,none⟩ (d.cells A c B e C f))(i:Int)(hn:d.last.length≤1073741824):
    Ct prog 190 [Ptr g,I i] [F] (λ_:Unit=>I (d.ready i)) (λ_=>True) (λ_=> [F]):=by
  refine Ct.walk func190 rfl ntmps190 rfl (λw0 hw0=>?_)
  change J _ [(0,_),(1,_)] _ _ _
  refine J.g λK1 hK1=>J.b V<|J.c hK1<|J.E 0 1 ?_
  refine J.k λK2 hK2=>J.a1<|J.g λK3 hK3=>J.b V<|J.f ((qA1 qRU V V V).as (v':= .bool false) V) V<|J.b V<|J.c hK3<|J.G 0 1 5 ?_
  refine J.a5 ?_
  refine J.g λK4 hK4=>J.b V<|J.f (qAC V V) V<|J.a2 2 qBu z4_ V V V V V<|J.f ((qAL V V b4_ (m:=F) (by simp) (hc.at (i:=2) rfl)).as (v':= .bool (decide (d.off=true))) (congrArg Value.bool (by simp))) rfl<|J.b rfl<|J.c hK4<|J.G 0 1 8 ?_
  refine J.a4 V (λh8=>?_) (λh8=>?_)
  ·
    refine J.g λK5 hK5=>J.b V<|J.c hK5<|J.A 4 ?_
    exact J.D<|J.b6<|J.a7<|J.Z hw0 V () (congrArg I (show(8:Int)=d.ready i by unfold Dk.ready;rw [if_pos h8])) trivial [0] rfl (by decide)
  refine J.g λK6 hK6=>J.b V<|J.f (qAT V V V) V<|J.b V<|J.c6 (d:=16) V (λh16=>?_) (λh16=>?_)
  ·
    refine J.j 9 V<|J.c hK6<|J.A 13 ?_
    refine J.c7 ?_
    refine J.g λK7 hK7=>J.b V<|J.c hK7<|J.A 4 ?_
    exact J.D<|J.b6<|J.a7<|J.Z hw0 V () (congrArg I (show(10:Int)=d.ready i by unfold Dk.ready;rw [if_neg h8,if_pos (by omega)])) trivial [0] rfl (by decide)
  refine J.j 2 V<|J.T (qAC V V) V<|J.T (qAA (j:=0) V V qBu V qCA V) V<|J.T (qAL V V qCR (m:=F) (by simp) (hc.at (i:=0) rfl)) rfl<|J.T (qAY qAh rfl rfl) rfl<|J.T (qA9 rfl rfl rfl) rfl<|J.j 2 rfl<|J.c hK6<|J.A 13 ?_
  refine J.a4 V (λh13=>?_) (λh13=>?_)
  ·
    refine J.g λK8 hK8=>J.b V<|J.c hK8<|J.A 4 ?_
    exact J.D<|J.b6<|J.a7<|J.Z hw0 V () (congrArg I (show(10:Int)=d.ready i by unfold Dk.ready;rw [if_neg h8,if_pos (by omega)])) trivial [0] rfl (by decide)
  refine J.c0<|J.b0<|J.u (J.M hK2 ?_)
  refine J.d0 [] trivial<|J.g λK9 hK9=>J.b V<|J.c hK9<|J.A 4 ?_
  exact J.D<|J.Z hw0 V () (congrArg I (show(0:Int)=d.ready i by unfold Dk.ready;rw [if_neg h8,if_neg (by omega)])) trivial [0] rfl (by decide)
theorem qLM(F:Hp)(g:Nat)(d:Dk)(A:Option Addr)(c:Nat)(B:Option Addr)(e:Nat)(C:Option Addr)(f:Nat)(hc:qAP F ⟨g,0,none⟩ (d.cells A c B e C f)):
    Ct prog 115 [Ptr g] [F] (λ_:Unit=>I d.last.length) (λ_=>True) (λ_=> [F]):=by
  refine Ct.walk func115 rfl ntmps115 rfl (λw0 hw0=>?_)
  change J _ [(0,_)] _ _ _
  refine J.g λK1 hK1=>J.b V<|J.c hK1<|J.A 0 ?_
  refine J.k λK2 hK2=>J.g λK3 hK3=>J.b V<|J.f ((qA1 qRU V V V).as (v':= .bool false) V) V<|J.c hK3<|J.E 0 4 ?_
  refine J.a5 ?_
  refine J.W hK2<|J.A 0 ?_
  refine J.g λK4 hK4=>J.b V<|J.f (qAC V V) V<|J.a2 0 qBu qCA V V V V V<|J.f (qAL V V qCR (m:=F) (by simp) (hc.at (i:=0) rfl)) rfl<|J.f (qAY qAh rfl rfl) rfl<|J.b rfl<|J.c hK4<|J.A 2 ?_
  exact J.D<|J.Z hw0 V () V trivial [0] V (by decide)
theorem qTq(F:Hp)(g:Nat)(d:Dk)(A:Option Addr)(c:Nat)(B:Option Addr)(e:Nat)(C:Option Addr)(f:Nat)(hc:qAP F ⟨g,0,none⟩ (d.cells A c B e C f)):
    Ct prog 27 [Ptr g] [F] (λ_:Unit=> .bool (!d.off)) (λ_=>True) (λ_=> [F]):=by
  refine Ct.walk func27 rfl ntmps27 rfl (λw0 hw0=>?_)
  change J _ [(0,_)] _ _ _
  refine J.g λK1 hK1=>J.b V<|J.c hK1<|J.A 0 ?_
  refine J.g λK2 hK2=>J.b V<|J.f ((qKp qRU V V V).as (v':= .bool true) V) V<|J.j 2 V<|J.T (qAC V V) V<|J.T (qAA (j:=2) V V qBu V z4_ V) V<|J.T (qAL V V b4_ (m:=F) (by simp) (hc.at (i:=2) rfl)) rfl<|J.T ((qAw rfl rfl)) rfl<|J.j 2 rfl<|J.c hK2<|J.A 2 ?_
  exact J.D<|J.Z hw0 V () V trivial [0] V (by decide)
theorem qQQ(F:Hp)(B:Option Addr)(n e:Nat):Ct prog 191 [.slice B n e] [F] (λx:Nat=> .func (.func 221) #[] #[Ptr x]) (λ_=>True) (λx=> [F,blk x [.slice B n e] 133]):=by
 refine Ct.walk func191 rfl ntmps191 rfl (λw0 hw0=>?_)
 change J _ [(0,_)] _ _ _
 refine J.g λK1 hK1=>J.q (qAi V V (l:= [.slice B n e]) V) V λg1 _=>?_
 change J _ _ _ [F,blk g1 [.slice B n e] 133] _
 refine J.b V<|J.c hK1<|J.A 1 ?_
 refine J.g λK2 hK2=>J.f (qBy V V) V<|J.b V<|J.c hK2<|J.A 2 ?_
 exact J.D<|J.Z hw0 V g1 V trivial [0,1] V (by decide)
theorem qOd(Fr:Hp)(gB:Nat)(B:Option Addr)(W:List Wri)(e:Nat)(hn2:W.length≤1073741824)(ha:qAP Fr ⟨gB,0,none⟩ [.slice B W.length e])(hs:Sl Fr 2 B W.length e (qCC W)):
    qKM prog 221 [Ptr gB] Fr (λi=> [I ((W.length-1-i:Nat):Int),.agg #[I (W.getD (W.length-1-i) (0,[])).1,Str (W.getD (W.length-1-i) (0,[])).2]]) W.length:=by
  refine qKM.walk func221 rfl ntmps221 rfl (λ{X} M IY S l x0 w0 hw0 h0 hY=>?_)
  change J _ [(0,_),(1,_)] _ _ _
  refine J.g λK1 hK1=>J.f (qAL V V isAgg133 (m:=Fr) (by simp) (ha)) rfl<|J.f (qAY qHL rfl rfl) rfl<|J.f ((qAn rfl rfl rfl (by omega)).as (v':=I ((W.length:Int)-1-((0:Nat):Int))) (congrArg I (by omega))) rfl<|J.b rfl<|J.c hK1<|J.G 0 1 3 ?_
  refine J.a1<|J.c1 (X:=Nat×X) (λy=> [(0,.func (.yield l) #[] #[]),(1,Ptr gB),(3,I ((W.length:Int)-1-(y.1:Int)))]) (λy=> [Fr,M y.2]) (λy=>y.1≤W.length∧IY y.1 y.2) (λy=>W.length-y.1) (0,x0) (⟨jF _,h0⟩) ⟨V,V,V,trivial⟩ (λ_ h=>h) ?_
  rintro⟨i,x⟩ ⟨hi,hI⟩ I0 hI0
  dsimp only at hi hI⊢
  refine J.k λK2 hK2=>J.g λK3 hK3=>J.b V<|J.f (qA9 V V V) V<|J.c hK3<|J.O 0 1 3 8 ?_
  refine J.a4 V (λh8=>?_) (λh8=>?_)
  ·
    refine J.W hK2<|J.G 0 1 3 ?_
    refine J.k λK4 hK4=>J.a1<|J.k λK5 hK5=>J.h1 ?_
    refine J.d8 (qAb V V) V V V ?_
    refine J.d8 ((qAb V V).nat (W.length-1-i) (by omega)) V V V ?_
    refine J.d8 (qAL V V isAgg133 (m:=Fr) (by simp) (ha)) rfl rfl rfl ?_
    refine J.d8 ((qAb V V).nat (W.length-1-i) (by omega)) V V V ?_
    refine J.d8 (qAF (i:=W.length-1-i) V V V qHL qFe hs (by omega)) V V V ?_
    refine J.d8 (qAl V V isAgg162 qFe (m:=Fr) (by simp) (vs:= [I (W.getD (W.length-1-i) (0,[])).1,Str (W.getD (W.length-1-i) (0,[])).2]) (hs.elem (qFf (by omega))) rfl) rfl rfl rfl ?_
    refine J.h2 (ex:= []) V V V V V V (hY i x (by omega) hI) ?_
    rintro x' b hb1 hb2
    cases b
    ·
      have hyb:=hb2 rfl
      change J _ _ _ [Fr,M x'] _
      refine J.d8 (qAw V V) V V V ?_
      refine J.f9 ?_
      refine J.u (J.M hK5 ?_)
      refine J.O 0 1 3 18 ?_
      refine J.c7 ?_
      exact J.D<|J.b6<|J.a7<|J.a7<|J.b6<|J.b4 hw0 (λ_ _ h=>h) (qJX V) (λw hs=>⟨x',⟨_,V⟩,.inr hyb,hs⟩)
    have hyb:=hb1 rfl
    change J _ _ _ [Fr,M x'] _
    refine J.d8 (qAw V V) V V V ?_
    refine J.f9 ?_
    refine J.u (J.M hK5 ?_)
    refine J.O 0 1 3 18 ?_
    refine J.a5 ?_
    refine J.c0<|J.b0<|J.u (J.M hK4 ?_)
    refine J.G 0 1 3 ?_
    exact J.H<|J.b V<|J.f ((qAn V V V (by omega)).as (v':=I ((W.length:Int)-1-((i+1:Nat):Int))) (congrArg I (by omega))) V<|J.b V<|J.a8<|J.u<|J.a9 (i+1,x') (λy (hy:_∧W.length-y.1<W.length-i)=>hI0 y hy.1 hy.2) ⟨⟨by dsimp only;omega,hyb⟩,by dsimp only;omega⟩ ⟨V,V,V,trivial⟩ (λ_ h=>h)
  refine J.b8<|J.a6<|J.a6<|J.b9 ?_
  exact J.e7 hw0 (λ_ _ h=>h) (qJX V) (λw hs=>⟨x,⟨_,V⟩,.inl (by rw [show W.length=i by omega];exact hI),hs⟩)
theorem qPB(F:Hp)(g:Nat)(d:Dk)(A:Option Addr)(c:Nat)(B:Option Addr)(e:Nat)(C:Option Addr)(f:Nat)(hc:qAP F ⟨g,0,none⟩ (d.cells A c B e C f))(hL:Sl F 1 A d.last.length c (qAH d.last))(hW:Sl F 2 B d.wait.length e (qCC d.wait))(i:Int)(hn:d.last.length≤1073741824)(hn2:d.wait.length≤1073741824):
    Ct prog 159 [Ptr g,I i] [F] (λ_:Unit=> .tuple #[Str (d.read i),I (d.ready i)]) (λ_=>True) (λ_=> [F]):=by
  refine Ct.walk func159 rfl ntmps159 rfl (λw0 hw0=>?_)
  change J _ [(0,_),(1,_)] _ _ _
  refine J.g λK1 hK1=>J.q (qAi V V (l:= [I i]) V) V λg3 _=>?_
  change J _ _ _ [F,blk g3 [I i] 3] _
  refine J.q (qAO V e9_ V) V λg4 _=>?_
  change J _ _ _ [_,_,blk g4 _ 9] _
  refine J.q (qAO V zeroValue30 V) V λg5 _=>?_
  change J _ _ _ [_,_,_,blk g5 _ 30] _
  refine J.c hK1<|J.O 0 3 4 5 ?_
  refine J.k λK2 hK2=>J.g λK3 hK3=>J.b V<|J.c2 1 b3_ V V V V V<|J.q (qAB V V ent190 (Ct.use0 (λF' hF=>qHU F' g d A c B e C f (hc.mono (hF F (by simp))) i hn))) rfl λg11 _=>J.b rfl<|J.c hK3<|J.a0 0 3 4 5 6 ?_
  refine J.g λK4 hK4=>J.b V<|J.f (qAU V V V) V<|J.c hK4<|J.b5 0 3 4 5 6 13 ?_
  refine J.a4 V (λh13=>?_) (λh13=>?_)
  ·
    refine J.g λK5 hK5=>J.b V<|J.b1 (qAG (l:= [Str []]) (i:=2) (vs:= [Str []]) V V V V V z9_ V V) V V λ_ _=>?_
    change J _ _ _ [_,_,blk g4 [Str []] 9,_] _
    refine J.b1 (qAG (l:= [I 0]) (i:=3) (vs:= [I (d.ready i)]) V V V V V qJV V V) V V λ_ _=>?_
    change J _ _ _ [_,_,_,blk g5 [I (d.ready i)] 30] _
    refine J.c hK5<|J.E 4 5 ?_
    exact J.D<|J.a7<|J.b4 hw0 (λ_ _ h=>h) (rv2 V (RV.blk1 2 V V b9_) (RV.blk1 3 V V qMa)) (qAj () (by rw [show d.read i= [] from if_neg (by omega)]) trivial [0] rfl (by decide))
  refine J.W hK2<|J.O 0 3 4 5 ?_
  refine J.k λK6 hK6=>J.k λK7 hK7=>?_
  have h0:d.ready i=0:=by omega
  obtain ⟨hi0,hil⟩:0≤i∧i<d.last.length:=by
    unfold Dk.ready at h0
    split at h0
    · cases h0
    · split at h0
      · cases h0
      · omega
  obtain ⟨iN,hiN⟩:=z7 hi0
  have hrd:d.read i=d.now iN:=by unfold Dk.read;rw [if_pos h0,hiN];rfl
  refine J.H<|J.b V<|J.f (qAC V V) V<|J.a2 1 qBu qGW V V V V V<|J.f (qAL V V isAgg133 (m:=F) (by simp) (hc.at (i:=1) rfl)) rfl<|J.q (qAB rfl rfl ent191 (Ct.use (new:=λx:Nat=> [blk x [.slice B d.wait.length e] 133]) (λF' _=>qQQ F' B d.wait.length e))) rfl ?_
  rintro gB _
  change J _ _ _ [F,blk g3 [I i] 3,blk g4 _ 9,blk g5 _ 30,blk gB [.slice B d.wait.length e] 133] _
  refine J.c hK7<|J.a0 0 3 4 5 19 ?_
  refine J.a1<|J.c9 [2,3,0,1,4] [blk g4 [Str []] 9,blk g5 [I 0] 30,F,blk g3 [I i] 3,blk gB [.slice B d.wait.length e] 133] V (by decide)<|J.i0 (λx:List UInt8×Int=> [blk g4 [Str x.1] 9,blk g5 [I x.2] 30]) [F,blk g3 [I i] 3,blk gB [.slice B d.wait.length e] 133] (λr x=>x=([],0)∧d.now iN=(qOs d.wait iN (d.wait.length-r)).getD (d.last.getD iN [])) (λcd x=>cd= .ret∧x=(d.now iN,0)) ([],0) V ent221 (λFr hF=>qOd Fr gB B d.wait e hn2 (qAP.blk0.mono (hF (blk gB [.slice B d.wait.length e] 133) (by simp))) (hW.mono (hF F (by simp)))) (λ_ _=>rfl) rfl (⟨rfl,rfl⟩) ?_ ?_ ?_
  ·
    intro r x l wa wb hi hI K8 Post8 hK8 hN8 hR8 hE8
    obtain ⟨x1,x2⟩:=x
    obtain ⟨hx,hnow⟩:=hI
    cases hx
    have hsk:qOs d.wait iN (d.wait.length-r)=if(d.wait.getD (d.wait.length-1-r) (0,[])).1=iN then some (d.wait.getD (d.wait.length-1-r) (0,[])).2 else qOs d.wait iN (d.wait.length-(r+1)):=by
      have:=qIV d.wait iN (d.wait.length-1-r)
      rw [show d.wait.length-1-r+1=d.wait.length-r by omega] at this
      rw [this,show d.wait.length-(r+1)=d.wait.length-1-r by omega]
    change J _ ((21,.agg #[I (d.wait.getD (d.wait.length-1-r) (0,[])).1,Str (d.wait.getD (d.wait.length-1-r) (0,[])).2])::(20,_)::_) _ [blk g4 [Str []] 9,blk g5 [I 0] 30,F,blk g3 [I i] 3,blk gB [.slice B d.wait.length e] 133] _
    refine J.f2 ?_
    refine J.q (qAO V zeroValue162 V) V λg8 _=>?_
    change J _ _ _ [_,_,_,_,_,blk g8 _ 162] _
    refine J.b1 (qAG (l:= [I 0,Str []]) (i:=5) (vs:= [I (d.wait.getD (d.wait.length-1-r) (0,[])).1,Str (d.wait.getD (d.wait.length-1-r) (0,[])).2]) V V V V V qFe V V) V V λ_ _=>?_
    change J _ _ _ [_,_,_,_,_,blk g8 [I (d.wait.getD (d.wait.length-1-r) (0,[])).1,Str (d.wait.getD (d.wait.length-1-r) (0,[])).2] 162] _
    refine J.f3 ?_
    refine J.u (hK8 _ _ ?_)
    refine J.O 3 4 5 8 ?_
    refine J.h0 ?_
    refine J.g6 (λK9 hK9=>?_)
    refine J.f2 ?_
    refine J.a2 0 qLg z3_ V V V V V<|J.c2 5 b3_ V V V V V<|J.c2 3 b3_ V V V V V<|J.f ((qAS V V V).as (v':= .bool (decide ((d.wait.getD (d.wait.length-1-r) (0,[])).1=iN))) (congrArg Value.bool (decide_eq_decide.2 (by omega)))) V<|J.f3 ?_
    refine J.u (J.M hK9 ?_)
    refine J.O 4 5 8 25 ?_
    refine J.h9 V (λh25=>?_) (λh25=>?_)
    ·
      refine J.g6 (λK10 hK10=>?_)
      refine J.f2 ?_
      refine J.a2 1 qLg z9_ V V V V V<|J.c2 5 b9_ V V V V V<|J.b1 (qAG (l:= [Str []]) (i:=0) (vs:= [Str (d.wait.getD (d.wait.length-1-r) (0,[])).2]) V V V V V z9_ V V) V V λ_ _=>?_
      change J _ _ _ [blk g4 [Str (d.wait.getD (d.wait.length-1-r) (0,[])).2] 9,_,_,_,_,_] _
      refine J.b1 (qAG (l:= [I 0]) (i:=1) (vs:= [I 0]) V V V V V qJV V V) V V λ_ _=>?_
      change J _ _ _ [_,_,_,_,_,_] _
      refine J.f3 ?_
      refine J.u (J.M hK10 ?_)
      refine J.d0 [] trivial<|J.i8 ?_
      refine J.b6<|J.c9 [0,1,2,3,4] [blk g4 [Str (d.wait.getD (d.wait.length-1-r) (0,[])).2] 9,blk g5 [I 0] 30,F,blk g3 [I i] 3,blk gB [.slice B d.wait.length e] 133] V (by decide) ?_
      exact hR8 _ ((d.wait.getD (d.wait.length-1-r) (0,[])).2,0) ⟨rfl,by rw [hnow,hsk,if_pos h25];rfl⟩
    refine J.i7 ?_
    refine J.b0<|J.c9 [0,1,2,3,4] [blk g4 [Str []] 9,blk g5 [I 0] 30,F,blk g3 [I i] 3,blk gB [.slice B d.wait.length e] 133] V (by decide) ?_
    exact hN8 _ ([],0) ⟨rfl,by rw [hnow,hsk,if_neg h25]⟩
  ·
    intro w8 x hx8 hI
    obtain ⟨x1,x2⟩:=x
    obtain ⟨hx,hnow⟩:=hI
    cases hx
    rw [zh,qNE] at hnow
    change J _ _ _ [blk g4 [Str []] 9,blk g5 [I 0] 30,F,blk g3 [I i] 3,blk gB [.slice B d.wait.length e] 133] _
    refine J.b0<|J.u (J.M hK6 ?_)
    refine J.O 0 3 4 5 ?_
    refine J.k λK11 hK11=>J.b7 [blk g4 [Str []] 9,blk g5 [I 0] 30,F,blk g3 [I i] 3,blk gB [.slice B d.wait.length e] 133] [7,8] (.y 0 (.y 1 (.y 2 (.y 3 (.y 4 (.y 5 (.y 6 (.e 7 (.e 8 .nil))))))))) Tryz.wide (by decide+kernel) (by simp) ?_
    refine J.L ?_
    refine J.p V (qAC V V) V V<|J.p V (qAA (j:=0) V V qBu V qCA V) V V<|J.p V (qAL V V qCR (m:=F) (by simp) (hc.at (i:=0) rfl)) rfl rfl<|J.p rfl (qAD 3 rfl rfl rfl b3_ rfl) rfl rfl<|J.p rfl (qAF (i:=iN) rfl rfl (by show some (I i)=_;rw [hiN]) qAh z9_ hL (by omega)) rfl rfl<|J.p rfl (qAL rfl rfl b9_ (m:=F) (by simp) (hL.elem (qAZ (qAd [] (show iN<d.last.length by omega))))) rfl rfl<|J.d2 rfl (qAG (l:= [Str []]) (i:=0) (vs:= [Str (d.last.getD iN [])]) rfl rfl rfl rfl rfl z9_ rfl rfl) rfl rfl rfl λ_ _=>?_
    change J _ _ _ [blk g4 [Str (d.last.getD iN [])] 9,_,_,_,_] _
    refine J.d2 V (qAG (l:= [I 0]) (i:=1) (vs:= [I 0]) V V V V V qJV V V) V V V λ_ _=>?_
    change J _ _ _ [_,_,_,_,_] _
    refine J.b3<|J.u (J.M hK11 ?_)
    refine J.E 4 5 ?_
    exact J.D<|J.g7 hw0 hx8 (λ_ _ h=>h) (rv2 V (RV.blk1 0 V V b9_) (RV.blk1 1 V V qMa)) (qAj () (by rw [hrd,h0,hnow];rfl) trivial [2] rfl (by decide))
  intro w8 x c hx8 hS
  obtain ⟨rfl,rfl⟩:=hS
  change J _ _ _ [blk g4 [Str (d.now iN)] 9,blk g5 [I 0] 30,F,blk g3 [I i] 3,blk gB [.slice B d.wait.length e] 133] _
  exact J.D<|J.b6<|J.a7<|J.g7 hw0 hx8 (λ_ _ h=>h) (rv2 V (RV.blk1 0 V V b9_) (RV.blk1 1 V V qMa)) (qAj () (by rw [hrd,h0]) trivial [2] rfl (by decide))
theorem qOO(g i:Nat):qDX (some ⟨g,0,none⟩) i 1=⟨g,i,none⟩:=by rw [qEX];simp
theorem qN1(F mL:Hp)(g gL c n:Nat)(d:Dk)(B:Option Addr)(e:Nat)(C:Option Addr)(f:Nat)(L:List (List UInt8))(hc:qAP F ⟨g,0,none⟩ [.slice (some ⟨gL,0,none⟩) L.length c,.slice B d.wait.length e,.bool d.off,.bool d.armed,I d.fuse,.slice C d.keep.length f])
    (hr:Row mL 9 1 (some ⟨gL,0,none⟩) L.length c (qAH L)) (at_:Nat) (t:List UInt8) (hat:at_<L.length) (ht:n≤t.length) (ho:n≤(L.getD at_ []).length) (hs:t.length≤1048576) (hs2:(L.getD at_ []).length≤1048576) (hn3:L.length≤1073741824):
    Ct prog 67 [Ptr g,.agg #[I at_,Str t],I n] [mL,F] (λ_:Hp=> .tuple #[]) (λm=>Row m 9 1 (some ⟨gL,0,none⟩) L.length c (qAH (qHp L (at_,t) n))) (λm=> [m,F]):=by
  refine Ct.walk func67 rfl ntmps67 rfl (λw0 hw0=>?_)
  change J _ [(0,_),(1,_),(2,_)] _ _ _
  refine J.g λK1 hK1=>J.q (qAi V V (l:= [I at_,Str t]) V) V λg4 _=>?_
  change J _ _ _ [mL,F,blk g4 [I at_,Str t] 162] _
  refine J.c hK1<|J.G 0 2 4 ?_
  refine J.b7 [mL,F,blk g4 [I at_,Str t] 162] [22] (.y 0 (.y 1 (.y 2 (.y 3 (.y 4 (.y 5 (.y 6 (.y 7 (.y 8 (.y 9 (.y 10 (.y 11 (.y 12 (.y 13 (.y 14 (.y 15 (.y 16 (.y 17 (.y 18 (.y 19 (.y 20 (.y 21 (.e 22 .nil))))))))))))))))))))))) Tryz.wide (by decide+kernel) (by simp) ?_
  refine J.L ?_
  refine J.p V (qAC V V) V V<|J.p V (qAA (j:=0) V V qBu V qCA V) V V<|J.p V (qAL V V qCR (m:=F) (by simp) (hc.at (i:=0) rfl)) rfl rfl<|J.p rfl (qAA (j:=0) rfl rfl qLg rfl z3_ rfl) rfl rfl<|J.p rfl (qAD 2 rfl rfl rfl b3_ rfl) rfl rfl<|J.p rfl (qAA (j:=1) rfl rfl qLg rfl z9_ rfl) rfl rfl<|J.p rfl (qAD 2 rfl rfl rfl b9_ rfl) rfl rfl<|J.L ?_
  refine J.p V ((qA3 (l:=0) (h:=n) u9_ V V V V ⟨by omega,by omega⟩).as (v':=Str (t.take n)) (congrArg Str zW)) V V<|J.L ?_
  refine J.p V (qAC V V) V V<|J.p V (qAA (j:=0) V V qBu V qCA V) V V<|J.p V (qAL V V qCR (m:=F) (by simp) (hc.at (i:=0) rfl)) rfl rfl<|J.p rfl (qAA (j:=0) rfl rfl qLg rfl z3_ rfl) rfl rfl<|J.p rfl (qAD 2 rfl rfl rfl b3_ rfl) rfl rfl<|J.p rfl (qAF (i:=at_) rfl rfl rfl qAh z9_ hr.sl (by omega)) rfl rfl<|J.p rfl (qAL rfl rfl b9_ (m:=mL) (by simp) (v:=Str (L.getD at_ [])) (hr.sl.elem (qAZ (qAd [] hat)))) rfl rfl<|J.L ?_
  refine J.p V ((qA3 (l:=n) (h:=(L.getD at_ []).length) u9_ V V V V ⟨by omega,by omega⟩).as (v':=Str ((L.getD at_ []).drop n)) (by rw [jo])) rfl rfl<|J.p rfl ((qBT rfl rfl rfl (by simp only [jE,jL];omega)).as (v':=Str (qGo (L.getD at_ []) t n)) rfl) rfl rfl<|J.p rfl (qAF (i:=at_) rfl rfl rfl qAh z9_ hr.sl (by omega)) rfl rfl<|J.d2 rfl (qBj (i:=0) (k:=at_) (off:=0) (b:= [Str (qGo (L.getD at_ []) t n)]) rfl (by show some _=some _;rw [qOO]) rfl rfl hr (vs:= [Str (qGo (L.getD at_ []) t n)]) rfl z9_ rfl (by omega) (qAZ (qAd [] hat)) rfl (by show _+1≤1;decide)) rfl rfl rfl ?_
  rintro m9 h9
  change J _ _ _ [m9,_,_] _
  exact J.b3<|J.e7 hw0 (λ_ _ h=>h) (qJX V) (qAj m9 V (by rw [qEH] at h9;exact h9) [0,1] rfl (by decide))
theorem qOQ(F mL mW:Hp)(g:Nat)(d:Dk)(hok:d.ok0)(hn2:d.wait.length≤1073741824)(gL:Nat)(c:Nat)(B:Option Addr)(e:Nat)(C:Option Addr)(f:Nat)(hL:Row mL 9 1 (some ⟨gL,0,none⟩) d.last.length c (qAH d.last))(hW:Row mW 162 2 B d.wait.length e (qCC d.wait))(K:List UInt8)(E:Option Addr)(q:Nat)(hK:Sl F 1 E K.length q (qAR K))(hKn:K.length≤9223372036854775807):
    Ct prog 28 [Ptr g,.slice E K.length q] [blk g [.slice (some ⟨gL,0,none⟩) d.last.length c,.slice B d.wait.length e,.bool d.off,.bool d.armed,I d.fuse,.slice C d.keep.length f] 135,mL,mW,F] (λ_:Hp=> .tuple #[]) (λm=>Row m 9 1 (some ⟨gL,0,none⟩) d.last.length c (qAH (qDE d.last d.wait K d.wait.length))) (λm=> [blk g [.slice (some ⟨gL,0,none⟩) d.last.length c,.slice none 0 0,.bool true,.bool false,I d.fuse,.slice C d.keep.length f] 135,m,F]):=by
  refine Ct.walk func28 rfl ntmps28 rfl (λw0 hw0=>?_)
  change J _ [(0,_),(1,_)] _ _ _
  refine J.k λK1 hK1=>J.g λK2 hK2=>J.b V<|J.f ((qA1 qRU V V V).as (v':= .bool false) V) V<|J.c hK2<|J.G 0 1 7 ?_
  refine J.a5 ?_
  refine J.W hK1<|J.E 0 1 ?_
  refine J.k λK3 hK3=>J.g λK4 hK4=>J.b V<|J.f (qAC V V) V<|J.a2 1 qBu qGW V V V V V<|J.c2 0 isAgg133 V V V V V<|J.f (qAY qHL V V) V<|J.b V<|J.c hK4<|J.a0 0 1 11 12 13 ?_
  refine J.a1<|J.c1 (X:=Nat×Hp) (λx=> [(0,Ptr g),(1,.slice E K.length q),(11,.slice B d.wait.length e),(12,I d.wait.length),(13,I x.1)]) (λx=> [blk g [.slice (some ⟨gL,0,none⟩) d.last.length c,.slice B d.wait.length e,.bool d.off,.bool d.armed,I d.fuse,.slice C d.keep.length f] 135,x.2,mW,F]) (λx=>x.1≤d.wait.length∧Row x.2 9 1 (some ⟨gL,0,none⟩) d.last.length c (qAH (qDE d.last d.wait K x.1))) (λx=>d.wait.length-x.1) (0,mL) (⟨jF _,hL⟩) ⟨V,V,V,V,V,trivial⟩ (λ_ h=>h) ?_
  rintro⟨k,m⟩ ⟨hk,hr⟩ I0 hI0
  dsimp only at hk hr⊢
  refine J.g λK5 hK5=>J.f (qAT V V V) V<|J.c hK5<|J.b5 0 1 11 12 13 14 ?_
  refine J.k λK6 hK6=>J.a4 V (λh14=>?_) (λh14=>?_)
  ·
    refine J.W hK6<|J.a0 0 1 11 12 13 ?_
    refine J.k λK7 hK7=>J.a1<|J.g λK8 hK8=>J.b V<|J.f (qAF (i:=k) V V V qHL qFe hW.sl (by omega)) V<|J.f (qAl V V isAgg162 qFe (m:=mW) (by simp) (vs:= [I (d.wait.getD k (0,[])).1,Str (d.wait.getD k (0,[])).2]) (hW.sl.elem (qFf (by omega))) rfl) rfl<|J.q (qAO rfl zeroValue162 rfl) rfl λg5 _=>?_
    change J _ _ _ [blk g [.slice (some ⟨gL,0,none⟩) d.last.length c,.slice B d.wait.length e,.bool d.off,.bool d.armed,I d.fuse,.slice C d.keep.length f] 135,m,mW,F,blk g5 _ 162] _
    refine J.b V<|J.b1 (qAG (l:= [I 0,Str []]) (i:=4) (vs:= [I (d.wait.getD k (0,[])).1,Str (d.wait.getD k (0,[])).2]) V V V V V qFe V V) V V λ_ _=>?_
    change J _ _ _ [_,_,_,_,blk g5 [I (d.wait.getD k (0,[])).1,Str (d.wait.getD k (0,[])).2] 162] _
    refine J.c hK8<|J.c5 0 1 4 5 11 12 13 ?_
    refine J.g λK9 hK9=>J.j 2 V<|J.f (qAY qBm V V) V<|J.f (qAT V V V) V<|J.c hK9<|J.d6 0 1 4 5 11 12 13 21 ?_
    refine J.a4 V (λh21=>?_) (λh21=>?_)
    ·
      have ⟨hw1,hw2⟩:=qOE hok.w64 (show k<d.wait.length by omega)
      have h64:=qIy (qHx hok.l64 hok.w64 (K:=K) k hk) (show(d.wait.getD k (0,[])).1<(qDE d.last d.wait K k).length by rw [qBC];exact hw1)
      obtain ⟨nk,hnk⟩: ∃nk,nk=min (K.getD k 0).toNat 64:=⟨_,rfl⟩
      refine J.b7 [blk g5 [I (d.wait.getD k (0,[])).1,Str (d.wait.getD k (0,[])).2] 162,F] [] (.y 0 (.y 1 (.y 2 (.y 3 (.y 4 (.y 5 (.y 6 (.y 7 (.e 8 .nil))))))))) Tryz.wide (by decide+kernel) (by simp) ?_
      refine J.L ?_
      refine J.p V (qAm 0 V V V isAgg162 qFe V) V V<|J.L ?_
      refine J.L ?_
      refine J.p V (qAF (i:=k) V V V qBm z5_ hK (by omega)) V V<|J.p V (qAL V V b5_ (m:=F) (by simp) (v:=B8 (K.getD k 0)) (hK.elem (qBa (qAd 0 (by omega))))) rfl rfl<|J.p rfl (qBO rfl rfl u5_ u3_) rfl rfl<|J.p rfl ((qDq rfl rfl rfl).nat (nk) (by omega)) rfl rfl<|J.b2 rfl (qAB rfl rfl ent67 (Ct.use1 1 (m':=λx:Hp=>x) (new:=λ_=> []) rfl (λF' hF=>by have:=qN1 F' m g gL c nk d B e C f (qDE d.last d.wait K k) (by rw [qBC];exact qAP.blk0.mono (hF (blk g [.slice (some ⟨gL,0,none⟩) d.last.length c,.slice B d.wait.length e,.bool d.off,.bool d.armed,I d.fuse,.slice C d.keep.length f] 135) (by simp))) (by rw [qBC];exact hr) (d.wait.getD k (0,[])).1 (d.wait.getD k (0,[])).2 (by rw [qBC];exact hw1) (by omega) (by omega) (by omega) (by omega) (by rw [qBC];have:=hok.n1;omega);rw [qBC] at this;exact this))) rfl (by simp) ?_
      rintro m30 h30
      change J _ _ _ [_,m30,_,_,_] _
      refine J.c9 [0,1,2,3] [blk g [.slice (some ⟨gL,0,none⟩) d.last.length c,.slice B d.wait.length e,.bool d.off,.bool d.armed,I d.fuse,.slice C d.keep.length f] 135,m30,mW,F] V (by decide)<|J.b3<|J.b0<|J.u (J.M hK7 ?_)
      refine J.a0 0 1 11 12 13 ?_
      exact J.H<|J.f ((qAQ V V V (by omega)).nat (k+1) (by omega)) V<|J.b V<|J.a8<|J.u<|J.a9 (k+1,m30) (λx (hx:_∧d.wait.length-x.1<d.wait.length-k)=>hI0 x hx.1 hx.2) ⟨⟨by dsimp only;omega,by dsimp only;rw [qDE,if_pos (by omega),←hnk];exact h30⟩,by dsimp only;omega⟩ ⟨rfl,rfl,rfl,rfl,rfl,trivial⟩ (λ_ h=>h)
    refine J.c0<|J.b0<|J.u (J.M hK7 ?_)
    refine J.a0 0 1 11 12 13 ?_
    exact J.H<|J.f ((qAQ V V V (by omega)).nat (k+1) (by omega)) V<|J.b V<|J.a8<|J.u<|J.c9 [0,1,2,3] [blk g [.slice (some ⟨gL,0,none⟩) d.last.length c,.slice B d.wait.length e,.bool d.off,.bool d.armed,I d.fuse,.slice C d.keep.length f] 135,m,mW,F] V (by decide)<|J.a9 (k+1,m) (λx (hx:_∧d.wait.length-x.1<d.wait.length-k)=>hI0 x hx.1 hx.2) ⟨⟨by dsimp only;omega,by dsimp only;rw [qDE,if_neg (by omega)];exact hr⟩,by dsimp only;omega⟩ ⟨rfl,rfl,rfl,rfl,rfl,trivial⟩ (λ_ h=>h)
  refine J.b8<|J.a6<|J.a6<|J.b9 ?_
  refine J.u (J.M hK3 ?_)
  refine J.A 0 ?_
  have hkn:k=d.wait.length:=by omega
  subst hkn
  refine J.H<|J.j 3 V<|J.f (qAC V V) V<|J.a2 1 qBu qGW V V V V V<|J.b1 (qAV (i:=0) (vs:= [.slice none 0 0]) V V V V V qGW V (by simp)) rfl rfl λ_ _=>?_
  change J _ _ _ [blk g [.slice (some ⟨gL,0,none⟩) d.last.length c,.slice none 0 0,.bool d.off,.bool d.armed,I d.fuse,.slice C d.keep.length f] 135,m,mW,F] _
  refine J.f (qAC V V) V<|J.a2 2 qBu z4_ V V V V V<|J.b1 (qAV (i:=0) (vs:= [.bool true]) V V V V V z4_ V (by simp)) rfl rfl λ_ _=>?_
  change J _ _ _ [blk g [.slice (some ⟨gL,0,none⟩) d.last.length c,.slice none 0 0,.bool true,.bool d.armed,I d.fuse,.slice C d.keep.length f] 135,_,_,_] _
  refine J.f (qAC V V) V<|J.a2 3 qBu z4_ V V V V V<|J.b1 (qAV (i:=0) (vs:= [.bool false]) V V V V V z4_ V (by simp)) rfl rfl λ_ _=>?_
  change J _ _ _ [blk g [.slice (some ⟨gL,0,none⟩) d.last.length c,.slice none 0 0,.bool true,.bool false,I d.fuse,.slice C d.keep.length f] 135,_,_,_] _
  exact J.a8<|J.e7 hw0 (λ_ _ h=>h) (qJX V) (qAj m V hr [0,1,3] V (by decide))
theorem Dsk.open{mm:Hp}{g:Nat}{d:Dk}{C:Option Addr}{f:Nat}(h:Dsk mm g d C f)(h0:0<d.last.length): ∃gL c mL B e mW,mm=U [blk g (d.cells (some ⟨gL,0,none⟩) c B e C f) 135,mL,mW]∧Djs [blk g (d.cells (some ⟨gL,0,none⟩) c B e C f) 135,mL,mW]∧Row mL 9 1 (some ⟨gL,0,none⟩) d.last.length c (qAH d.last)∧Row mW 162 2 B d.wait.length e (qCC d.wait):=by
 obtain ⟨A,c,mL,B,e,mW,h1,h2,h3,h4⟩:=h
 obtain ⟨gL,rfl⟩:=h3.at h0
 exact⟨gL,c,mL,B,e,mW,h1,h2,h3,h4⟩
theorem qJU{a b:Hp}(h:Djs [a,b]):Djs [a,b,λ_=>none]:=by
 rw [qAW] at h⊢
 simp only [jr,zH,j7,or_false] at h⊢
 refine⟨?_,λ_ _ _=> .inr (by rename_i h _;rw [h]),λ_ hm=>hm.elim,.nil⟩
 rintro m (rfl|rfl)
 · exact h.1 m rfl
 · exact λ_=> .inr rfl
theorem qOP{g:Nat}(d:Dk)(gL c:Nat)(C:Option Addr)(f:Nat)(m:Hp)(K:List UInt8)(hm:Row m 9 1 (some ⟨gL,0,none⟩) d.last.length c (qAH (qDE d.last d.wait K d.wait.length)))(hj:Djs [blk g [.slice (some ⟨gL,0,none⟩) d.last.length c,.slice none 0 0,.bool true,.bool false,I d.fuse,.slice C d.keep.length f] 135,m]):
    Dsk (U [blk g [.slice (some ⟨gL,0,none⟩) d.last.length c,.slice none 0 0,.bool true,.bool false,I d.fuse,.slice C d.keep.length f] 135,m]) g (d.cut K) C f:=by
  refine⟨some ⟨gL,0,none⟩,c,m,none,0,λ_=>none,?_,?_,?_,qBc.nil⟩
  · show U [blk g [.slice (some ⟨gL,0,none⟩) d.last.length c,.slice none 0 0,.bool true,.bool false,I d.fuse,.slice C d.keep.length f] 135,m]=U [blk g [.slice (some ⟨gL,0,none⟩) (qDE d.last d.wait K d.wait.length).length c,.slice none 0 0,.bool true,.bool false,I d.fuse,.slice C d.keep.length f] 135,m,λ_=>none]
    rw [qBC];rfl
  · show Djs [blk g [.slice (some ⟨gL,0,none⟩) (qDE d.last d.wait K d.wait.length).length c,.slice none 0 0,.bool true,.bool false,I d.fuse,.slice C d.keep.length f] 135,m,λ_=>none]
    rw [qBC];exact qJU hj
  · show Row m 9 1 (some ⟨gL,0,none⟩) (qDE d.last d.wait K d.wait.length).length c _
    rw [qBC];exact hm
theorem qOR(F mm:Hp)(g:Nat)(d:Dk)(C:Option Addr)(f:Nat)(hb:Dsk mm g d C f)(hok:d.ok0)(hn2:d.wait.length≤1073741824)(K:List UInt8)(E:Option Addr)(q:Nat)(hK:Sl F 1 E K.length q (qAR K))(hKn:K.length≤9223372036854775807):
    Ct prog 28 [Ptr g,.slice E K.length q] [mm,F] (λ_:Hp=> .tuple #[]) (λm=>Dsk m g (d.cut K) C f) (λm=> [m,F]):=by
  obtain ⟨gL,c,mL,B,e,mW,rfl,hd,h1,h2⟩:=hb.open hok.n0
  exact qOS (A':=λm=> [blk g [.slice (some ⟨gL,0,none⟩) d.last.length c,.slice none 0 0,.bool true,.bool false,I d.fuse,.slice C d.keep.length f] 135,m]) hd (λ_ _=>rfl) (λm hm hj=>qOP d gL c C f m K hm hj) (qOQ F mL mW g d hok hn2 gL c B e C f h1 h2 K E q hK hKn)
theorem qOZ(F mm:Hp)(g:Nat)(d:Dk)(C:Option Addr)(f:Nat)(hb:Dsk mm g d C f)(hok:d.ok)(hn2:d.wait.length≤1073741824)(hKp:Sl F 1 C d.keep.length f (qAR d.keep))(hn3:d.keep.length≤9223372036854775807):
    Ct prog 225 [Ptr g] [mm,F] (λ_:Hp=> .bool (decide d.burns)) (λm=>Dsk m g d.burn C f) (λm=> [m,F]):=by
  obtain ⟨gL,c,mL,B,e,mW,rfl,hd,hL,hW⟩:=hb.open hok.n0
  unfold Dk.cells at hd⊢
  refine Ct.walk func225 rfl ntmps225 rfl (λw0 hw0=>?_)
  change J _ [(0,_)] _ _ _
  refine J.g1 hd ?_
  change J _ _ _ [blk g [.slice (some ⟨gL,0,none⟩) d.last.length c,.slice B d.wait.length e,.bool d.off,.bool d.armed,I d.fuse,.slice C d.keep.length f] 135,mL,mW,F] _
  refine J.g λK1 hK1=>J.b V<|J.c hK1<|J.A 0 ?_
  refine J.k λK2 hK2=>J.g λK3 hK3=>J.b V<|J.f (qAC V V) V<|J.a2 3 qBu z4_ V V V V V<|J.f (qAD (v:= .bool d.armed) 0 V V V b4_ V) V<|J.f ((qAw V V).as (v':= .bool (decide (¬d.armed=true))) (congrArg Value.bool (by simp))) rfl<|J.c hK3<|J.E 0 7 ?_
  refine J.a4 V (λh7=>?_) (λh7=>?_)
  ·
    refine J.g λK4 hK4=>J.b V<|J.c hK4<|J.A 2 ?_
    exact J.D<|J.a7<|J.b4 hw0 (λ_ _ h=>h) (qJW V V) (qDP [blk g [.slice (some ⟨gL,0,none⟩) d.last.length c,.slice B d.wait.length e,.bool d.off,.bool d.armed,I d.fuse,.slice C d.keep.length f] 135,mL,mW] [F] (U [blk g [.slice (some ⟨gL,0,none⟩) d.last.length c,.slice B d.wait.length e,.bool d.off,.bool d.armed,I d.fuse,.slice C d.keep.length f] 135,mL,mW]) (congrArg Value.bool (decide_eq_false (λh=>h7 h.1)).symm) (λhd=>by rw [show d.burn=d from if_neg h7];exact⟨_,c,mL,B,e,mW,rfl,hd,hL,hW⟩) [0,1,2,3] rfl rfl (by decide))
  refine J.W hK2<|J.A 0 ?_
  refine J.k λK5 hK5=>?_
  have ha:d.armed=true:=by simpa using h7
  refine J.H<|J.b V<|J.f (qAC V V) V<|J.a2 4 qBu z3_ V V V V V<|J.c2 0 b3_ V V V V V<|J.f (qAn V V V (by have:=hok.fb;have:=hok.fz ha;omega)) V<|J.f (qAC V V) V<|J.a2 4 qBu z3_ V V V V V<|J.b1 (qAV (i:=0) (vs:= [I (d.fuse-1)]) V V V V V z3_ V (by simp)) rfl rfl λ_ _=>?_
  change J _ _ _ [blk g [.slice (some ⟨gL,0,none⟩) d.last.length c,.slice B d.wait.length e,.bool d.off,.bool d.armed,I (d.fuse-1),.slice C d.keep.length f] 135,mL,mW,F] _
  refine J.c hK5<|J.A 0 ?_
  refine J.k λK6 hK6=>J.g λK7 hK7=>J.b V<|J.f (qAC V V) V<|J.a2 4 qBu z3_ V V V V V<|J.c2 0 b3_ V V V V V<|J.f (qA9 V V V) V<|J.c hK7<|J.E 0 19 ?_
  refine J.a4 V (λh19=>?_) (λh19=>?_)
  ·
    refine J.g λK8 hK8=>J.b V<|J.c hK8<|J.A 2 ?_
    exact J.D<|J.a7<|J.b4 hw0 (λ_ _ h=>h) (qJW V V) (qDP [blk g [.slice (some ⟨gL,0,none⟩) d.last.length c,.slice B d.wait.length e,.bool d.off,.bool d.armed,I (d.fuse-1),.slice C d.keep.length f] 135,mL,mW] [F] (U [blk g [.slice (some ⟨gL,0,none⟩) d.last.length c,.slice B d.wait.length e,.bool d.off,.bool d.armed,I (d.fuse-1),.slice C d.keep.length f] 135,mL,mW]) (congrArg Value.bool (decide_eq_false (λh=>by have:=h.2;omega)).symm) (λhd=>by rw [show d.burn={d with fuse:=d.fuse-1} from by unfold Dk.burn;rw [if_pos ha,if_neg (by omega)]];exact⟨_,c,mL,B,e,mW,rfl,hd,hL,hW⟩) [0,1,2,3] rfl rfl (by decide))
  refine J.W hK6<|J.A 0 ?_
  refine J.g λK9 hK9=>J.j 2 V<|J.f (qAC V V) V<|J.a2 5 qBu qHH V V V V V<|J.c2 0 qOf V V V V V<|J.q (qAB V V ent28 ((qOQ F mL mW g {d with fuse:=d.fuse-1} ⟨hok.l64,hok.w64,hok.n0,hok.n1⟩ hn2 gL c B e C f hL hW d.keep C f hKp hn3))) rfl ?_
  rintro m25 h25
  change J _ _ _ [blk g [.slice (some ⟨gL,0,none⟩) d.last.length c,.slice none 0 0,.bool true,.bool false,I (d.fuse-1),.slice C d.keep.length f] 135,m25,F] _
  refine J.c hK9<|J.d0 [] trivial<|J.g λK10 hK10=>J.b V<|J.c hK10<|J.A 2 ?_
  exact J.D<|J.b4 hw0 (λ_ _ h=>h) (qJW V V) (qDP [blk g [.slice (some ⟨gL,0,none⟩) d.last.length c,.slice none 0 0,.bool true,.bool false,I (d.fuse-1),.slice C d.keep.length f] 135,m25] [F] (U [blk g [.slice (some ⟨gL,0,none⟩) d.last.length c,.slice none 0 0,.bool true,.bool false,I (d.fuse-1),.slice C d.keep.length f] 135,m25]) (congrArg Value.bool (decide_eq_true (show d.burns from⟨ha,by omega⟩)).symm) (λhj=>by rw [show d.burn={d with fuse:=d.fuse-1}.cut d.keep from by unfold Dk.burn;rw [if_pos ha,if_pos (by omega)]];exact qOP {d with fuse:=d.fuse-1} gL c C f m25 d.keep h25 hj) [0,1,2] rfl rfl (by decide))
theorem qOU(F:Hp)(K:List UInt8)(E:Option Addr)(q:Nat)(hK:Sl F 1 E K.length q (qAR K))(hn:K.length≤140737488351232):
    Ct prog 65 [.slice E K.length q] [F] (λx:Option Addr×Nat×Hp=> .slice x.1 K.length x.2.1) (λx=>Row x.2.2 5 1 x.1 K.length x.2.1 (qAR K)) (λx=> [F,x.2.2]):=by
  refine Ct.walk func65 rfl ntmps65 rfl (λw0 hw0=>?_)
  change J _ [(0,_)] _ _ _
  refine J.g λK1 hK1=>J.b V<|J.c hK1<|J.A 0 ?_
  refine J.k λK2 hK2=>J.g λK3 hK3=>J.b V<|J.f ((qHY qBm V V V).as (v':= .bool (decide (E.isNone=true))) (congrArg Value.bool (by cases E<;>rfl))) rfl<|J.c hK3<|J.E 0 4 ?_
  refine J.a4 V (λh4=>?_) (λh4=>?_)
  ·
    refine J.k λK4 hK4=>?_
    have hnil:K= []:=by
      cases K with
      |nil=>rfl
      |cons a r=>
        obtain ⟨_,ad,hA,_⟩:=hK.2.2 0 _ rfl
        rw [hA] at h4;cases h4
    refine J.d4 [0,1] [F,λ_=>none] V (by decide)<|J.H<|J.b V<|J.c hK4<|J.A 2 ?_
    exact J.D<|J.a7<|J.Z hw0 V (none,0,λ_=>none) (by rw [hnil];rfl) (by rw [hnil];exact qBc.nil) [0,1] rfl (by decide)
  refine J.W hK2<|J.A 0 ?_
  refine J.g λK5 hK5=>J.q (qCe V qBm el5) V λg5 _=>?_
  change J _ _ _ [F,blk g5 [] 5] _
  refine J.b V<|J.q (qAa (i:=1) (m2:=F) (xs:= []) (ys:=qAR K) V V V qBm qBm el5 V (qAs (q:=True) (xs:= []) V (by simp)) (by simp) hK (by simp [qAR,Value.oneCell']) (by omega) (by omega)) rfl ?_
  rintro⟨A7,c7,m7⟩ h7
  try dsimp only at h7
  change J _ ((7,.slice A7 (0+K.length) c7)::_) _ [_,m7] _
  refine J.b V<|J.c hK5<|J.A 2 ?_
  exact J.D<|J.Z hw0 V (A7,c7,m7) (by rw [jn]) (by rw [jn] at h7;exact h7) [0,1] rfl (by decide)
theorem qJA(F:Hp)(K:List (List UInt8))(E:Option Addr)(q:Nat)(hK:Sl F 1 E K.length q (qAH K))(hn:K.length≤1073741824):
    Ct prog 98 [.slice E K.length q] [F] (λx:Option Addr×Nat×Hp=> .slice x.1 K.length x.2.1) (λx=>Row x.2.2 9 1 x.1 K.length x.2.1 (qAH K)) (λx=> [F,x.2.2]):=by
  refine Ct.walk func98 rfl ntmps98 rfl (λw0 hw0=>?_)
  change J _ [(0,_)] _ _ _
  refine J.g λK1 hK1=>J.b V<|J.c hK1<|J.A 0 ?_
  refine J.k λK2 hK2=>J.g λK3 hK3=>J.b V<|J.f ((qHY qAh V V V).as (v':= .bool (decide (E.isNone=true))) (congrArg Value.bool (by cases E<;>rfl))) rfl<|J.c hK3<|J.E 0 4 ?_
  refine J.a4 V (λh4=>?_) (λh4=>?_)
  ·
    refine J.k λK4 hK4=>?_
    have hnil:K= []:=by
      cases K with
      |nil=>rfl
      |cons a r=>
        obtain ⟨_,ad,hA,_⟩:=hK.2.2 0 _ rfl
        rw [hA] at h4;cases h4
    refine J.d4 [0,1] [F,λ_=>none] V (by decide)<|J.H<|J.b V<|J.c hK4<|J.A 2 ?_
    exact J.D<|J.a7<|J.Z hw0 V (none,0,λ_=>none) (by rw [hnil];rfl) (by rw [hnil];exact qBc.nil) [0,1] rfl (by decide)
  refine J.W hK2<|J.A 0 ?_
  refine J.g λK5 hK5=>J.q (qCe V qAh el9) V λg5 _=>?_
  change J _ _ _ [F,blk g5 [] 9] _
  refine J.b V<|J.q (qAa (i:=1) (m2:=F) (xs:= []) (ys:=qAH K) V V V qAh qAh el9 V (qAs (q:=True) (xs:= []) V (by simp)) (by simp) hK (by simp [qAH,Value.oneCell']) (by omega) (by omega)) rfl ?_
  rintro⟨A7,c7,m7⟩ h7
  try dsimp only at h7
  change J _ ((7,.slice A7 (0+K.length) c7)::_) _ [_,m7] _
  refine J.b V<|J.c hK5<|J.A 2 ?_
  exact J.D<|J.Z hw0 V (A7,c7,m7) (by rw [jn]) (by rw [jn] at h7;exact h7) [0,1] rfl (by decide)
theorem qKR(F mm:Hp)(g:Nat)(d:Dk)(C:Option Addr)(f:Nat)(hb:Dsk mm g d C f)(hok:d.ok)(hn2:d.wait.length≤1073741824)(hKp:Sl F 1 C d.keep.length f (qAR d.keep))(hn3:d.keep.length≤9223372036854775807)(i:Int)(s:List UInt8)(hs:s.length≤1048576):
    Ct prog 198 [Ptr g,I i,Str s] [mm,F] (λ_:Hp=>I (d.wErr i s)) (λm=>Dsk m g (d.write i s) C f) (λm=> [m,F]):=by
  obtain ⟨A0,c0,B0,e0,hc,hsL,hsW⟩:=hb.see
  have hn1:=hok.n1
  refine Ct.walk func198 rfl ntmps198 rfl (λw0 hw0=>?_)
  change J _ [(0,_),(1,_),(2,_)] _ _ _
  refine J.g λK1 hK1=>J.b V<|J.c hK1<|J.G 0 1 2 ?_
  refine J.g λK2 hK2=>J.j 2 V<|J.q (qAB V V ent190 (Ct.use0 (λF' hF=>qHU F' g d A0 c0 B0 e0 C f (hc.mono (hF mm (by simp))) i (by omega)))) rfl λg10 _=>J.b rfl<|J.c hK2<|J.O 0 1 2 7 ?_
  refine J.k λK3 hK3=>J.a1<|J.g λK4 hK4=>J.b V<|J.f (qAU V V V) V<|J.b V<|J.c hK4<|J.a0 0 1 2 7 11 ?_
  refine J.a4 V (λh11=>?_) (λh11=>?_)
  ·
    refine J.g λK5 hK5=>J.j 2 V<|J.c hK5<|J.A 6 ?_
    exact J.D<|J.b6<|J.a7<|J.Z hw0 V mm (congrArg I (by unfold Dk.wErr;rw [if_pos (by omega)])) (by rw [show d.write i s=d from if_pos (by omega)];exact hb) [0,1] rfl (by decide)
  refine J.g λK6 hK6=>J.b V<|J.f (qAg u9_ V V) V<|J.f (qA5 V V V) V<|J.b V<|J.c hK6<|J.O 0 1 2 15 ?_
  refine J.a4 V (λh15=>?_) (λh15=>?_)
  ·
    refine J.g λK7 hK7=>J.b V<|J.c hK7<|J.A 6 ?_
    exact J.D<|J.b6<|J.a7<|J.Z hw0 V mm (congrArg I (by unfold Dk.wErr;rw [if_neg (by omega),if_pos (by omega)])) (by rw [show d.write i s=d from by unfold Dk.write;rw [if_neg (by omega),if_pos (by omega)]];exact hb) [0,1] rfl (by decide)
  refine J.g λK8 hK8=>J.b V<|J.q (qAB V V ent225 (Ct.use1 0 (m':=λx:Hp=>x) (new:=λ_=> []) V (λF' hF=>qOZ F' mm g d C f hb hok hn2 (hKp.mono (hF F (by simp))) hn3))) rfl ?_
  rintro m21 h21
  change J _ _ _ [m21,F] _
  refine J.b V<|J.c hK8<|J.O 0 1 2 19 ?_
  refine J.a4 V (λh19=>?_) (λh19=>?_)
  ·
    refine J.g λK9 hK9=>J.b V<|J.c hK9<|J.A 6 ?_
    exact J.D<|J.b6<|J.a7<|J.Z hw0 V m21 (congrArg I (by unfold Dk.wErr;rw [if_neg (by omega),if_neg (by omega),if_pos h19])) (by rw [show d.write i s=d.burn from by unfold Dk.write;rw [if_neg (by omega),if_neg (by omega),if_pos h19]];exact h21) [0,1] rfl (by decide)
  refine J.c0<|J.b0<|J.u (J.M hK3 ?_)
  refine J.G 0 1 2 ?_
  refine J.k λK10 hK10=>?_
  have h0:d.ready i=0:=by omega
  obtain ⟨hi0,hil,_⟩:=qKg h0
  obtain ⟨iN,hiN⟩:=z7 hi0
  have hnb: ¬d.burns:=h19
  obtain ⟨x,hx⟩: ∃x,x=d.burn:=⟨_,rfl⟩
  rw [←hx] at h21
  have hxo:x.ok:=hx▸hok.burn
  have hxw:x.wait=d.wait:=hx▸(qBe hnb).2.1
  have hxl:x.last=d.last:=hx▸(qBe hnb).1
  obtain ⟨gL,c,mL,B,e,mW,rfl,hd,hL,hW⟩:=h21.open hxo.n0
  unfold Dk.cells at hd⊢
  refine J.g1 hd ?_
  change J _ _ _ [blk g [.slice (some ⟨gL,0,none⟩) x.last.length c,.slice B x.wait.length e,.bool x.off,.bool x.armed,I x.fuse,.slice C x.keep.length f] 135,mL,mW,F] _
  refine J.b7 [blk g [.slice (some ⟨gL,0,none⟩) x.last.length c,.slice B x.wait.length e,.bool x.off,.bool x.armed,I x.fuse,.slice C x.keep.length f] 135] [17] (.y 0 (.y 1 (.y 2 (.y 3 (.y 4 (.y 5 (.y 6 (.y 7 (.y 8 (.y 9 (.e 10 (.y 11 (.y 12 (.e 13 (.e 14 (.y 15 (.y 16 (.e 17 .nil)))))))))))))))))) Tryz.wide (by decide+kernel) (by simp) ?_
  refine J.L ?_
  refine J.L ?_
  refine J.p V (qAC V V) V V<|J.p V (qAA (j:=1) V V qBu V qGW V) V V<|J.p V (qAD 0 V V V isAgg133 V) V V<|J.p V ((qAb V V).as (v':=I (iN:Int)) (congrArg I hiN)) V V<|J.L ?_
  refine J.L ?_
  refine J.p V (qAg u9_ V V) V V<|J.p V ((qAn V V V (by omega)).nat (64-s.length) (by omega)) V V<|J.b2 V (qAB V V ent51 (Ct.use0 (λF' hF=>qEn F' (64-s.length) (by omega)))) V (by simp) λg32 _=>J.p rfl ((qBT rfl rfl rfl (by simp only [jG];omega)).as (v':=Str (qHA s)) rfl) rfl rfl<|J.p rfl (qAK (l:= [(0,.tmp 27),(1,.tmp 33)]) (vs:= [I (iN:Int),Str (qHA s)]) (places:= [(0,1),(1,1)]) (r:= [I (iN:Int),Str (qHA s)]) rfl rfl rfl qLg zeroValue162 (λ_=>by kernel_rfl) rfl) rfl rfl<|J.b2 rfl (qAJ (l:= [.tmp 34]) (xs:= [[I (iN:Int),Str (qHA s)]]) rfl rfl rfl rfl qHL el162 rfl (by decide) (by decide) (by simp)) rfl (by simp) λg35 _=>?_
  change J _ _ _ [_,_,_,_,blk g35 [I (iN:Int),Str (qHA s)] 162] _
  refine J.b2 V (qAa (i:=2) (m2:=blk g35 [I (iN:Int),Str (qHA s)] 162) (ys:=qCC [(iN,qHA s)]) V V V qHL qHL el162 V hW (by simp) ((qAs (q:=True) (xs:=qCC [(iN,qHA s)]) rfl (by simp [qCC])).sl) (qMf _) (by rw [hxw];omega) (by rw [hxw];omega)) rfl (by simp) ?_
  rintro⟨A36,c36,m36⟩ h36
  try dsimp only at h36
  change J _ ((36,.slice A36 (x.wait.length+1) c36)::_) _ [_,_,m36,_,_] _
  refine J.p V (qAC V V) V V<|J.p V (qAA (j:=1) V V qBu V qGW V) V V<|J.d2 V (qAV (i:=0) (vs:= [.slice A36 (x.wait.length+1) c36]) V V V V V qGW V (by simp)) rfl rfl rfl λ_ _=>?_
  change J _ _ _ [blk g [.slice (some ⟨gL,0,none⟩) x.last.length c,.slice A36 (x.wait.length+1) c36,.bool x.off,.bool x.armed,I x.fuse,.slice C x.keep.length f] 135,_,_,_,_] _
  refine J.b3<|J.u (J.M hK10 ?_)
  refine J.d0 [] trivial<|J.g λK11 hK11=>J.b V<|J.c hK11<|J.A 6 ?_
  exact J.D<|J.b4 hw0 (λ_ _ h=>h) (qJW V V) (qDP [blk g [.slice (some ⟨gL,0,none⟩) x.last.length c,.slice A36 (x.wait.length+1) c36,.bool x.off,.bool x.armed,I x.fuse,.slice C x.keep.length f] 135,mL,m36] [F] (U [blk g [.slice (some ⟨gL,0,none⟩) x.last.length c,.slice A36 (x.wait.length+1) c36,.bool x.off,.bool x.armed,I x.fuse,.slice C x.keep.length f] 135,mL,m36]) (congrArg I (by unfold Dk.wErr;rw [if_neg (by omega),if_neg (by omega),if_neg hnb])) (λhd=>by rw [show d.write i s={x with wait:=x.wait++ [(iN,qHA s)]} from by unfold Dk.write;rw [if_neg (by omega),if_neg (by omega),if_neg hnb,←hx,hiN];rfl];refine⟨_,c,mL,A36,c36,m36,?_,?_,hL,?_⟩<;>(try unfold Dk.cells)<;>rw [jA]<;>first|rfl|exact hd|(rw [qMg];exact h36)) [0,1,2,3] rfl rfl (by decide))
theorem qO9{g:Nat}(x:Dk)(gL c:Nat)(C:Option Addr)(f:Nat)(m:Hp)(hm:Row m 9 1 (some ⟨gL,0,none⟩) x.last.length c (qAH (qCb x.last x.wait x.wait.length)))(hj:Djs [blk g [.slice (some ⟨gL,0,none⟩) x.last.length c,.slice none 0 0,.bool x.off,.bool x.armed,I x.fuse,.slice C x.keep.length f] 135,m]):
    Dsk (U [blk g [.slice (some ⟨gL,0,none⟩) x.last.length c,.slice none 0 0,.bool x.off,.bool x.armed,I x.fuse,.slice C x.keep.length f] 135,m]) g {x with last:=qCb x.last x.wait x.wait.length,wait:= []} C f:=by
  refine⟨some ⟨gL,0,none⟩,c,m,none,0,λ_=>none,?_,?_,?_,qBc.nil⟩
  · show U [blk g [.slice (some ⟨gL,0,none⟩) x.last.length c,.slice none 0 0,.bool x.off,.bool x.armed,I x.fuse,.slice C x.keep.length f] 135,m]=U [blk g [.slice (some ⟨gL,0,none⟩) (qCb x.last x.wait x.wait.length).length c,.slice none 0 0,.bool x.off,.bool x.armed,I x.fuse,.slice C x.keep.length f] 135,m,λ_=>none]
    rw [qBI];rfl
  · show Djs [blk g [.slice (some ⟨gL,0,none⟩) (qCb x.last x.wait x.wait.length).length c,.slice none 0 0,.bool x.off,.bool x.armed,I x.fuse,.slice C x.keep.length f] 135,m,λ_=>none]
    rw [qBI];exact qJU hj
  · show Row m 9 1 (some ⟨gL,0,none⟩) (qCb x.last x.wait x.wait.length).length c _
    rw [qBI];exact hm
theorem qM2(F mm:Hp)(g:Nat)(d:Dk)(C:Option Addr)(f:Nat)(hb:Dsk mm g d C f)(hok:d.ok)(hn2:d.wait.length≤1073741824)(hKp:Sl F 1 C d.keep.length f (qAR d.keep))(hn3:d.keep.length≤9223372036854775807):
    Ct prog 200 [Ptr g] [mm,F] (λ_:Hp=>I d.sErr) (λm=>Dsk m g d.sync C f) (λm=> [m,F]):=by
  obtain ⟨A0,c0,B0,e0,hc,hsL,hsW⟩:=hb.see
  have hn1:=hok.n1
  refine Ct.walk func200 rfl ntmps200 rfl (λw0 hw0=>?_)
  change J _ [(0,_)] _ _ _
  refine J.g λK1 hK1=>J.b V<|J.c hK1<|J.A 0 ?_
  refine J.k λK2 hK2=>J.g λK3 hK3=>J.b V<|J.q (qAB V V ent190 (Ct.use0 (λF' hF=>qHU F' g d A0 c0 B0 e0 C f (hc.mono (hF mm (by simp))) 0 (by omega)))) rfl λg7 _=>J.b rfl<|J.c hK3<|J.E 0 3 ?_
  refine J.g λK4 hK4=>J.b V<|J.f (qAU V V V) V<|J.c hK4<|J.G 0 3 9 ?_
  refine J.a4 V (λh9=>?_) (λh9=>?_)
  ·
    refine J.g λK5 hK5=>J.j 2 V<|J.c hK5<|J.A 2 ?_
    exact J.D<|J.a7<|J.Z hw0 V mm (congrArg I (by unfold Dk.sErr;rw [if_pos (by omega)])) (by rw [show d.sync=d from if_pos (by omega)];exact hb) [0,1] rfl (by decide)
  refine J.W hK2<|J.A 0 ?_
  refine J.k λK6 hK6=>J.g λK7 hK7=>J.b V<|J.q (qAB V V ent225 (Ct.use1 0 (m':=λx:Hp=>x) (new:=λ_=> []) V (λF' hF=>qOZ F' mm g d C f hb hok hn2 (hKp.mono (hF F (by simp))) hn3))) rfl ?_
  rintro m12 h12
  change J _ _ _ [m12,F] _
  refine J.c hK7<|J.E 0 12 ?_
  refine J.a4 V (λh12c=>?_) (λh12c=>?_)
  ·
    refine J.g λK8 hK8=>J.b V<|J.c hK8<|J.A 2 ?_
    exact J.D<|J.a7<|J.Z hw0 V m12 (congrArg I (by unfold Dk.sErr;rw [if_neg (by omega),if_pos h12c])) (by rw [show d.sync=d.burn from by unfold Dk.sync;rw [if_neg (by omega),if_pos h12c]];exact h12) [0,1] rfl (by decide)
  refine J.W hK6<|J.A 0 ?_
  refine J.k λK9 hK9=>J.k λK10 hK10=>?_
  have h0:d.ready 0=0:=by omega
  have hnb: ¬d.burns:=h12c
  obtain ⟨x,hx⟩: ∃x,x=d.burn:=⟨_,rfl⟩
  rw [←hx] at h12
  have hxo:x.ok:=hx▸hok.burn
  have hxw:x.wait=d.wait:=hx▸(qBe hnb).2.1
  have hxl:x.last=d.last:=hx▸(qBe hnb).1
  obtain ⟨gL,c,mL,B,e,mW,rfl,hd,hL,hW⟩:=h12.open hxo.n0
  unfold Dk.cells at hd⊢
  refine J.g1 hd ?_
  change J _ _ _ [blk g [.slice (some ⟨gL,0,none⟩) x.last.length c,.slice B x.wait.length e,.bool x.off,.bool x.armed,I x.fuse,.slice C x.keep.length f] 135,mL,mW,F] _
  have hxn:x.wait.length≤1073741824:=by rw [hxw];exact hn2
  refine J.H<|J.b V<|J.f (qAC V V) V<|J.a2 1 qBu qGW V V V V V<|J.c2 0 isAgg133 V V V V V<|J.f (qAY qHL V V) V<|J.b V<|J.c hK10<|J.O 0 16 17 18 ?_
  refine J.a1<|J.c1 (X:=Nat×Hp) (λy=> [(0,Ptr g),(16,.slice B x.wait.length e),(17,I x.wait.length),(18,I y.1)]) (λy=> [blk g [.slice (some ⟨gL,0,none⟩) x.last.length c,.slice B x.wait.length e,.bool x.off,.bool x.armed,I x.fuse,.slice C x.keep.length f] 135,y.2,mW,F]) (λy=>y.1≤x.wait.length∧Row y.2 9 1 (some ⟨gL,0,none⟩) x.last.length c (qAH (qCb x.last x.wait y.1))) (λy=>x.wait.length-y.1) (0,mL) (⟨jF _,hL⟩) ⟨V,V,V,V,trivial⟩ (λ_ h=>h) ?_
  rintro⟨k,m⟩ ⟨hk,hr⟩ I0 hI0
  dsimp only at hk hr⊢
  refine J.g λK11 hK11=>J.f (qAT V V V) V<|J.c hK11<|J.a0 0 16 17 18 19 ?_
  refine J.k λK12 hK12=>J.a4 V (λh19=>?_) (λh19=>?_)
  ·
    refine J.W hK12<|J.O 0 16 17 18 ?_
    refine J.k λK13 hK13=>J.a1<|J.g λK14 hK14=>J.f (qAF (i:=k) V V V qHL qFe hW.sl (by omega)) V<|J.f (qAl V V isAgg162 qFe (m:=mW) (by simp) (vs:= [I (x.wait.getD k (0,[])).1,Str (x.wait.getD k (0,[])).2]) (hW.sl.elem (qFf (by omega))) rfl) rfl<|J.q (qAO rfl zeroValue162 rfl) rfl λg5 _=>?_
    change J _ _ _ [blk g [.slice (some ⟨gL,0,none⟩) x.last.length c,.slice B x.wait.length e,.bool x.off,.bool x.armed,I x.fuse,.slice C x.keep.length f] 135,m,mW,F,blk g5 _ 162] _
    refine J.b1 (qAG (l:= [I 0,Str []]) (i:=4) (vs:= [I (x.wait.getD k (0,[])).1,Str (x.wait.getD k (0,[])).2]) V V V V V qFe V V) V V λ_ _=>?_
    change J _ _ _ [_,_,_,_,blk g5 [I (x.wait.getD k (0,[])).1,Str (x.wait.getD k (0,[])).2] 162] _
    refine J.c hK14<|J.a0 0 5 16 17 18 ?_
    have ⟨hw1,hw2⟩:=qOE hxo.w64 (show k<x.wait.length by omega)
    have h64:=qIy (qHN hxo.l64 hxo.w64 k hk) (show(x.wait.getD k (0,[])).1<(qCb x.last x.wait k).length by rw [qBI];exact hw1)
    refine J.H<|J.b V<|J.c8 4 isAgg162 qFe V V V V V<|J.q (qAB V V ent67 (Ct.use1 1 (m':=λx:Hp=>x) (new:=λ_=> []) V (λF' hF=>by have:=qN1 F' m g gL c 64 x B e C f (qCb x.last x.wait k) (by rw [qBI];exact qAP.blk0.mono (hF (blk g [.slice (some ⟨gL,0,none⟩) x.last.length c,.slice B x.wait.length e,.bool x.off,.bool x.armed,I x.fuse,.slice C x.keep.length f] 135) (by simp))) (by rw [qBI];exact hr) (x.wait.getD k (0,[])).1 (x.wait.getD k (0,[])).2 (by rw [qBI];exact hw1) (by omega) (by omega) (by omega) (by omega) (by rw [qBI];have:=hxo.n1;omega);rw [qBI] at this;exact this))) rfl ?_
    rintro m24 h24
    change J _ _ _ [_,m24,_,_,_] _
    refine J.c9 [0,1,2,3] [blk g [.slice (some ⟨gL,0,none⟩) x.last.length c,.slice B x.wait.length e,.bool x.off,.bool x.armed,I x.fuse,.slice C x.keep.length f] 135,m24,mW,F] V (by decide)<|J.a8<|J.b0<|J.u (J.M hK13 ?_)
    refine J.O 0 16 17 18 ?_
    exact J.H<|J.f ((qAQ V V V (by omega)).nat (k+1) (by omega)) V<|J.b V<|J.a8<|J.u<|J.a9 (k+1,m24) (λy (hy:_∧x.wait.length-y.1<x.wait.length-k)=>hI0 y hy.1 hy.2) ⟨⟨by dsimp only;omega,h24⟩,by dsimp only;omega⟩ ⟨V,V,V,V,trivial⟩ (λ_ h=>h)
  refine J.b8<|J.a6<|J.a6<|J.b9 ?_
  refine J.u (J.M hK9 ?_)
  refine J.A 0 ?_
  refine J.k λK15 hK15=>?_
  have hkn:k=x.wait.length:=by omega
  subst hkn
  refine J.H<|J.b V<|J.f (qAC V V) V<|J.a2 1 qBu qGW V V V V V<|J.b1 (qAV (i:=0) (vs:= [.slice none 0 0]) V V V V V qGW V (by simp)) rfl rfl λ_ _=>?_
  change J _ _ _ [blk g [.slice (some ⟨gL,0,none⟩) x.last.length c,.slice none 0 0,.bool x.off,.bool x.armed,I x.fuse,.slice C x.keep.length f] 135,m,mW,F] _
  refine J.c hK15<|J.d0 [] trivial<|J.g λK16 hK16=>J.b V<|J.c hK16<|J.A 2 ?_
  exact J.D<|J.b4 hw0 (λ_ _ h=>h) (qJW V V) (qDP [blk g [.slice (some ⟨gL,0,none⟩) x.last.length c,.slice none 0 0,.bool x.off,.bool x.armed,I x.fuse,.slice C x.keep.length f] 135,m] [F] (U [blk g [.slice (some ⟨gL,0,none⟩) x.last.length c,.slice none 0 0,.bool x.off,.bool x.armed,I x.fuse,.slice C x.keep.length f] 135,m]) (congrArg I (by unfold Dk.sErr;rw [if_neg (by omega),if_neg hnb])) (λhj=>by rw [show d.sync={x with last:=qCb x.last x.wait x.wait.length,wait:= []} from by unfold Dk.sync;rw [if_neg (by omega),if_neg hnb,←hx]];exact qO9 x gL c C f m hr hj) [0,1,3] rfl rfl (by decide))
theorem qSt(F mm:Hp)(g:Nat)(d:Dk)(C:Option Addr)(f:Nat)(hb:Dsk mm g d C f)(hok:d.ok)(n:Int)(K:List UInt8)(E:Option Addr)(q:Nat)(hK:Sl F 1 E K.length q (qAR K))(hKn:K.length≤140737488351232):
    Ct prog 23 [Ptr g,I n,.slice E K.length q] [mm,F] (λ_:Hp×Option Addr×Nat×Hp=> .tuple #[]) (λx=>Dsk x.1 g (d.setFuse n K) x.2.1 x.2.2.1∧Row x.2.2.2 5 1 x.2.1 K.length x.2.2.1 (qAR K)) (λx=> [x.1,F,x.2.2.2]):=by
  obtain ⟨gL,c,mL,B,e,mW,rfl,hd,hL,hW⟩:=hb.open hok.n0
  unfold Dk.cells at hd⊢
  refine Ct.walk func23 rfl ntmps23 rfl (λw0 hw0=>?_)
  change J _ [(0,_),(1,_),(2,_)] _ _ _
  refine J.g1 hd ?_
  change J _ _ _ [blk g [.slice (some ⟨gL,0,none⟩) d.last.length c,.slice B d.wait.length e,.bool d.off,.bool d.armed,I d.fuse,.slice C d.keep.length f] 135,mL,mW,F] _
  refine J.g λK1 hK1=>J.b V<|J.f ((qKp qRU V V V).as (v':= .bool true) V) V<|J.c hK1<|J.O 0 1 2 7 ?_
  refine J.c7 ?_
  refine J.H<|J.j 4 V<|J.f ((qA9 V V V).as (v':= .bool (decide (0≤n))) V) V<|J.j 2 V<|J.q (qAB V V ent65 (Ct.use (new:=λx:Option Addr×Nat×Hp=> [x.2.2]) (λF' hF=>qOU F' K E q (hK.mono (hF F (by simp))) hKn))) rfl ?_
  rintro⟨A15,c15,m15⟩ h15
  try dsimp only at h15
  change J _ _ _ [_,_,_,_,m15] _
  refine J.f (qAC V V) V<|J.a2 3 qBu z4_ V V V V V<|J.b1 (qAV (i:=0) (vs:= [.bool (decide (0≤n))]) V V V V V z4_ V (by simp)) rfl rfl λ_ _=>?_
  change J _ _ _ [blk g [.slice (some ⟨gL,0,none⟩) d.last.length c,.slice B d.wait.length e,.bool d.off,.bool (decide (0≤n)),I d.fuse,.slice C d.keep.length f] 135,_,_,_,_] _
  refine J.f (qAC V V) V<|J.a2 4 qBu z3_ V V V V V<|J.b1 (qAV (i:=0) (vs:= [I n]) V V V V V z3_ V (by simp)) rfl rfl λ_ _=>?_
  change J _ _ _ [blk g [.slice (some ⟨gL,0,none⟩) d.last.length c,.slice B d.wait.length e,.bool d.off,.bool (decide (0≤n)),I n,.slice C d.keep.length f] 135,_,_,_,_] _
  refine J.f (qAC V V) V<|J.a2 5 qBu qHH V V V V V<|J.b1 (qAV (i:=0) (vs:= [.slice A15 K.length c15]) V V V V V qHH V (by simp)) rfl rfl λ_ _=>?_
  change J _ _ _ [blk g [.slice (some ⟨gL,0,none⟩) d.last.length c,.slice B d.wait.length e,.bool d.off,.bool (decide (0≤n)),I n,.slice A15 K.length c15] 135,_,_,_,_] _
  exact J.a8<|J.e7 hw0 (λ_ _ h=>h) (qJX V) (qDP [blk g [.slice (some ⟨gL,0,none⟩) d.last.length c,.slice B d.wait.length e,.bool d.off,.bool (decide (0≤n)),I n,.slice A15 K.length c15] 135,mL,mW] [F,m15] (U [blk g [.slice (some ⟨gL,0,none⟩) d.last.length c,.slice B d.wait.length e,.bool d.off,.bool (decide (0≤n)),I n,.slice A15 K.length c15] 135,mL,mW],A15,c15,m15) V (λhd=>⟨⟨_,c,mL,B,e,mW,V,hd,hL,hW⟩,h15⟩) [0,1,2,3,4] V V (by decide))
theorem qKZ(F mm:Hp)(g:Nat)(d:Dk)(C:Option Addr)(f:Nat)(hb:Dsk mm g d C f)(hok:d.ok):
    Ct prog 29 [Ptr g] [mm,F] (λ_:Hp=> .tuple #[]) (λm=>Dsk m g d.start C f) (λm=> [m,F]):=by
  obtain ⟨gL,c,mL,B,e,mW,rfl,hd,hL,hW⟩:=hb.open hok.n0
  unfold Dk.cells at hd⊢
  refine Ct.walk func29 rfl ntmps29 rfl (λw0 hw0=>?_)
  change J _ [(0,_)] _ _ _
  refine J.g1 hd ?_
  change J _ _ _ [blk g [.slice (some ⟨gL,0,none⟩) d.last.length c,.slice B d.wait.length e,.bool d.off,.bool d.armed,I d.fuse,.slice C d.keep.length f] 135,mL,mW,F] _
  refine J.g λK1 hK1=>J.b V<|J.f ((qKp qRU V V V).as (v':= .bool true) V) V<|J.c hK1<|J.E 0 3 ?_
  refine J.c7 ?_
  refine J.H<|J.b V<|J.f (qAC V V) V<|J.a2 2 qBu z4_ V V V V V<|J.b1 (qAV (i:=0) (vs:= [.bool false]) V V V V V z4_ V (by simp)) rfl rfl λ_ _=>?_
  change J _ _ _ [blk g [.slice (some ⟨gL,0,none⟩) d.last.length c,.slice B d.wait.length e,.bool false,.bool d.armed,I d.fuse,.slice C d.keep.length f] 135,_,_,_] _
  exact J.a8<|J.e7 hw0 (λ_ _ h=>h) (qJX V) (qDP [blk g [.slice (some ⟨gL,0,none⟩) d.last.length c,.slice B d.wait.length e,.bool false,.bool d.armed,I d.fuse,.slice C d.keep.length f] 135,mL,mW] [F] (U [blk g [.slice (some ⟨gL,0,none⟩) d.last.length c,.slice B d.wait.length e,.bool false,.bool d.armed,I d.fuse,.slice C d.keep.length f] 135,mL,mW]) (V) (λhd=>⟨_,c,mL,B,e,mW,V,hd,hL,hW⟩) [0,1,2,3] V V (by decide))
theorem qLm(n:Nat):List.replicate n [Str []]=qAH (List.replicate n []):=by simp [qAH]
theorem qR1{n k:Nat}(a b:List UInt8)(h:k<n):(List.replicate k a++List.replicate (n-k) b).set k a=List.replicate (k+1) a++List.replicate (n-(k+1)) b:=by
 rw [List.set_append_right _ _ (by rw [jG];exact jJ _),jG,zh,show n-k=(n-(k+1))+1 by omega,List.replicate_succ,List.set_cons_zero,List.replicate_succ',jT];rfl
theorem qR2{n k:Nat}(a b:List UInt8)(h:k≤n):(List.replicate k a++List.replicate (n-k) b).length=n:=by rw [jA,jG,jG];omega
theorem qSQ(k g g13:Nat)(m:Hp)(hr:Row m 9 1 (some ⟨g13,0,none⟩) k k (qAH (List.replicate k (List.replicate 64 (0:UInt8)))))(hj:Djs [blk g [.slice (some ⟨g13,0,none⟩) k k,.slice none 0 0,.bool false,.bool false,I 0,.slice none 0 0] 135,m,λ_=>none]):Dsk (U [blk g [.slice (some ⟨g13,0,none⟩) k k,.slice none 0 0,.bool false,.bool false,I 0,.slice none 0 0] 135,m,λ_=>none]) g (Dk.new k) none 0:=by
 have hl:(Dk.new k).last.length=k:=jG
 refine⟨some ⟨g13,0,none⟩,k,m,none,0,λ_=>none,?_,?_,?_,qBc.nil⟩
 · unfold Dk.cells;rw [hl];rfl
 · unfold Dk.cells;rw [hl];exact hj
 · rw [hl];exact hr
theorem qTz(F:Hp)(i:Int):Ct prog 16 [I i] [F] (λx:Option (Nat×Hp)=>match x with|none=> .tuple #[.pointer none,I 1]|some y=> .tuple #[Ptr y.1,I 0]) (λx=>match x with|none=>i<4∨1024<i|some y=>(4≤i∧i≤1024)∧Dsk y.2 y.1 (Dk.new i.toNat) none 0) (λx=>match x with|none=> [F]|some y=> [y.2,F]):=by
 refine Ct.walk func16 rfl ntmps16 rfl (λw0 hw0=>?_)
 change J _ [(0,_)] _ _ _
 refine J.g λK1 hK1=>J.j 2 V<|J.c hK1<|J.A 0 ?_
 refine J.k λK2 hK2=>J.g λK3 hK3=>J.b V<|J.f (qAT V V V) V<|J.b V<|J.c6 (d:=8) V (λh8=>?_) (λh8=>?_)
 ·
  refine J.j 3 V<|J.c hK3<|J.E 0 11 ?_
  refine J.c7 ?_
  refine J.g λK4 hK4=>J.j 2 V<|J.c hK4<|J.E 2 3 ?_
  exact J.D<|J.a7<|J.b4 hw0 (λ_ _ h=>h) (qDe V V V) (qAj none V (by show i<4∨1024<i;omega) [0] V (by decide))
 refine J.b V<|J.T (qA5 V V V) V<|J.b V<|J.c hK3<|J.E 0 11 ?_
 refine J.a4 V (λh11=>?_) (λh11=>?_)
 ·
  refine J.g λK5 hK5=>J.j 2 V<|J.c hK5<|J.E 2 3 ?_
  exact J.D<|J.a7<|J.b4 hw0 (λ_ _ h=>h) (qDe V V V) (qAj none V (by show i<4∨1024<i;omega) [0] V (by decide))
 refine J.W hK2<|J.A 0 ?_
 refine J.k λK6 hK6=>?_
 obtain ⟨n,hn⟩:=z7 (show 0≤i by omega)
 refine J.H<|J.b V<|J.q (qDR (n':=n) V (by show some (I i)=_;rw [hn]) qAh el9 (by omega) (by omega)) rfl λg13 _=>?_
 change J _ _ _ [F,blk g13 (List.replicate n [Str []]).flatten 9] _
 refine J.f (qAK (l:= [(0,.tmp 13)]) (vs:= [.slice (some ⟨g13,0,none⟩) n n]) (places:= [(0,1),(1,1),(2,1),(3,1),(4,1),(5,1)]) (r:= [.slice (some ⟨g13,0,none⟩) n n,.slice none 0 0,.bool false,.bool false,I 0,.slice none 0 0]) V V V qBu zeroValue135 (λ_=>by kernel_rfl) V) V<|J.q (qAi V V (l:= [.slice (some ⟨g13,0,none⟩) n n,.slice none 0 0,.bool false,.bool false,I 0,.slice none 0 0]) V) V ?_
 rintro g15 _
 change J _ _ _ [_,_,blk g15 [.slice (some ⟨g13,0,none⟩) n n,.slice none 0 0,.bool false,.bool false,I 0,.slice none 0 0] 135] _
 refine J.b V<|J.c hK6<|J.A 4 ?_
 refine J.k λK7 hK7=>J.g λK8 hK8=>J.b V<|J.f (qAC V V) V<|J.a2 0 qBu qCA V V V V V<|J.c2 2 qCR V V V V V<|J.f (qAY qAh V V) V<|J.b V<|J.c hK8<|J.G 4 20 21 ?_
 refine J.a1<|J.c1 (X:=Nat×Hp) (λx=> [(4,Ptr g15),(20,I n),(21,I x.1)]) (λx=> [F,x.2,blk g15 [.slice (some ⟨g13,0,none⟩) n n,.slice none 0 0,.bool false,.bool false,I 0,.slice none 0 0] 135]) (λx=>x.1≤n∧Row x.2 9 1 (some ⟨g13,0,none⟩) n n (qAH (List.replicate x.1 (List.replicate 64 (0:UInt8))++List.replicate (n-x.1) []))) (λx=>n-x.1) (0,blk g13 (List.replicate n [Str []]).flatten 9) (⟨jF _,by dsimp only;rw [List.replicate_zero,jp,Nat.sub_zero,←qLm];exact qPL⟩) ⟨rfl,rfl,rfl,trivial⟩ (λ_ h=>h) ?_
 rintro⟨k,m⟩ ⟨hk,hr⟩ I0 hI0
 dsimp only at hk hr⊢
 refine J.g λK9 hK9=>J.f (qAT V V V) V<|J.c hK9<|J.O 4 20 21 22 ?_
 refine J.k λK10 hK10=>J.a4 V (λh22=>?_) (λh22=>?_)
 ·
  refine J.W hK10<|J.G 4 20 21 ?_
  refine J.k λK11 hK11=>J.a1<|J.g λK12 hK12=>J.j 2 V<|J.c hK12<|J.O 4 5 20 21 ?_
  refine J.b7 [blk g15 [.slice (some ⟨g13,0,none⟩) n n,.slice none 0 0,.bool false,.bool false,I 0,.slice none 0 0] 135] [7] (.y 0 (.y 1 (.y 2 (.y 3 (.y 4 (.e 5 (.y 6 (.e 7 .nil)))))))) Tryz.wide (by decide+kernel) (by simp) ?_
  refine J.L ?_
  refine J.p V (qAC V V) V V<|J.p V (qAA (j:=0) V V qBu V qCA V) V V<|J.p V (qAD 0 V V V qCR V) V V<|J.L ?_
  refine J.b2 V (qAB V V ent51 (Ct.use0 (λF' hF=>qEn F' 64 (by decide)))) V (by simp) λg29 _=>J.p rfl (qAF (i:=k) rfl rfl rfl qAh z9_ hr.sl (by omega)) rfl rfl<|J.d2 rfl (qBj (i:=1) (k:=k) (off:=0) (b:= [Str (List.replicate 64 (0:UInt8))]) rfl (by show some _=some _;rw [qOO]) rfl rfl hr (vs:= [Str (List.replicate 64 (0:UInt8))]) rfl z9_ rfl (by omega) (qAZ (qAd [] (by rw [qR2 _ _ hk];omega))) rfl (by show _+1≤1;decide)) rfl rfl rfl ?_
  rintro m9 h9
  change J _ _ _ [F,m9,blk g15 [.slice (some ⟨g13,0,none⟩) n n,.slice none 0 0,.bool false,.bool false,I 0,.slice none 0 0] 135] _
  refine J.b3<|J.b0<|J.u (J.M hK11 ?_)
  refine J.G 4 20 21 ?_
  exact J.H<|J.f ((qAQ V V V (by omega)).nat (k+1) (by omega)) V<|J.b V<|J.a8<|J.u<|J.a9 (k+1,m9) (λy (hy:_∧n-y.1<n-k)=>hI0 y hy.1 hy.2) ⟨⟨by dsimp only;omega,by dsimp only;rw [qEH,qR1 _ _ (by omega)] at h9;exact h9⟩,by dsimp only;omega⟩ ⟨rfl,rfl,rfl,trivial⟩ (λ_ h=>h)
 refine J.b8<|J.a6<|J.a6<|J.b9 ?_
 refine J.u (J.M hK7 ?_)
 refine J.A 4 ?_
 refine J.k λK13 hK13=>?_
 have hkn:k=n:=by omega
 subst hkn
 rw [zh,List.replicate_zero,jS] at hr
 refine J.H<|J.j 3 V<|J.c hK13<|J.E 2 3 ?_
 exact J.D<|J.d4 [0,1,2,3] [F,m,blk g15 [.slice (some ⟨g13,0,none⟩) k k,.slice none 0 0,.bool false,.bool false,I 0,.slice none 0 0] 135,λ_=>none] V (by decide)<|J.b4 hw0 (λ_ _ h=>h) (qDe V V V) (qDP [blk g15 [.slice (some ⟨g13,0,none⟩) k k,.slice none 0 0,.bool false,.bool false,I 0,.slice none 0 0] 135,m,λ_=>none] [F] (some (g15,U [blk g15 [.slice (some ⟨g13,0,none⟩) k k,.slice none 0 0,.bool false,.bool false,I 0,.slice none 0 0] 135,m,λ_=>none])) V (λhj=>⟨by omega,by rw [show i.toNat=k by omega];exact qSQ k g15 g13 m hr hj⟩) [2,1,3,0] rfl rfl (by decide))
theorem qIp(F:Hp)(n:Nat)(h4:4≤n)(hm:n≤1024):Ct prog 16 [I n] [F] (λx:Nat×Hp=> .tuple #[Ptr x.1,I 0]) (λx=>Dsk x.2 x.1 (Dk.new n) none 0) (λx=>F:: [x.2]):=λw0 w hs=>
 (qTz F n w0 w hs).mono λe w' ⟨x,he,hx,hs'⟩=>by
  cases x with
  |none=>exact absurd hx (by show¬((n:Int)<4∨1024<(n:Int));omega)
  |some y=>exact⟨y,he,by have:=hx.2;rwa [jZ] at this,hs'.pick [1,0] (by decide)⟩
theorem qFN{d:Dk}{i:Int}{s:List UInt8}(h:d.ready i=0)(h1:s.length≤64)(h2: ¬d.burns):d.write i s={d.burn with wait:=d.burn.wait++ [(i.toNat,qHA s)]}∧d.wErr i s=0:=by
 unfold Dk.write Dk.wErr
 rw [if_neg (by omega),if_neg (by omega),if_neg h2,if_neg (by omega),if_neg (by omega),if_neg h2]
 exact⟨rfl,rfl⟩
theorem qR4{d:Dk}{i:Int}(h:d.ready i=0):d.read i=d.now i.toNat:=if_pos h
end Go.Proofs.YtfldiegfenndjaaGreatDoor
