/- A part of the proof. -/
import Derived.Test.YtllnfioplpipiaaGreatDoorTopOrG8
import Derived.Test.YtllnfioplpipiaaGreatDoorTopOrG21
set_option linter.unusedSimpArgs false
set_option linter.unusedVariables false
namespace Go.Proofs.YtllnfioplpipiaaGreatDoor
open Go Go.Fw Go.Proofs.Tryz
set_option maxRecDepth 100000
set_option maxHeartbeats 1000000
theorem ent197:qAD prog 197:=qAD.of func197 rfl (by kernel_rfl)
theorem ent198:qAD prog 198:=qAD.of func198 rfl (by kernel_rfl)
theorem ent235:qAD prog 235:=qAD.of func235 rfl (by kernel_rfl)
theorem ent238:qAD prog 238:=qAD.of func238 rfl (by kernel_rfl)
theorem ent239:qAD prog 239:=qAD.of func239 rfl (by kernel_rfl)
theorem ent251:qAD prog 251:=qAD.of func251 rfl (by kernel_rfl)
theorem el286:qCQ prog 286 [.int .i64 0,Str []] 24:=qCQ.of (by kernel_rfl) rfl
abbrev Wri:=Nat×List UInt8
structure Dk where
 last:List (List UInt8)
 wait:List Wri
 off:Bool
 armed:Bool
 fuse:Int
 keep:List UInt8
def qCZ(l:List Wri):List (List Value):=l.map λw=> [I w.1,Str w.2]
theorem qMT(a b:List Wri):qCZ (a++b)=qCZ a++qCZ b:=by simp [qCZ]
theorem qE7{l:List Wri}{k:Nat}(h:k<l.length):(qCZ l)[k]?=some [I (l.getD k (0,[])).1,Str (l.getD k (0,[])).2]:=by
 unfold qCZ
 rw [List.getElem?_map,qAc (0,[]) h];rfl
theorem qMS(l:List Wri):(qCZ l).all (λx=>x.all Value.oneCell')=true:=by simp [qCZ,Value.oneCell']
theorem qGH(a b:List (List UInt8)):qAG (a++b)=qAG a++qAG b:=by simp [qAG]
def Dk.cells(d:Dk)(A:Option Addr)(c:Nat)(B:Option Addr)(e:Nat)(C:Option Addr)(f:Nat):List Value:= [.slice A d.last.length c,.slice B d.wait.length e,.bool d.off,.bool d.armed,I d.fuse,.slice C d.keep.length f]
def Dsk(mm:Hp)(g:Nat)(d:Dk)(C:Option Addr)(f:Nat):Prop:= ∃A c mL B e mW,mm=U [blk g (d.cells A c B e C f) 89,mL,mW]∧Djs [blk g (d.cells A c B e C f) 89,mL,mW]∧Row mL 9 1 A d.last.length c (qAG d.last)∧Row mW 286 2 B d.wait.length e (qCZ d.wait)
theorem Dsk.see{mm:Hp}{g:Nat}{d:Dk}{C:Option Addr}{f:Nat}(h:Dsk mm g d C f): ∃A c B e,qAL mm ⟨g,0,none⟩ (d.cells A c B e C f)∧Sl mm 1 A d.last.length c (qAG d.last)∧Sl mm 2 B d.wait.length e (qCZ d.wait):=by
 obtain ⟨A,c,mL,B,e,mW,rfl,hd,h1,h2⟩:=h
 exact⟨A,c,B,e,qAL.blk0.mono (qEf hd (.head _)),h1.sl.mono (qEf hd (.tail _ (.head _))),h2.sl.mono (qEf hd (.tail _ (.tail _ (.head _))))⟩
def Dk.ready(d:Dk)(i:Int):Int:=if d.off then 8 else if i<0∨(d.last.length:Int)≤i then 10 else 0
def qRL(l:List Wri)(i:Nat):Nat→Option (List UInt8)
 |0=>none
 |k+1=>if(l.getD k (0,[])).1=i then some (l.getD k (0,[])).2 else qRL l i k
theorem qID(l:List Wri)(i:Nat):qRL l i 0=none:=rfl
theorem qM0(l:List Wri)(i k:Nat):qRL l i (k+1)=if(l.getD k (0,[])).1=i then some (l.getD k (0,[])).2 else qRL l i k:=rfl
def Dk.now(d:Dk)(i:Nat):List UInt8:=(qRL d.wait i d.wait.length).getD (d.last.getD i [])
def Dk.read(d:Dk)(i:Int):List UInt8:=if d.ready i=0 then d.now i.toNat else []
def qTs(old t:List UInt8)(n:Nat):List UInt8:=t.take n++old.drop n
def qJy(L:List (List UInt8))(w:Wri)(n:Nat):List (List UInt8):=L.set w.1 (qTs (L.getD w.1 []) w.2 n)
theorem qIf(L:List (List UInt8))(w:Wri)(n:Nat):(qJy L w n).length=L.length:=by unfold qJy;rw [List.length_set]
def qCe(L:List (List UInt8))(W:List Wri):Nat→List (List UInt8)
 |0=>L
 |k+1=>qJy (qCe L W k) (W.getD k (0,[])) 64
def qHg(L:List (List UInt8))(W:List Wri)(K:List UInt8):Nat→List (List UInt8)
 |0=>L
 |k+1=>if k<K.length then qJy (qHg L W K k) (W.getD k (0,[])) (min (K.getD k 0).toNat 64) else qHg L W K k
theorem qA8(L:List (List UInt8))(W:List Wri): ∀k,(qCe L W k).length=L.length
 |0=>rfl
 |k+1=>by rw [qCe,qIf,qA8 L W k]
theorem qBB(L:List (List UInt8))(W:List Wri)(K:List UInt8): ∀k,(qHg L W K k).length=L.length
 |0=>rfl
 |k+1=>by
  rw [qHg]
  split
  · rw [qIf,qBB L W K k]
  · exact qBB L W K k
def Dk.cut(d:Dk)(K:List UInt8):Dk:={d with last:=qHg d.last d.wait K d.wait.length,wait:= [],off:=true,armed:=false}
def Dk.burns(d:Dk):Prop:=d.armed=true∧d.fuse-1<0
instance (d:Dk):Decidable d.burns:=by unfold Dk.burns;infer_instance
def Dk.burn(d:Dk):Dk:=if d.armed=true then(if d.fuse-1<0 then{d with fuse:=d.fuse-1}.cut d.keep else{d with fuse:=d.fuse-1}) else d
def qLD(s:List UInt8):List UInt8:=s++List.replicate (64-s.length) 0
theorem qQj{s:List UInt8}(h:s.length≤64):(qLD s).length=64:=by unfold qLD;rw [List.length_append,List.length_replicate];omega
structure Dk.ok0 (d:Dk):Prop where
 l64: ∀s∈d.last,s.length=64
 w64: ∀w∈d.wait,w.1<d.last.length∧w.2.length=64
 n0:0<d.last.length
 n1:d.last.length≤1024
structure Dk.ok (d:Dk):Prop extends Dk.ok0 d where
 fz:d.armed=true→0≤d.fuse
 fb: -9223372036854775808≤d.fuse∧d.fuse≤9223372036854775807
theorem qPH{o t:List UInt8}{n:Nat}(ho:o.length=64)(ht:t.length=64)(hn:n≤64):(qTs o t n).length=64:=by unfold qTs;rw [List.length_append,List.length_take,List.length_drop];omega
theorem qTK{L:List (List UInt8)}(h: ∀s∈L,s.length=64){k:Nat}(hk:k<L.length):(L.getD k []).length=64:=by
 rw [List.getD_eq_getElem?_getD,List.getElem?_eq_getElem hk];exact h _ (List.getElem_mem hk)
theorem qQe{W:List Wri}{p:Wri→Prop}(h: ∀w∈W,p w){k:Nat}(hk:k<W.length):p (W.getD k (0,[])):=by
 rw [List.getD_eq_getElem?_getD,List.getElem?_eq_getElem hk];exact h _ (List.getElem_mem hk)
theorem qK6{L:List (List UInt8)}(h: ∀s∈L,s.length=64){w:Wri}(hw:w.1<L.length∧w.2.length=64){n:Nat}(hn:n≤64): ∀s∈qJy L w n,s.length=64:=λs hs=>by
 unfold qJy at hs
 rcases List.mem_or_eq_of_mem_set hs with hs|rfl
 · exact h s hs
 · exact qPH (qTK h hw.1) hw.2 hn
theorem qG2{L:List (List UInt8)}{W:List Wri}(h: ∀s∈L,s.length=64)(hw: ∀w∈W,w.1<L.length∧w.2.length=64): ∀k,k≤W.length→ ∀s∈qCe L W k,s.length=64
 |0,_=>h
 |k+1,hk=>by
  rw [qCe]
  exact qK6 (qG2 h hw k (by omega)) (by rw [qA8];exact qQe hw (show k<W.length by omega)) (Nat.le_refl _)
theorem qHf{L:List (List UInt8)}{W:List Wri}{K:List UInt8}(h: ∀s∈L,s.length=64)(hw: ∀w∈W,w.1<L.length∧w.2.length=64): ∀k,k≤W.length→ ∀s∈qHg L W K k,s.length=64
 |0,_=>h
 |k+1,hk=>by
  rw [qHg]
  split
  · exact qK6 (qHf h hw k (by omega)) (by rw [qBB];exact qQe hw (show k<W.length by omega)) (Nat.min_le_right _ _)
  · exact qHf h hw k (by omega)
theorem Dk.ok0.cut{d:Dk}(h:d.ok0)(K:List UInt8):(d.cut K).ok0:=
 ⟨qHf h.l64 h.w64 _ (Nat.le_refl _),(λw hw=>nomatch hw),by show 0<(qHg _ _ _ _).length;rw [qBB];exact h.n0,by show(qHg _ _ _ _).length≤_;rw [qBB];exact h.n1⟩
theorem Dk.ok.cut{d:Dk}(h:d.ok)(K:List UInt8):(d.cut K).ok:=⟨Dk.ok0.cut h.1 K,(λe=>nomatch e),h.fb⟩
theorem Dk.ok.burn{d:Dk}(h:d.ok):d.burn.ok:=by
  unfold Dk.burn
  split
  · rename_i ha
    have h1:=h.fz ha
    have h2:=h.fb
    split
    · exact⟨Dk.ok0.cut (d:={d with fuse:=d.fuse-1}) ⟨h.l64,h.w64,h.n0,h.n1⟩ _,(λe=>nomatch e),by show _≤d.fuse-1∧d.fuse-1≤_;omega⟩
    · exact⟨⟨h.l64,h.w64,h.n0,h.n1⟩,λ_=>by show 0≤d.fuse-1;omega,by show _≤d.fuse-1∧d.fuse-1≤_;omega⟩
  · exact h
def Dk.wErr(d:Dk)(i:Int)(s:List UInt8):Int:=if d.ready i≠0 then d.ready i else if 64<s.length then 2 else if d.burns then 8 else 0
def Dk.write(d:Dk)(i:Int)(s:List UInt8):Dk:=if d.ready i≠0 then d else if 64<s.length then d else if d.burns then d.burn else{d.burn with wait:=d.burn.wait++ [(i.toNat,qLD s)]}
def Dk.sErr(d:Dk):Int:=if d.ready 0≠0 then d.ready 0 else if d.burns then 8 else 0
def Dk.sync(d:Dk):Dk:=if d.ready 0≠0 then d else if d.burns then d.burn else{d.burn with last:=qCe d.burn.last d.burn.wait d.burn.wait.length,wait:= []}
def Dk.new(n:Nat):Dk:=⟨List.replicate n (List.replicate 64 0),[],false,false,0,[]⟩
theorem qKg{d:Dk}{i:Int}(h:d.ready i=0):0≤i∧i<d.last.length∧d.off=false:=by
  unfold Dk.ready at h
  split at h
  · cases h
  · rename_i h1
    split at h
    · cases h
    · exact⟨by omega,by omega,by simpa using h1⟩
theorem qC9{d:Dk}(h: ¬d.burns):d.burn.last=d.last∧d.burn.wait=d.wait∧d.burn.off=d.off:=by
  unfold Dk.burn
  split
  · rename_i ha
    rw [if_neg (λe=>h ⟨ha,e⟩)];exact⟨rfl,rfl,rfl⟩
  · exact⟨rfl,rfl,rfl⟩
theorem Dk.ok.write{d:Dk}(h:d.ok)(i:Int)(s:List UInt8):(d.write i s).ok:=by
  unfold Dk.write
  split
  · exact h
  · rename_i h0
    split
    · exact h
    · rename_i h1
      have hb:=h.burn
      split
      · exact hb
      · rename_i h2
        obtain ⟨r1,r2,_⟩:=qKg (Decidable.not_not.1 h0)
        refine⟨⟨hb.l64,λw hw=>?_,hb.n0,hb.n1⟩,hb.fz,hb.fb⟩
        rcases List.mem_append.1 hw with hw|hw
        · exact hb.w64 w hw
        · simp only [List.mem_singleton] at hw
          subst hw
          exact⟨by show i.toNat<d.burn.last.length;rw [(qC9 h2).1];omega,qQj (by omega)⟩
theorem Dk.ok.sync{d:Dk}(h:d.ok):d.sync.ok:=by
  unfold Dk.sync
  split
  · exact h
  · have hb:=h.burn
    split
    · exact hb
    · exact⟨⟨qG2 hb.l64 hb.w64 _ (Nat.le_refl _),(λw hw=>nomatch hw),by show 0<(qCe _ _ _).length;rw [qA8];exact hb.n0,by show(qCe _ _ _).length≤_;rw [qA8];exact hb.n1⟩,hb.fz,hb.fb⟩
theorem Dk.new_ok{n:Nat}(h:4≤n)(h2:n≤1024):(Dk.new n).ok:=⟨⟨λs hs=>by have:=List.eq_of_mem_replicate hs;rw [this,List.length_replicate],(λw hw=>nomatch hw),by show 0<(List.replicate n _).length;rw [List.length_replicate];omega,by show(List.replicate n _).length≤_;rw [List.length_replicate];exact h2⟩,(λe=>nomatch e),⟨by show-9223372036854775808≤(0:Int);decide,by show(0:Int)≤_;decide⟩⟩
theorem qHA(F:Hp)(g:Nat)(d:Dk)(A:Option Addr)(c:Nat)(B:Option Addr)(e:Nat)(C:Option Addr)(f:Nat)(hc:qAL F ⟨g,0,none⟩ (d.cells A c B e C f))(i:Int)(hn:d.last.length≤1073741824):
    Ct prog 197 [Ptr g,I i] [F] (λ_:Unit=>I (d.ready i)) (λ_=>True) (λ_=> [F]):=by
  refine Ct.walk func197 rfl ntmps197 rfl (λw0 hw0=>?_)
  change J _ [(0,_),(1,_)] _ _ _
  refine J.g λK1 hK1=>J.b O<|J.c hK1<|J.E 0 1 ?_
  refine J.j λK2 hK2=>J.V<|J.g λK3 hK3=>J.b O<|J.f ((qA6 underlying24 O O O).as (v':= .bool false) O) O<|J.b O<|J.c hK3<|J.G 0 1 5 ?_
  refine J.a5 ?_
  refine J.g λK4 hK4=>J.b O<|J.f (qAC O O) O<|J.a3 2 qFB z4_ O O O O O<|J.f ((qAJ O O b4_ (m:=F) (by simp) (hc.at (i:=2) rfl)).as (v':= .bool (decide (d.off=true))) (congrArg Value.bool (by simp))) rfl<|J.b rfl<|J.c hK4<|J.G 0 1 8 ?_
  refine J.a2 O (λh8=>?_) (λh8=>?_)
  ·
    refine J.g λK5 hK5=>J.b O<|J.c hK5<|J.u 4 ?_
    exact J.D<|J.b1<|J.a4<|J.M hw0 O () (congrArg I (show(8:Int)=d.ready i by unfold Dk.ready;rw [if_pos h8])) trivial [0] rfl (by decide)
  refine J.g λK6 hK6=>J.b O<|J.f (qAT O O O) O<|J.b O<|J.c4 (d:=16) O (λh16=>?_) (λh16=>?_)
  ·
    refine J.p 9 O<|J.c hK6<|J.u 13 ?_
    refine J.d0 ?_
    refine J.g λK7 hK7=>J.b O<|J.c hK7<|J.u 4 ?_
    exact J.D<|J.b1<|J.a4<|J.M hw0 O () (congrArg I (show(10:Int)=d.ready i by unfold Dk.ready;rw [if_neg h8,if_pos (by omega)])) trivial [0] rfl (by decide)
  refine J.p 2 O<|J.Z (qAC O O) O<|J.Z (qAB (j:=0) O O qFB O qBf O) O<|J.Z (qAJ O O qBo (m:=F) (by simp) (hc.at (i:=0) rfl)) rfl<|J.Z (qAP qAe rfl rfl) rfl<|J.Z (qBN rfl rfl rfl) rfl<|J.p 2 rfl<|J.c hK6<|J.u 13 ?_
  refine J.a2 O (λh13=>?_) (λh13=>?_)
  ·
    refine J.g λK8 hK8=>J.b O<|J.c hK8<|J.u 4 ?_
    exact J.D<|J.b1<|J.a4<|J.M hw0 O () (congrArg I (show(10:Int)=d.ready i by unfold Dk.ready;rw [if_neg h8,if_pos (by omega)])) trivial [0] rfl (by decide)
  refine J.b7<|J.a6<|J.A (J.H hK2 ?_)
  refine J.c3 [] trivial<|J.g λK9 hK9=>J.b O<|J.c hK9<|J.u 4 ?_
  exact J.D<|J.M hw0 O () (congrArg I (show(0:Int)=d.ready i by unfold Dk.ready;rw [if_neg h8,if_neg (by omega)])) trivial [0] rfl (by decide)
theorem qLI(F:Hp)(g:Nat)(d:Dk)(A:Option Addr)(c:Nat)(B:Option Addr)(e:Nat)(C:Option Addr)(f:Nat)(hc:qAL F ⟨g,0,none⟩ (d.cells A c B e C f)):
    Ct prog 89 [Ptr g] [F] (λ_:Unit=>I d.last.length) (λ_=>True) (λ_=> [F]):=by
  refine Ct.walk func89 rfl ntmps89 rfl (λw0 hw0=>?_)
  change J _ [(0,_)] _ _ _
  refine J.g λK1 hK1=>J.b O<|J.c hK1<|J.u 0 ?_
  refine J.j λK2 hK2=>J.g λK3 hK3=>J.b O<|J.f ((qA6 underlying24 O O O).as (v':= .bool false) O) O<|J.c hK3<|J.E 0 4 ?_
  refine J.a5 ?_
  refine J.W hK2<|J.u 0 ?_
  refine J.g λK4 hK4=>J.b O<|J.f (qAC O O) O<|J.a3 0 qFB qBf O O O O O<|J.f (qAJ O O qBo (m:=F) (by simp) (hc.at (i:=0) rfl)) rfl<|J.f (qAP qAe rfl rfl) rfl<|J.b rfl<|J.c hK4<|J.u 2 ?_
  exact J.D<|J.M hw0 O () O trivial [0] O (by decide)
theorem qQ1(F:Hp)(B:Option Addr)(n e:Nat):Ct prog 198 [.slice B n e] [F] (λx:Nat=> .func (.func 235) #[] #[Ptr x]) (λ_=>True) (λx=> [F,blk x [.slice B n e] 87]):=by
 refine Ct.walk func198 rfl ntmps198 rfl (λw0 hw0=>?_)
 change J _ [(0,_)] _ _ _
 refine J.g λK1 hK1=>J.k (qAi O O (l:= [.slice B n e]) O) O λg1 _=>?_
 change J _ _ _ [F,blk g1 [.slice B n e] 87] _
 refine J.b O<|J.c hK1<|J.u 1 ?_
 refine J.g λK2 hK2=>J.f (qBR O O) O<|J.b O<|J.c hK2<|J.u 2 ?_
 exact J.D<|J.M hw0 O g1 O trivial [0,1] O (by decide)
theorem qOl(Fr:Hp)(gB:Nat)(B:Option Addr)(W:List Wri)(e:Nat)(hn2:W.length≤1073741824)(ha:qAL Fr ⟨gB,0,none⟩ [.slice B W.length e])(hs:Sl Fr 2 B W.length e (qCZ W)):
    qHp prog 235 [Ptr gB] Fr (λi=> [I ((W.length-1-i:Nat):Int),.agg #[I (W.getD (W.length-1-i) (0,[])).1,Str (W.getD (W.length-1-i) (0,[])).2]]) W.length:=by
  refine qHp.walk func235 rfl ntmps235 rfl (λ{X} M IY S l x0 w0 hw0 h0 hY=>?_)
  change J _ [(0,_),(1,_)] _ _ _
  refine J.g λK1 hK1=>J.f (qAJ O O isAgg87 (m:=Fr) (by simp) (ha)) rfl<|J.f (qAP qPE rfl rfl) rfl<|J.f ((qAw rfl rfl rfl (by omega)).as (v':=I ((W.length:Int)-1-((0:Nat):Int))) (congrArg I (by omega))) rfl<|J.b rfl<|J.c hK1<|J.G 0 1 3 ?_
  refine J.V<|J.b6 (X:=Nat×X) (λy=> [(0,.func (.yield l) #[] #[]),(1,Ptr gB),(3,I ((W.length:Int)-1-(y.1:Int)))]) (λy=> [Fr,M y.2]) (λy=>y.1≤W.length∧IY y.1 y.2) (λy=>W.length-y.1) (0,x0) (⟨Nat.zero_le _,h0⟩) ⟨O,O,O,trivial⟩ (λ_ h=>h) ?_
  rintro⟨i,x⟩ ⟨hi,hI⟩ I0 hI0
  dsimp only at hi hI⊢
  refine J.j λK2 hK2=>J.g λK3 hK3=>J.b O<|J.f (qBN O O O) O<|J.c hK3<|J.O 0 1 3 8 ?_
  refine J.a2 O (λh8=>?_) (λh8=>?_)
  ·
    refine J.W hK2<|J.G 0 1 3 ?_
    refine J.j λK4 hK4=>J.V<|J.j λK5 hK5=>J.g5 ?_
    refine J.d2 (qAx O O) O O O ?_
    refine J.d2 ((qAx O O).nat (W.length-1-i) (by omega)) O O O ?_
    refine J.d2 (qAJ O O isAgg87 (m:=Fr) (by simp) (ha)) rfl rfl rfl ?_
    refine J.d2 ((qAx O O).nat (W.length-1-i) (by omega)) O O O ?_
    refine J.d2 (qAH (i:=W.length-1-i) O O O qPE qE4 hs (by omega)) O O O ?_
    refine J.d2 (qAd O O isAgg286 qE4 (m:=Fr) (by simp) (vs:= [I (W.getD (W.length-1-i) (0,[])).1,Str (W.getD (W.length-1-i) (0,[])).2]) (hs.elem (qE7 (by omega))) rfl) rfl rfl rfl ?_
    refine J.g6 (ex:= []) O O O O O O (hY i x (by omega) hI) ?_
    rintro x' b hb1 hb2
    cases b
    ·
      have hyb:=hb2 rfl
      change J _ _ _ [Fr,M x'] _
      refine J.d2 (qAt O O) O O O ?_
      refine J.e7 ?_
      refine J.A (J.H hK5 ?_)
      refine J.O 0 1 3 18 ?_
      refine J.d0 ?_
      exact J.D<|J.b1<|J.a4<|J.a4<|J.b1<|J.b2 hw0 (λ_ _ h=>h) (qHr O) (λw hs=>⟨x',⟨_,O⟩,.inr hyb,hs⟩)
    have hyb:=hb1 rfl
    change J _ _ _ [Fr,M x'] _
    refine J.d2 (qAt O O) O O O ?_
    refine J.e7 ?_
    refine J.A (J.H hK5 ?_)
    refine J.O 0 1 3 18 ?_
    refine J.a5 ?_
    refine J.b7<|J.a6<|J.A (J.H hK4 ?_)
    refine J.G 0 1 3 ?_
    exact J.L<|J.b O<|J.f ((qAw O O O (by omega)).as (v':=I ((W.length:Int)-1-((i+1:Nat):Int))) (congrArg I (by omega))) O<|J.b O<|J.a7<|J.A<|J.a8 (i+1,x') (λy (hy:_∧W.length-y.1<W.length-i)=>hI0 y hy.1 hy.2) ⟨⟨by dsimp only;omega,hyb⟩,by dsimp only;omega⟩ ⟨O,O,O,trivial⟩ (λ_ h=>h)
  refine J.b4<|J.a1<|J.a1<|J.b5 ?_
  exact J.e0 hw0 (λ_ _ h=>h) (qHr O) (λw hs=>⟨x,⟨_,O⟩,.inl (by rw [show W.length=i by omega];exact hI),hs⟩)
theorem qPQ(F:Hp)(g:Nat)(d:Dk)(A:Option Addr)(c:Nat)(B:Option Addr)(e:Nat)(C:Option Addr)(f:Nat)(hc:qAL F ⟨g,0,none⟩ (d.cells A c B e C f))(hL:Sl F 1 A d.last.length c (qAG d.last))(hW:Sl F 2 B d.wait.length e (qCZ d.wait))(i:Int)(hn:d.last.length≤1073741824)(hn2:d.wait.length≤1073741824):
    Ct prog 151 [Ptr g,I i] [F] (λ_:Unit=> .tuple #[Str (d.read i),I (d.ready i)]) (λ_=>True) (λ_=> [F]):=by
  refine Ct.walk func151 rfl ntmps151 rfl (λw0 hw0=>?_)
  change J _ [(0,_),(1,_)] _ _ _
  refine J.g λK1 hK1=>J.k (qAi O O (l:= [I i]) O) O λg3 _=>?_
  change J _ _ _ [F,blk g3 [I i] 3] _
  refine J.k (qAN O e9_ O) O λg4 _=>?_
  change J _ _ _ [_,_,blk g4 _ 9] _
  refine J.k (qAN O zeroValue25 O) O λg5 _=>?_
  change J _ _ _ [_,_,_,blk g5 _ 25] _
  refine J.c hK1<|J.O 0 3 4 5 ?_
  refine J.j λK2 hK2=>J.g λK3 hK3=>J.b O<|J.c7 1 b3_ O O O O O<|J.k (qAA O O ent197 (Ct.use0 (λF' hF=>qHA F' g d A c B e C f (hc.mono (hF F (by simp))) i hn))) rfl λg11 _=>J.b rfl<|J.c hK3<|J.a0 0 3 4 5 6 ?_
  refine J.g λK4 hK4=>J.b O<|J.f (qAb O O O) O<|J.c hK4<|J.b8 0 3 4 5 6 13 ?_
  refine J.a2 O (λh13=>?_) (λh13=>?_)
  ·
    refine J.g λK5 hK5=>J.b O<|J.b0 (qAI (l:= [Str []]) (i:=2) (vs:= [Str []]) O O O O O z9_ O O) O O λ_ _=>?_
    change J _ _ _ [_,_,blk g4 [Str []] 9,_] _
    refine J.b0 (qAI (l:= [I 0]) (i:=3) (vs:= [I (d.ready i)]) O O O O O qKK O O) O O λ_ _=>?_
    change J _ _ _ [_,_,_,blk g5 [I (d.ready i)] 25] _
    refine J.c hK5<|J.E 4 5 ?_
    exact J.D<|J.a4<|J.b2 hw0 (λ_ _ h=>h) (rv2 O (RV.blk1 2 O O b9_) (RV.blk1 3 O O qO1)) (qAn () (by rw [show d.read i= [] from if_neg (by omega)]) trivial [0] rfl (by decide))
  refine J.W hK2<|J.O 0 3 4 5 ?_
  refine J.j λK6 hK6=>J.j λK7 hK7=>?_
  have h0:d.ready i=0:=by omega
  obtain ⟨hi0,hil⟩:0≤i∧i<d.last.length:=by
    unfold Dk.ready at h0
    split at h0
    · cases h0
    · split at h0
      · cases h0
      · omega
  obtain ⟨iN,hiN⟩:=Int.eq_ofNat_of_zero_le hi0
  have hrd:d.read i=d.now iN:=by unfold Dk.read;rw [if_pos h0,hiN];rfl
  refine J.L<|J.b O<|J.f (qAC O O) O<|J.a3 1 qFB qOw O O O O O<|J.f (qAJ O O isAgg87 (m:=F) (by simp) (hc.at (i:=1) rfl)) rfl<|J.k (qAA rfl rfl ent198 (Ct.use (new:=λx:Nat=> [blk x [.slice B d.wait.length e] 87]) (λF' _=>qQ1 F' B d.wait.length e))) rfl ?_
  rintro gB _
  change J _ _ _ [F,blk g3 [I i] 3,blk g4 _ 9,blk g5 _ 25,blk gB [.slice B d.wait.length e] 87] _
  refine J.c hK7<|J.a0 0 3 4 5 19 ?_
  refine J.V<|J.c8 [2,3,0,1,4] [blk g4 [Str []] 9,blk g5 [I 0] 25,F,blk g3 [I i] 3,blk gB [.slice B d.wait.length e] 87] O (by decide)<|J.g9 (λx:List UInt8×Int=> [blk g4 [Str x.1] 9,blk g5 [I x.2] 25]) [F,blk g3 [I i] 3,blk gB [.slice B d.wait.length e] 87] (λr x=>x=([],0)∧d.now iN=(qRL d.wait iN (d.wait.length-r)).getD (d.last.getD iN [])) (λcd x=>cd= .ret∧x=(d.now iN,0)) ([],0) O ent235 (λFr hF=>qOl Fr gB B d.wait e hn2 (qAL.blk0.mono (hF (blk gB [.slice B d.wait.length e] 87) (by simp))) (hW.mono (hF F (by simp)))) (λ_ _=>rfl) rfl (⟨rfl,rfl⟩) ?_ ?_ ?_
  ·
    intro r x l wa wb hi hI K8 Post8 hK8 hN8 hR8 hE8
    obtain ⟨x1,x2⟩:=x
    obtain ⟨hx,hnow⟩:=hI
    cases hx
    have hsk:qRL d.wait iN (d.wait.length-r)=if(d.wait.getD (d.wait.length-1-r) (0,[])).1=iN then some (d.wait.getD (d.wait.length-1-r) (0,[])).2 else qRL d.wait iN (d.wait.length-(r+1)):=by
      have:=qM0 d.wait iN (d.wait.length-1-r)
      rw [show d.wait.length-1-r+1=d.wait.length-r by omega] at this
      rw [this,show d.wait.length-(r+1)=d.wait.length-1-r by omega]
    change J _ ((21,.agg #[I (d.wait.getD (d.wait.length-1-r) (0,[])).1,Str (d.wait.getD (d.wait.length-1-r) (0,[])).2])::(20,_)::_) _ [blk g4 [Str []] 9,blk g5 [I 0] 25,F,blk g3 [I i] 3,blk gB [.slice B d.wait.length e] 87] _
    refine J.e2 ?_
    refine J.k (qAN O zeroValue286 O) O λg8 _=>?_
    change J _ _ _ [_,_,_,_,_,blk g8 _ 286] _
    refine J.b0 (qAI (l:= [I 0,Str []]) (i:=5) (vs:= [I (d.wait.getD (d.wait.length-1-r) (0,[])).1,Str (d.wait.getD (d.wait.length-1-r) (0,[])).2]) O O O O O qE4 O O) O O λ_ _=>?_
    change J _ _ _ [_,_,_,_,_,blk g8 [I (d.wait.getD (d.wait.length-1-r) (0,[])).1,Str (d.wait.getD (d.wait.length-1-r) (0,[])).2] 286] _
    refine J.e3 ?_
    refine J.A (hK8 _ _ ?_)
    refine J.O 3 4 5 8 ?_
    refine J.g4 ?_
    refine J.g3 (λK9 hK9=>?_)
    refine J.e2 ?_
    refine J.a3 0 qLa z3_ O O O O O<|J.c7 5 b3_ O O O O O<|J.c7 3 b3_ O O O O O<|J.f ((qAY O O O).as (v':= .bool (decide ((d.wait.getD (d.wait.length-1-r) (0,[])).1=iN))) (congrArg Value.bool (decide_eq_decide.2 (by omega)))) O<|J.e3 ?_
    refine J.A (J.H hK9 ?_)
    refine J.O 4 5 8 25 ?_
    refine J.h6 O (λh25=>?_) (λh25=>?_)
    ·
      refine J.g3 (λK10 hK10=>?_)
      refine J.e2 ?_
      refine J.a3 1 qLa z9_ O O O O O<|J.c7 5 b9_ O O O O O<|J.b0 (qAI (l:= [Str []]) (i:=0) (vs:= [Str (d.wait.getD (d.wait.length-1-r) (0,[])).2]) O O O O O z9_ O O) O O λ_ _=>?_
      change J _ _ _ [blk g4 [Str (d.wait.getD (d.wait.length-1-r) (0,[])).2] 9,_,_,_,_,_] _
      refine J.b0 (qAI (l:= [I 0]) (i:=1) (vs:= [I 0]) O O O O O qKK O O) O O λ_ _=>?_
      change J _ _ _ [_,_,_,_,_,_] _
      refine J.e3 ?_
      refine J.A (J.H hK10 ?_)
      refine J.c3 [] trivial<|J.i4 ?_
      refine J.b1<|J.c8 [0,1,2,3,4] [blk g4 [Str (d.wait.getD (d.wait.length-1-r) (0,[])).2] 9,blk g5 [I 0] 25,F,blk g3 [I i] 3,blk gB [.slice B d.wait.length e] 87] O (by decide) ?_
      exact hR8 _ ((d.wait.getD (d.wait.length-1-r) (0,[])).2,0) ⟨rfl,by rw [hnow,hsk,if_pos h25];rfl⟩
    refine J.i3 ?_
    refine J.a6<|J.c8 [0,1,2,3,4] [blk g4 [Str []] 9,blk g5 [I 0] 25,F,blk g3 [I i] 3,blk gB [.slice B d.wait.length e] 87] O (by decide) ?_
    exact hN8 _ ([],0) ⟨rfl,by rw [hnow,hsk,if_neg h25]⟩
  ·
    intro w8 x hx8 hI
    obtain ⟨x1,x2⟩:=x
    obtain ⟨hx,hnow⟩:=hI
    cases hx
    rw [Nat.sub_self,qID] at hnow
    change J _ _ _ [blk g4 [Str []] 9,blk g5 [I 0] 25,F,blk g3 [I i] 3,blk gB [.slice B d.wait.length e] 87] _
    refine J.a6<|J.A (J.H hK6 ?_)
    refine J.O 0 3 4 5 ?_
    refine J.j λK11 hK11=>J.c1 [blk g4 [Str []] 9,blk g5 [I 0] 25,F,blk g3 [I i] 3,blk gB [.slice B d.wait.length e] 87] [7,8] (.y 0 (.y 1 (.y 2 (.y 3 (.y 4 (.y 5 (.y 6 (.e 7 (.e 8 .nil))))))))) Tryz.wide (by decide+kernel) (by simp) ?_
    refine J.T ?_
    refine J.q O (qAC O O) O O<|J.q O (qAB (j:=0) O O qFB O qBf O) O O<|J.q O (qAJ O O qBo (m:=F) (by simp) (hc.at (i:=0) rfl)) rfl rfl<|J.q rfl (qAE 3 rfl rfl rfl b3_ rfl) rfl rfl<|J.q rfl (qAH (i:=iN) rfl rfl (by show some (I i)=_;rw [hiN]) qAe z9_ hL (by omega)) rfl rfl<|J.q rfl (qAJ rfl rfl b9_ (m:=F) (by simp) (hL.elem (qAQ (qAc [] (show iN<d.last.length by omega))))) rfl rfl<|J.d3 rfl (qAI (l:= [Str []]) (i:=0) (vs:= [Str (d.last.getD iN [])]) rfl rfl rfl rfl rfl z9_ rfl rfl) rfl rfl rfl λ_ _=>?_
    change J _ _ _ [blk g4 [Str (d.last.getD iN [])] 9,_,_,_,_] _
    refine J.d3 O (qAI (l:= [I 0]) (i:=1) (vs:= [I 0]) O O O O O qKK O O) O O O λ_ _=>?_
    change J _ _ _ [_,_,_,_,_] _
    refine J.b9<|J.A (J.H hK11 ?_)
    refine J.E 4 5 ?_
    exact J.D<|J.f6 hw0 hx8 (λ_ _ h=>h) (rv2 O (RV.blk1 0 O O b9_) (RV.blk1 1 O O qO1)) (qAn () (by rw [hrd,h0,hnow];rfl) trivial [2] rfl (by decide))
  intro w8 x c hx8 hS
  obtain ⟨rfl,rfl⟩:=hS
  change J _ _ _ [blk g4 [Str (d.now iN)] 9,blk g5 [I 0] 25,F,blk g3 [I i] 3,blk gB [.slice B d.wait.length e] 87] _
  exact J.D<|J.b1<|J.a4<|J.f6 hw0 hx8 (λ_ _ h=>h) (rv2 O (RV.blk1 0 O O b9_) (RV.blk1 1 O O qO1)) (qAn () (by rw [hrd,h0]) trivial [2] rfl (by decide))
theorem qOR(g i:Nat):qFl (some ⟨g,0,none⟩) i 1=⟨g,i,none⟩:=by rw [qIu];simp
theorem qN0(F mL:Hp)(g gL c n:Nat)(d:Dk)(B:Option Addr)(e:Nat)(C:Option Addr)(f:Nat)(L:List (List UInt8))(hc:qAL F ⟨g,0,none⟩ [.slice (some ⟨gL,0,none⟩) L.length c,.slice B d.wait.length e,.bool d.off,.bool d.armed,I d.fuse,.slice C d.keep.length f])
    (hr:Row mL 9 1 (some ⟨gL,0,none⟩) L.length c (qAG L)) (at_:Nat) (t:List UInt8) (hat:at_<L.length) (ht:n≤t.length) (ho:n≤(L.getD at_ []).length) (hs:t.length≤1048576) (hs2:(L.getD at_ []).length≤1048576) (hn3:L.length≤1073741824):
    Ct prog 239 [Ptr g,.agg #[I at_,Str t],I n] [mL,F] (λ_:Hp=> .tuple #[]) (λm=>Row m 9 1 (some ⟨gL,0,none⟩) L.length c (qAG (qJy L (at_,t) n))) (λm=> [m,F]):=by
  refine Ct.walk func239 rfl ntmps239 rfl (λw0 hw0=>?_)
  change J _ [(0,_),(1,_),(2,_)] _ _ _
  refine J.g λK1 hK1=>J.k (qAi O O (l:= [I at_,Str t]) O) O λg4 _=>?_
  change J _ _ _ [mL,F,blk g4 [I at_,Str t] 286] _
  refine J.c hK1<|J.G 0 2 4 ?_
  refine J.c1 [mL,F,blk g4 [I at_,Str t] 286] [22] (.y 0 (.y 1 (.y 2 (.y 3 (.y 4 (.y 5 (.y 6 (.y 7 (.y 8 (.y 9 (.y 10 (.y 11 (.y 12 (.y 13 (.y 14 (.y 15 (.y 16 (.y 17 (.y 18 (.y 19 (.y 20 (.y 21 (.e 22 .nil))))))))))))))))))))))) Tryz.wide (by decide+kernel) (by simp) ?_
  refine J.T ?_
  refine J.q O (qAC O O) O O<|J.q O (qAB (j:=0) O O qFB O qBf O) O O<|J.q O (qAJ O O qBo (m:=F) (by simp) (hc.at (i:=0) rfl)) rfl rfl<|J.q rfl (qAB (j:=0) rfl rfl qLa rfl z3_ rfl) rfl rfl<|J.q rfl (qAE 2 rfl rfl rfl b3_ rfl) rfl rfl<|J.q rfl (qAB (j:=1) rfl rfl qLa rfl z9_ rfl) rfl rfl<|J.q rfl (qAE 2 rfl rfl rfl b9_ rfl) rfl rfl<|J.T ?_
  refine J.q O ((qA1 (l:=0) (h:=n) u9_ O O O O ⟨by omega,by omega⟩).as (v':=Str (t.take n)) (congrArg Str List.drop_zero)) O O<|J.T ?_
  refine J.q O (qAC O O) O O<|J.q O (qAB (j:=0) O O qFB O qBf O) O O<|J.q O (qAJ O O qBo (m:=F) (by simp) (hc.at (i:=0) rfl)) rfl rfl<|J.q rfl (qAB (j:=0) rfl rfl qLa rfl z3_ rfl) rfl rfl<|J.q rfl (qAE 2 rfl rfl rfl b3_ rfl) rfl rfl<|J.q rfl (qAH (i:=at_) rfl rfl rfl qAe z9_ hr.sl (by omega)) rfl rfl<|J.q rfl (qAJ rfl rfl b9_ (m:=mL) (by simp) (v:=Str (L.getD at_ [])) (hr.sl.elem (qAQ (qAc [] hat)))) rfl rfl<|J.T ?_
  refine J.q O ((qA1 (l:=n) (h:=(L.getD at_ []).length) u9_ O O O O ⟨by omega,by omega⟩).as (v':=Str ((L.getD at_ []).drop n)) (by rw [List.take_length])) rfl rfl<|J.q rfl ((qA5 rfl rfl rfl (by simp only [List.length_take,List.length_drop];omega)).as (v':=Str (qTs (L.getD at_ []) t n)) rfl) rfl rfl<|J.q rfl (qAH (i:=at_) rfl rfl rfl qAe z9_ hr.sl (by omega)) rfl rfl<|J.d3 rfl (qBI (i:=0) (k:=at_) (off:=0) (b:= [Str (qTs (L.getD at_ []) t n)]) rfl (by show some _=some _;rw [qOR]) rfl rfl hr (vs:= [Str (qTs (L.getD at_ []) t n)]) rfl z9_ rfl (by omega) (qAQ (qAc [] hat)) rfl (by show _+1≤1;decide)) rfl rfl rfl ?_
  rintro m9 h9
  change J _ _ _ [m9,_,_] _
  exact J.b9<|J.e0 hw0 (λ_ _ h=>h) (qHr O) (qAn m9 O (by rw [qC0] at h9;exact h9) [0,1] rfl (by decide))
theorem qTV(F mL mW:Hp)(g:Nat)(d:Dk)(hok:d.ok0)(hn2:d.wait.length≤1073741824)(gL:Nat)(c:Nat)(B:Option Addr)(e:Nat)(C:Option Addr)(f:Nat)(hL:Row mL 9 1 (some ⟨gL,0,none⟩) d.last.length c (qAG d.last))(hW:Row mW 286 2 B d.wait.length e (qCZ d.wait))(K:List UInt8)(E:Option Addr)(q:Nat)(hK:Sl F 1 E K.length q (qAR K))(hKn:K.length≤9223372036854775807):
    Ct prog 251 [Ptr g,.slice E K.length q] [blk g [.slice (some ⟨gL,0,none⟩) d.last.length c,.slice B d.wait.length e,.bool d.off,.bool d.armed,I d.fuse,.slice C d.keep.length f] 89,mL,mW,F] (λ_:Hp=> .tuple #[]) (λm=>Row m 9 1 (some ⟨gL,0,none⟩) d.last.length c (qAG (qHg d.last d.wait K d.wait.length))) (λm=> [blk g [.slice (some ⟨gL,0,none⟩) d.last.length c,.slice none 0 0,.bool true,.bool false,I d.fuse,.slice C d.keep.length f] 89,m,F]):=by
  refine Ct.walk func251 rfl ntmps251 rfl (λw0 hw0=>?_)
  change J _ [(0,_),(1,_)] _ _ _
  refine J.j λK1 hK1=>J.g λK2 hK2=>J.b O<|J.f ((qA6 underlying24 O O O).as (v':= .bool false) O) O<|J.c hK2<|J.G 0 1 7 ?_
  refine J.a5 ?_
  refine J.W hK1<|J.E 0 1 ?_
  refine J.j λK3 hK3=>J.g λK4 hK4=>J.b O<|J.f (qAC O O) O<|J.a3 1 qFB qOw O O O O O<|J.c7 0 isAgg87 O O O O O<|J.f (qAP qPE O O) O<|J.b O<|J.c hK4<|J.a0 0 1 11 12 13 ?_
  refine J.V<|J.b6 (X:=Nat×Hp) (λx=> [(0,Ptr g),(1,.slice E K.length q),(11,.slice B d.wait.length e),(12,I d.wait.length),(13,I x.1)]) (λx=> [blk g [.slice (some ⟨gL,0,none⟩) d.last.length c,.slice B d.wait.length e,.bool d.off,.bool d.armed,I d.fuse,.slice C d.keep.length f] 89,x.2,mW,F]) (λx=>x.1≤d.wait.length∧Row x.2 9 1 (some ⟨gL,0,none⟩) d.last.length c (qAG (qHg d.last d.wait K x.1))) (λx=>d.wait.length-x.1) (0,mL) (⟨Nat.zero_le _,hL⟩) ⟨O,O,O,O,O,trivial⟩ (λ_ h=>h) ?_
  rintro⟨k,m⟩ ⟨hk,hr⟩ I0 hI0
  dsimp only at hk hr⊢
  refine J.g λK5 hK5=>J.f (qAT O O O) O<|J.c hK5<|J.b8 0 1 11 12 13 14 ?_
  refine J.j λK6 hK6=>J.a2 O (λh14=>?_) (λh14=>?_)
  ·
    refine J.W hK6<|J.a0 0 1 11 12 13 ?_
    refine J.j λK7 hK7=>J.V<|J.g λK8 hK8=>J.b O<|J.f (qAH (i:=k) O O O qPE qE4 hW.sl (by omega)) O<|J.f (qAd O O isAgg286 qE4 (m:=mW) (by simp) (vs:= [I (d.wait.getD k (0,[])).1,Str (d.wait.getD k (0,[])).2]) (hW.sl.elem (qE7 (by omega))) rfl) rfl<|J.k (qAN rfl zeroValue286 rfl) rfl λg5 _=>?_
    change J _ _ _ [blk g [.slice (some ⟨gL,0,none⟩) d.last.length c,.slice B d.wait.length e,.bool d.off,.bool d.armed,I d.fuse,.slice C d.keep.length f] 89,m,mW,F,blk g5 _ 286] _
    refine J.b O<|J.b0 (qAI (l:= [I 0,Str []]) (i:=4) (vs:= [I (d.wait.getD k (0,[])).1,Str (d.wait.getD k (0,[])).2]) O O O O O qE4 O O) O O λ_ _=>?_
    change J _ _ _ [_,_,_,_,blk g5 [I (d.wait.getD k (0,[])).1,Str (d.wait.getD k (0,[])).2] 286] _
    refine J.c hK8<|J.c2 0 1 4 5 11 12 13 ?_
    refine J.g λK9 hK9=>J.p 2 O<|J.f (qAP qBV O O) O<|J.f (qAT O O O) O<|J.c hK9<|J.d1 0 1 4 5 11 12 13 21 ?_
    refine J.a2 O (λh21=>?_) (λh21=>?_)
    ·
      have ⟨hw1,hw2⟩:=qQe hok.w64 (show k<d.wait.length by omega)
      have h64:=qTK (qHf hok.l64 hok.w64 (K:=K) k hk) (show(d.wait.getD k (0,[])).1<(qHg d.last d.wait K k).length by rw [qBB];exact hw1)
      obtain ⟨nk,hnk⟩: ∃nk,nk=min (K.getD k 0).toNat 64:=⟨_,rfl⟩
      refine J.c1 [blk g5 [I (d.wait.getD k (0,[])).1,Str (d.wait.getD k (0,[])).2] 286,F] [] (.y 0 (.y 1 (.y 2 (.y 3 (.y 4 (.y 5 (.y 6 (.y 7 (.e 8 .nil))))))))) Tryz.wide (by decide+kernel) (by simp) ?_
      refine J.T ?_
      refine J.q O (qAy 0 O O O isAgg286 qE4 O) O O<|J.T ?_
      refine J.T ?_
      refine J.q O (qAH (i:=k) O O O qBV z5_ hK (by omega)) O O<|J.q O (qAJ O O b5_ (m:=F) (by simp) (v:=B8 (K.getD k 0)) (hK.elem (qBL (qAc 0 (by omega))))) rfl rfl<|J.q rfl (qBZ rfl rfl u5_ u3_) rfl rfl<|J.q rfl ((qEU rfl rfl rfl).nat (nk) (by omega)) rfl rfl<|J.a9 rfl (qAA rfl rfl ent239 (Ct.use1 1 (m':=λx:Hp=>x) (new:=λ_=> []) rfl (λF' hF=>by have:=qN0 F' m g gL c nk d B e C f (qHg d.last d.wait K k) (by rw [qBB];exact qAL.blk0.mono (hF (blk g [.slice (some ⟨gL,0,none⟩) d.last.length c,.slice B d.wait.length e,.bool d.off,.bool d.armed,I d.fuse,.slice C d.keep.length f] 89) (by simp))) (by rw [qBB];exact hr) (d.wait.getD k (0,[])).1 (d.wait.getD k (0,[])).2 (by rw [qBB];exact hw1) (by omega) (by omega) (by omega) (by omega) (by rw [qBB];have:=hok.n1;omega);rw [qBB] at this;exact this))) rfl (by simp) ?_
      rintro m30 h30
      change J _ _ _ [_,m30,_,_,_] _
      refine J.c8 [0,1,2,3] [blk g [.slice (some ⟨gL,0,none⟩) d.last.length c,.slice B d.wait.length e,.bool d.off,.bool d.armed,I d.fuse,.slice C d.keep.length f] 89,m30,mW,F] O (by decide)<|J.b9<|J.a6<|J.A (J.H hK7 ?_)
      refine J.a0 0 1 11 12 13 ?_
      exact J.L<|J.f ((qAO O O O (by omega)).nat (k+1) (by omega)) O<|J.b O<|J.a7<|J.A<|J.a8 (k+1,m30) (λx (hx:_∧d.wait.length-x.1<d.wait.length-k)=>hI0 x hx.1 hx.2) ⟨⟨by dsimp only;omega,by dsimp only;rw [qHg,if_pos (by omega),←hnk];exact h30⟩,by dsimp only;omega⟩ ⟨rfl,rfl,rfl,rfl,rfl,trivial⟩ (λ_ h=>h)
    refine J.b7<|J.a6<|J.A (J.H hK7 ?_)
    refine J.a0 0 1 11 12 13 ?_
    exact J.L<|J.f ((qAO O O O (by omega)).nat (k+1) (by omega)) O<|J.b O<|J.a7<|J.A<|J.c8 [0,1,2,3] [blk g [.slice (some ⟨gL,0,none⟩) d.last.length c,.slice B d.wait.length e,.bool d.off,.bool d.armed,I d.fuse,.slice C d.keep.length f] 89,m,mW,F] O (by decide)<|J.a8 (k+1,m) (λx (hx:_∧d.wait.length-x.1<d.wait.length-k)=>hI0 x hx.1 hx.2) ⟨⟨by dsimp only;omega,by dsimp only;rw [qHg,if_neg (by omega)];exact hr⟩,by dsimp only;omega⟩ ⟨rfl,rfl,rfl,rfl,rfl,trivial⟩ (λ_ h=>h)
  refine J.b4<|J.a1<|J.a1<|J.b5 ?_
  refine J.A (J.H hK3 ?_)
  refine J.u 0 ?_
  have hkn:k=d.wait.length:=by omega
  subst hkn
  refine J.L<|J.p 3 O<|J.f (qAC O O) O<|J.a3 1 qFB qOw O O O O O<|J.b0 (qAZ (i:=0) (vs:= [.slice none 0 0]) O O O O O qOw O (by simp)) rfl rfl λ_ _=>?_
  change J _ _ _ [blk g [.slice (some ⟨gL,0,none⟩) d.last.length c,.slice none 0 0,.bool d.off,.bool d.armed,I d.fuse,.slice C d.keep.length f] 89,m,mW,F] _
  refine J.f (qAC O O) O<|J.a3 2 qFB z4_ O O O O O<|J.b0 (qAZ (i:=0) (vs:= [.bool true]) O O O O O z4_ O (by simp)) rfl rfl λ_ _=>?_
  change J _ _ _ [blk g [.slice (some ⟨gL,0,none⟩) d.last.length c,.slice none 0 0,.bool true,.bool d.armed,I d.fuse,.slice C d.keep.length f] 89,_,_,_] _
  refine J.f (qAC O O) O<|J.a3 3 qFB z4_ O O O O O<|J.b0 (qAZ (i:=0) (vs:= [.bool false]) O O O O O z4_ O (by simp)) rfl rfl λ_ _=>?_
  change J _ _ _ [blk g [.slice (some ⟨gL,0,none⟩) d.last.length c,.slice none 0 0,.bool true,.bool false,I d.fuse,.slice C d.keep.length f] 89,_,_,_] _
  exact J.a7<|J.e0 hw0 (λ_ _ h=>h) (qHr O) (qAn m O hr [0,1,3] O (by decide))
theorem Dsk.open{mm:Hp}{g:Nat}{d:Dk}{C:Option Addr}{f:Nat}(h:Dsk mm g d C f)(h0:0<d.last.length): ∃gL c mL B e mW,mm=U [blk g (d.cells (some ⟨gL,0,none⟩) c B e C f) 89,mL,mW]∧Djs [blk g (d.cells (some ⟨gL,0,none⟩) c B e C f) 89,mL,mW]∧Row mL 9 1 (some ⟨gL,0,none⟩) d.last.length c (qAG d.last)∧Row mW 286 2 B d.wait.length e (qCZ d.wait):=by
 obtain ⟨A,c,mL,B,e,mW,h1,h2,h3,h4⟩:=h
 obtain ⟨gL,rfl⟩:=h3.at h0
 exact⟨gL,c,mL,B,e,mW,h1,h2,h3,h4⟩
theorem qJI{a b:Hp}(h:Djs [a,b]):Djs [a,b,λ_=>none]:=by
 rw [qAS] at h⊢
 simp only [List.pairwise_cons,List.mem_cons,List.not_mem_nil,or_false] at h⊢
 refine⟨?_,λ_ _ _=> .inr (by rename_i h _;rw [h]),λ_ hm=>hm.elim,.nil⟩
 rintro m (rfl|rfl)
 · exact h.1 m rfl
 · exact λ_=> .inr rfl
theorem qTU{g:Nat}(d:Dk)(gL c:Nat)(C:Option Addr)(f:Nat)(m:Hp)(K:List UInt8)(hm:Row m 9 1 (some ⟨gL,0,none⟩) d.last.length c (qAG (qHg d.last d.wait K d.wait.length)))(hj:Djs [blk g [.slice (some ⟨gL,0,none⟩) d.last.length c,.slice none 0 0,.bool true,.bool false,I d.fuse,.slice C d.keep.length f] 89,m]):
    Dsk (U [blk g [.slice (some ⟨gL,0,none⟩) d.last.length c,.slice none 0 0,.bool true,.bool false,I d.fuse,.slice C d.keep.length f] 89,m]) g (d.cut K) C f:=by
  refine⟨some ⟨gL,0,none⟩,c,m,none,0,λ_=>none,?_,?_,?_,qBU.nil⟩
  · show U [blk g [.slice (some ⟨gL,0,none⟩) d.last.length c,.slice none 0 0,.bool true,.bool false,I d.fuse,.slice C d.keep.length f] 89,m]=U [blk g [.slice (some ⟨gL,0,none⟩) (qHg d.last d.wait K d.wait.length).length c,.slice none 0 0,.bool true,.bool false,I d.fuse,.slice C d.keep.length f] 89,m,λ_=>none]
    rw [qBB];rfl
  · show Djs [blk g [.slice (some ⟨gL,0,none⟩) (qHg d.last d.wait K d.wait.length).length c,.slice none 0 0,.bool true,.bool false,I d.fuse,.slice C d.keep.length f] 89,m,λ_=>none]
    rw [qBB];exact qJI hj
  · show Row m 9 1 (some ⟨gL,0,none⟩) (qHg d.last d.wait K d.wait.length).length c _
    rw [qBB];exact hm
theorem qOe(F mm:Hp)(g:Nat)(d:Dk)(C:Option Addr)(f:Nat)(hb:Dsk mm g d C f)(hok:d.ok)(hn2:d.wait.length≤1073741824)(hKp:Sl F 1 C d.keep.length f (qAR d.keep))(hn3:d.keep.length≤9223372036854775807):
    Ct prog 238 [Ptr g] [mm,F] (λ_:Hp=> .bool (decide d.burns)) (λm=>Dsk m g d.burn C f) (λm=> [m,F]):=by
  obtain ⟨gL,c,mL,B,e,mW,rfl,hd,hL,hW⟩:=hb.open hok.n0
  unfold Dk.cells at hd⊢
  refine Ct.walk func238 rfl ntmps238 rfl (λw0 hw0=>?_)
  change J _ [(0,_)] _ _ _
  refine J.h0 hd ?_
  change J _ _ _ [blk g [.slice (some ⟨gL,0,none⟩) d.last.length c,.slice B d.wait.length e,.bool d.off,.bool d.armed,I d.fuse,.slice C d.keep.length f] 89,mL,mW,F] _
  refine J.g λK1 hK1=>J.b O<|J.c hK1<|J.u 0 ?_
  refine J.j λK2 hK2=>J.g λK3 hK3=>J.b O<|J.f (qAC O O) O<|J.a3 3 qFB z4_ O O O O O<|J.f (qAE (v:= .bool d.armed) 0 O O O b4_ O) O<|J.f ((qAt O O).as (v':= .bool (decide (¬d.armed=true))) (congrArg Value.bool (by simp))) rfl<|J.c hK3<|J.E 0 7 ?_
  refine J.a2 O (λh7=>?_) (λh7=>?_)
  ·
    refine J.g λK4 hK4=>J.b O<|J.c hK4<|J.u 2 ?_
    exact J.D<|J.a4<|J.b2 hw0 (λ_ _ h=>h) (qIJ O O) (qD9 [blk g [.slice (some ⟨gL,0,none⟩) d.last.length c,.slice B d.wait.length e,.bool d.off,.bool d.armed,I d.fuse,.slice C d.keep.length f] 89,mL,mW] [F] (U [blk g [.slice (some ⟨gL,0,none⟩) d.last.length c,.slice B d.wait.length e,.bool d.off,.bool d.armed,I d.fuse,.slice C d.keep.length f] 89,mL,mW]) (congrArg Value.bool (decide_eq_false (λh=>h7 h.1)).symm) (λhd=>by rw [show d.burn=d from if_neg h7];exact⟨_,c,mL,B,e,mW,rfl,hd,hL,hW⟩) [0,1,2,3] rfl rfl (by decide))
  refine J.W hK2<|J.u 0 ?_
  refine J.j λK5 hK5=>?_
  have ha:d.armed=true:=by simpa using h7
  refine J.L<|J.b O<|J.f (qAC O O) O<|J.a3 4 qFB z3_ O O O O O<|J.c7 0 b3_ O O O O O<|J.f (qAw O O O (by have:=hok.fb;have:=hok.fz ha;omega)) O<|J.f (qAC O O) O<|J.a3 4 qFB z3_ O O O O O<|J.b0 (qAZ (i:=0) (vs:= [I (d.fuse-1)]) O O O O O z3_ O (by simp)) rfl rfl λ_ _=>?_
  change J _ _ _ [blk g [.slice (some ⟨gL,0,none⟩) d.last.length c,.slice B d.wait.length e,.bool d.off,.bool d.armed,I (d.fuse-1),.slice C d.keep.length f] 89,mL,mW,F] _
  refine J.c hK5<|J.u 0 ?_
  refine J.j λK6 hK6=>J.g λK7 hK7=>J.b O<|J.f (qAC O O) O<|J.a3 4 qFB z3_ O O O O O<|J.c7 0 b3_ O O O O O<|J.f (qBN O O O) O<|J.c hK7<|J.E 0 19 ?_
  refine J.a2 O (λh19=>?_) (λh19=>?_)
  ·
    refine J.g λK8 hK8=>J.b O<|J.c hK8<|J.u 2 ?_
    exact J.D<|J.a4<|J.b2 hw0 (λ_ _ h=>h) (qIJ O O) (qD9 [blk g [.slice (some ⟨gL,0,none⟩) d.last.length c,.slice B d.wait.length e,.bool d.off,.bool d.armed,I (d.fuse-1),.slice C d.keep.length f] 89,mL,mW] [F] (U [blk g [.slice (some ⟨gL,0,none⟩) d.last.length c,.slice B d.wait.length e,.bool d.off,.bool d.armed,I (d.fuse-1),.slice C d.keep.length f] 89,mL,mW]) (congrArg Value.bool (decide_eq_false (λh=>by have:=h.2;omega)).symm) (λhd=>by rw [show d.burn={d with fuse:=d.fuse-1} from by unfold Dk.burn;rw [if_pos ha,if_neg (by omega)]];exact⟨_,c,mL,B,e,mW,rfl,hd,hL,hW⟩) [0,1,2,3] rfl rfl (by decide))
  refine J.W hK6<|J.u 0 ?_
  refine J.g λK9 hK9=>J.p 2 O<|J.f (qAC O O) O<|J.a3 5 qFB qHq O O O O O<|J.c7 0 qMN O O O O O<|J.k (qAA O O ent251 ((qTV F mL mW g {d with fuse:=d.fuse-1} ⟨hok.l64,hok.w64,hok.n0,hok.n1⟩ hn2 gL c B e C f hL hW d.keep C f hKp hn3))) rfl ?_
  rintro m25 h25
  change J _ _ _ [blk g [.slice (some ⟨gL,0,none⟩) d.last.length c,.slice none 0 0,.bool true,.bool false,I (d.fuse-1),.slice C d.keep.length f] 89,m25,F] _
  refine J.c hK9<|J.c3 [] trivial<|J.g λK10 hK10=>J.b O<|J.c hK10<|J.u 2 ?_
  exact J.D<|J.b2 hw0 (λ_ _ h=>h) (qIJ O O) (qD9 [blk g [.slice (some ⟨gL,0,none⟩) d.last.length c,.slice none 0 0,.bool true,.bool false,I (d.fuse-1),.slice C d.keep.length f] 89,m25] [F] (U [blk g [.slice (some ⟨gL,0,none⟩) d.last.length c,.slice none 0 0,.bool true,.bool false,I (d.fuse-1),.slice C d.keep.length f] 89,m25]) (congrArg Value.bool (decide_eq_true (show d.burns from⟨ha,by omega⟩)).symm) (λhj=>by rw [show d.burn={d with fuse:=d.fuse-1}.cut d.keep from by unfold Dk.burn;rw [if_pos ha,if_pos (by omega)]];exact qTU {d with fuse:=d.fuse-1} gL c C f m25 d.keep h25 hj) [0,1,2] rfl rfl (by decide))
theorem qI0(F:Hp)(K:List (List UInt8))(E:Option Addr)(q:Nat)(hK:Sl F 1 E K.length q (qAG K))(hn:K.length≤1073741824):
    Ct prog 95 [.slice E K.length q] [F] (λx:Option Addr×Nat×Hp=> .slice x.1 K.length x.2.1) (λx=>Row x.2.2 9 1 x.1 K.length x.2.1 (qAG K)) (λx=> [F,x.2.2]):=by
  refine Ct.walk func95 rfl ntmps95 rfl (λw0 hw0=>?_)
  change J _ [(0,_)] _ _ _
  refine J.g λK1 hK1=>J.b O<|J.c hK1<|J.u 0 ?_
  refine J.j λK2 hK2=>J.g λK3 hK3=>J.b O<|J.f ((qEl qAe O O O).as (v':= .bool (decide (E.isNone=true))) (congrArg Value.bool (by cases E<;>rfl))) rfl<|J.c hK3<|J.E 0 4 ?_
  refine J.a2 O (λh4=>?_) (λh4=>?_)
  ·
    refine J.j λK4 hK4=>?_
    have hnil:K= []:=by
      cases K with
      |nil=>rfl
      |cons a r=>
        obtain ⟨_,ad,hA,_⟩:=hK.2.2 0 _ rfl
        rw [hA] at h4;cases h4
    refine J.d5 [0,1] [F,λ_=>none] O (by decide)<|J.L<|J.b O<|J.c hK4<|J.u 2 ?_
    exact J.D<|J.a4<|J.M hw0 O (none,0,λ_=>none) (by rw [hnil];rfl) (by rw [hnil];exact qBU.nil) [0,1] rfl (by decide)
  refine J.W hK2<|J.u 0 ?_
  refine J.g λK5 hK5=>J.k (qBj O qAe el9) O λg5 _=>?_
  change J _ _ _ [F,blk g5 [] 9] _
  refine J.b O<|J.k (qAW (i:=1) (m2:=F) (xs:= []) (ys:=qAG K) O O O qAe qAe el9 O (qAk (q:=True) (xs:= []) O (by simp)) (by simp) hK (by simp [qAG,Value.oneCell']) (by omega) (by omega)) rfl ?_
  rintro⟨A7,c7,m7⟩ h7
  try dsimp only at h7
  change J _ ((7,.slice A7 (0+K.length) c7)::_) _ [_,m7] _
  refine J.b O<|J.c hK5<|J.u 2 ?_
  exact J.D<|J.M hw0 O (A7,c7,m7) (by rw [Nat.zero_add]) (by rw [Nat.zero_add] at h7;exact h7) [0,1] rfl (by decide)
theorem qPA(F mm:Hp)(g:Nat)(d:Dk)(C:Option Addr)(f:Nat)(hb:Dsk mm g d C f)(hok:d.ok)(hn2:d.wait.length≤1073741824)(hKp:Sl F 1 C d.keep.length f (qAR d.keep))(hn3:d.keep.length≤9223372036854775807)(i:Int)(s:List UInt8)(hs:s.length≤1048576):
    Ct prog 206 [Ptr g,I i,Str s] [mm,F] (λ_:Hp=>I (d.wErr i s)) (λm=>Dsk m g (d.write i s) C f) (λm=> [m,F]):=by
  obtain ⟨A0,c0,B0,e0,hc,hsL,hsW⟩:=hb.see
  have hn1:=hok.n1
  refine Ct.walk func206 rfl ntmps206 rfl (λw0 hw0=>?_)
  change J _ [(0,_),(1,_),(2,_)] _ _ _
  refine J.g λK1 hK1=>J.b O<|J.c hK1<|J.G 0 1 2 ?_
  refine J.g λK2 hK2=>J.p 2 O<|J.k (qAA O O ent197 (Ct.use0 (λF' hF=>qHA F' g d A0 c0 B0 e0 C f (hc.mono (hF mm (by simp))) i (by omega)))) rfl λg10 _=>J.b rfl<|J.c hK2<|J.O 0 1 2 7 ?_
  refine J.j λK3 hK3=>J.V<|J.g λK4 hK4=>J.b O<|J.f (qAb O O O) O<|J.b O<|J.c hK4<|J.a0 0 1 2 7 11 ?_
  refine J.a2 O (λh11=>?_) (λh11=>?_)
  ·
    refine J.g λK5 hK5=>J.p 2 O<|J.c hK5<|J.u 6 ?_
    exact J.D<|J.b1<|J.a4<|J.M hw0 O mm (congrArg I (by unfold Dk.wErr;rw [if_pos (by omega)])) (by rw [show d.write i s=d from if_pos (by omega)];exact hb) [0,1] rfl (by decide)
  refine J.g λK6 hK6=>J.b O<|J.f (qAl u9_ O O) O<|J.f (qAz O O O) O<|J.b O<|J.c hK6<|J.O 0 1 2 15 ?_
  refine J.a2 O (λh15=>?_) (λh15=>?_)
  ·
    refine J.g λK7 hK7=>J.b O<|J.c hK7<|J.u 6 ?_
    exact J.D<|J.b1<|J.a4<|J.M hw0 O mm (congrArg I (by unfold Dk.wErr;rw [if_neg (by omega),if_pos (by omega)])) (by rw [show d.write i s=d from by unfold Dk.write;rw [if_neg (by omega),if_pos (by omega)]];exact hb) [0,1] rfl (by decide)
  refine J.g λK8 hK8=>J.b O<|J.k (qAA O O ent238 (Ct.use1 0 (m':=λx:Hp=>x) (new:=λ_=> []) O (λF' hF=>qOe F' mm g d C f hb hok hn2 (hKp.mono (hF F (by simp))) hn3))) rfl ?_
  rintro m21 h21
  change J _ _ _ [m21,F] _
  refine J.b O<|J.c hK8<|J.O 0 1 2 19 ?_
  refine J.a2 O (λh19=>?_) (λh19=>?_)
  ·
    refine J.g λK9 hK9=>J.b O<|J.c hK9<|J.u 6 ?_
    exact J.D<|J.b1<|J.a4<|J.M hw0 O m21 (congrArg I (by unfold Dk.wErr;rw [if_neg (by omega),if_neg (by omega),if_pos h19])) (by rw [show d.write i s=d.burn from by unfold Dk.write;rw [if_neg (by omega),if_neg (by omega),if_pos h19]];exact h21) [0,1] rfl (by decide)
  refine J.b7<|J.a6<|J.A (J.H hK3 ?_)
  refine J.G 0 1 2 ?_
  refine J.j λK10 hK10=>?_
  have h0:d.ready i=0:=by omega
  obtain ⟨hi0,hil,_⟩:=qKg h0
  obtain ⟨iN,hiN⟩:=Int.eq_ofNat_of_zero_le hi0
  have hnb: ¬d.burns:=h19
  obtain ⟨x,hx⟩: ∃x,x=d.burn:=⟨_,rfl⟩
  rw [←hx] at h21
  have hxo:x.ok:=hx▸hok.burn
  have hxw:x.wait=d.wait:=hx▸(qC9 hnb).2.1
  have hxl:x.last=d.last:=hx▸(qC9 hnb).1
  obtain ⟨gL,c,mL,B,e,mW,rfl,hd,hL,hW⟩:=h21.open hxo.n0
  unfold Dk.cells at hd⊢
  refine J.h0 hd ?_
  change J _ _ _ [blk g [.slice (some ⟨gL,0,none⟩) x.last.length c,.slice B x.wait.length e,.bool x.off,.bool x.armed,I x.fuse,.slice C x.keep.length f] 89,mL,mW,F] _
  refine J.c1 [blk g [.slice (some ⟨gL,0,none⟩) x.last.length c,.slice B x.wait.length e,.bool x.off,.bool x.armed,I x.fuse,.slice C x.keep.length f] 89] [17] (.y 0 (.y 1 (.y 2 (.y 3 (.y 4 (.y 5 (.y 6 (.y 7 (.y 8 (.y 9 (.e 10 (.y 11 (.y 12 (.e 13 (.e 14 (.y 15 (.y 16 (.e 17 .nil)))))))))))))))))) Tryz.wide (by decide+kernel) (by simp) ?_
  refine J.T ?_
  refine J.T ?_
  refine J.q O (qAC O O) O O<|J.q O (qAB (j:=1) O O qFB O qOw O) O O<|J.q O (qAE 0 O O O isAgg87 O) O O<|J.q O ((qAx O O).as (v':=I (iN:Int)) (congrArg I hiN)) O O<|J.T ?_
  refine J.T ?_
  refine J.q O (qAl u9_ O O) O O<|J.q O ((qAw O O O (by omega)).nat (64-s.length) (by omega)) O O<|J.a9 O (qAA O O ent26 (Ct.use0 (λF' hF=>qEA F' (64-s.length) (by omega)))) O (by simp) λg32 _=>J.q rfl ((qA5 rfl rfl rfl (by simp only [List.length_replicate];omega)).as (v':=Str (qLD s)) rfl) rfl rfl<|J.q rfl (qAM (l:= [(0,.tmp 27),(1,.tmp 33)]) (vs:= [I (iN:Int),Str (qLD s)]) (places:= [(0,1),(1,1)]) (r:= [I (iN:Int),Str (qLD s)]) rfl rfl rfl qLa zeroValue286 (λ_=>by kernel_rfl) rfl) rfl rfl<|J.a9 rfl (qAF (l:= [.tmp 34]) (xs:= [[I (iN:Int),Str (qLD s)]]) rfl rfl rfl rfl qPE el286 rfl (by decide) (by decide) (by simp)) rfl (by simp) λg35 _=>?_
  change J _ _ _ [_,_,_,_,blk g35 [I (iN:Int),Str (qLD s)] 286] _
  refine J.a9 O (qAW (i:=2) (m2:=blk g35 [I (iN:Int),Str (qLD s)] 286) (ys:=qCZ [(iN,qLD s)]) O O O qPE qPE el286 O hW (by simp) ((qAk (q:=True) (xs:=qCZ [(iN,qLD s)]) rfl (by simp [qCZ])).sl) (qMS _) (by rw [hxw];omega) (by rw [hxw];omega)) rfl (by simp) ?_
  rintro⟨A36,c36,m36⟩ h36
  try dsimp only at h36
  change J _ ((36,.slice A36 (x.wait.length+1) c36)::_) _ [_,_,m36,_,_] _
  refine J.q O (qAC O O) O O<|J.q O (qAB (j:=1) O O qFB O qOw O) O O<|J.d3 O (qAZ (i:=0) (vs:= [.slice A36 (x.wait.length+1) c36]) O O O O O qOw O (by simp)) rfl rfl rfl λ_ _=>?_
  change J _ _ _ [blk g [.slice (some ⟨gL,0,none⟩) x.last.length c,.slice A36 (x.wait.length+1) c36,.bool x.off,.bool x.armed,I x.fuse,.slice C x.keep.length f] 89,_,_,_,_] _
  refine J.b9<|J.A (J.H hK10 ?_)
  refine J.c3 [] trivial<|J.g λK11 hK11=>J.b O<|J.c hK11<|J.u 6 ?_
  exact J.D<|J.b2 hw0 (λ_ _ h=>h) (qIJ O O) (qD9 [blk g [.slice (some ⟨gL,0,none⟩) x.last.length c,.slice A36 (x.wait.length+1) c36,.bool x.off,.bool x.armed,I x.fuse,.slice C x.keep.length f] 89,mL,m36] [F] (U [blk g [.slice (some ⟨gL,0,none⟩) x.last.length c,.slice A36 (x.wait.length+1) c36,.bool x.off,.bool x.armed,I x.fuse,.slice C x.keep.length f] 89,mL,m36]) (congrArg I (by unfold Dk.wErr;rw [if_neg (by omega),if_neg (by omega),if_neg hnb])) (λhd=>by rw [show d.write i s={x with wait:=x.wait++ [(iN,qLD s)]} from by unfold Dk.write;rw [if_neg (by omega),if_neg (by omega),if_neg hnb,←hx,hiN];rfl];refine⟨_,c,mL,A36,c36,m36,?_,?_,hL,?_⟩<;>(try unfold Dk.cells)<;>rw [List.length_append]<;>first|rfl|exact hd|(rw [qMT];exact h36)) [0,1,2,3] rfl rfl (by decide))
theorem qPL{g:Nat}(x:Dk)(gL c:Nat)(C:Option Addr)(f:Nat)(m:Hp)(hm:Row m 9 1 (some ⟨gL,0,none⟩) x.last.length c (qAG (qCe x.last x.wait x.wait.length)))(hj:Djs [blk g [.slice (some ⟨gL,0,none⟩) x.last.length c,.slice none 0 0,.bool x.off,.bool x.armed,I x.fuse,.slice C x.keep.length f] 89,m]):
    Dsk (U [blk g [.slice (some ⟨gL,0,none⟩) x.last.length c,.slice none 0 0,.bool x.off,.bool x.armed,I x.fuse,.slice C x.keep.length f] 89,m]) g {x with last:=qCe x.last x.wait x.wait.length,wait:= []} C f:=by
  refine⟨some ⟨gL,0,none⟩,c,m,none,0,λ_=>none,?_,?_,?_,qBU.nil⟩
  · show U [blk g [.slice (some ⟨gL,0,none⟩) x.last.length c,.slice none 0 0,.bool x.off,.bool x.armed,I x.fuse,.slice C x.keep.length f] 89,m]=U [blk g [.slice (some ⟨gL,0,none⟩) (qCe x.last x.wait x.wait.length).length c,.slice none 0 0,.bool x.off,.bool x.armed,I x.fuse,.slice C x.keep.length f] 89,m,λ_=>none]
    rw [qA8];rfl
  · show Djs [blk g [.slice (some ⟨gL,0,none⟩) (qCe x.last x.wait x.wait.length).length c,.slice none 0 0,.bool x.off,.bool x.armed,I x.fuse,.slice C x.keep.length f] 89,m,λ_=>none]
    rw [qA8];exact qJI hj
  · show Row m 9 1 (some ⟨gL,0,none⟩) (qCe x.last x.wait x.wait.length).length c _
    rw [qA8];exact hm
theorem qR0(F mm:Hp)(g:Nat)(d:Dk)(C:Option Addr)(f:Nat)(hb:Dsk mm g d C f)(hok:d.ok)(hn2:d.wait.length≤1073741824)(hKp:Sl F 1 C d.keep.length f (qAR d.keep))(hn3:d.keep.length≤9223372036854775807):
    Ct prog 208 [Ptr g] [mm,F] (λ_:Hp=>I d.sErr) (λm=>Dsk m g d.sync C f) (λm=> [m,F]):=by
  obtain ⟨A0,c0,B0,e0,hc,hsL,hsW⟩:=hb.see
  have hn1:=hok.n1
  refine Ct.walk func208 rfl ntmps208 rfl (λw0 hw0=>?_)
  change J _ [(0,_)] _ _ _
  refine J.g λK1 hK1=>J.b O<|J.c hK1<|J.u 0 ?_
  refine J.j λK2 hK2=>J.g λK3 hK3=>J.b O<|J.k (qAA O O ent197 (Ct.use0 (λF' hF=>qHA F' g d A0 c0 B0 e0 C f (hc.mono (hF mm (by simp))) 0 (by omega)))) rfl λg7 _=>J.b rfl<|J.c hK3<|J.E 0 3 ?_
  refine J.g λK4 hK4=>J.b O<|J.f (qAb O O O) O<|J.c hK4<|J.G 0 3 9 ?_
  refine J.a2 O (λh9=>?_) (λh9=>?_)
  ·
    refine J.g λK5 hK5=>J.p 2 O<|J.c hK5<|J.u 2 ?_
    exact J.D<|J.a4<|J.M hw0 O mm (congrArg I (by unfold Dk.sErr;rw [if_pos (by omega)])) (by rw [show d.sync=d from if_pos (by omega)];exact hb) [0,1] rfl (by decide)
  refine J.W hK2<|J.u 0 ?_
  refine J.j λK6 hK6=>J.g λK7 hK7=>J.b O<|J.k (qAA O O ent238 (Ct.use1 0 (m':=λx:Hp=>x) (new:=λ_=> []) O (λF' hF=>qOe F' mm g d C f hb hok hn2 (hKp.mono (hF F (by simp))) hn3))) rfl ?_
  rintro m12 h12
  change J _ _ _ [m12,F] _
  refine J.c hK7<|J.E 0 12 ?_
  refine J.a2 O (λh12c=>?_) (λh12c=>?_)
  ·
    refine J.g λK8 hK8=>J.b O<|J.c hK8<|J.u 2 ?_
    exact J.D<|J.a4<|J.M hw0 O m12 (congrArg I (by unfold Dk.sErr;rw [if_neg (by omega),if_pos h12c])) (by rw [show d.sync=d.burn from by unfold Dk.sync;rw [if_neg (by omega),if_pos h12c]];exact h12) [0,1] rfl (by decide)
  refine J.W hK6<|J.u 0 ?_
  refine J.j λK9 hK9=>J.j λK10 hK10=>?_
  have h0:d.ready 0=0:=by omega
  have hnb: ¬d.burns:=h12c
  obtain ⟨x,hx⟩: ∃x,x=d.burn:=⟨_,rfl⟩
  rw [←hx] at h12
  have hxo:x.ok:=hx▸hok.burn
  have hxw:x.wait=d.wait:=hx▸(qC9 hnb).2.1
  have hxl:x.last=d.last:=hx▸(qC9 hnb).1
  obtain ⟨gL,c,mL,B,e,mW,rfl,hd,hL,hW⟩:=h12.open hxo.n0
  unfold Dk.cells at hd⊢
  refine J.h0 hd ?_
  change J _ _ _ [blk g [.slice (some ⟨gL,0,none⟩) x.last.length c,.slice B x.wait.length e,.bool x.off,.bool x.armed,I x.fuse,.slice C x.keep.length f] 89,mL,mW,F] _
  have hxn:x.wait.length≤1073741824:=by rw [hxw];exact hn2
  refine J.L<|J.b O<|J.f (qAC O O) O<|J.a3 1 qFB qOw O O O O O<|J.c7 0 isAgg87 O O O O O<|J.f (qAP qPE O O) O<|J.b O<|J.c hK10<|J.O 0 16 17 18 ?_
  refine J.V<|J.b6 (X:=Nat×Hp) (λy=> [(0,Ptr g),(16,.slice B x.wait.length e),(17,I x.wait.length),(18,I y.1)]) (λy=> [blk g [.slice (some ⟨gL,0,none⟩) x.last.length c,.slice B x.wait.length e,.bool x.off,.bool x.armed,I x.fuse,.slice C x.keep.length f] 89,y.2,mW,F]) (λy=>y.1≤x.wait.length∧Row y.2 9 1 (some ⟨gL,0,none⟩) x.last.length c (qAG (qCe x.last x.wait y.1))) (λy=>x.wait.length-y.1) (0,mL) (⟨Nat.zero_le _,hL⟩) ⟨O,O,O,O,trivial⟩ (λ_ h=>h) ?_
  rintro⟨k,m⟩ ⟨hk,hr⟩ I0 hI0
  dsimp only at hk hr⊢
  refine J.g λK11 hK11=>J.f (qAT O O O) O<|J.c hK11<|J.a0 0 16 17 18 19 ?_
  refine J.j λK12 hK12=>J.a2 O (λh19=>?_) (λh19=>?_)
  ·
    refine J.W hK12<|J.O 0 16 17 18 ?_
    refine J.j λK13 hK13=>J.V<|J.g λK14 hK14=>J.f (qAH (i:=k) O O O qPE qE4 hW.sl (by omega)) O<|J.f (qAd O O isAgg286 qE4 (m:=mW) (by simp) (vs:= [I (x.wait.getD k (0,[])).1,Str (x.wait.getD k (0,[])).2]) (hW.sl.elem (qE7 (by omega))) rfl) rfl<|J.k (qAN rfl zeroValue286 rfl) rfl λg5 _=>?_
    change J _ _ _ [blk g [.slice (some ⟨gL,0,none⟩) x.last.length c,.slice B x.wait.length e,.bool x.off,.bool x.armed,I x.fuse,.slice C x.keep.length f] 89,m,mW,F,blk g5 _ 286] _
    refine J.b0 (qAI (l:= [I 0,Str []]) (i:=4) (vs:= [I (x.wait.getD k (0,[])).1,Str (x.wait.getD k (0,[])).2]) O O O O O qE4 O O) O O λ_ _=>?_
    change J _ _ _ [_,_,_,_,blk g5 [I (x.wait.getD k (0,[])).1,Str (x.wait.getD k (0,[])).2] 286] _
    refine J.c hK14<|J.a0 0 5 16 17 18 ?_
    have ⟨hw1,hw2⟩:=qQe hxo.w64 (show k<x.wait.length by omega)
    have h64:=qTK (qG2 hxo.l64 hxo.w64 k hk) (show(x.wait.getD k (0,[])).1<(qCe x.last x.wait k).length by rw [qA8];exact hw1)
    refine J.L<|J.b O<|J.c9 4 isAgg286 qE4 O O O O O<|J.k (qAA O O ent239 (Ct.use1 1 (m':=λx:Hp=>x) (new:=λ_=> []) O (λF' hF=>by have:=qN0 F' m g gL c 64 x B e C f (qCe x.last x.wait k) (by rw [qA8];exact qAL.blk0.mono (hF (blk g [.slice (some ⟨gL,0,none⟩) x.last.length c,.slice B x.wait.length e,.bool x.off,.bool x.armed,I x.fuse,.slice C x.keep.length f] 89) (by simp))) (by rw [qA8];exact hr) (x.wait.getD k (0,[])).1 (x.wait.getD k (0,[])).2 (by rw [qA8];exact hw1) (by omega) (by omega) (by omega) (by omega) (by rw [qA8];have:=hxo.n1;omega);rw [qA8] at this;exact this))) rfl ?_
    rintro m24 h24
    change J _ _ _ [_,m24,_,_,_] _
    refine J.c8 [0,1,2,3] [blk g [.slice (some ⟨gL,0,none⟩) x.last.length c,.slice B x.wait.length e,.bool x.off,.bool x.armed,I x.fuse,.slice C x.keep.length f] 89,m24,mW,F] O (by decide)<|J.a7<|J.a6<|J.A (J.H hK13 ?_)
    refine J.O 0 16 17 18 ?_
    exact J.L<|J.f ((qAO O O O (by omega)).nat (k+1) (by omega)) O<|J.b O<|J.a7<|J.A<|J.a8 (k+1,m24) (λy (hy:_∧x.wait.length-y.1<x.wait.length-k)=>hI0 y hy.1 hy.2) ⟨⟨by dsimp only;omega,h24⟩,by dsimp only;omega⟩ ⟨O,O,O,O,trivial⟩ (λ_ h=>h)
  refine J.b4<|J.a1<|J.a1<|J.b5 ?_
  refine J.A (J.H hK9 ?_)
  refine J.u 0 ?_
  refine J.j λK15 hK15=>?_
  have hkn:k=x.wait.length:=by omega
  subst hkn
  refine J.L<|J.b O<|J.f (qAC O O) O<|J.a3 1 qFB qOw O O O O O<|J.b0 (qAZ (i:=0) (vs:= [.slice none 0 0]) O O O O O qOw O (by simp)) rfl rfl λ_ _=>?_
  change J _ _ _ [blk g [.slice (some ⟨gL,0,none⟩) x.last.length c,.slice none 0 0,.bool x.off,.bool x.armed,I x.fuse,.slice C x.keep.length f] 89,m,mW,F] _
  refine J.c hK15<|J.c3 [] trivial<|J.g λK16 hK16=>J.b O<|J.c hK16<|J.u 2 ?_
  exact J.D<|J.b2 hw0 (λ_ _ h=>h) (qIJ O O) (qD9 [blk g [.slice (some ⟨gL,0,none⟩) x.last.length c,.slice none 0 0,.bool x.off,.bool x.armed,I x.fuse,.slice C x.keep.length f] 89,m] [F] (U [blk g [.slice (some ⟨gL,0,none⟩) x.last.length c,.slice none 0 0,.bool x.off,.bool x.armed,I x.fuse,.slice C x.keep.length f] 89,m]) (congrArg I (by unfold Dk.sErr;rw [if_neg (by omega),if_neg hnb])) (λhj=>by rw [show d.sync={x with last:=qCe x.last x.wait x.wait.length,wait:= []} from by unfold Dk.sync;rw [if_neg (by omega),if_neg hnb,←hx]];exact qPL x gL c C f m hr hj) [0,1,3] rfl rfl (by decide))
theorem qLe(n:Nat):List.replicate n [Str []]=qAG (List.replicate n []):=by simp [qAG]
theorem qSO{n k:Nat}(a b:List UInt8)(h:k<n):(List.replicate k a++List.replicate (n-k) b).set k a=List.replicate (k+1) a++List.replicate (n-(k+1)) b:=by
 rw [List.set_append_right _ _ (by rw [List.length_replicate];exact Nat.le_refl _),List.length_replicate,Nat.sub_self,show n-k=(n-(k+1))+1 by omega,List.replicate_succ,List.set_cons_zero,List.replicate_succ',List.append_assoc];rfl
theorem qSP{n k:Nat}(a b:List UInt8)(h:k≤n):(List.replicate k a++List.replicate (n-k) b).length=n:=by rw [List.length_append,List.length_replicate,List.length_replicate];omega
theorem qSu(k g g13:Nat)(m:Hp)(hr:Row m 9 1 (some ⟨g13,0,none⟩) k k (qAG (List.replicate k (List.replicate 64 (0:UInt8)))))(hj:Djs [blk g [.slice (some ⟨g13,0,none⟩) k k,.slice none 0 0,.bool false,.bool false,I 0,.slice none 0 0] 89,m,λ_=>none]):Dsk (U [blk g [.slice (some ⟨g13,0,none⟩) k k,.slice none 0 0,.bool false,.bool false,I 0,.slice none 0 0] 89,m,λ_=>none]) g (Dk.new k) none 0:=by
 have hl:(Dk.new k).last.length=k:=List.length_replicate
 refine⟨some ⟨g13,0,none⟩,k,m,none,0,λ_=>none,?_,?_,?_,qBU.nil⟩
 · unfold Dk.cells;rw [hl];rfl
 · unfold Dk.cells;rw [hl];exact hj
 · rw [hl];exact hr
theorem qUK(F:Hp)(i:Int):Ct prog 6 [I i] [F] (λx:Option (Nat×Hp)=>match x with|none=> .tuple #[.pointer none,I 1]|some y=> .tuple #[Ptr y.1,I 0]) (λx=>match x with|none=>i<4∨1024<i|some y=>(4≤i∧i≤1024)∧Dsk y.2 y.1 (Dk.new i.toNat) none 0) (λx=>match x with|none=> [F]|some y=> [y.2,F]):=by
 refine Ct.walk func6 rfl ntmps6 rfl (λw0 hw0=>?_)
 change J _ [(0,_)] _ _ _
 refine J.g λK1 hK1=>J.p 2 O<|J.c hK1<|J.u 0 ?_
 refine J.j λK2 hK2=>J.g λK3 hK3=>J.b O<|J.f (qAT O O O) O<|J.b O<|J.c4 (d:=8) O (λh8=>?_) (λh8=>?_)
 ·
  refine J.p 3 O<|J.c hK3<|J.E 0 11 ?_
  refine J.d0 ?_
  refine J.g λK4 hK4=>J.p 2 O<|J.c hK4<|J.E 2 3 ?_
  exact J.D<|J.a4<|J.b2 hw0 (λ_ _ h=>h) (qB2 O O O) (qAn none O (by show i<4∨1024<i;omega) [0] O (by decide))
 refine J.b O<|J.Z (qAz O O O) O<|J.b O<|J.c hK3<|J.E 0 11 ?_
 refine J.a2 O (λh11=>?_) (λh11=>?_)
 ·
  refine J.g λK5 hK5=>J.p 2 O<|J.c hK5<|J.E 2 3 ?_
  exact J.D<|J.a4<|J.b2 hw0 (λ_ _ h=>h) (qB2 O O O) (qAn none O (by show i<4∨1024<i;omega) [0] O (by decide))
 refine J.W hK2<|J.u 0 ?_
 refine J.j λK6 hK6=>?_
 obtain ⟨n,hn⟩:=Int.eq_ofNat_of_zero_le (show 0≤i by omega)
 refine J.L<|J.b O<|J.k (qC2 (n':=n) O (by show some (I i)=_;rw [hn]) qAe el9 (by omega) (by omega)) rfl λg13 _=>?_
 change J _ _ _ [F,blk g13 (List.replicate n [Str []]).flatten 9] _
 refine J.f (qAM (l:= [(0,.tmp 13)]) (vs:= [.slice (some ⟨g13,0,none⟩) n n]) (places:= [(0,1),(1,1),(2,1),(3,1),(4,1),(5,1)]) (r:= [.slice (some ⟨g13,0,none⟩) n n,.slice none 0 0,.bool false,.bool false,I 0,.slice none 0 0]) O O O qFB zeroValue89 (λ_=>by kernel_rfl) O) O<|J.k (qAi O O (l:= [.slice (some ⟨g13,0,none⟩) n n,.slice none 0 0,.bool false,.bool false,I 0,.slice none 0 0]) O) O ?_
 rintro g15 _
 change J _ _ _ [_,_,blk g15 [.slice (some ⟨g13,0,none⟩) n n,.slice none 0 0,.bool false,.bool false,I 0,.slice none 0 0] 89] _
 refine J.b O<|J.c hK6<|J.u 4 ?_
 refine J.j λK7 hK7=>J.g λK8 hK8=>J.b O<|J.f (qAC O O) O<|J.a3 0 qFB qBf O O O O O<|J.c7 2 qBo O O O O O<|J.f (qAP qAe O O) O<|J.b O<|J.c hK8<|J.G 4 20 21 ?_
 refine J.V<|J.b6 (X:=Nat×Hp) (λx=> [(4,Ptr g15),(20,I n),(21,I x.1)]) (λx=> [F,x.2,blk g15 [.slice (some ⟨g13,0,none⟩) n n,.slice none 0 0,.bool false,.bool false,I 0,.slice none 0 0] 89]) (λx=>x.1≤n∧Row x.2 9 1 (some ⟨g13,0,none⟩) n n (qAG (List.replicate x.1 (List.replicate 64 (0:UInt8))++List.replicate (n-x.1) []))) (λx=>n-x.1) (0,blk g13 (List.replicate n [Str []]).flatten 9) (⟨Nat.zero_le _,by dsimp only;rw [List.replicate_zero,List.nil_append,Nat.sub_zero,←qLe];exact qPg⟩) ⟨rfl,rfl,rfl,trivial⟩ (λ_ h=>h) ?_
 rintro⟨k,m⟩ ⟨hk,hr⟩ I0 hI0
 dsimp only at hk hr⊢
 refine J.g λK9 hK9=>J.f (qAT O O O) O<|J.c hK9<|J.O 4 20 21 22 ?_
 refine J.j λK10 hK10=>J.a2 O (λh22=>?_) (λh22=>?_)
 ·
  refine J.W hK10<|J.G 4 20 21 ?_
  refine J.j λK11 hK11=>J.V<|J.g λK12 hK12=>J.p 2 O<|J.c hK12<|J.O 4 5 20 21 ?_
  refine J.c1 [blk g15 [.slice (some ⟨g13,0,none⟩) n n,.slice none 0 0,.bool false,.bool false,I 0,.slice none 0 0] 89] [7] (.y 0 (.y 1 (.y 2 (.y 3 (.y 4 (.e 5 (.y 6 (.e 7 .nil)))))))) Tryz.wide (by decide+kernel) (by simp) ?_
  refine J.T ?_
  refine J.q O (qAC O O) O O<|J.q O (qAB (j:=0) O O qFB O qBf O) O O<|J.q O (qAE 0 O O O qBo O) O O<|J.T ?_
  refine J.a9 O (qAA O O ent26 (Ct.use0 (λF' hF=>qEA F' 64 (by decide)))) O (by simp) λg29 _=>J.q rfl (qAH (i:=k) rfl rfl rfl qAe z9_ hr.sl (by omega)) rfl rfl<|J.d3 rfl (qBI (i:=1) (k:=k) (off:=0) (b:= [Str (List.replicate 64 (0:UInt8))]) rfl (by show some _=some _;rw [qOR]) rfl rfl hr (vs:= [Str (List.replicate 64 (0:UInt8))]) rfl z9_ rfl (by omega) (qAQ (qAc [] (by rw [qSP _ _ hk];omega))) rfl (by show _+1≤1;decide)) rfl rfl rfl ?_
  rintro m9 h9
  change J _ _ _ [F,m9,blk g15 [.slice (some ⟨g13,0,none⟩) n n,.slice none 0 0,.bool false,.bool false,I 0,.slice none 0 0] 89] _
  refine J.b9<|J.a6<|J.A (J.H hK11 ?_)
  refine J.G 4 20 21 ?_
  exact J.L<|J.f ((qAO O O O (by omega)).nat (k+1) (by omega)) O<|J.b O<|J.a7<|J.A<|J.a8 (k+1,m9) (λy (hy:_∧n-y.1<n-k)=>hI0 y hy.1 hy.2) ⟨⟨by dsimp only;omega,by dsimp only;rw [qC0,qSO _ _ (by omega)] at h9;exact h9⟩,by dsimp only;omega⟩ ⟨rfl,rfl,rfl,trivial⟩ (λ_ h=>h)
 refine J.b4<|J.a1<|J.a1<|J.b5 ?_
 refine J.A (J.H hK7 ?_)
 refine J.u 4 ?_
 refine J.j λK13 hK13=>?_
 have hkn:k=n:=by omega
 subst hkn
 rw [Nat.sub_self,List.replicate_zero,List.append_nil] at hr
 refine J.L<|J.p 3 O<|J.c hK13<|J.E 2 3 ?_
 exact J.D<|J.d5 [0,1,2,3] [F,m,blk g15 [.slice (some ⟨g13,0,none⟩) k k,.slice none 0 0,.bool false,.bool false,I 0,.slice none 0 0] 89,λ_=>none] O (by decide)<|J.b2 hw0 (λ_ _ h=>h) (qB2 O O O) (qD9 [blk g15 [.slice (some ⟨g13,0,none⟩) k k,.slice none 0 0,.bool false,.bool false,I 0,.slice none 0 0] 89,m,λ_=>none] [F] (some (g15,U [blk g15 [.slice (some ⟨g13,0,none⟩) k k,.slice none 0 0,.bool false,.bool false,I 0,.slice none 0 0] 89,m,λ_=>none])) O (λhj=>⟨by omega,by rw [show i.toNat=k by omega];exact qSu k g15 g13 m hr hj⟩) [2,1,3,0] rfl rfl (by decide))
theorem qFa(F:Hp)(n:Nat)(h4:4≤n)(hm:n≤1024):Ct prog 6 [I n] [F] (λx:Nat×Hp=> .tuple #[Ptr x.1,I 0]) (λx=>Dsk x.2 x.1 (Dk.new n) none 0) (λx=>F:: [x.2]):=λw0 w hs=>
 (qUK F n w0 w hs).mono λe w' ⟨x,he,hx,hs'⟩=>by
  cases x with
  |none=>exact absurd hx (by show¬((n:Int)<4∨1024<(n:Int));omega)
  |some y=>exact⟨y,he,by have:=hx.2;rwa [Int.toNat_natCast] at this,hs'.pick [1,0] (by decide)⟩
theorem qO9{d:Dk}{i:Int}{s:List UInt8}(h:d.ready i=0)(h1:s.length≤64)(h2: ¬d.burns):d.write i s={d.burn with wait:=d.burn.wait++ [(i.toNat,qLD s)]}∧d.wErr i s=0:=by
 unfold Dk.write Dk.wErr
 rw [if_neg (by omega),if_neg (by omega),if_neg h2,if_neg (by omega),if_neg (by omega),if_neg h2]
 exact⟨rfl,rfl⟩
theorem qNl{n:Nat}{i:Int}(h0:0≤i)(h:i<n):(Dk.new n).ready i=0:=by
 unfold Dk.ready Dk.new
 dsimp only
 rw [if_neg (by decide),List.length_replicate,if_neg (by omega)]
theorem qSt{n j:Nat}(h:j<n):(Dk.new n).now j=qLD []:=by
 unfold Dk.now Dk.new
 dsimp only [List.length_nil]
 rw [qID,List.getD_eq_getElem?_getD,List.getElem?_replicate,if_pos h];rfl
theorem qSQ{d:Dk}{i:Int}(h:d.ready i=0):d.read i=d.now i.toNat:=if_pos h
end Go.Proofs.YtllnfioplpipiaaGreatDoor
