/- A part of the proof. -/
import Derived.Test.YtllnfioplpipiaaGreatDoorTopOrG8
import Derived.Test.YtllnfioplpipiaaGreatDoorTopOrG41
import Derived.Test.YtllnfioplpipiaaGreatDoorTopOrG16
set_option linter.unusedSimpArgs false
set_option linter.unusedVariables false
namespace Go.Proofs.YtllnfioplpipiaaGreatDoor
open Go Go.Fw Go.Proofs.Tryz
set_option maxRecDepth 100000
set_option maxHeartbeats 1000000
theorem ent5:qAD prog 5:=qAD.of func5 rfl (by kernel_rfl)
theorem ent12:qAD prog 12:=qAD.of func12 rfl (by kernel_rfl)
attribute [local irreducible] Sha.tagged Wo.pub Wo.publicOf Wo.signs Wo.ends Wo.digs Wo.walk Wo.opn Mk.root Mk.path Mk.climb Xm.root sgC sgP qA3 qBS sgB qB3 kvT nmK
def qDy(l:List Bool):List (List Value):=l.map λb=> [.bool b]
theorem qDM{l:List Bool}{k:Nat}(h:k<l.length):(qDy l)[k]?=some [.bool (l.getD k false)]:=by
 unfold qDy;rw [List.getElem?_map,List.getElem?_eq_getElem h,List.getD_eq_getElem?_getD,List.getElem?_eq_getElem h];rfl
theorem qMC(l:List Bool)(k:Nat)(b:Bool):(qDy l).set k [.bool b]=qDy (l.set k b):=by simp [qDy,List.map_set]
theorem qHe(S:List Nat):(dnL S).length=3:=rfl
theorem qKS{k:Nat}(h:k<3):(UInt8.ofNat k).toNat=k:=by rw [UInt8.toNat_ofNat'];omega
theorem qLt(F:Hp)(hK:KF F)(hA:qAL F ⟨2,0,none⟩ qBT)(hT:qBx F)(A0:Option Addr)(n0 c0:Nat)(l0:List UInt8)(sl0:Sl F 1 A0 n0 c0 (qAR l0))(cu:UInt8):Ct prog 3 [.slice A0 n0 c0,B8 (cu)] [F] (λ_:Unit=> .bool true) (λ_=>True) (λ_=> [F]):=by
 have hln:l0.length=n0:=by have:=sl0.1;simpa [qAR] using this
 refine Ct.walk func3 rfl ntmps3 rfl (λw0 hw0=>?_)
 change J _ [(0,_),(1,_)] _ _ _
 refine J.g λK1 hK1=>J.b O<|J.c hK1<|J.E 0 1 ?_
 refine J.j λK2 hK2=>J.g λK3 hK3=>J.k (qAA O O ent5 (Ct.use0 (λF' hF=>qJa F' (hK.mo hF) (hA.mono (hF F (by simp))) (hT.mono (hF F (by simp)))))) rfl λg28 _=>J.f ((qAt rfl rfl).as (v':= .bool false) rfl) rfl<|J.c hK3<|J.G 0 1 29 ?_
 refine J.a5 ?_
 refine J.W hK2<|J.E 0 1 ?_
 refine J.g λK4 hK4=>J.k (qAA O O ent6 (Ct.use (new:=λx:Nat×Hp=> [x.2]) (λF' _=>qFa F' 300 (by decide) (by decide)))) O ?_
 rintro⟨g31,m31⟩ hb31
 try dsimp only at hb31
 change J _ ((31,.tuple #[Ptr g31,I ((0:Nat):Int)])::_) _ [F,m31] _
 refine J.p 5 O<|J.c hK4<|J.G 0 1 5 ?_
 refine J.g λK5 hK5=>J.k (qAA O O ent6 (Ct.use (new:=λx:Nat×Hp=> [x.2]) (λF' _=>qFa F' 300 (by decide) (by decide)))) O ?_
 rintro⟨g35,m35⟩ hb35
 try dsimp only at hb35
 change J _ ((35,.tuple #[Ptr g35,I ((0:Nat):Int)])::_) _ [_,_,m35] _
 refine J.p 5 O<|J.c hK5<|J.O 0 1 5 7 ?_
 refine J.g λK6 hK6=>J.b O<|J.k (qAA O O ent8 (Ct.use0 (λF' hF=>qHo F' 0 (by first|decide|omega)))) O λg40 _=>J.k (qAF (l:= [.tmp 40]) (xs:= [[Str ((qAX 0).nm),Str ((qAX 0).op),Str ((qAX 0).rt),I ((qAX 0).ht)]]) O O O O qGw el34 O (by decide) (by decide) (by simp)) rfl λg41 _=>?_
 change J _ _ _ [_,_,_,blk g41 [Str ((qAX 0).nm),Str ((qAX 0).op),Str ((qAX 0).rt),I ((qAX 0).ht)] 34] _
 refine J.k (qAA O O ent7 (Ct.use1 1 (m':=λy:Hp×Hp×NwR=>y.1) (new:=λy=> [y.2.1]) O (λF' hF=>qJr F' m31 (hK.mo hF) (hA.mono (hF F (by simp))) (hT.mono (hF F (by simp))) g31 300 hb31 (by decide) (by decide) 0 300 (by decide) (by decide) 1 (by decide) _ _ [qAX 0] ((qAk (q:=True) (xs:=qBK [qAX 0]) rfl (by intro x hx;rw [List.mem_singleton.1 hx];rfl)).sl.mono (hF (blk g41 [Str ((qAX 0).nm),Str ((qAX 0).op),Str ((qAX 0).rt),I ((qAX 0).ht)] 34) (by simp))) gl24))) rfl ?_
 rintro⟨ms42,Gs42,r42⟩ hS42
 try dsimp only at hS42
 change J _ ((42,.tuple #[Ptr r42.gs,I ((0:Nat):Int)])::_) _ [_,ms42,_,_,Gs42] _
 obtain ⟨x0,hx0⟩: ∃x,x=nwS g31 300 0 300 1 [qAX 0] m31 r42:=⟨_,rfl⟩
 rw [←hx0] at hS42
 rw [show r42.gs=x0.gs by rw [hx0];rfl]
 refine J.p 5 O<|J.c hK6<|J.a0 0 1 7 9 10 ?_
 refine J.g λK7 hK7=>J.b O<|J.k (qAA O O ent8 (Ct.use0 (λF' hF=>qHo F' 0 (by first|decide|omega)))) O λg47 _=>J.k (qAF (l:= [.tmp 47]) (xs:= [[Str ((qAX 0).nm),Str ((qAX 0).op),Str ((qAX 0).rt),I ((qAX 0).ht)]]) O O O O qGw el34 O (by decide) (by decide) (by simp)) rfl λg48 _=>?_
 change J _ _ _ [_,_,_,_,_,blk g48 [Str ((qAX 0).nm),Str ((qAX 0).op),Str ((qAX 0).rt),I ((qAX 0).ht)] 34] _
 refine J.k (qAA O O ent7 (Ct.use1 2 (m':=λy:Hp×Hp×NwR=>y.1) (new:=λy=> [y.2.1]) O (λF' hF=>qJr F' m35 (hK.mo hF) (hA.mono (hF F (by simp))) (hT.mono (hF F (by simp))) g35 300 hb35 (by decide) (by decide) 0 300 (by decide) (by decide) 1 (by decide) _ _ [qAX 0] ((qAk (q:=True) (xs:=qBK [qAX 0]) rfl (by intro x hx;rw [List.mem_singleton.1 hx];rfl)).sl.mono (hF (blk g48 [Str ((qAX 0).nm),Str ((qAX 0).op),Str ((qAX 0).rt),I ((qAX 0).ht)] 34) (by simp))) gl24))) rfl ?_
 rintro⟨ms49,Gs49,r49⟩ hS49
 try dsimp only at hS49
 change J _ ((49,.tuple #[Ptr r49.gs,I ((0:Nat):Int)])::_) _ [_,_,ms49,_,_,_,Gs49] _
 obtain ⟨z0,hz0⟩: ∃x,x=nwS g35 300 0 300 1 [qAX 0] m35 r49:=⟨_,rfl⟩
 rw [←hz0] at hS49
 rw [show r49.gs=z0.gs by rw [hz0];rfl]
 refine J.p 5 O<|J.c hK7<|J.b8 0 1 9 10 11 12 ?_
 refine J.g λK8 hK8=>J.k (qAA O O ent9 (Ct.use (new:=λx:Nat×Hp=> [x.2]) (λF' hF=>qKL F' (hK.mo hF) OWN 0 (by decide) (by decide)))) O ?_
 rintro⟨g53,m53⟩ h53
 try dsimp only at h53
 change J _ ((53,.tuple #[Ptr g53,I 0])::_) _ [_,_,_,_,_,_,_,m53] _
 refine J.p 5 O<|J.c hK8<|J.c2 0 1 9 10 11 12 13 ?_
 refine J.j λK9 hK9=>J.g λK10 hK10=>J.b O<|J.f ((qAb O O O).no (by decide)) O<|J.p 2 O<|J.Z ((qAb O O O).no (by decide)) O<|J.b O<|J.c hK10<|J.b8 0 1 9 11 13 61 ?_
 refine J.a5 ?_
 refine J.W hK9<|J.a0 0 1 9 11 13 ?_
 refine J.j λK11 hK11=>?_
 have hO:qD2 0 [] x0:=by rw [hx0];exact qJg _ _ _ 300 (by decide) _ _
 have hZ:qD2 0 [] z0:=by rw [hz0];exact qJg _ _ _ 300 (by decide) _ _
 have hze:z0.tg.length=1∧z0.hd.length=1∧z0.audN.length=1:=by rw [hz0];exact⟨rfl,rfl,rfl⟩
 refine J.L<|J.k (qAF (l:= [.const ((Value.bool false)),.const ((Value.bool false)),.const ((Value.bool false))]) (xs:= [[.bool (false)],[.bool (false)],[.bool (false)]]) O O O O qT1 el4 O (by decide) (by decide) (by simp)) rfl λg62 _=>?_
 change J _ _ _ [_,_,_,_,_,_,_,_,blk g62 [.bool (false),.bool (false),.bool (false)] 4] _
 refine J.b O<|J.c hK11<|J.b8 0 1 9 11 13 15 ?_
 refine J.e8 (X:=Nat×List Nat×SvR×Hp×Hp×Hp) (λζ=> [(9,Ptr ζ.2.2.1.gs),(11,Ptr z0.gs),(13,Ptr g53),(15,.slice (some ⟨g62,0,none⟩) 3 3)]) (λζ=> [ζ.2.2.2.2.1,ζ.2.2.2.1,ζ.2.2.2.2.2,F,blk g41 [Str ((qAX 0).nm),Str ((qAX 0).op),Str ((qAX 0).rt),I ((qAX 0).ht)] 34,blk g48 [Str ((qAX 0).nm),Str ((qAX 0).op),Str ((qAX 0).rt),I ((qAX 0).ht)] 34,ms49,Gs49,m53]) (λζ=>ζ.1≤6∧Srv ζ.2.2.2.1 ζ.2.2.2.2.1 ζ.2.2.1∧qD2 ζ.1 ζ.2.1 ζ.2.2.1∧Row ζ.2.2.2.2.2 4 1 (some ⟨g62,0,none⟩) 3 3 (qDy (dnL ζ.2.1))) (λK12 hK12=>?_) ?_
 ·
  refine J.g λK13 hK13=>J.b O<|J.c hK13<|J.c2 0 1 9 11 13 15 16 ?_
  refine J.V<|J.b6 (X:=Nat×List Nat×SvR×Hp×Hp×Hp) (λζ=> [(0,.slice A0 n0 c0),(1,B8 (cu)),(9,Ptr ζ.2.2.1.gs),(11,Ptr z0.gs),(13,Ptr g53),(15,.slice (some ⟨g62,0,none⟩) 3 3),(16,I ((ζ.1:Nat):Int))]) (λζ=> [ζ.2.2.2.2.1,ζ.2.2.2.1,ζ.2.2.2.2.2,F,blk g41 [Str ((qAX 0).nm),Str ((qAX 0).op),Str ((qAX 0).rt),I ((qAX 0).ht)] 34,blk g48 [Str ((qAX 0).nm),Str ((qAX 0).op),Str ((qAX 0).rt),I ((qAX 0).ht)] 34,ms49,Gs49,m53]) (λζ=>ζ.1≤6∧Srv ζ.2.2.2.1 ζ.2.2.2.2.1 ζ.2.2.1∧qD2 ζ.1 ζ.2.1 ζ.2.2.1∧Row ζ.2.2.2.2.2 4 1 (some ⟨g62,0,none⟩) 3 3 (qDy (dnL ζ.2.1))) (λζ=>6-ζ.1) (0,[],x0,ms42,Gs42,blk g62 [.bool false,.bool false,.bool false] 4) (⟨Nat.zero_le _,hS42,hO,qA4 (q:=True) (qDy (dnL [])) O (by simp [qDy,dnL]) rfl⟩) ⟨rfl,rfl,rfl,rfl,rfl,rfl,rfl,trivial⟩ (λ_ h=>h.pick [4,1,8,0,3,5,2,6,7] (by decide)) ?_
  rintro⟨i,S,x,ms,Gs,mD⟩ ⟨hi,hS,hOI,hrd⟩ I0 hI0
  dsimp only at hi hS hOI hrd⊢
  refine J.j λK14 hK14=>J.g λK15 hK15=>J.p 2 O<|J.f (qAP qBV O O) O<|J.f (qAT O O O) O<|J.b O<|J.c4 (d:=67) O (λh67=>?_) (λh67=>?_)
  ·
   refine J.b O<|J.Z (qAT O O O) O<|J.b O<|J.c hK15<|J.d1 0 1 9 11 13 15 16 70 ?_
   refine J.a2 O (λh70=>?_) (λh70=>?_)
   ·
    refine J.W hK14<|J.c2 0 1 9 11 13 15 16 ?_
    refine J.j λK16 hK16=>J.V<|J.j λK17 hK17=>?_
    have hil:i<l0.length:=by omega
    obtain ⟨n,hn⟩: ∃n,n=(l0.getD i 0).toNat%3:=⟨_,rfl⟩
    have hn3:n<3:=by omega
    have hdl:=qHe S
    refine J.L<|J.p 2 O<|J.f (qAH (i:=i) O O O qBV z5_ sl0 (by first|omega|(simp only [List.length_append,List.length_cons,List.length_nil,List.length_take,List.length_drop] at*;omega))) rfl<|J.f (qAJ rfl rfl b5_ (m:=F) (by simp) (sl0.elem (qBL (qAc 0 (by first|omega|(simp only [List.length_append,List.length_cons,List.length_nil,List.length_take,List.length_drop] at*;omega)))))) rfl<|J.f (qBZ rfl rfl u5_ u3_) rfl<|J.f (((qGR rfl rfl rfl (by omega)).nat (n) (by omega))) rfl<|J.b rfl<|J.c hK17<|J.d1 0 1 9 11 13 15 16 17 ?_
    refine J.j λK18 hK18=>J.j λK19 hK19=>?_
    have hdg:=qOS S hn3
    refine J.L<|J.p 2 O<|J.f (qAm (i:=n) (j:=0+n*1) O O O qT1 z4_ (by first|omega|(simp only [List.length_append,List.length_cons,List.length_nil,List.length_take,List.length_drop] at*;omega)) (by omega)) rfl<|J.f (qAJ rfl rfl b4_ (m:=mD) (by simp) (hrd.sl.cells (qDM (by first|omega|(simp only [List.length_append,List.length_cons,List.length_nil,List.length_take,List.length_drop] at*;omega))))) rfl<|J.c hK19<|J.e1 0 1 9 11 13 15 16 17 82 ?_
    refine J.d6 O (λh82=>?_) (λh82=>?_)
    ·
     refine J.b4<|J.a1<|J.b5 ?_
     refine J.A (J.H hK16 ?_)
     refine J.c2 0 1 9 11 13 15 16 ?_
     exact J.L<|J.b O<|J.f ((qAO O O O (by first|omega|(simp only [List.length_append,List.length_cons,List.length_nil,List.length_take,List.length_drop] at*;omega))).nat (i+1) (by omega)) rfl<|J.b rfl<|J.a7<|J.A<|J.a8 (i+1,S,x,ms,Gs,mD) (λη (hη:_∧6-η.1<6-i)=>hI0 η hη.1 hη.2) ⟨⟨by dsimp only;omega,hS,hOI.le (Nat.le_succ i),hrd⟩,by dsimp only;omega⟩ ⟨rfl,rfl,rfl,rfl,rfl,rfl,rfl,trivial⟩ (λ_ h=>h)
    refine J.W hK18<|J.d1 0 1 9 11 13 15 16 17 ?_
    refine J.j λK20 hK20=>?_
    have hnS:n∉S:=by rw [hdg] at h82;exact of_decide_eq_false h82
    have hg0:=hOI.new_ hn3 hnS
    have hfew:=hOI.few hS.i
    refine J.L<|J.p 2 O<|J.f (qAm (i:=n) (j:=0+n*1) O O O qT1 z4_ (by first|omega|(simp only [List.length_append,List.length_cons,List.length_nil,List.length_take,List.length_drop] at*;omega)) (by omega)) rfl<|J.b0 (qBI (i:=2) (k:=n) (off:=0) (b:= [.bool (true)]) rfl rfl rfl rfl hrd (vs:= [.bool (true)]) rfl z4_ rfl (by omega) (qDM (by first|omega|(simp only [List.length_append,List.length_cons,List.length_nil,List.length_take,List.length_drop] at*;omega))) rfl (Nat.le_refl _)) rfl rfl ?_
    rintro m16_1 hm16_1
    change J _ _ _ [Gs,ms,m16_1,F,blk g41 [Str ((qAX 0).nm),Str ((qAX 0).op),Str ((qAX 0).rt),I ((qAX 0).ht)] 34,blk g48 [Str ((qAX 0).nm),Str ((qAX 0).op),Str ((qAX 0).rt),I ((qAX 0).ht)] 34,ms49,Gs49,m53] _
    rw [qMC,qTS S hn3] at hm16_1
    refine J.c hK20<|J.d1 0 1 9 11 13 15 16 17 ?_
    refine J.j λK21 hK21=>J.g λK22 hK22=>J.p 3 O<|J.f (qAj (m:=n) O O u3_ u5_) O<|J.k (qAA O O ent12 (Ct.use0 (λF' hF=>by have:=qId F' (UInt8.ofNat (n));rw [qKS (by omega)] at this;exact this))) rfl λg90 _=>J.k (qAA rfl rfl ent11 (Ct.use (new:=λx:(Option Addr×Nat×Hp)×(Option Addr×Nat×Hp)=> [x.1.2.2,x.2.2.2]) (λF' hF=>qGu F' (hK.mo hF) g53 OWN 0 (h53.mono (hF m53 (by simp))) (by decide) (by decide) (nmK n) (by have:=qEK n;omega) 1 qAh qTt))) rfl ?_
    rintro⟨⟨A91,c91,m91⟩,⟨B91,d91,n91⟩⟩ ⟨h91,k91⟩
    change J _ ((91,.agg #[Str (nmK n),N64 1,Str qEe,Str qET,I ((0:Nat):Int),Str qAh,I ((0:Nat):Int),.slice A91 (qOz n).length c91,.slice B91 qMu.length d91])::_) _ [_,_,_,_,_,_,_,_,_,m91,n91] _
    refine J.k (qAA O O ent10 (Ct.use1 1 (m':=λy:Hp×SbR=>y.1) (new:=λ_=> []) O (λF' hF=>qJX F' ms Gs (hK.mo hF) (hA.mono (hF F (by simp))) (hT.mono (hF F (by simp))) (hF Gs (by simp)) x hS (k:=n) hn3 A91 c91 (h91.sl.mono (hF m91 (by simp))) B91 d91 (k91.sl.mono (hF n91 (by simp))) (by omega) hg0))) rfl ?_
    rintro⟨ms92,y92⟩ hS92
    try dsimp only at hS92
    change J _ ((92,I ((0:Nat):Int))::_) _ [_,ms92,_,_,_,_,_,_,_,_,_] _
    refine J.f ((qAb O O O).no (by decide)) O<|J.c hK22<|J.d1 0 1 9 11 13 15 16 93 ?_
    refine J.a5 ?_
    refine J.W hK21<|J.c2 0 1 9 11 13 15 16 ?_
    refine J.g λK23 hK23=>J.p 2 O<|J.f (qJi (m:=i) O O O) O<|J.f (qNa (b:=1) O O O) O<|J.f (qAY O O O) O<|J.c hK23<|J.d1 0 1 9 11 13 15 16 98 ?_
    refine J.a2 O (λh98=>?_) (λh98=>?_)
    ·
     refine J.j λK24 hK24=>?_
     have hO2:=hOI.sub hn3 hnS y92
     refine J.L<|J.b O<|J.k (qAA O O ent13 (Ct.use1 1 (m':=λy:Hp×StR×WrR=>y.1) (new:=λy=> [y.2.1.G,y.2.1.mo]) O (λF' hF=>qHD F' ms92 Gs (hK.mo hF) (hF Gs (by simp)) (x.subK n y92) hS92 (by have:=hOI.tg;show x.tg.length<15;omega) (hO2.room (by omega))))) rfl ?_
     rintro⟨mp101,y101⟩ hp101
     try dsimp only at hp101
     change J _ ((101,.tuple #[.agg #[N64 ((x.subK n y92).hd.length),Str ((qBu (x.subK n y92).hdL).dig),I (((x.subK n y92).dp:Nat):Int),I (((x.subK n y92).audN.length:Nat):Int),.slice y101.1.nA (qAg (kvT (x.subK n y92).kvL (x.subK n y92).cl (x.subK n y92).dp (2^(x.subK n y92).dp)) (x.subK n y92).dp).length y101.1.nc],.slice y101.1.At y101.1.tl.length y101.1.ct,I ((0:Nat):Int)])::_) _ [_,mp101,_,_,_,_,_,_,_,_,_,y101.1.G,y101.1.mo] _
     refine J.p 4 O<|J.k (qAN (l:= [.int .u64 0,Str [],I 0,I 0,.slice none 0 0]) O qRe O) O λg18 _=>?_
     change J _ _ _ [_,_,_,_,_,_,_,_,_,_,_,_,_,blk g18 [.int .u64 0,Str [],I 0,I 0,.slice none 0 0] 52] _
     refine J.b0 (qAI (i:=13) (l:= [.int .u64 0,Str [],I 0,I 0,.slice none 0 0]) (vs:= [N64 ((x.subK n y92).hd.length),Str ((qBu (x.subK n y92).hdL).dig),I (((x.subK n y92).dp:Nat):Int),I (((x.subK n y92).audN.length:Nat):Int),.slice y101.1.nA (qAg (kvT (x.subK n y92).kvL (x.subK n y92).cl (x.subK n y92).dp (2^(x.subK n y92).dp)) (x.subK n y92).dp).length y101.1.nc]) O O O O O qHw O O) O O λ_ _=>?_
     change J _ _ _ [_,_,_,_,_,_,_,_,_,_,_,_,_,blk g18 [N64 ((x.subK n y92).hd.length),Str ((qBu (x.subK n y92).hdL).dig),I (((x.subK n y92).dp:Nat):Int),I (((x.subK n y92).audN.length:Nat):Int),.slice y101.1.nA (qAg (kvT (x.subK n y92).kvL (x.subK n y92).cl (x.subK n y92).dp (2^(x.subK n y92).dp)) (x.subK n y92).dp).length y101.1.nc] 52] _
     refine J.p 2 O<|J.c8 [0,11,1,2,3,4,5,6,7,8,13] [Gs,y101.1.G,mp101,m16_1,F,blk g41 [Str ((qAX 0).nm),Str ((qAX 0).op),Str ((qAX 0).rt),I ((qAX 0).ht)] 34,blk g48 [Str ((qAX 0).nm),Str ((qAX 0).op),Str ((qAX 0).rt),I ((qAX 0).ht)] 34,ms49,Gs49,m53,blk g18 [N64 ((x.subK n y92).hd.length),Str ((qBu (x.subK n y92).hdL).dig),I (((x.subK n y92).dp:Nat):Int),I (((x.subK n y92).audN.length:Nat):Int),.slice y101.1.nA (qAg (kvT (x.subK n y92).kvL (x.subK n y92).cl (x.subK n y92).dp (2^(x.subK n y92).dp)) (x.subK n y92).dp).length y101.1.nc] 52] O (by decide)<|J.e4 (λhj=>?_)
     refine J.c hK24<|J.d1 0 1 9 11 13 15 16 20 ?_
     refine J.g λK25 hK25=>J.b O<|J.f ((qAb O O O).no (by decide)) O<|J.c hK25<|J.d1 0 1 9 11 13 15 16 106 ?_
     refine J.a5 ?_
     refine J.b7<|J.a6<|J.A (J.H hK16 ?_)
     refine J.c2 0 1 9 11 13 15 16 ?_
     exact J.L<|J.b O<|J.f ((qAO O O O (by first|omega|(simp only [List.length_append,List.length_cons,List.length_nil,List.length_take,List.length_drop] at*;omega))).nat (i+1) (by omega)) rfl<|J.b rfl<|J.a7<|J.A<|J.a8 (i+1,S++ [n],((x.subK n y92).pub y101),mp101,U [Gs,y101.1.G],m16_1) (λη (hη:_∧6-η.1<6-i)=>hI0 η hη.1 hη.2) ⟨⟨by dsimp only;omega,hp101.s _ (qEr hj) (qNw hj),hO2.pub hS92.i y101 hp101.bk,hm16_1⟩,by dsimp only;omega⟩ ⟨rfl,rfl,rfl,rfl,rfl,rfl,rfl,trivial⟩ (λ_ h=>h.pick [0,1,2,3,4,5,6,7,8] (by decide))
    refine J.b7<|J.a6<|J.A (J.H hK16 ?_)
    refine J.c2 0 1 9 11 13 15 16 ?_
    exact J.L<|J.b O<|J.f ((qAO O O O (by first|omega|(simp only [List.length_append,List.length_cons,List.length_nil,List.length_take,List.length_drop] at*;omega))).nat (i+1) (by omega)) rfl<|J.b rfl<|J.a7<|J.A<|J.a8 (i+1,S++ [n],(x.subK n y92),ms92,Gs,m16_1) (λη (hη:_∧6-η.1<6-i)=>hI0 η hη.1 hη.2) ⟨⟨by dsimp only;omega,hS92,(hOI.sub hn3 hnS y92).le (Nat.le_succ i),hm16_1⟩,by dsimp only;omega⟩ ⟨rfl,rfl,rfl,rfl,rfl,rfl,rfl,trivial⟩ (λ_ h=>h.pick [0,1,2,3,4,5,6,7,8] (by decide))
   refine J.b4<|J.a1<|J.a1<|J.b5 ?_
   exact J.A<|J.a8 (i,S,x,ms,Gs,mD) hK12 (⟨hi,hS,hOI,hrd⟩) ⟨O,O,O,O,trivial⟩ (λ_ h=>h)
  refine J.p 3 O<|J.c hK15<|J.d1 0 1 9 11 13 15 16 70 ?_
  refine J.a5 ?_
  refine J.b4<|J.a1<|J.a1<|J.b5 ?_
  exact J.A<|J.a8 (i,S,x,ms,Gs,mD) hK12 (⟨hi,hS,hOI,hrd⟩) ⟨O,O,O,O,trivial⟩ (λ_ h=>h)
 rintro⟨i,S,x,ms,Gs,mD⟩ ⟨hi,hS,hOI,hrd⟩
 dsimp only at hi hS hOI hrd⊢
 refine J.j λK26 hK26=>J.g λK27 hK27=>J.b O<|J.c hK27<|J.a0 9 11 13 15 21 ?_
 refine J.V<|J.b6 (X:=Nat×SvR×Hp) (λζ=> [(9,Ptr x.gs),(11,Ptr ζ.2.1.gs),(13,Ptr g53),(15,.slice (some ⟨g62,0,none⟩) 3 3),(21,I (2-((ζ.1:Nat):Int)))]) (λζ=> [Gs,ms,mD,F,blk g41 [Str ((qAX 0).nm),Str ((qAX 0).op),Str ((qAX 0).rt),I ((qAX 0).ht)] 34,blk g48 [Str ((qAX 0).nm),Str ((qAX 0).op),Str ((qAX 0).rt),I ((qAX 0).ht)] 34,ζ.2.2,Gs49,m53]) (λζ=>ζ.1≤3∧Srv ζ.2.2 Gs49 ζ.2.1∧qD2 0 (TT S ζ.1) ζ.2.1∧ζ.2.1.tg.length=1∧ζ.2.1.hd.length=1) (λζ=>3-ζ.1) (0,z0,ms49) (⟨Nat.zero_le _,hS49,hZ,hze.1,hze.2.1⟩) ⟨O,O,O,O,O,trivial⟩ (λ_ h=>h) ?_
 rintro⟨k,z,mz⟩ ⟨hk,hSz,hOz,hzt,hzh⟩ I2 hI2
 dsimp only at hk hSz hOz hzt hzh⊢
 refine J.e8 (X:=Unit) (λζ=> [(9,Ptr x.gs),(11,Ptr z.gs),(13,Ptr g53),(15,.slice (some ⟨g62,0,none⟩) 3 3),(21,I (2-((k:Nat):Int)))]) (λζ=> [Gs,ms,mD,F,blk g41 [Str ((qAX 0).nm),Str ((qAX 0).op),Str ((qAX 0).rt),I ((qAX 0).ht)] 34,blk g48 [Str ((qAX 0).nm),Str ((qAX 0).op),Str ((qAX 0).rt),I ((qAX 0).ht)] 34,mz,Gs49,m53]) (λζ=>k<3) (λK28 hK28=>?_) ?_
 ·
  refine J.g λK29 hK29=>J.b O<|J.f (qBN O O O) O<|J.c hK29<|J.b8 9 11 13 15 21 108 ?_
  refine J.a2 O (λh108=>?_) (λh108=>?_)
  ·
   exact J.b7<|J.A<|J.a8 () hK28 ((by omega)) ⟨O,O,O,O,O,trivial⟩ (λ_ h=>h)
  refine J.b4<|J.a1<|J.a1<|J.b5 ?_
  refine J.A (J.H hK26 ?_)
  refine J.E 9 11 ?_
  refine J.j λK30 hK30=>?_
  obtain rfl:k=3:=by omega
  refine J.L<|J.b O<|J.k (qAA O O ent13 (Ct.use1 1 (m':=λy:Hp×StR×WrR=>y.1) (new:=λy=> [y.2.1.G,y.2.1.mo]) O (λF' hF=>qHD F' ms Gs (hK.mo hF) (hF Gs (by simp)) x hS (by have:=hOI.tg;omega) (hOI.room (by omega))))) rfl ?_
  rintro⟨mp127,y127⟩ hp127
  try dsimp only at hp127
  change J _ ((127,.tuple #[.agg #[N64 (x.hd.length),Str ((qBu x.hdL).dig),I ((x.dp:Nat):Int),I ((x.audN.length:Nat):Int),.slice y127.1.nA (qAg (kvT x.kvL x.cl x.dp (2^x.dp)) x.dp).length y127.1.nc],.slice y127.1.At y127.1.tl.length y127.1.ct,I ((0:Nat):Int)])::_) _ [Gs,mp127,mD,F,blk g41 [Str ((qAX 0).nm),Str ((qAX 0).op),Str ((qAX 0).rt),I ((qAX 0).ht)] 34,blk g48 [Str ((qAX 0).nm),Str ((qAX 0).op),Str ((qAX 0).rt),I ((qAX 0).ht)] 34,mz,Gs49,m53,y127.1.G,y127.1.mo] _
  refine J.p 4 O<|J.k (qAN (l:= [.int .u64 0,Str [],I 0,I 0,.slice none 0 0]) O qRe O) O λg22 _=>?_
  change J _ _ _ [_,_,_,_,_,_,_,_,_,_,_,blk g22 [.int .u64 0,Str [],I 0,I 0,.slice none 0 0] 52] _
  refine J.b0 (qAI (i:=11) (l:= [.int .u64 0,Str [],I 0,I 0,.slice none 0 0]) (vs:= [N64 (x.hd.length),Str ((qBu x.hdL).dig),I ((x.dp:Nat):Int),I ((x.audN.length:Nat):Int),.slice y127.1.nA (qAg (kvT x.kvL x.cl x.dp (2^x.dp)) x.dp).length y127.1.nc]) O O O O O qHw O O) O O λ_ _=>?_
  change J _ _ _ [_,_,_,_,_,_,_,_,_,_,_,blk g22 [N64 (x.hd.length),Str ((qBu x.hdL).dig),I ((x.dp:Nat):Int),I ((x.audN.length:Nat):Int),.slice y127.1.nA (qAg (kvT x.kvL x.cl x.dp (2^x.dp)) x.dp).length y127.1.nc] 52] _
  refine J.p 2 O<|J.c hK30<|J.G 11 22 24 ?_
  refine J.g λK31 hK31=>J.b O<|J.k (qAA O O ent13 (Ct.use1 6 (m':=λy:Hp×StR×WrR=>y.1) (new:=λy=> [y.2.1.G,y.2.1.mo]) O (λF' hF=>qHD F' mz Gs49 (hK.mo hF) (hF Gs49 (by simp)) z hSz (by omega) (hOz.room (by decide))))) rfl ?_
  rintro⟨mp133,y133⟩ hp133
  try dsimp only at hp133
  change J _ ((133,.tuple #[.agg #[N64 (z.hd.length),Str ((qBu z.hdL).dig),I ((z.dp:Nat):Int),I ((z.audN.length:Nat):Int),.slice y133.1.nA (qAg (kvT z.kvL z.cl z.dp (2^z.dp)) z.dp).length y133.1.nc],.slice y133.1.At y133.1.tl.length y133.1.ct,I ((0:Nat):Int)])::_) _ [_,_,_,_,_,_,mp133,_,_,_,_,_,y133.1.G,y133.1.mo] _
  refine J.p 4 O<|J.k (qAN (l:= [.int .u64 0,Str [],I 0,I 0,.slice none 0 0]) O qRe O) O λg25 _=>?_
  change J _ _ _ [_,_,_,_,_,_,_,_,_,_,_,_,_,_,blk g25 [.int .u64 0,Str [],I 0,I 0,.slice none 0 0] 52] _
  refine J.b0 (qAI (i:=14) (l:= [.int .u64 0,Str [],I 0,I 0,.slice none 0 0]) (vs:= [N64 (z.hd.length),Str ((qBu z.hdL).dig),I ((z.dp:Nat):Int),I ((z.audN.length:Nat):Int),.slice y133.1.nA (qAg (kvT z.kvL z.cl z.dp (2^z.dp)) z.dp).length y133.1.nc]) O O O O O qHw O O) O O λ_ _=>?_
  change J _ _ _ [_,_,_,_,_,_,_,_,_,_,_,_,_,_,blk g25 [N64 (z.hd.length),Str ((qBu z.hdL).dig),I ((z.dp:Nat):Int),I ((z.audN.length:Nat):Int),.slice y133.1.nA (qAg (kvT z.kvL z.cl z.dp (2^z.dp)) z.dp).length y133.1.nc] 52] _
  refine J.p 2 O<|J.c hK31<|J.O 22 24 25 27 ?_
  refine J.j λK32 hK32=>J.c1 [blk g22 [N64 (x.hd.length),Str ((qBu x.hdL).dig),I ((x.dp:Nat):Int),I ((x.audN.length:Nat):Int),.slice y127.1.nA (qAg (kvT x.kvL x.cl x.dp (2^x.dp)) x.dp).length y127.1.nc] 52,blk g25 [N64 (z.hd.length),Str ((qBu z.hdL).dig),I ((z.dp:Nat):Int),I ((z.audN.length:Nat):Int),.slice y133.1.nA (qAg (kvT z.kvL z.cl z.dp (2^z.dp)) z.dp).length y133.1.nc] 52] [] (.y 0 (.y 1 (.y 2 (.y 3 (.y 4 (.y 5 (.y 6 (.y 7 (.y 9 (.e 8 (.e 10 (.y 11 (.y 12 (.y 13 (.y 14 (.y 15 (.y 16 (.y 17 (.y 18 (.y 19 (.y 20 (.y 21 (.y 22 (.y 23 (.y 24 (.y 25 .nil)))))))))))))))))))))))))) Tryz.wide (by decide+kernel) (by simp) ?_
  refine J.T ?_
  refine J.q O ((qAY O O O).yes (by decide)) O O<|J.T ?_
  refine J.c0 O (qAx O O) O O<|J.c0 O ((qAY O O O).yes (by decide)) O O<|J.d8 ?_
  refine J.T ?_
  refine J.c0 O (qAy 0 O O O isAgg52 qHw O) O O<|J.c0 O (qAy 1 O O O isAgg52 qHw O) O O<|J.e6 O (qAA O O ent14 (Ct.use0 (λF' hF=>hp127.root (hK.mo hF) hS.i (hp127.s F' (hF Gs (by simp)) (hF y127.1.G (by simp))) (hF y127.1.G (by simp))))) (Wan.is rfl rfl rfl rfl rfl) rfl rfl (by simp) ?_
  intro g145 _
  refine J.e6 O (qAA O O ent14 (Ct.use0 (λF' hF=>hp133.root (hK.mo hF) hSz.i (hp133.s F' (hF Gs49 (by simp)) (hF y133.1.G (by simp))) (hF y133.1.G (by simp))))) (Wan.is rfl rfl rfl rfl rfl) rfl rfl (by simp) ?_
  intro g147 _
  refine J.c0 O ((qBQ O O O).yes (by rw [SvR.pub_kvL _ _ hS.i.tk,SvR.pub_kvL _ _ hSz.i.tk];exact qP0 hOI hOz (qTo hOI.nd hOI.lt))) rfl rfl<|J.d8 ?_
  refine J.T ?_
  refine J.c0 O (qAB (j:=0) O O qGx O qF9 O) O O<|J.c0 O (qAE 1 (v:=N64 (z.hd.length)) O O O qHt O) O O<|J.c0 O ((qAY O O O).yes (by rw [hzh];rfl)) rfl rfl<|J.d8 ?_
  refine J.T ?_
  refine J.c0 O (qAB (j:=3) O O qGx O z3_ O) O O<|J.c0 O (qAE 0 (v:=I ((x.audN.length:Nat):Int)) O O O b3_ O) O O<|J.c0 O (qAB (j:=3) O O qGx O z3_ O) O O<|J.c0 O (qAE 1 (v:=I ((z.audN.length:Nat):Int)) O O O b3_ O) O O<|J.c0 O ((qAY O O O).yes (by rw [hOI.an,hOz.an])) rfl rfl<|J.d8 ?_
  refine J.c6 ?_
  refine J.b9<|J.A (J.H hK32 ?_)
  refine J.u 4 ?_
  exact J.D<|J.M hw0 O () O trivial [3] O (by decide)
 rintro _ hk3
 have hdl:=qHe S
 have hdz:=λh=>qOS S (k:=2-k) h
 by_cases hkS:2-k∈S
 ·
  rw [show(2-((k:Nat):Int))=((2-k:Nat):Int) by omega]
  refine J.j λK33 hK33=>J.V<|J.g λK34 hK34=>J.p 2 O<|J.f (qAm (i:=2-k) (j:=0+(2-k)*1) O O O qT1 z4_ (by first|omega|(simp only [List.length_append,List.length_cons,List.length_nil,List.length_take,List.length_drop] at*;omega)) (by omega)) rfl<|J.f ((qAJ rfl rfl b4_ (m:=mD) (by simp) (hrd.sl.cells (qDM (by rw [qHe];omega)))).as (v':= .bool true) (by rw [hdz (by omega),decide_eq_true hkS])) rfl<|J.p 4 rfl<|J.Z (qAj (m:=2-k) rfl rfl u3_ u5_) rfl<|J.d7 (qAA rfl rfl ent12 (Ct.use0 (λF' hF=>by have:=qId F' (UInt8.ofNat (2-k));rw [qKS (by omega)] at this;exact this))) rfl λg120 _=>J.d7 (qAA rfl rfl ent11 (Ct.use (new:=λx:(Option Addr×Nat×Hp)×(Option Addr×Nat×Hp)=> [x.1.2.2,x.2.2.2]) (λF' hF=>qGu F' (hK.mo hF) g53 OWN 0 (h53.mono (hF m53 (by simp))) (by decide) (by decide) (nmK (2-k)) (by have:=qEK (2-k);omega) 1 qAh qTt))) rfl ?_
  rintro⟨⟨A121,c121,m121⟩,⟨B121,d121,n121⟩⟩ ⟨h121,k121⟩
  change J _ ((121,.agg #[Str (nmK (2-k)),N64 1,Str qEe,Str qET,I ((0:Nat):Int),Str qAh,I ((0:Nat):Int),.slice A121 (qOz (2-k)).length c121,.slice B121 qMu.length d121])::_) _ [Gs,ms,mD,F,blk g41 [Str ((qAX 0).nm),Str ((qAX 0).op),Str ((qAX 0).rt),I ((qAX 0).ht)] 34,blk g48 [Str ((qAX 0).nm),Str ((qAX 0).op),Str ((qAX 0).rt),I ((qAX 0).ht)] 34,mz,Gs49,m53,m121,n121] _
  refine J.d7 (qAA O O ent10 (Ct.use1 6 (m':=λy:Hp×SbR=>y.1) (new:=λ_=> []) O (λF' hF=>qJX F' mz Gs49 (hK.mo hF) (hA.mono (hF F (by simp))) (hT.mono (hF F (by simp))) (hF Gs49 (by simp)) z hSz (k:=(2-k)) (by omega) A121 c121 (h121.sl.mono (hF m121 (by simp))) B121 d121 (k121.sl.mono (hF n121 (by simp))) (by have:=hOz.few hSz.i;omega) (hOz.new_ (by omega) (qRk S hk3))))) rfl ?_
  rintro⟨mz122,y122⟩ hSz122
  try dsimp only at hSz122
  change J _ ((122,I ((0:Nat):Int))::_) _ [_,_,_,_,_,_,mz122,_,_,_,_] _
  refine J.Z ((qAb O O O).no (by decide)) O<|J.b O<|J.c hK34<|J.b8 9 11 13 15 21 124 ?_
  refine J.a5 ?_
  refine J.b7<|J.a6<|J.A (J.H hK33 ?_)
  refine J.a0 9 11 13 15 21 ?_
  exact J.L<|J.b O<|J.f (qAw O O O (by first|omega|(simp only [List.length_append,List.length_cons,List.length_nil,List.length_take,List.length_drop] at*;omega))) rfl<|J.b rfl<|J.a7<|J.A<|J.a8 (k+1,(z.subK (2-k) y122),mz122) (λη (hη:_∧3-η.1<3-k)=>hI2 η hη.1 hη.2) ⟨⟨by dsimp only;omega,hSz122,by dsimp only;rw [qOu S hk3,if_pos hkS];exact hOz.sub (by omega) (qRk S hk3) y122,hzt,hzh⟩,by dsimp only;omega⟩ ⟨rfl,rfl,rfl,rfl,congrArg (λq=>some (I q)) (by dsimp only;omega),trivial⟩ (λ_ h=>h.pick [0,1,2,3,4,5,6,7,8] (by decide))
 rw [show(2-((k:Nat):Int))=((2-k:Nat):Int) by omega]
 refine J.j λK35 hK35=>J.V<|J.g λK36 hK36=>J.p 2 O<|J.f (qAm (i:=2-k) (j:=0+(2-k)*1) O O O qT1 z4_ (by first|omega|(simp only [List.length_append,List.length_cons,List.length_nil,List.length_take,List.length_drop] at*;omega)) (by omega)) rfl<|J.f ((qAJ rfl rfl b4_ (m:=mD) (by simp) (hrd.sl.cells (qDM (by rw [qHe];omega)))).as (v':= .bool false) (by rw [hdz (by omega),decide_eq_false hkS])) rfl<|J.p 10 rfl<|J.c hK36<|J.b8 9 11 13 15 21 124 ?_
 refine J.a5 ?_
 refine J.b7<|J.a6<|J.A (J.H hK35 ?_)
 refine J.a0 9 11 13 15 21 ?_
 exact J.L<|J.b O<|J.f (qAw O O O (by first|omega|(simp only [List.length_append,List.length_cons,List.length_nil,List.length_take,List.length_drop] at*;omega))) rfl<|J.b rfl<|J.a7<|J.A<|J.a8 (k+1,z,mz) (λη (hη:_∧3-η.1<3-k)=>hI2 η hη.1 hη.2) ⟨⟨by dsimp only;omega,hSz,by dsimp only;rw [qOu S hk3,if_neg hkS];exact hOz,hzt,hzh⟩,by dsimp only;omega⟩ ⟨rfl,rfl,rfl,rfl,congrArg (λq=>some (I q)) (by dsimp only;omega),trivial⟩ (λ_ h=>h)
end Go.Proofs.YtllnfioplpipiaaGreatDoor
namespace Go.Proofs.YtllnfioplpipiaaGreatDoor
open Go Go.Fw Go.Proofs.Tryz
set_option maxRecDepth 100000
set_option maxHeartbeats 1000000
theorem qQu{H:Type}{enc:TypeId×Value→H}{P:Program}{W:World}{e:TypeId}{xs:List (List Value)}(he:P.underlying e=some (.int .u8))(hc:P.cellsOf e=1)(h: ∀x∈xs,x.length=1∧ ∃fuel y,DataW.trod enc P W 0 (λ_=>true) true fuel e x=some y): ∃l:List UInt8,xs=qAR l:=by
 obtain ⟨l,hl,_⟩:=qM4 (f:=λb:UInt8=> [B8 b]) (Q:=λ_=>True) (xs:=xs) λx hx=>by
  obtain ⟨h1,fuel,y,hy⟩:=h x hx
  match x,h1,hy with
  | [v],_,hy=>
   obtain ⟨b,rfl⟩:=u8_of he hy
   exact⟨b,rfl,trivial⟩
 exact⟨l,hl⟩
theorem qR8{m:Hp}{sz A n c xs}(h:Sl m sz A n c xs): ∀x∈xs,x.length=sz:=λx hx=>by
 obtain ⟨i,hi⟩:=List.mem_iff_getElem?.1 hx
 exact(h.2.2 i x hi).1
end Go.Proofs.YtllnfioplpipiaaGreatDoor
