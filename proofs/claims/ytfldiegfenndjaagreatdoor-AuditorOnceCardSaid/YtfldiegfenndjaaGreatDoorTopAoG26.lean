/- A part of the proof. -/
import Derived.Test.YtfldiegfenndjaaGreatDoorTopAoG8
import Derived.Test.YtfldiegfenndjaaGreatDoorTopAoG19
import Derived.Test.YtfldiegfenndjaaGreatDoorTopAoG24
import Derived.Test.YtfldiegfenndjaaGreatDoorTopAoG25
import Derived.Test.YtfldiegfenndjaaGreatDoorTopAoG18
set_option linter.unusedSimpArgs false
set_option linter.unusedVariables false
namespace Go.Proofs.YtfldiegfenndjaaGreatDoor
open Go Go.Fw Go.Proofs.Tryz
set_option maxRecDepth 100000
set_option maxHeartbeats 1000000
theorem ent54:qAE prog 54:=qAE.of func54 rfl (by kernel_rfl)
theorem ent62:qAE prog 62:=qAE.of func62 rfl (by kernel_rfl)
def plK(p:Nat×Int):Value:= .agg #[N64 p.1,I p.2]
theorem qQb(a b:Nat):(((a:Int)==(b:Int))=decide (a=b)):=by
 by_cases h:a=b
 · simp [h]
 · rw [decide_eq_false h,beq_eq_false_iff_ne];omega
theorem eqPl(x y:Nat×Int)(w:World):(Op.equalIn 10000 148 (plK x) (plK y)).run prog w= .ok (decide (x=y)) w:=by
 have uu:=qED
 have au:=qCZ
 have u3:=u3_
 have a3:=b3_
 have hS:prog.underlying 148=some (.struct (prog.fieldsOf 148)):=by kernel_rfl
 have hp:prog.stoodInHeld 148=false:=by kernel_rfl
 unfold plK
 rw [show(10000:Nat)=9999+1 from rfl,run_equalIn_struct w 9999 148 _ _ hS hp]
 simp only [Program.fieldsOf,qGa]
 obtain ⟨v,b⟩:=x
 obtain ⟨v',b'⟩:=y
 have hi: ∀(a b:Int) (w:World),(Op.equalIn 9999 36 (.int .u64 a) (.int .u64 b)).run prog w= .ok (a==b) w:=λa b w=>run_equalIn_int w 9998 36 .u64 .u64 a b uu
 have hj: ∀(a b:Int) (w:World),(Op.equalIn 9999 3 (.int .i64 a) (.int .i64 b)).run prog w= .ok (a==b) w:=λa b w=>run_equalIn_int w 9998 3 .i64 .i64 a b u3
 simp only [Op.eqFields]
 simp [part,au,a3,hi,hj,qQb]
 by_cases h1:v=v'<;>by_cases h2:b=b'<;>simp [h1,h2]
theorem ckPl(x:Nat×Int)(e:Bool)(w:World):(Instr.checkKey e 10000 148 (plK x)).run prog w= .ok () w:=by
 have au:=qCZ
 have a3:=b3_
 have us:=run_underlying (w:=w) qGa
 have c1: ∀(v:Int),(Instr.checkKey e 9999 36 (.int .u64 v)).run prog w= .ok () w:=λv=>MapKept.run_checkKey (d:= .int .u64) qED (k:= .int .u64 v) (show IntKind.u64=IntKind.u64 from rfl) e 9998
 have c2: ∀(v:Int),(Instr.checkKey e 9999 3 (.int .i64 v)).run prog w= .ok () w:=λv=>MapKept.run_checkKey (d:= .int .i64) u3_ (k:= .int .i64 v) (show IntKind.i64=IntKind.i64 from rfl) e 9998
 unfold plK
 rw [show(10000:Nat)=9999+1 from rfl]
 unfold Instr.checkKey
 simp only [Sem.run_bind,us,Result.andThen_ok]
 rw [←Array.forIn_toList]
 simp [part,au,a3,c1,c2,Result.andThen]
theorem qN9:qQd plK prog 148 where
 wide:=by kernel_rfl
 ck:=ckPl
 eq a b w:=eqPl a b w
 inj a b h:=by
  unfold plK at h
  obtain ⟨v,b1⟩:=a
  obtain ⟨v',b2⟩:=b
  simp at h
  exact Prod.ext (by dsimp only;omega) (by dsimp only;omega)
abbrev Mrk:=List ((Nat×Int)×List UInt8)
def mkV(l:Mrk):List ((Nat×Int)×Value):=l.map λp=>(p.1,Str p.2)
def qBQ:Mrk→Nat×Int→Option (List UInt8)
 | [],_=>none
 |p::r,k=>if p.1=k then some p.2 else qBQ r k
theorem qEw: ∀(l:Mrk) (k:Nat×Int),qMM (mkV l) k=(qBQ l k).map Str
 | [],_=>rfl
 |p::r,k=>by
  show(if p.1=k then some (Str p.2) else qMM (mkV r) k)=_
  rw [qBQ]
  by_cases h:p.1=k
  · rw [if_pos h,if_pos h];rfl
  · rw [if_neg h,if_neg h];exact qEw r k
theorem qK2(l:Mrk)(k:Nat×Int)(s:List UInt8):mkV l++ [(k,Str s)]=mkV (l++ [(k,s)]):=by unfold mkV;rw [jM];rfl
theorem qLF(o:Option (List UInt8)):(o.map Str).getD (Str [])=Str (o.getD []):=by cases o<;>rfl
def mkB(ep b:Nat)(dg:List UInt8):List UInt8:=Sha.numB (UInt64.ofNat ep) 4++Sha.numB (UInt64.ofNat b) 1++dg
theorem qHm(ep b:Nat)(dg:List UInt8):(mkB ep b dg).length=5+dg.length:=by unfold mkB;simp only [jA,Sha.numB_length]
def qOl(x y:Hd)(ck:Int)(b:Nat)(dp:Int)(old nw:List UInt8):Int:=if x.next y≠0 then x.next y else if ck≠0 then ck else if dp=y.dep∧old=x.nodes.getD b []∧nw=y.nodes.getD b [] then 0 else 15
theorem ack_1{x y:Hd}{ck:Int}{b:Nat}{dp:Int}{old nw:List UInt8}(h:x.next y≠0):qOl x y ck b dp old nw=x.next y:=if_pos h
theorem ack_2{x y:Hd}{ck:Int}{b:Nat}{dp:Int}{old nw:List UInt8}(h: ¬x.next y≠0)(h2:ck≠0):qOl x y ck b dp old nw=ck:=by unfold qOl;rw [if_neg h,if_pos h2]
theorem qFL{x y:Hd}{ck:Int}{b:Nat}{dp:Int}{old nw:List UInt8}(h: ¬x.next y≠0)(h2: ¬ck≠0)(h3: ¬(dp=y.dep∧old=x.nodes.getD b []∧nw=y.nodes.getD b [])):qOl x y ck b dp old nw=15:=by unfold qOl;rw [if_neg h,if_neg h2,if_neg h3]
theorem qOk{x y:Hd}{ck:Int}{b:Nat}{dp:Int}{old nw:List UInt8}(h: ¬x.next y≠0)(h2: ¬ck≠0)(h3:dp=y.dep∧old=x.nodes.getD b []∧nw=y.nodes.getD b []):qOl x y ck b dp old nw=0:=by unfold qOl;rw [if_neg h,if_neg h2,if_pos h3]
theorem qDk(F:Hp)(ga gs gq cnt gm:Nat)(hA:qAP F ⟨ga,0,none⟩ [Ptr gs,I ((cnt:Nat):Int),Ptr gq,.map (some gm)])(gk gb nx:Nat)(hS:qAP F ⟨gs,0,none⟩ [Ptr gk,Ptr gb,I ((nx:Nat):Int)])(hcn:cnt≤1000)(hnx:nx≤100000):Ct prog 21 [Ptr ga] [F] (λ_:Unit=>I ((cnt-nx:Nat):Int)) (λ_=>True) (λ_=> [F]):=by
 refine Ct.walk func21 rfl ntmps21 rfl (λw0 hw0=>?_)
 change J _ [(0,_)] _ _ _
 refine J.g λK1 hK1=>J.b V<|J.c hK1<|J.A 0 ?_
 refine J.k λK2 hK2=>J.g λK3 hK3=>J.b V<|J.f ((qA1 qTS V V V).as (v':= .bool false) V) V<|J.c hK3<|J.E 0 4 ?_
 refine J.a5 ?_
 refine J.W hK2<|J.A 0 ?_
 refine J.k λK4 hK4=>J.b7 [F] [] (.y 0 (.y 1 (.y 2 (.y 3 (.y 4 (.y 5 (.y 6 (.y 7 (.e 8 (.y 9 (.y 10 (.y 11 .nil)))))))))))) Tryz.wide (by decide+kernel) (by simp) ?_
 refine J.L ?_
 refine J.p V (qAC V V) V V<|J.p V (qAA (j:=1) V V qEE V z3_ V) V V<|J.p V (qAL (v:=I ((cnt:Nat):Int)) V V b3_ (m:=F) (by simp) (hA.at (i:=1) rfl)) rfl rfl<|J.L ?_
 refine J.p V (qAC V V) V V<|J.p V (qAA (j:=0) V V qEE V sizeOf137 V) V V<|J.p V (qAL (v:=Ptr gs) V V isAgg137 (m:=F) (by simp) (hA.at (i:=0) rfl)) rfl rfl<|J.b2 rfl (qAB rfl rfl ent62 (Ct.use0 (λF' hF=>qPC F' gs gk gb nx (hS.mono (hF F (by simp)))))) rfl (by simp) λg13 _=>J.p rfl (qAn rfl rfl rfl (by omega)) rfl rfl<|J.p rfl ((qGw rfl rfl rfl).nat (cnt-nx) (by omega)) rfl rfl<|J.c3 ?_
 refine J.b3<|J.u (J.M hK4 ?_)
 refine J.A 2 ?_
 exact J.D<|J.Z hw0 V () V trivial [0] V (by decide)
theorem qCs(F:Hp)(ga gs gq cnt gm:Nat)(hA:qAP F ⟨ga,0,none⟩ [Ptr gs,I ((cnt:Nat):Int),Ptr gq,.map (some gm)])(Ms:Mrk)(hM:qMX plK F gm (mkV Ms))(ep:Nat)(bz:Int):Ct prog 20 [Ptr ga,N64 (ep),I (bz)] [F] (λ_:Unit=> .tuple #[Str ((qBQ Ms (ep,bz)).getD []),.bool ((qBQ Ms (ep,bz)).isSome)]) (λ_=>True) (λ_=> [F]):=by
 refine Ct.walk func20 rfl ntmps20 rfl (λw0 hw0=>?_)
 change J _ [(0,_),(1,_),(2,_)] _ _ _
 refine J.g λK1 hK1=>J.j 2 V<|J.c hK1<|J.G 0 1 2 ?_
 refine J.k λK2 hK2=>J.g λK3 hK3=>J.b V<|J.f ((qA1 qTS V V V).as (v':= .bool false) V) V<|J.c hK3<|J.O 0 1 2 11 ?_
 refine J.a5 ?_
 refine J.W hK2<|J.G 0 1 2 ?_
 refine J.g λK4 hK4=>J.b V<|J.f (qAC V V) V<|J.a2 3 qEE sizeOf143 V V V V V<|J.f (qAL (v:= .map (some gm)) V V isAgg143 (m:=F) (by simp) (hA.at (i:=3) rfl)) rfl<|J.j 2 rfl<|J.f (qAK (l:= [(0,.tmp 17),(1,.tmp 18)]) (vs:= [N64 (ep),I (bz)]) (places:= [(0,1),(1,1)]) (r:= [N64 (ep),I (bz)]) rfl rfl rfl qGa qHw (λ_=>by kernel_rfl) rfl) rfl<|J.f ((qD1 (K:=plK) (l:=mkV Ms) (s:=(ep,bz)) qN9 rfl rfl rfl qMr e9_ (m:=F) (by simp) hM).as (v':= .tuple #[Str ((qBQ Ms (ep,bz)).getD []),.bool (qBQ Ms (ep,bz)).isSome]) (by rw [qEw,qLF,Option.isSome_map])) rfl<|J.j 5 rfl<|J.c hK4<|J.E 8 9 ?_
 refine J.g λK5 hK5=>J.j 4 V<|J.c hK5<|J.E 6 7 ?_
 exact J.D<|J.b4 hw0 (λ_ _ h=>h) (qDe V V V) (qAj () V trivial [0] V (by decide))
theorem qD8(F:Hp)(ga gs gq cnt gm:Nat)(hA:qAP F ⟨ga,0,none⟩ [Ptr gs,I ((cnt:Nat):Int),Ptr gq,.map (some gm)])(gk gb nx:Nat)(hS:qAP F ⟨gs,0,none⟩ [Ptr gk,Ptr gb,I ((nx:Nat):Int)])(seed:List UInt8)(kh:Nat)(hk:qGR F gk seed kh)(hsd:seed.length≤1048576)(h6:kh≤6):Ct prog 26 [Ptr ga] [F] (λ_:Unit=> .agg #[Str (Wo.opn (seed)),Str (Xm.root (seed) (kh)),I ((kh:Nat):Int)]) (λ_=>True) (λ_=> [F]):=by
 refine Ct.walk func26 rfl ntmps26 rfl (λw0 hw0=>?_)
 change J _ [(0,_)] _ _ _
 refine J.g λK1 hK1=>J.q (qAO (l:= [Str [],Str [],I 0]) V zeroValue54 V) V λg2 _=>?_
 change J _ _ _ [F,blk g2 [Str [],Str [],I 0] 54] _
 refine J.c hK1<|J.E 0 2 ?_
 refine J.k λK2 hK2=>J.g λK3 hK3=>J.b V<|J.f ((qA1 qTS V V V).as (v':= .bool false) V) V<|J.c hK3<|J.G 0 2 4 ?_
 refine J.a5 ?_
 refine J.W hK2<|J.E 0 2 ?_
 refine J.g λK4 hK4=>J.b V<|J.f (qAC V V) V<|J.a2 0 qEE sizeOf137 V V V V V<|J.f (qAL (v:=Ptr gs) V V isAgg137 (m:=F) (by simp) (hA.at (i:=0) rfl)) rfl<|J.q (qAB rfl rfl ent54 (Ct.use0 (λF' hF=>qJg F' gs gk gb nx (hS.mono (hF F (by simp))) seed kh (hk.mono (hF F (by simp))) hsd h6))) rfl λg10 _=>J.b1 (qAG (i:=1) (l:= [Str [],Str [],I 0]) (vs:= [Str (Wo.opn (seed)),Str (Xm.root (seed) (kh)),I ((kh:Nat):Int)]) rfl rfl rfl rfl rfl qMY rfl rfl) rfl rfl λ_ _=>?_
 change J _ _ _ [_,blk g2 [Str (Wo.opn (seed)),Str (Xm.root (seed) (kh)),I ((kh:Nat):Int)] 54] _
 refine J.c hK4<|J.A 2 ?_
 exact J.D<|J.b4 hw0 (λ_ _ h=>h) (rv1 V (RV.blkA 1 V V isAgg54 qMY)) (qAj () V trivial [0] V (by decide))
theorem qOg{X:Type}(F B md mm:Hp)(ga gs gq cnt gm:Nat)(hA:qAP F ⟨ga,0,none⟩ [Ptr gs,I ((cnt:Nat):Int),Ptr gq,.map (some gm)])(ep b:Nat)(h1:ep≤4294967295)(h2:b<16)(dg:List UInt8)(hd:dg.length=16)(Ms:Mrk)(hM:qCF plK mm gm (mkV Ms))(hn:qBQ Ms (ep,((b:Nat):Int))=none)(φ:X→Prop)(B1 M1 N1:X→Hp)(hP: ∀F':Hp,Le F F'→Ct prog 121 [Ptr gq,Str (mkB ep b dg)] [B,md,F'] (λ_:X=>I (0)) φ (λx=> [B1 x,M1 x,F',N1 x])):Ct prog 60 [Ptr ga,.agg #[N64 ep,I ((b:Nat):Int)],Str dg] [B,md,mm,F] (λ_:X×Hp=>I 0) (λx=>φ x.1∧qCF plK x.2 gm (mkV (Ms++ [((ep,((b:Nat):Int)),dg)]))) (λx=> [B1 x.1,M1 x.1,x.2,F,N1 x.1]):=by
 refine Ct.walk func60 rfl ntmps60 rfl (λw0 hw0=>?_)
 change J _ [(0,_),(1,_),(2,_)] _ _ _
 refine J.g λK1 hK1=>J.q (qAi (l:= [N64 (ep),I ((b:Nat):Int)]) V V V) V λg4 _=>?_
 change J _ _ _ [B,md,mm,F,blk g4 [N64 (ep),I ((b:Nat):Int)] 148] _
 refine J.b V<|J.c hK1<|J.G 0 2 4 ?_
 refine J.g λK2 hK2=>J.q (qAO (l:= [.pointer none,.slice none 0 0,I 0]) V qKB V) V λg7 _=>?_
 change J _ _ _ [_,_,_,_,_,blk g7 [.pointer none,.slice none 0 0,I 0] 188] _
 refine J.c hK2<|J.O 0 2 4 7 ?_
 refine J.k λK3 hK3=>J.b7 [blk g4 [N64 (ep),I ((b:Nat):Int)] 148] [] (.y 0 (.y 1 (.y 3 (.y 4 (.y 5 (.y 7 (.e 2 (.e 6 (.e 8 (.e 9 (.y 10 (.y 11 (.y 12 (.y 13 (.y 14 .nil))))))))))))))) Tryz.wide (by decide+kernel) (by simp) ?_
 refine J.p V (qAA (j:=0) V V qGa V qCG V) V V<|J.p V (qAD 0 (v:=N64 (ep)) V V V qCZ V) V V<|J.p V (qAA (j:=1) V V qGa V z3_ V) V V<|J.p V (qAD 0 (v:=I ((b:Nat):Int)) V V V b3_ V) V V<|J.p V (qCn (m:=b) V V u3_ qED (by omega)) V V<|J.L ?_
 refine J.b2 V (qAB V V ent83 (Ct.use1 5 (m':=λx:Hp=>x) (new:=λ_=> []) V (λF' hF=>qEs F' (blk g7 [.pointer none,.slice none 0 0,I 0] 188) g7 ([]) (wtrN g7) (by first|decide|omega|(simp only [jA,jD,jH,jP,Sha.numB_length,qDC]<;>omega)) ep 4 (by decide) (by decide) (by first|decide|omega|assumption)))) rfl (by simp) ?_
 rintro m14 hw14
 change J _ ((14,Ptr g7)::_) _ [_,_,_,_,_,m14] _
 rw [jp] at hw14
 refine J.b2 V (qAB V V ent83 (Ct.use1 5 (m':=λx:Hp=>x) (new:=λ_=> []) V (λF' hF=>qEs F' m14 g7 (Sha.numB (UInt64.ofNat (ep)) 4) hw14 (by first|decide|omega|(simp only [jA,jD,jH,jP,Sha.numB_length,qDC]<;>omega)) b 1 (by decide) (by decide) (by first|decide|omega|assumption)))) rfl (by simp) ?_
 rintro m18 hw18
 change J _ ((18,Ptr g7)::_) _ [_,_,_,_,_,m18] _
 refine J.b2 V (qAB V V ent84 (Ct.use1 5 (m':=λx:Hp=>x) (new:=λ_=> []) V (λF' hF=>qOK F' m18 g7 ((Sha.numB (UInt64.ofNat (ep)) 4)++Sha.numB (UInt64.ofNat b) 1) hw18 (by first|decide|omega|(simp only [jA,jD,jH,jP,Sha.numB_length,qDC]<;>omega)) dg 16 (by first|decide|omega|assumption) (by decide)))) rfl (by simp) ?_
 rintro m20 hw20
 change J _ ((20,Ptr g7)::_) _ [_,_,_,_,_,m20] _
 replace hw20:Wtr m20 g7 (mkB ep b dg) 0:=hw20
 have hml:=qHm ep b dg
 refine J.b2 V (qAB V V ent86 (Ct.use1 5 (m':=λx:Hp=>x) (new:=λ_=> []) V (λF' hF=>qEY F' m20 g7 (mkB ep b dg) hw20 (by first|decide|omega|(simp only [jA,jD,jH,jP,Sha.numB_length,qDC]<;>omega))))) rfl (by simp) ?_
 rintro m21 hw21
 change J _ ((21,.tuple #[Str (mkB ep b dg),I ((0:Nat):Int)])::_) _ [_,_,_,_,_,m21] _
 refine J.L ?_
 refine J.d3 (Str (mkB ep b dg)) ?_
 refine J.d3 (I ((0:Nat):Int)) ?_
 refine J.c3 ?_
 refine J.c3 ?_
 refine J.b3<|J.u (J.M hK3 ?_)
 refine J.a0 0 2 4 8 9 ?_
 refine J.k λK4 hK4=>J.g λK5 hK5=>J.b V<|J.f ((qAU V V V).no (by decide)) V<|J.c hK5<|J.b5 0 2 4 8 9 25 ?_
 refine J.a5 ?_
 refine J.W hK4<|J.O 0 2 4 8 ?_
 refine J.k λK6 hK6=>J.g λK7 hK7=>J.b V<|J.f (qAC V V) V<|J.a2 2 qEE sizeOf140 V V V V V<|J.f (qAL (v:=Ptr gq) V V isAgg140 (m:=F) (by simp) (hA.at (i:=2) rfl)) rfl<|J.b rfl<|J.q (qAB rfl rfl ent121 (Ct.useA [B,md] [mm,F,blk g4 [N64 (ep),I ((b:Nat):Int)] 148,m21] (A':=λx:X=> [B1 x,M1 x]) (new:=λx=> [N1 x]) (λF' hF=>hP F' (hF F (by simp))))) rfl ?_
 rintro x32 h32
 change J _ _ _ [B1 x32,M1 x32,_,_,_,_,N1 x32] _
 refine J.b V<|J.c hK7<|J.O 0 2 4 10 ?_
 refine J.g λK8 hK8=>J.b V<|J.f ((qAU V V V).no (by decide)) V<|J.c hK8<|J.a0 0 2 4 10 34 ?_
 refine J.a5 ?_
 refine J.W hK6<|J.G 0 2 4 ?_
 refine J.k λK9 hK9=>J.b7 [F,blk g4 [N64 (ep),I ((b:Nat):Int)] 148] [6] (.y 0 (.y 1 (.y 2 (.y 3 (.y 4 (.y 5 (.e 6 .nil))))))) Tryz.wide (by decide+kernel) (by simp) ?_
 refine J.L ?_
 refine J.p V (qAC V V) V V<|J.p V (qAA (j:=3) V V qEE V sizeOf143 V) V V<|J.p V (qAL (v:= .map (some gm)) V V isAgg143 (m:=F) (by simp) (hA.at (i:=3) rfl)) rfl rfl<|J.p rfl (qAm 1 rfl rfl rfl isAgg148 qEh rfl) rfl rfl<|J.L ?_
 refine J.d2 V (qGx (K:=plK) (l:=mkV Ms) (s:=(ep,((b:Nat):Int))) (u:=Str dg) qN9 V V V V qMr (i:=2) V hM (by rw [qEw,hn];rfl)) rfl rfl rfl ?_
 rintro mr8 hmr8
 change J _ _ _ [_,_,mr8,_,_,_,_] _
 rw [qK2] at hmr8
 refine J.b3<|J.u (J.M hK9 ?_)
 refine J.d0 [] trivial<|J.g λK10 hK10=>J.b V<|J.c hK10<|J.A 6 ?_
 exact J.D<|J.Z hw0 V (x32,mr8) V ⟨h32,hmr8⟩ [0,1,2,3,6] V (by decide)
theorem qQS{X:Type}(F B md mm:Hp)(ga gs gq cnt gm:Nat)(hA:qAP F ⟨ga,0,none⟩ [Ptr gs,I ((cnt:Nat):Int),Ptr gq,.map (some gm)])(ep b:Nat)(h1:ep≤4294967295)(h2:b<16)(dg:List UInt8)(hd:dg.length=16)(Ms:Mrk)(e1:Int)(h0:e1≠0)(φ:X→Prop)(B1 M1 N1:X→Hp)(hP: ∀F':Hp,Le F F'→Ct prog 121 [Ptr gq,Str (mkB ep b dg)] [B,md,F'] (λ_:X=>I (e1)) φ (λx=> [B1 x,M1 x,F',N1 x])):Ct prog 60 [Ptr ga,.agg #[N64 ep,I ((b:Nat):Int)],Str dg] [B,md,mm,F] (λ_:X=>I e1) φ (λx=> [B1 x,M1 x,mm,F,N1 x]):=by
 refine Ct.walk func60 rfl ntmps60 rfl (λw0 hw0=>?_)
 change J _ [(0,_),(1,_),(2,_)] _ _ _
 refine J.g λK1 hK1=>J.q (qAi (l:= [N64 (ep),I ((b:Nat):Int)]) V V V) V λg4 _=>?_
 change J _ _ _ [B,md,mm,F,blk g4 [N64 (ep),I ((b:Nat):Int)] 148] _
 refine J.b V<|J.c hK1<|J.G 0 2 4 ?_
 refine J.g λK2 hK2=>J.q (qAO (l:= [.pointer none,.slice none 0 0,I 0]) V qKB V) V λg7 _=>?_
 change J _ _ _ [_,_,_,_,_,blk g7 [.pointer none,.slice none 0 0,I 0] 188] _
 refine J.c hK2<|J.O 0 2 4 7 ?_
 refine J.k λK3 hK3=>J.b7 [blk g4 [N64 (ep),I ((b:Nat):Int)] 148] [] (.y 0 (.y 1 (.y 3 (.y 4 (.y 5 (.y 7 (.e 2 (.e 6 (.e 8 (.e 9 (.y 10 (.y 11 (.y 12 (.y 13 (.y 14 .nil))))))))))))))) Tryz.wide (by decide+kernel) (by simp) ?_
 refine J.p V (qAA (j:=0) V V qGa V qCG V) V V<|J.p V (qAD 0 (v:=N64 (ep)) V V V qCZ V) V V<|J.p V (qAA (j:=1) V V qGa V z3_ V) V V<|J.p V (qAD 0 (v:=I ((b:Nat):Int)) V V V b3_ V) V V<|J.p V (qCn (m:=b) V V u3_ qED (by omega)) V V<|J.L ?_
 refine J.b2 V (qAB V V ent83 (Ct.use1 5 (m':=λx:Hp=>x) (new:=λ_=> []) V (λF' hF=>qEs F' (blk g7 [.pointer none,.slice none 0 0,I 0] 188) g7 ([]) (wtrN g7) (by first|decide|omega|(simp only [jA,jD,jH,jP,Sha.numB_length,qDC]<;>omega)) ep 4 (by decide) (by decide) (by first|decide|omega|assumption)))) rfl (by simp) ?_
 rintro m14 hw14
 change J _ ((14,Ptr g7)::_) _ [_,_,_,_,_,m14] _
 rw [jp] at hw14
 refine J.b2 V (qAB V V ent83 (Ct.use1 5 (m':=λx:Hp=>x) (new:=λ_=> []) V (λF' hF=>qEs F' m14 g7 (Sha.numB (UInt64.ofNat (ep)) 4) hw14 (by first|decide|omega|(simp only [jA,jD,jH,jP,Sha.numB_length,qDC]<;>omega)) b 1 (by decide) (by decide) (by first|decide|omega|assumption)))) rfl (by simp) ?_
 rintro m18 hw18
 change J _ ((18,Ptr g7)::_) _ [_,_,_,_,_,m18] _
 refine J.b2 V (qAB V V ent84 (Ct.use1 5 (m':=λx:Hp=>x) (new:=λ_=> []) V (λF' hF=>qOK F' m18 g7 ((Sha.numB (UInt64.ofNat (ep)) 4)++Sha.numB (UInt64.ofNat b) 1) hw18 (by first|decide|omega|(simp only [jA,jD,jH,jP,Sha.numB_length,qDC]<;>omega)) dg 16 (by first|decide|omega|assumption) (by decide)))) rfl (by simp) ?_
 rintro m20 hw20
 change J _ ((20,Ptr g7)::_) _ [_,_,_,_,_,m20] _
 replace hw20:Wtr m20 g7 (mkB ep b dg) 0:=hw20
 have hml:=qHm ep b dg
 refine J.b2 V (qAB V V ent86 (Ct.use1 5 (m':=λx:Hp=>x) (new:=λ_=> []) V (λF' hF=>qEY F' m20 g7 (mkB ep b dg) hw20 (by first|decide|omega|(simp only [jA,jD,jH,jP,Sha.numB_length,qDC]<;>omega))))) rfl (by simp) ?_
 rintro m21 hw21
 change J _ ((21,.tuple #[Str (mkB ep b dg),I ((0:Nat):Int)])::_) _ [_,_,_,_,_,m21] _
 refine J.L ?_
 refine J.d3 (Str (mkB ep b dg)) ?_
 refine J.d3 (I ((0:Nat):Int)) ?_
 refine J.c3 ?_
 refine J.c3 ?_
 refine J.b3<|J.u (J.M hK3 ?_)
 refine J.a0 0 2 4 8 9 ?_
 refine J.k λK4 hK4=>J.g λK5 hK5=>J.b V<|J.f ((qAU V V V).no (by decide)) V<|J.c hK5<|J.b5 0 2 4 8 9 25 ?_
 refine J.a5 ?_
 refine J.W hK4<|J.O 0 2 4 8 ?_
 refine J.k λK6 hK6=>J.g λK7 hK7=>J.b V<|J.f (qAC V V) V<|J.a2 2 qEE sizeOf140 V V V V V<|J.f (qAL (v:=Ptr gq) V V isAgg140 (m:=F) (by simp) (hA.at (i:=2) rfl)) rfl<|J.b rfl<|J.q (qAB rfl rfl ent121 (Ct.useA [B,md] [mm,F,blk g4 [N64 (ep),I ((b:Nat):Int)] 148,m21] (A':=λx:X=> [B1 x,M1 x]) (new:=λx=> [N1 x]) (λF' hF=>hP F' (hF F (by simp))))) rfl ?_
 rintro x32 h32
 change J _ _ _ [B1 x32,M1 x32,_,_,_,_,N1 x32] _
 refine J.b V<|J.c hK7<|J.O 0 2 4 10 ?_
 refine J.g λK8 hK8=>J.b V<|J.f ((qAU V V V).yes (h0)) V<|J.c hK8<|J.a0 0 2 4 10 34 ?_
 refine J.c7 ?_
 refine J.g λK9 hK9=>J.j 2 V<|J.c hK9<|J.A 6 ?_
 exact J.D<|J.a7<|J.Z hw0 V x32 V h32 [0,1,2,3,6] V (by decide)
def qm0(s:List UInt8):RS:=⟨s,0⟩
def qm1(s:List UInt8):RS:=(qm0 s).take 4
def qm2(s:List UInt8):RS:=(qm1 s).take 1
def qm3(s:List UInt8):RS:=(qm2 s).take 16
theorem qTf{ep b:Nat}(h1:ep≤4294967295)(h2:b<16){dg:List UInt8}(hd:dg.length=16):qBk ((qm0 (mkB ep b dg)).out 4)=ep∧qBk ((qm1 (mkB ep b dg)).out 1)=b∧(qm2 (mkB ep b dg)).out 16=dg∧(qm3 (mkB ep b dg)).last=0:=by
  have l1:=Sha.numB_length (UInt64.ofNat ep) 4
  have l2:=Sha.numB_length (UInt64.ofNat b) 1
  have e0:qm0 (mkB ep b dg)=⟨Sha.numB (UInt64.ofNat ep) 4++(Sha.numB (UInt64.ofNat b) 1++dg),0⟩:=by unfold qm0 mkB;rw [jT]
  have e1:qm1 (mkB ep b dg)=⟨Sha.numB (UInt64.ofNat b) 1++dg,0⟩:=by
    unfold qm1
    rw [e0,qFl (by rw [jA];omega),List.drop_left' l1]
  have e2:qm2 (mkB ep b dg)=⟨dg,0⟩:=by
    unfold qm2
    rw [e1,qFl (by rw [jA];omega),List.drop_left' l2]
  have e3:qm3 (mkB ep b dg)=⟨[],0⟩:=by
    unfold qm3
    rw [e2,qFl (by omega),jq (by omega)]
  refine⟨?_,?_,?_,?_⟩
  · rw [e0,qIg (by rw [jA];omega),zj l1,qES _ (by omega) 4 (by decide)]
    exact ja (by omega)
  · rw [e1,qIg (by rw [jA];omega),zj l2,qES _ (by omega) 1 (by decide)]
    exact ja (by omega)
  · rw [e2,qIg (by omega),jV (by omega)]
  · rw [e3];rfl
theorem qTg(s:List UInt8):qBk ((qm1 s).out 1)<256:=by
 have h:=qF6 ((qm1 s).out 1)
 have hl:=(qm1 s).out_len 1
 have:256^((qm1 s).out 1).length≤256^1:=jg (by decide) hl
 omega
theorem qSh(F:Hp)(s:List UInt8):Ct prog 56 [Str (s)] [F] (λ_:Unit=> .tuple #[.agg #[N64 (qBk ((qm0 (s)).out 4)),I ((qBk ((qm1 (s)).out 1):Nat):Int)],Str ((qm2 (s)).out 16),.bool (decide ((qm3 (s)).last=0))]) (λ_=>True) (λ_=> [F]):=by
 have hq1:=qTg s
 refine Ct.walk func56 rfl ntmps56 rfl (λw0 hw0=>?_)
 change J _ [(0,_)] _ _ _
 refine J.g λK1 hK1=>J.q (qAO (l:= [.int .u64 0,I 0]) V qHw V) V λg2 _=>?_
 change J _ _ _ [F,blk g2 [.int .u64 0,I 0] 148] _
 refine J.j 2 V<|J.c hK1<|J.E 0 2 ?_
 refine J.g λK2 hK2=>J.b V<|J.q (qAB V V ent112 (Ct.use (new:=λg=> [RSb g (qm0 (s))]) (λF' _=>(qJl F' s).mono (φ2:=λ_=>True) (val2:=Ptr) (ms2:=λg=>F':: [RSb g (qm0 (s))]) id (λ_ _=>rfl) (λ_ h=>h) (λx w0 w _ h=>h.pick [1,0] (by decide))))) V ?_
 rintro g9 _
 change J _ ((9,Ptr g9)::_) _ [_,_,RSb g9 (qm0 (s))] _
 refine J.b V<|J.c hK2<|J.E 2 5 ?_
 refine J.g λK3 hK3=>J.b V<|J.q (qAB V V ent113 (Ct.use1 2 (m':=λ_:Unit=>RSb g9 (qm1 (s))) (new:=λ_=> []) V (λF' _=>qDO F' g9 (qm0 (s)) 4 (by decide) (by decide)))) V λg11 _=>?_
 change J _ _ _ [_,_,RSb g9 (qm1 (s))] _
 refine J.b V<|J.q (qAB V V ent113 (Ct.use1 2 (m':=λ_:Unit=>RSb g9 (qm2 (s))) (new:=λ_=> []) V (λF' _=>qDO F' g9 (qm1 (s)) 1 (by decide) (by decide)))) V λg13 _=>?_
 change J _ _ _ [_,_,RSb g9 (qm2 (s))] _
 refine J.f (qCI (a:=qBk ((qm1 (s)).out 1)) V V qED u3_ (by omega)) V<|J.f (qAK (l:= [(0,.tmp 11),(1,.tmp 14)]) (vs:= [N64 (qBk ((qm0 (s)).out 4)),I ((qBk ((qm1 (s)).out 1):Nat):Int)]) (places:= [(0,1),(1,1)]) (r:= [N64 (qBk ((qm0 (s)).out 4)),I ((qBk ((qm1 (s)).out 1):Nat):Int)]) V V V qGa qHw (λ_=>by kernel_rfl) V) V<|J.q (qAO (l:= [.int .u64 0,I 0]) V qHw V) V λg6 _=>?_
 change J _ _ _ [_,_,_,blk g6 [.int .u64 0,I 0] 148] _
 refine J.b1 (qAG (i:=3) (l:= [.int .u64 0,I 0]) (vs:= [N64 (qBk ((qm0 (s)).out 4)),I ((qBk ((qm1 (s)).out 1):Nat):Int)]) V V V V V qEh V V) V V λ_ _=>?_
 change J _ _ _ [_,_,_,blk g6 [N64 (qBk ((qm0 (s)).out 4)),I ((qBk ((qm1 (s)).out 1):Nat):Int)] 148] _
 refine J.c hK3<|J.G 2 5 6 ?_
 refine J.g λK4 hK4=>J.b V<|J.q (qAB V V ent117 (Ct.use1 2 (m':=λ_:Unit=>RSb g9 (qm3 (s))) (new:=λ_=> []) V (λF' _=>qFq F' g9 (qm2 (s)) 16))) V λg17 _=>?_
 change J _ _ _ [_,_,RSb g9 (qm3 (s)),_] _
 refine J.b V<|J.c hK4<|J.O 2 5 6 7 ?_
 refine J.k λK5 hK5=>J.b7 [F,blk g2 [.int .u64 0,I 0] 148,RSb g9 (qm3 (s)),blk g6 [N64 (qBk ((qm0 (s)).out 4)),I ((qBk ((qm1 (s)).out 1):Nat):Int)] 148] [5,6,7,100001,100004] (.y 0 (.y 1 (.y 2 (.e 3 (.y 4 (.e 5 (.e 6 (.e 7 .nil)))))))) Tryz.wide (by decide+kernel) (by simp) ?_
 refine J.p V (qAm 3 V V V isAgg148 qEh V) V V<|J.e6 V (qAb V V) V V V ?_
 refine J.L ?_
 refine J.b2 V (qAB V V ent114 (Ct.use1 2 (m':=λ_:Unit=>RSb g9 (qm3 (s))) (new:=λ_=> []) V (λF' _=>qRA F' g9 (qm3 (s))))) V (by simp) λg21 _=>?_
 change J _ _ _ [_,_,_,_] _
 refine J.e6 V (qAS V V V) V V V ?_
 refine J.d2 V (qAG (i:=1) (l:= [.int .u64 0,I 0]) (vs:= [N64 (qBk ((qm0 (s)).out 4)),I ((qBk ((qm1 (s)).out 1):Nat):Int)]) V V V V V qEh V V) V V V λ_ _=>?_
 change J _ _ _ [_,blk g2 [N64 (qBk ((qm0 (s)).out 4)),I ((qBk ((qm1 (s)).out 1):Nat):Int)] 148,_,_] _
 refine J.e5 V (YOp.eop (qAy V V)) V V V V ?_
 intro _ _
 refine J.e5 V (YOp.eop (qAy V V)) V V V V ?_
 intro _ _
 refine J.b3<|J.u (J.M hK5 ?_)
 refine J.G 2 3 4 ?_
 exact J.D<|J.b4 hw0 (λ_ _ h=>h) (rv3 V (RV.blkA 1 V V isAgg148 qEh) V V) (qAj () V trivial [0] V (by decide))
theorem qPq(F:Hp){ep b:Nat}(h1:ep≤4294967295)(h2:b<16){dg:List UInt8}(hd:dg.length=16):Ct prog 56 [Str (mkB ep b dg)] [F] (λ_:Unit=> .tuple #[.agg #[N64 ep,I ((b:Nat):Int)],Str dg,.bool true]) (λ_=>True) (λ_=> [F]):=by
 have h:=qSh F (mkB ep b dg)
 obtain ⟨q1,q2,q3,q4⟩:=qTf h1 h2 hd
 rw [q1,q2,q3,q4] at h
 exact h
end Go.Proofs.YtfldiegfenndjaaGreatDoor
