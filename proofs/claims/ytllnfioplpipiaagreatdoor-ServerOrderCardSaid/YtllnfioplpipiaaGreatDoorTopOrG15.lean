/- A part of the proof. -/
import Derived.Test.YtllnfioplpipiaaGreatDoorTopOrG14
import Derived.Test.YtllnfioplpipiaaGreatDoorTopOrG13
import Derived.Shelf.Sort.Plain
import Derived.Shelf.Slices.In.SortNone
import Derived.Test.YtllnfioplpipiaaGreatDoorTopOrG8
import Derived.Test.YtllnfioplpipiaaGreatDoorTopOrG4
import Derived.Test.YtllnfioplpipiaaGreatDoorTopOrG5
set_option linter.unusedSimpArgs false
set_option linter.unusedVariables false
namespace Go.Proofs.YtllnfioplpipiaaGreatDoor
open Go Go.Fw Go.Proofs.Tryz
set_option maxRecDepth 100000
set_option maxHeartbeats 1000000
open Go.Shelf Go.RowKit
def Tryz.lays190_ren:Go.Shelf.Ren:=⟨λ|190=>218|125=>245|258=>244|128=>262|129=>263|302=>253|303=>254|304=>255|305=>256|306=>257|307=>258|308=>259|309=>260|310=>261|333=>267|329=>268|330=>269|334=>270|335=>271|336=>272|344=>277|n=>n,λ|31=>44|9=>9|3=>3|46=>161|0=>0|51=>230|53=>41|4=>4|183=>343|182=>342|131=>277|5=>5|218=>351|222=>355|228=>357|229=>308|n=>n,λ|n=>n⟩
theorem Tryz.lays190:Go.Proofs.Lays.n190 prog Tryz.lays190_ren:={
 mixed:=by kernel_rfl
 f125:=func245.trans (congrArg some (by kernel_rfl))
 f128:=func262.trans (congrArg some (by kernel_rfl))
 f129:=func263.trans (congrArg some (by kernel_rfl))
 f190:=func218.trans (congrArg some (by kernel_rfl))
 f258:=func244.trans (congrArg some (by kernel_rfl))
 f302:=func253.trans (congrArg some (by kernel_rfl))
 f303:=func254.trans (congrArg some (by kernel_rfl))
 f304:=func255.trans (congrArg some (by kernel_rfl))
 f305:=func256.trans (congrArg some (by kernel_rfl))
 f306:=func257.trans (congrArg some (by kernel_rfl))
 f307:=func258.trans (congrArg some (by kernel_rfl))
 f308:=func259.trans (congrArg some (by kernel_rfl))
 f309:=func260.trans (congrArg some (by kernel_rfl))
 f310:=func261.trans (congrArg some (by kernel_rfl))
 f329:=func268.trans (congrArg some (by kernel_rfl))
 f330:=func269.trans (congrArg some (by kernel_rfl))
 f333:=func267.trans (congrArg some (by kernel_rfl))
 f334:=func270.trans (congrArg some (by kernel_rfl))
 f335:=func271.trans (congrArg some (by kernel_rfl))
 f336:=func272.trans (congrArg some (by kernel_rfl))
 f344:=func277.trans (congrArg some (by kernel_rfl))
 t0:=u0_
 a0:=isAgg0
 z0:=sizeOf0
 v0:=e0_
 t3:=u3_
 a3:=b3_
 z3:=z3_
 v3:=e3_
 t4:=u4_
 a4:=b4_
 z4:=z4_
 v4:=e4_
 t5:=u5_
 a5:=b5_
 z5:=z5_
 v5:=e5_
 t9:=u9_
 a9:=b9_
 z9:=z9_
 v9:=e9_
 t31:=qAe
 a31:=qBo
 z31:=qBf
 v31:=zeroValue44
 t46:=qGy
 a46:=isAgg161
 z46:=sizeOf161
 v46:=zeroValue161
 t51:=qH5
 a51:=qCX
 z51:=qBk
 v51:=zeroValue230
 t53:=qEi
 a53:=qHt
 z53:=qF9
 v53:=zeroValue41
 t131:=underlying277
 a131:=isAgg277
 z131:=sizeOf277
 v131:=zeroValue277
 t182:=underlying342
 a182:=isAgg342
 z182:=sizeOf342
 v182:=zeroValue342
 t183:=underlying343
 a183:=isAgg343
 z183:=sizeOf343
 v183:=zeroValue343
 t218:=underlying351
 a218:=isAgg351
 z218:=sizeOf351
 v218:=zeroValue351
 t222:=underlying355
 a222:=isAgg355
 z222:=sizeOf355
 v222:=zeroValue355
 t228:=underlying357
 a228:=isAgg357
 z228:=sizeOf357
 v228:=zeroValue357
 t229:=underlying308
 a229:=isAgg308
 z229:=sizeOf308
 v229:=zeroValue308}
theorem qR6(F m:Hp)(A:Option Addr)(n c:Nat)(l:List (List UInt8))(hr:Row m 9 1 A n c (qAG l))(hn:n≤1073741824):
    Ct prog 218 [.slice A n c] [m,F] (λ_:Hp=> .tuple #[]) (λm'=>Row m' 9 1 A n c (qAG (Sm.srt l))) (λm'=> [m',F]):=
  Ct.ofSort Sm.srt_len (λblk off cap ss w h1 h2 h3=>Any.slices_Sort_string Tryz.lays190 blk off cap ss w h1 h2 h3) (λp cap w=>Any.slices_Sort_string_none Tryz.lays190 p cap w) hr hn
end Go.Proofs.YtllnfioplpipiaaGreatDoor
namespace Go.Proofs.YtllnfioplpipiaaGreatDoor
open Go Go.Fw Go.Proofs.Tryz
set_option maxRecDepth 100000
set_option maxHeartbeats 1000000
theorem ent183:qAD prog 183:=qAD.of func183 rfl (by kernel_rfl)
theorem ent184:qAD prog 184:=qAD.of func184 rfl (by kernel_rfl)
theorem ent217:qAD prog 217:=qAD.of func217 rfl (by kernel_rfl)
theorem ent218:qAD prog 218:=qAD.of func218 rfl (by kernel_rfl)
theorem ent219:qAD prog 219:=qAD.of func219 rfl (by kernel_rfl)
theorem ent243:qAD prog 243:=qAD.of func243 rfl (by kernel_rfl)
theorem qQJ(F:Hp)(gm:Nat):Ct prog 184 [.map (some gm)] [F] (λg:Nat=> .func (.func 219) #[] #[Ptr g]) (λ_=>True) (λg=> [F,blk g [.map (some gm)] 174]):=by
 refine Ct.walk func184 rfl ntmps184 rfl (λw0 hw0=>?_)
 change J _ [(0,_)] _ _ _
 refine J.g λK1 hK1=>J.k (qAi (l:= [.map (some gm)]) O O O) O λg1 _=>?_
 change J _ _ _ [F,blk g1 [.map (some gm)] 174] _
 refine J.b O<|J.c hK1<|J.u 1 ?_
 refine J.g λK2 hK2=>J.f (qBR O O) O<|J.b O<|J.c hK2<|J.u 2 ?_
 exact J.D<|J.M hw0 O g1 O trivial [0,1] O (by decide)
theorem qQU(Fr:Hp)(gb gm:Nat)(lv:List Sm.PR)(hb:qAL Fr ⟨gb,0,none⟩ [.map (some gm)])(hm:MapAt Fr gm (ssM lv)):
    qJH prog 219 [Ptr gb] Fr (Y:=MP) (λy vs y'=> ∃p a b,y=a++p::b∧vs= [Str p.1]∧y'=a++b) (λy=>y= []) (ssM lv):=by
  obtain ⟨es,ck,hg,hst,hkv⟩:=hm
  refine qJH.walk func219 rfl ntmps219 rfl (λ{X} M IY S l x0 w0 hw0 h0 hY=>?_)
  change J _ [(0,_),(1,_)] _ _ _
  refine J.g λK1 hK1=>J.f (qAJ (v:= .map (some gm)) O O isAgg174 (m:=Fr) (by simp) (hb)) rfl<|J.k (qIS rfl rfl qMg (m:=Fr) (by simp) hg hkv) rfl ?_
  rintro⟨g5,mi⟩ hit
  try dsimp only at hit
  change J _ ((5,Ptr g5)::_) _ [Fr,M x0,mi] _
  refine J.c hK1<|J.E 0 5 ?_
  refine J.V<|J.b6 (X:=MP×X×Hp) (λζ=> [(0,.func (.yield l) #[] #[]),(5,Ptr g5)]) (λζ=> [Fr,M ζ.2.1,ζ.2.2]) (λζ=>IY ζ.1 ζ.2.1∧ItM ζ.2.2 g5 gm es ck ζ.1) (λζ=>ζ.1.length) (ssM lv,x0,mi) (⟨h0,hit⟩) ⟨O,O,trivial⟩ (λ_ h=>h) ?_
  rintro⟨y,x,mi⟩ ⟨hI,hit⟩ I0 hI0
  dsimp only at hI hit⊢
  refine J.g λK2 hK2=>J.k (qKp (i:=2) O O (m:=Fr) (by simp) hg hst rfl hit) rfl ?_
  rintro⟨on,mj⟩ hnx
  try dsimp only at hnx
  change J _ ((6,nxtM on)::_) _ [Fr,M x,mj] _
  refine J.f ((qAa (vs:=nxtA on) (v:= .bool on.isSome) O (congrArg some (qNe on)) (qRR on))) O<|J.c hK2<|J.G 0 5 7 ?_
  refine J.j λK3 hK3=>J.d6 O (λh7=>?_) (λh7=>?_)
  ·
    obtain ⟨p,a,b,rfl,hy,hl⟩: ∃p a b,on=some p∧y=a++p::b∧ItL mj g5 gm es ck (a++b) p:=by
      rcases hnx with ⟨h1,_,_⟩|h1
      · rw [h1] at h7;cases h7
      · exact h1
    refine J.W hK3<|J.E 0 5 ?_
    refine J.V<|J.g λK4 hK4=>J.f ((qIU (m:=Fr) (mi:=mj) (p:=p) O O (by simp) hg hst (by simp) hl)) rfl<|J.f ((qAa (v:=Str p.1) rfl rfl rfl)) rfl<|J.b rfl<|J.c hK4<|J.G 0 3 5 ?_
    refine J.j λK5 hK5=>J.g5 ?_
    refine J.d2 (qAx O O) O O O ?_
    refine J.d2 (qAx O O) O O O ?_
    refine J.g6 (ex:= [mj]) O O O O O O (hY y [Str p.1] (a++b) ⟨p,a,b,hy,O,O⟩ x hI) ?_
    rintro x' b hb1 hb2
    cases b
    ·
      have hyb:=hb2 rfl
      change J _ _ _ [_,M x',_] _
      refine J.d2 (qAt O O) O O O ?_
      refine J.e7 ?_
      refine J.A (J.H hK5 ?_)
      refine J.G 0 5 13 ?_
      refine J.d0 ?_
      exact J.D<|J.b1<|J.a4<|J.b1<|J.b2 hw0 (λ_ _ h=>h) (qHr O) (λw hs=>⟨x',⟨_,O⟩,.inr hyb,hs.pick [0,1] (by decide)⟩)
    have hyb:=hb1 rfl
    change J _ _ _ [Fr,M x',mj] _
    refine J.d2 (qAt O O) O O O ?_
    refine J.e7 ?_
    refine J.A (J.H hK5 ?_)
    refine J.G 0 5 13 ?_
    refine J.a5 ?_
    exact J.b7<|J.a6<|J.A<|J.a8 (a++b,x',mj) (λη (hη:_∧η.1.length<y.length)=>hI0 η hη.1 hη.2) ⟨⟨hyb,hl.it⟩,by rw [hy];simp⟩ ⟨rfl,rfl,trivial⟩ (λ_ h=>h)
  have hy0:y= []:=by
    rcases hnx with ⟨_,h1,_⟩|⟨p,a,b,h1,_⟩
    · exact h1
    · rw [h1] at h7;cases h7
  refine J.b4<|J.a1<|J.a1<|J.b5 ?_
  exact J.e0 hw0 (λ_ _ h=>h) (qHr O) (λw hs=>⟨x,⟨_,O⟩,.inl ⟨[],O,hy0▸hI⟩,hs.pick [0,1] (by decide)⟩)
theorem qTh(F:Hp)(gb gm:Nat)(lv:List Sm.PR)(hb:qAL F ⟨gb,0,none⟩ [.map (some gm)])(hm:MapAt F gm (ssM lv))(hln:lv.length≤1000000):Ct prog 243 [.slice none 0 0,.func (.func 219) #[] #[Ptr gb]] [F] (λx:List (List UInt8)×Option Addr×Nat×Hp=> .slice x.2.1 x.1.length x.2.2.1) (λx=>Row x.2.2.2 9 1 x.2.1 x.1.length x.2.2.1 (qAG x.1)∧x.1.Perm (lv.map (·.1))) (λx=> [F,x.2.2.2]):=by
 refine Ct.walk func243 rfl ntmps243 rfl (λw0 hw0=>?_)
 change J _ [(0,_),(1,_)] _ _ _
 refine J.g λK1 hK1=>J.k (qAi (l:= [.slice none 0 0]) O O O) O λg2 _=>?_
 change J _ _ _ [F,blk g2 [.slice none 0 0] 44] _
 refine J.b O<|J.c hK1<|J.E 1 2 ?_
 refine J.j λK2 hK2=>J.g λK3 hK3=>J.b O<|J.c hK3<|J.E 2 6 ?_
 refine J.V<|J.d5 [1,2,0] [blk g2 [.slice none 0 0] 44,(λ_=>none),F] O (by decide)<|J.i9 (λx:List (List UInt8)×Option Addr×Nat×Hp=> [blk g2 [.slice x.2.1 x.1.length x.2.2.1] 44,x.2.2.2]) [F] (λ(y:MP) x=>Row x.2.2.2 9 1 x.2.1 x.1.length x.2.2.1 (qAG x.1)∧(x.1++y.map (·.1)).Perm (lv.map (·.1))) (λ_ _=>False) ([],none,0,λ_=>none) O ent219 (λFr hF=>qQU Fr gb gm lv (hb.mono (hF F (by simp))) (hm.mono (hF F (by simp)))) (by rintro y vs y' ⟨p,a,b,rfl,rfl,rfl⟩;rfl) rfl (⟨qBU.nil,by show(([]:List (List UInt8))++(ssM lv).map (·.1)).Perm _;rw [List.nil_append,List.map_map];exact List.Perm.refl _⟩) ?_ ?_ ?_
 ·
  intro y vs y' x l wa wb hi hI K4 Post4 hK4 hN4 hR4 hE4
  obtain ⟨p,a,b,rfl,rfl,rfl⟩:=hi
  obtain ⟨ks,Ax,cx,mx⟩:=x
  obtain ⟨hr,hp⟩:=hI
  dsimp only at hr hp
  have hkl:=hp.length_eq
  rw [List.length_append,List.length_map,List.length_map,List.length_append,List.length_cons] at hkl
  change J _ ((7,Str p.1)::_) _ [blk g2 [.slice Ax ks.length cx] 44,mx,F] _
  refine J.e2 ?_
  refine J.b O<|J.e3 ?_
  refine J.A (hK4 _ _ ?_)
  refine J.E 2 5 ?_
  refine J.g4 ?_
  refine J.e2 ?_
  refine J.c7 0 qBo O O O O O<|J.b O<|J.k (qAF (l:= [.tmp 9]) (xs:= [[Str p.1]]) O O O O qAe el9 O (by decide) (by decide) (by simp)) rfl λg10 _=>?_
  change J _ _ _ [_,_,_,blk g10 [Str p.1] 9] _
  refine J.k (qAW (i:=1) (m2:=blk g10 [Str p.1] 9) (ys:=qAG [p.1]) O O O qAe qAe el9 O hr (by simp) (slS [p.1] rfl) (qCL _) (by omega) (by omega)) rfl ?_
  rintro⟨A11,c11,m11⟩ h11
  try dsimp only at h11
  change J _ ((11,.slice A11 (ks.length+1) c11)::_) _ [_,m11,_,_] _
  replace h11:Row m11 9 1 A11 (ks.length+1) c11 (qAG (ks++ [p.1])):=by rw [qBg];exact h11
  rw [show ks.length+1=(ks++ [p.1]).length by simp] at h11⊢
  refine J.b0 (qAZ (i:=0) (vs:= [.slice A11 (ks++ [p.1]).length c11]) O O O O O qBf O (by simp)) rfl rfl λ_ _=>?_
  change J _ _ _ [blk g2 [.slice A11 (ks++ [p.1]).length c11] 44,_,_,_] _
  refine J.c8 [0,1,2] [blk g2 [.slice A11 (ks++ [p.1]).length c11] 44,m11,F] O (by decide)<|J.e3 ?_
  refine J.a6 ?_
  exact hN4 _ (ks++ [p.1],A11,c11,m11) ⟨h11,by dsimp only;rw [List.append_assoc,List.map_append];refine List.Perm.trans ?_ hp;rw [List.map_append,List.map_cons];exact List.Perm.append_left _ (by simpa using List.perm_middle.symm)⟩
 ·
  intro w4 x y hx4 hf hI
  obtain ⟨ks,Ax,cx,mx⟩:=x
  obtain ⟨hr,hp⟩:=hI
  obtain rfl:y= []:=hf
  dsimp only at hr hp
  rw [List.map_nil,List.append_nil] at hp
  change J _ _ _ [blk g2 [.slice Ax ks.length cx] 44,mx,F] _
  refine J.a6<|J.A (J.H hK2 ?_)
  refine J.u 2 ?_
  refine J.g λK5 hK5=>J.c7 0 qBo O O O O O<|J.b O<|J.c hK5<|J.u 4 ?_
  exact J.D<|J.f6 hw0 hx4 (λ_ _ h=>h) (qIJ O O) (qAn (ks,Ax,cx,mx) O ⟨hr,hp⟩ [2,1] O (by decide))
 intro w4 x c hx4 hS
 exact hS.elim
theorem qTZ(F:Hp)(gb gm:Nat)(lv:List Sm.PR)(hb:qAL F ⟨gb,0,none⟩ [.map (some gm)])(hm:MapAt F gm (ssM lv))(hln:lv.length≤1000000):Ct prog 217 [.func (.func 219) #[] #[Ptr gb]] [F] (λx:List (List UInt8)×Option Addr×Nat×Hp=> .slice x.2.1 x.1.length x.2.2.1) (λx=>Row x.2.2.2 9 1 x.2.1 x.1.length x.2.2.1 (qAG x.1)∧x.1.Perm (lv.map (·.1))) (λx=> [F,x.2.2.2]):=by
 refine Ct.walk func217 rfl ntmps217 rfl (λw0 hw0=>?_)
 change J _ [(0,_)] _ _ _
 refine J.g λK1 hK1=>J.b O<|J.c hK1<|J.u 0 ?_
 refine J.g λK2 hK2=>J.b O<|J.k (qAA O O ent243 (Ct.use (new:=λx:List (List UInt8)×Option Addr×Nat×Hp=> [x.2.2.2]) (λF' hF=>qTh F' gb gm lv (hb.mono (hF F (by simp))) (hm.mono (hF F (by simp))) hln))) rfl ?_
 rintro⟨ks,A4,c4,m4⟩ h4
 try dsimp only at h4
 change J _ ((4,.slice A4 ks.length c4)::_) _ [F,m4] _
 refine J.b O<|J.c hK2<|J.u 2 ?_
 exact J.D<|J.M hw0 O (ks,A4,c4,m4) O h4 [0,1] O (by decide)
theorem qMr(F:Hp)(gb gm:Nat)(lv:List Sm.PR)(hb:qAL F ⟨gb,0,none⟩ [.map (some gm)])(hm:MapAt F gm (ssM lv))(hln:lv.length≤1000000):Ct prog 183 [.func (.func 219) #[] #[Ptr gb]] [F] (λx:Option Addr×Nat×Hp=> .slice x.1 (Sm.keysS lv).length x.2.1) (λx=>Row x.2.2 9 1 x.1 (Sm.keysS lv).length x.2.1 (qAG (Sm.keysS lv))) (λx=> [F,x.2.2]):=by
 refine Ct.walk func183 rfl ntmps183 rfl (λw0 hw0=>?_)
 change J _ [(0,_)] _ _ _
 refine J.g λK1 hK1=>J.b O<|J.c hK1<|J.u 0 ?_
 refine J.g λK2 hK2=>J.b O<|J.k (qAA O O ent217 (Ct.use (new:=λx:List (List UInt8)×Option Addr×Nat×Hp=> [x.2.2.2]) (λF' hF=>qTZ F' gb gm lv (hb.mono (hF F (by simp))) (hm.mono (hF F (by simp))) hln))) rfl ?_
 rintro⟨ks,A5,c5,m5⟩ h5
 try dsimp only at h5
 change J _ ((5,.slice A5 ks.length c5)::_) _ [F,m5] _
 refine J.b O<|J.c hK2<|J.u 3 ?_
 refine J.g λK3 hK3=>J.b O<|J.k (qAA O O ent218 (Ct.use1 1 (m':=λx:Hp=>x) (new:=λ_=> []) O (λF' hF=>qR6 F' m5 A5 ks.length c5 ks h5.1 (by have:=h5.2.length_eq;rw [List.length_map] at this;omega)))) rfl ?_
 rintro m7 h7
 change J _ ((7,.tuple #[])::_) _ [_,m7] _
 refine J.c hK3<|J.u 3 ?_
 refine J.g λK4 hK4=>J.p 2 O<|J.c hK4<|J.u 2 ?_
 refine J.D ?_
 have hks:Sm.srt ks=Sm.keysS lv:=Sm.srt_eq h5.2
 have hkn:ks.length=(Sm.keysS lv).length:=by rw [←hks,Sm.srt_len]
 rw [hks,hkn] at h7
 exact J.M hw0 O (A5,c5,m7) (by rw [hkn]) h7 [0,1] rfl (by decide)
theorem qKW(F:Hp)(g:Nat)(l:List Sm.PR)(hT:qCF F g l)(hln:l.length≤1000000):Ct prog 134 [Ptr g] [F] (λx:Option Addr×Nat×Hp=> .slice x.1 (Sm.keysS l).length x.2.1) (λx=>Row x.2.2 9 1 x.1 (Sm.keysS l).length x.2.1 (qAG (Sm.keysS l))) (λx=> [F,x.2.2]):=by
 have hT0:=hT
 obtain ⟨gm,hc,hm⟩:=hT0
 refine Ct.walk func134 rfl ntmps134 rfl (λw0 hw0=>?_)
 change J _ [(0,_)] _ _ _
 refine J.g λK1 hK1=>J.b O<|J.c hK1<|J.u 0 ?_
 refine J.j λK2 hK2=>J.g λK3 hK3=>J.b O<|J.f ((qA6 qJW O O O).as (v':= .bool false) O) O<|J.c hK3<|J.E 0 4 ?_
 refine J.a5 ?_
 refine J.W hK2<|J.u 0 ?_
 refine J.g λK4 hK4=>J.b O<|J.f (qAC O O) O<|J.a3 0 qJU sizeOf174 O O O O O<|J.f (qAJ (v:= .map (some gm)) O O isAgg174 (m:=F) (by simp) (hc)) rfl<|J.k (qAA rfl rfl ent184 (Ct.use (new:=λg:Nat=> [blk g [.map (some gm)] 174]) (λF' _=>qQJ F' gm))) rfl ?_
 rintro g9 _
 change J _ ((9,.func (.func 219) #[] #[Ptr g9])::_) _ [F,blk g9 [.map (some gm)] 174] _
 refine J.k (qAA O O ent183 (Ct.use (new:=λx:Option Addr×Nat×Hp=> [x.2.2]) (λF' hF=>qMr F' g9 gm l (qAL.blk0.mono (hF (blk g9 [.map (some gm)] 174) (by simp))) (hm.mono (hF F (by simp))) hln))) rfl ?_
 rintro⟨A10,c10,m10⟩ h10
 try dsimp only at h10
 change J _ ((10,.slice A10 (Sm.keysS l).length c10)::_) _ [_,_,m10] _
 refine J.b O<|J.c hK4<|J.u 2 ?_
 exact J.D<|J.M hw0 O (A10,c10,m10) O h10 [0,2] O (by decide)
theorem ent123:qAD prog 123:=qAD.of func123 rfl (by kernel_rfl)
theorem ent185:qAD prog 185:=qAD.of func185 rfl (by kernel_rfl)
theorem ent186:qAD prog 186:=qAD.of func186 rfl (by kernel_rfl)
def nbl(b:List UInt8)(d:Int)(k:List UInt8):Bool:=!Sm.belowB k b (min d.toNat 128)
theorem qKx(F:Hp)(k:List UInt8)(hk:k.length≤1000000)(pb pd:Nat)(b:List UInt8)(d:Int)(hpb:qAL F ⟨pb,0,none⟩ [Str b])(hpd:qAL F ⟨pd,0,none⟩ [I d])(hb:b.length≤1000000):Ct prog 186 [Str (k),Ptr pb,Ptr pd] [F] (λ_:Unit=> .bool (nbl b d k)) (λ_=>True) (λ_=> [F]):=by
 refine Ct.walk func186 rfl ntmps186 rfl (λw0 hw0=>?_)
 change J _ [(0,_),(1,_),(2,_)] _ _ _
 refine J.g λK1 hK1=>J.b O<|J.c hK1<|J.G 0 1 2 ?_
 refine J.g λK2 hK2=>J.b O<|J.f (qAJ (v:=Str (b)) O O b9_ (m:=F) (by simp) (hpb)) rfl<|J.f (qAJ (v:=I (d)) rfl rfl b3_ (m:=F) (by simp) (hpd)) rfl<|J.k (qAA rfl rfl ent123 (Ct.use0 (λF' hF=>qDz F' k (by omega) b (by omega) d))) rfl λg8 _=>J.f (qAt rfl rfl) rfl<|J.b rfl<|J.c hK2<|J.u 4 ?_
 exact J.D<|J.M hw0 O () (by unfold nbl;rfl) trivial [0] O (by decide)
theorem qSA(F:Hp)(A:Option Addr)(n c:Nat)(ks:List (List UInt8))(hs:Sl F 1 A n c (qAG ks))(hn:n≤1000000)(hsm: ∀k:Nat,(ks.getD k []).length≤1000000)(pb pd:Nat)(b:List UInt8)(d:Int)(hpb:qAL F ⟨pb,0,none⟩ [Str b])(hpd:qAL F ⟨pd,0,none⟩ [I d])(hb:b.length≤1000000):Ct prog 185 [.slice A n c,.func (.func 186) #[] #[Ptr pb,Ptr pd]] [F] (λ_:Unit=>I (ixS (nbl b d) ks)) (λ_=>True) (λ_=> [F]):=by
 have hkn:ks.length=n:=by have:=hs.1;simpa [qAG] using this
 refine Ct.walk func185 rfl ntmps185 rfl (λw0 hw0=>?_)
 change J _ [(0,_),(1,_)] _ _ _
 refine J.g λK1 hK1=>J.b O<|J.c hK1<|J.E 0 1 ?_
 refine J.j λK2 hK2=>J.g λK3 hK3=>J.b O<|J.f (qAP qAe O O) O<|J.b O<|J.c hK3<|J.O 0 1 7 8 ?_
 refine J.V<|J.b6 (X:=Nat) (λζ=> [(0,.slice A n c),(1,.func (.func 186) #[] #[Ptr pb,Ptr pd]),(7,I ((n:Nat):Int)),(8,I ((ζ:Nat):Int))]) (λζ=> [F]) (λζ=>ζ≤n∧ ∀j<ζ,nbl b d (ks.getD j [])=false) (λζ=>n-ζ) 0 (⟨Nat.zero_le _,λj h=>absurd h (Nat.not_lt_zero j)⟩) ⟨O,O,O,O,trivial⟩ (λ_ h=>h) ?_
 rintro k ⟨hk,hno⟩ I0 hI0
 refine J.g λK4 hK4=>J.f (qAT O O O) O<|J.c hK4<|J.a0 0 1 7 8 9 ?_
 refine J.j λK5 hK5=>J.a2 O (λh9=>?_) (λh9=>?_)
 ·
  refine J.W hK5<|J.O 0 1 7 8 ?_
  refine J.j λK6 hK6=>J.V<|J.g λK7 hK7=>J.p 2 O<|J.c hK7<|J.a0 0 1 5 7 8 ?_
  refine J.g λK8 hK8=>J.p 3 O<|J.f (qAH (i:=k) O O O qAe z9_ hs (by omega)) O<|J.f (qAJ O O b9_ (m:=F) (by simp) (hs.elem (qAQ (qAc [] (by omega))))) rfl<|J.k (qCh rfl rfl rfl ent186 (Ct.use0 (λF' hF=>qKx F' (ks.getD k []) (by first|omega|(exact hsm _)) pb pd b d (hpb.mono (hF F (by simp))) (hpd.mono (hF F (by simp))) (by omega)))) rfl λg16 _=>J.c hK8<|J.b8 0 1 5 7 8 16 ?_
  refine J.d6 O (λh16=>?_) (λh16=>?_)
  ·
   refine J.g λK9 hK9=>J.p 2 O<|J.c hK9<|J.u 4 ?_
   exact J.D<|J.b1<|J.a4<|J.a4<|J.b1<|J.a4<|J.M hw0 O () (by rw [qRc (k:=k) (by omega) (by simpa using h16) hno]) trivial [0] rfl (by decide)
  refine J.b7<|J.a6<|J.A (J.H hK6 ?_)
  refine J.O 0 1 7 8 ?_
  exact J.L<|J.f ((qAO O O O (by omega)).nat (k+1) (by omega)) O<|J.b O<|J.a7<|J.A<|J.a8 (k+1) (λη (hη:_∧n-η<n-k)=>hI0 η hη.1 hη.2) ⟨⟨by omega,λj hj=>by rcases Nat.lt_succ_iff_lt_or_eq.1 hj with h|rfl;exact hno j h;simpa using h16⟩,by first|omega|(dsimp only;omega)⟩ ⟨rfl,rfl,rfl,rfl,trivial⟩ (λ_ h=>h)
 refine J.b4<|J.a1<|J.a1<|J.b5 ?_
 refine J.A (J.H hK2 ?_)
 refine J.c3 [] trivial<|J.g λK10 hK10=>J.b O<|J.c hK10<|J.u 4 ?_
 exact J.D<|J.M hw0 O () (by rw [qRa (λj hj=>hno j (by omega))]) trivial [0] rfl (by decide)
theorem qSC(F m:Hp)(A:Option Addr)(n c:Nat)(ks:List (List UInt8))(hr:Row m 9 1 A n c (qAG ks))(hn:n≤1000000)(hsm: ∀k:Nat,(ks.getD k []).length≤1000000)(pb pd:Nat)(b:List UInt8)(d:Int)(hpb:qAL F ⟨pb,0,none⟩ [Str b])(hpd:qAL F ⟨pd,0,none⟩ [I d])(hb:b.length≤1000000):
    Ct prog 136 [.slice A n c,.func (.func 186) #[] #[Ptr pb,Ptr pd]] [m,F] (λ_:Hp=> .slice A (ks.filter λk=>!nbl b d k).length c) (λm'=>Row m' 9 1 A (ks.filter λk=>!nbl b d k).length c (qAG (ks.filter λk=>!nbl b d k))) (λm'=> [m',F]):=by
  have hkn:ks.length=n:=by have:=hr.len;simpa [qAG] using this
  have hnc:=hr.2.2.1
  refine Ct.walk func136 rfl ntmps136 rfl (λw0 hw0=>?_)
  change J _ [(0,_),(1,_)] _ _ _
  refine J.g λK1 hK1=>J.b O<|J.c hK1<|J.E 0 1 ?_
  refine J.g λK2 hK2=>J.p 2 O<|J.k (qAA O O ent185 (Ct.use0 (λF' hF=>qSA F' A n c ks (hr.sl.mono (hF m (by simp))) (by omega) (hsm) pb pd b d (hpb.mono (hF F (by simp))) (hpd.mono (hF F (by simp))) (by omega)))) rfl λg10 _=>J.b rfl<|J.c hK2<|J.G 0 1 5 ?_
  refine J.j λK3 hK3=>J.g λK4 hK4=>J.b O<|J.f (qAY O O O) O<|J.c hK4<|J.O 0 1 5 12 ?_
  refine J.a2 O (λh12=>?_) (λh12=>?_)
  ·
    refine J.g λK5 hK5=>J.p 2 O<|J.c hK5<|J.u 4 ?_
    refine J.D<|J.a4 ?_
    have hf:(ks.filter λk=>!nbl b d k)=ks:=qLA h12
    exact J.M hw0 O m (by rw [hf,hkn]) (by rw [hf,hkn];exact hr) [0,1] rfl (by decide)
  refine J.W hK3<|J.G 0 1 5 ?_
  refine J.j λK6 hK6=>J.j λK7 hK7=>?_
  obtain ⟨i0,h5,hi0,hf0⟩:=qRb h12
  obtain ⟨ga,rfl⟩:=hr.at (by omega)
  rw [h5]
  refine J.L<|J.b O<|J.f ((qAO O O O (by omega)).nat (i0+1) (by omega)) O<|J.b O<|J.c hK7<|J.O 0 1 5 6 ?_
  refine J.V<|J.b6 (X:=Nat×Nat×List (List UInt8)×Hp) (λζ=> [(0,.slice (some ⟨ga,0,none⟩) n c),(1,.func (.func 186) #[] #[Ptr pb,Ptr pd]),(5,I ((ζ.1:Nat):Int)),(6,I ((ζ.2.1:Nat):Int))]) (λζ=> [ζ.2.2.2,F]) (λζ=>ζ.1<ζ.2.1∧ζ.2.1≤n∧ζ.2.2.1.length=n∧ζ.2.2.1.take ζ.1=(ks.take ζ.2.1).filter (λk=>!nbl b d k)∧ζ.2.2.1.drop ζ.2.1=ks.drop ζ.2.1∧Row ζ.2.2.2 9 1 (some ⟨ga,0,none⟩) n c (qAG ζ.2.2.1)) (λζ=>n-ζ.2.1) (i0,i0+1,ks,m) (⟨by dsimp only;omega,by dsimp only;omega,hkn,hf0,O,hr⟩) ⟨O,O,O,O,trivial⟩ (λ_ h=>h) ?_
  rintro⟨w,j,L,m⟩ ⟨hw,hj,hL,hA,hB,hr⟩ I0 hI0
  dsimp only at hw hj hL hA hB hr⊢
  refine J.j λK8 hK8=>J.g λK9 hK9=>J.p 2 O<|J.f (qAP qAe O O) O<|J.f (qAT O O O) O<|J.c hK9<|J.a0 0 1 5 6 19 ?_
  refine J.a2 O (λh19=>?_) (λh19=>?_)
  ·
    refine J.W hK8<|J.O 0 1 5 6 ?_
    refine J.j λK10 hK10=>J.V<|J.g λK11 hK11=>J.p 2 O<|J.f (qAm (i:=j) (j:=0+j*1) O O O qAe z9_ (by omega) (by omega)) O ?_
    have hnw:w<j:=hw
    refine J.f (qAJ O O b9_ (m:=m) (by simp) (hr.sl.cells (qAQ (qAc [] (by omega))))) rfl<|J.b rfl<|J.c hK11<|J.a0 0 1 5 6 7 ?_
    refine J.j λK12 hK12=>?_
    have hgj:(L.getD j []).length≤1000000:=by
      have e0:=congrArg (λz=>z.getD 0 []) hB
      have e1:L.getD j []=ks.getD j []:=by simpa [List.getD_eq_getElem?_getD,List.getElem?_drop] using e0
      rw [e1];exact hsm j
    refine J.L<|J.p 2 O<|J.k (qCh O O O ent186 (Ct.use0 (λF' hF=>qKx F' (L.getD j []) (by first|omega|(exact hsm _)) pb pd b d (hpb.mono (hF F (by simp))) (hpd.mono (hF F (by simp))) (by omega)))) rfl λg28 _=>J.f (qAt rfl rfl) rfl<|J.c hK12<|J.b8 0 1 5 6 7 29 ?_
    refine J.d6 O (λh29=>?_) (λh29=>?_)
    ·
      refine J.g λK13 hK13=>J.p 3 O<|J.f (qAm (i:=w) (j:=0+w*1) O O O qAe z9_ (by omega) (by omega)) O<|J.b0 (qBI (i:=0) (k:=w) (off:=0) (b:= [Str (L.getD j [])]) O O O O hr (vs:= [Str (L.getD j [])]) O z9_ O (by omega) (qAQ (qAc [] (by omega))) O (Nat.le_refl _)) O O ?_
      rintro m9_1 hm9_1
      change J _ _ _ [m9_1,F] _
      rw [qC0] at hm9_1
      refine J.c hK13<|J.O 0 1 5 6 ?_
      refine J.L<|J.b O<|J.f ((qAO O O O (by omega)).nat (w+1) (by omega)) O<|J.b O<|J.a7<|J.a6<|J.A (J.H hK10 ?_)
      refine J.O 0 1 5 6 ?_
      exact J.L<|J.b O<|J.f ((qAO O O O (by omega)).nat (j+1) (by omega)) O<|J.b O<|J.a7<|J.A<|J.a8 (w+1,j+1,L.set w (L.getD j []),m9_1) (λη (hη:_∧n-η.2.1<n-j)=>hI0 η hη.1 hη.2) ⟨⟨by dsimp only;omega,by dsimp only;omega,by dsimp only;rw [List.length_set];exact hL,(qEy hw (by omega) (by omega) hA hB (by simpa using h29)).1,(qEy hw (by omega) (by omega) hA hB (by simpa using h29)).2,by assumption⟩,by first|omega|(dsimp only;omega)⟩ ⟨rfl,rfl,rfl,rfl,trivial⟩ (λ_ h=>h)
    refine J.b7<|J.a6<|J.A (J.H hK10 ?_)
    refine J.O 0 1 5 6 ?_
    exact J.L<|J.b O<|J.f ((qAO O O O (by omega)).nat (j+1) (by omega)) O<|J.b O<|J.a7<|J.A<|J.a8 (w,j+1,L,m) (λη (hη:_∧n-η.2.1<n-j)=>hI0 η hη.1 hη.2) ⟨⟨by dsimp only;omega,by dsimp only;omega,hL,(qEz (by omega) hA hB (by simpa using h29)).1,(qEz (by omega) hA hB (by simpa using h29)).2,hr⟩,by first|omega|(dsimp only;omega)⟩ ⟨O,O,O,O,trivial⟩ (λ_ h=>h)
  refine J.b4<|J.a1<|J.a1<|J.b5 ?_
  refine J.A (J.H hK6 ?_)
  refine J.E 0 5 ?_
  refine J.g λK14 hK14=>J.p 2 O<|J.f (qCg (l:=w) (h:=n) O O qAe z9_ O O (by omega)) O<|J.b0 (qDs (i:=0) (l:=w) (h:=n) O O (by split<;>simp [Addr.add_lit]) qAe el9 rfl rfl rfl (hr.shrink (by omega)) rfl (by omega) (by omega)) rfl rfl ?_
  rintro mc hmc
  change J _ _ _ [mc,F] _
  refine J.c hK14<|J.E 0 5 ?_
  refine J.g λK15 hK15=>J.p 2 O<|J.f (qDF (h:=w) O O qAe z9_ O (by omega)) O<|J.b O<|J.c hK15<|J.u 4 ?_
  refine J.D ?_
  have hfl:(ks.filter λk=>!nbl b d k)=L.take w:=by rw [hA,List.take_of_length_le (by omega)]
  have hfw:(ks.filter λk=>!nbl b d k).length=w:=by rw [hfl,List.length_take];omega
  rw [qDC,←hfl] at hmc
  exact J.M hw0 O mc (by rw [hfw]) (by rw [hfw];exact hmc) [0,1] rfl (by decide)
theorem ent124:qAD prog 124:=qAD.of func124 rfl (by kernel_rfl)
theorem ent134:qAD prog 134:=qAD.of func134 rfl (by kernel_rfl)
theorem ent136:qAD prog 136:=qAD.of func136 rfl (by kernel_rfl)
theorem ent187:qAD prog 187:=qAD.of func187 rfl (by kernel_rfl)
def qRl(f:Nat):Prop:= ∀(F:Hp) (hK:KF F) (g:Nat) (l:List Sm.PR) (hT:qCF F g l) (hv: ∀p∈l,p.2.length≤1000000) (A:Option Addr) (n c:Nat) (ks:List (List UInt8)) (hs:Sl F 1 A n c (qAG ks)) (hn:n≤1000000) (hw:Sm.WF f (Sm.prs l ks)) (hu:Sm.Up (Sm.prs l ks)) (d:Nat) (hd:d+f=128),Ct prog 187 [Ptr g,.slice A n c,I ((d:Nat):Int)] [F] (λ_:Unit=>Str (Sm.nd f (Sm.prs l ks))) (λ_=>True) (λ_=> [F])
theorem qGb{l:List Sm.PR}(hv: ∀p∈l,p.2.length≤1000000)(k:List UInt8):((Sm.getP l k).getD []).length≤1000000:=by
 cases h:Sm.getP l k with
 |none=>exact Nat.zero_le _
 |some v=>exact hv _ (Sm.getP_some h)
theorem qNK{f:Nat}{l:List Sm.PR}{ks:List (List UInt8)}(hw:Sm.WF f (Sm.prs l ks)){j:Nat}(hj:j<ks.length):(ks.getD j []).length=16:=by
 have h:j<(Sm.prs l ks).length:=by rw [Sm.prs_len];exact hj
 have h1:=hw.2.1 _ (List.getElem_mem h)
 rw [Sm.prs_get l ks h hj] at h1
 rw [List.getD_eq_getElem?_getD,List.getElem?_eq_getElem hj];exact h1
theorem qNJ{f:Nat}{l:List Sm.PR}{ks:List (List UInt8)}(hw:Sm.WF f (Sm.prs l ks))(j:Nat):(ks.getD j []).length≤1000000:=by
 by_cases hj:j<ks.length
 · rw [qNK hw hj];decide
 · rw [List.getD_eq_getElem?_getD,List.getElem?_eq_none (by omega)];decide
theorem qNL{f d:Nat}{l:List Sm.PR}{ks:List (List UInt8)}(hw:Sm.WF (f+1) (Sm.prs l ks))(hd:d+(f+1)=128){j:Nat}(h:j<(Sm.prs l ks).length):Sm.bit (ks.getD j []) d=Sm.kv (Sm.prs l ks)[j].1/2^f%2:=by
 have hj:j<ks.length:=by rw [Sm.prs_len] at h;exact h
 rw [Sm.bit_kv (qNK hw hj) (by omega),Sm.prs_get l ks h hj,List.getD_eq_getElem?_getD,List.getElem?_eq_getElem hj,show 127-d=f by omega];rfl
theorem qGF(f:Nat)(ih: ∀f',f=f'+1→qRl f')(F:Hp)(hK:KF F)(g:Nat)(l:List Sm.PR)(hT:qCF F g l)(hv: ∀p∈l,p.2.length≤1000000)(A:Option Addr)(n c:Nat)(ks:List (List UInt8))(hs:Sl F 1 A n c (qAG ks))(hn:n≤1000000)(hw:Sm.WF f (Sm.prs l ks))(hu:Sm.Up (Sm.prs l ks))(d:Nat)(hd:d+f=128):
    Ct prog 187 [Ptr g,.slice A n c,I ((d:Nat):Int)] [F] (λ_:Unit=>Str (Sm.nd f (Sm.prs l ks))) (λ_=>True) (λ_=> [F]):=by
  have hkn:ks.length=n:=by have:=hs.1;simpa [qAG] using this
  have hT0:=hT
  obtain ⟨gm,hc,hm⟩:=hT0
  have hsm:=qNJ hw
  have hnc:=hs.2.1
  refine Ct.walk func187 rfl ntmps187 rfl (λw0 hw0=>?_)
  change J _ [(0,_),(1,_),(2,_)] _ _ _
  refine J.g λK1 hK1=>J.b O<|J.c hK1<|J.G 0 1 2 ?_
  refine J.j λK2 hK2=>J.g λK3 hK3=>J.b O<|J.f (qAP qAe O O) O<|J.c hK3<|J.O 0 1 2 9 ?_
  refine J.V<|J.g λK4 hK4=>J.f (qAY O O O) O<|J.b O<|J.c hK4<|J.a0 0 1 2 9 10 ?_
  refine J.a2 O (λh10=>?_) (λh10=>?_)
  ·
    refine J.g λK5 hK5=>J.b O<|J.c hK5<|J.u 6 ?_
    exact J.D<|J.b1<|J.a4<|J.M hw0 O () (by rw [List.eq_nil_of_length_eq_zero (show ks.length=0 by omega)];show _=Str (Sm.nd f []);rw [Sm.nd_nil]) trivial [0] rfl (by decide)
  refine J.g λK6 hK6=>J.f (qAY O O O) O<|J.b O<|J.c hK6<|J.O 0 1 2 12 ?_
  refine J.a2 O (λh12=>?_) (λh12=>?_)
  ·
    refine J.j λK7 hK7=>?_
    have hk0:=hsm 0
    have hv0:=qGb hv (ks.getD 0 [])
    refine J.c1 [F] [] (.y 0 (.y 1 (.y 2 (.y 3 (.y 4 (.y 5 (.y 6 (.y 7 (.y 8 (.y 9 (.y 10 (.e 11 (.y 12 .nil))))))))))))) Tryz.wide (by decide+kernel) (by simp) ?_
    refine J.T ?_
    refine J.q O (qAH (i:=0) O O O qAe z9_ hs (by omega)) O O<|J.q O (qAJ O O b9_ (m:=F) (by simp) (hs.elem (qAQ (qAc [] (by omega))))) rfl rfl<|J.T ?_
    refine J.q O (qAC O O) O O<|J.q O (qAB (j:=0) O O qJU O sizeOf174 O) O O<|J.q O (qAJ (v:= .map (some gm)) O O isAgg174 (m:=F) (by simp) (hc)) rfl rfl<|J.T ?_
    refine J.q O (qAH (i:=0) O O O qAe z9_ hs (by omega)) O O<|J.q O (qAJ O O b9_ (m:=F) (by simp) (hs.elem (qAQ (qAc [] (by omega))))) rfl rfl<|J.q rfl ((qCT rfl rfl rfl qMg u9_ e9_ (m:=F) (by simp) hm).as (v':=Str ((Sm.getP l (ks.getD 0 [])).getD [])) (by rw [qJ1,qOH])) rfl rfl<|J.a9 rfl (qAA rfl rfl ent124 (Ct.use0 (λF' hF=>qKd F' (hK.mo hF) (ks.getD 0 []) ((Sm.getP l (ks.getD 0 [])).getD []) (by first|omega|exact Nat.le_of_ble_eq_true rfl) (by first|omega|exact Nat.le_of_ble_eq_true rfl)))) rfl (by simp) λg25 _=>J.c6 ?_
    refine J.b9<|J.A (J.H hK7 ?_)
    refine J.u 6 ?_
    exact J.D<|J.b1<|J.a4<|J.M hw0 O () (by obtain ⟨k,rfl⟩:=List.length_eq_one_iff.1 (show ks.length=1 by omega);exact(congrArg Str (Sm.nd_one f (k,(Sm.getP l k).getD []))).symm) trivial [0] rfl (by decide)
  obtain ⟨f',rfl⟩: ∃f',f=f'+1:=Nat.exists_eq_succ_of_ne_zero (λe=>by subst e;have:=hw.short;rw [Sm.prs_len] at this;omega)
  refine J.b7<|J.a6<|J.A (J.H hK2 ?_)
  refine J.G 0 1 2 ?_
  refine J.g λK8 hK8=>J.b O<|J.c hK8<|J.O 0 1 2 7 ?_
  refine J.e8 (X:=Nat) (λζ=> [(0,Ptr g),(1,.slice A n c),(2,I ((d:Nat):Int)),(7,I ((ζ:Nat):Int))]) (λζ=> [F]) (λζ=>ζ≤n∧(∀j<ζ,Sm.bit (ks.getD j []) d=0)∧(ζ<n→Sm.bit (ks.getD ζ []) d≠0)) (λK9 hK9=>?_) ?_
  ·
    refine J.V<|J.b6 (X:=Nat) (λζ=> [(0,Ptr g),(1,.slice A n c),(2,I ((d:Nat):Int)),(7,I ((ζ:Nat):Int))]) (λζ=> [F]) (λζ=>ζ≤n∧ ∀j<ζ,Sm.bit (ks.getD j []) d=0) (λζ=>n-ζ) 0 (⟨Nat.zero_le _,λj h=>absurd h (Nat.not_lt_zero j)⟩) ⟨O,O,O,O,trivial⟩ (λ_ h=>h) ?_
    rintro k ⟨hk,hno⟩ I1 hI1
    have hsk:=hsm k
    refine J.j λK10 hK10=>J.g λK11 hK11=>J.p 2 O<|J.f (qAP qAe O O) O<|J.f (qAT O O O) O<|J.b O<|J.c4 (d:=30) O (λh30=>?_) (λh30=>?_)
    ·
      refine J.p 2 O<|J.Z (qAH (i:=k) O O O qAe z9_ hs (by omega)) O<|J.Z (qAJ O O b9_ (m:=F) (by simp) (hs.elem (qAQ (qAc [] (by omega))))) rfl<|J.b rfl<|J.d7 (qAA rfl rfl ent174 (Ct.use0 (λF' hF=>qI9 F' (ks.getD k []) (by first|omega|exact hsm _) d (by omega)))) rfl λg36 _=>J.Z (qAY rfl rfl rfl) rfl<|J.b rfl<|J.c hK11<|J.a0 0 1 2 7 38 ?_
      refine J.a2 O (λh38=>?_) (λh38=>?_)
      ·
        refine J.W hK10<|J.O 0 1 2 7 ?_
        exact J.V<|J.L<|J.b O<|J.f ((qAO O O O (by omega)).nat (k+1) (by omega)) O<|J.b O<|J.a7<|J.a6<|J.A<|J.a8 (k+1) (λη (hη:_∧n-η<n-k)=>hI1 η hη.1 hη.2) ⟨⟨by omega,λj hj=>by rcases Nat.lt_succ_iff_lt_or_eq.1 hj with h|rfl;exact hno j h;omega⟩,by first|omega|(dsimp only;omega)⟩ ⟨rfl,rfl,rfl,rfl,trivial⟩ (λ_ h=>h)
      refine J.b4<|J.a1<|J.a1<|J.b5 ?_
      exact J.A<|J.a8 (k) hK9 (⟨by omega,hno,λh=>by omega⟩) ⟨O,O,O,O,trivial⟩ (λ_ h=>h)
    refine J.p 8 O<|J.c hK11<|J.a0 0 1 2 7 38 ?_
    refine J.a5 ?_
    refine J.b4<|J.a1<|J.a1<|J.b5 ?_
    exact J.A<|J.a8 (k) hK9 (⟨by omega,hno,λh=>by omega⟩) ⟨O,O,O,O,trivial⟩ (λ_ h=>h)
  rintro k ⟨hk,hk0,hk1⟩
  refine J.j λK12 hK12=>?_
  have hup:=Sm.up_bits hw hu (k:=k) (λj hj hjk=>by rw [←qNL hw hd hj];exact hk0 j hjk) (λhj=>by rw [←qNL hw hd hj];exact hk1 (by rw [Sm.prs_len] at hj;omega))
  have hW1:Sm.WF f' (Sm.prs l (ks.take k)):=by rw [Sm.prs_take,hup.1];exact hw.side true
  have hW2:Sm.WF f' (Sm.prs l (ks.drop k)):=by rw [Sm.prs_drop,hup.2];exact hw.side false
  have hU1:Sm.Up (Sm.prs l (ks.take k)):=by rw [Sm.prs_take];exact hu.sub (List.take_sublist _ _)
  have hU2:Sm.Up (Sm.prs l (ks.drop k)):=by rw [Sm.prs_drop];exact hu.sub (List.drop_sublist _ _)
  have hz1:=Sm.nd_small f' (Sm.prs l (ks.take k))
  have hz2:=Sm.nd_small f' (Sm.prs l (ks.drop k))
  refine J.c1 [F] [] (.y 0 (.y 1 (.y 2 (.y 3 (.y 4 (.y 5 (.y 7 (.y 8 (.y 9 (.y 10 (.y 11 (.y 12 (.e 6 (.e 13 (.e 14 (.y 15 .nil)))))))))))))))) Tryz.wide (by decide+kernel) (by simp) ?_
  iterate 3 refine J.T ?_
  refine J.q O (qDF (h:=k) O O qAe z9_ O (by omega)) O O<|J.T ?_
  refine J.q O ((qAO O O O (by omega)).nat (d+1) (by omega)) O O<|J.T ?_
  refine J.T ?_
  refine J.T ?_
  refine J.q O (qCg (l:=k) (h:=n) O O qAe z9_ O O (by omega)) O O<|J.T ?_
  refine J.q O ((qAO O O O (by omega)).nat (d+1) (by omega)) O O<|J.a9 O (qAA O O ent187 (Ct.use0 (λF' hF=>ih f' O F' (hK.mo hF) g l (hT.mono (hF F (by simp))) hv A k c (ks.take k) ((hs.strsTo (by omega)).mono (hF F (by simp))) (by omega) hW1 hU1 (d+1) (by omega)))) rfl (by simp) λg47 _=>J.a9 rfl (qAA rfl rfl ent187 (Ct.use0 (λF' hF=>ih f' rfl F' (hK.mo hF) g l (hT.mono (hF F (by simp))) hv (if c=k then A else A.map (·.add (k*1))) (n-k) (c-k) (ks.drop k) ((hs.strsFrom (by omega)).mono (hF F (by simp))) (by omega) hW2 hU2 (d+1) (by omega)))) rfl (by simp) λg54 _=>J.a9 rfl (qAA rfl rfl ent116 (Ct.use0 (λF' hF=>qEk F' (hK.mo hF) (Sm.nd f' (Sm.prs l (ks.take k))) (Sm.nd f' (Sm.prs l (ks.drop k))) (by omega) (by omega)))) rfl (by simp) λg55 _=>J.c6 ?_
  refine J.b9<|J.A (J.H hK12 ?_)
  refine J.u 6 ?_
  exact J.D<|J.M hw0 O () (by rw [Sm.nd_two f' (by rw [Sm.prs_len];omega),←hup.1,←hup.2,Sm.prs_take,Sm.prs_drop]) trivial [0] rfl (by decide)
theorem qKV: ∀f,qRl f
 |0=>λF hK g l hT hv A n c ks hs hn hw hu d hd=>qGF 0 (λf' h=>absurd h (Nat.succ_ne_zero f').symm) F hK g l hT hv A n c ks hs hn hw hu d hd
 |f+1=>λF hK g l hT hv A n c ks hs hn hw hu d hd=>qGF (f+1) (λf' h=>by injection h with h;subst h;exact qKV f) F hK g l hT hv A n c ks hs hn hw hu d hd
theorem qFe{l:List Sm.PR}(hk: ∀p∈l,p.1.length=16)(j:Nat):((Sm.keysS l).getD j []).length≤1000000:=by
  by_cases hj:j<(Sm.keysS l).length
  · rw [List.getD_eq_getElem?_getD,List.getElem?_eq_getElem hj]
    obtain ⟨v,hv⟩:=Sm.keysS_mem.1 (List.getElem_mem hj)
    show((Sm.keysS l)[j]).length≤1000000
    rw [show(Sm.keysS l)[j].length=16 from hk _ hv];decide
  · rw [List.getD_eq_getElem?_getD,List.getElem?_eq_none (by omega)];decide
theorem qOK(l:List Sm.PR)(b:List UInt8)(d:Int):Sm.prs l ((Sm.keysS l).filter λk=>!nbl b d k)=Sm.bel (Sm.prs l (Sm.keysS l)) b (min d.toNat 128):=by
 rw [Sm.prs_filter]
 unfold Sm.bel nbl
 congr 1
 funext p
 rw [Bool.not_not]
theorem qLO{l:List Sm.PR}(ho:Sm.Once l)(b:List UInt8)(D:Nat):(Sm.bel l b D).Perm (Sm.bel (Sm.prs l (Sm.keysS l)) b D):=(Sm.prs_perm ho).symm.filter _
structure qCI (l:List Sm.PR):Prop where
 once:Sm.Once l
 k16: ∀p∈l,p.1.length=16
 small: ∀p∈l,p.2.length≤1000000
 few:l.length≤1000000
theorem qEj(F:Hp)(hK:KF F)(g:Nat)(l:List Sm.PR)(hT:qCF F g l)(hf:qCI l)(b:List UInt8)(hb:b.length≤1000000)(d:Int)(hw:Sm.WF (128-min d.toNat 128) (Sm.bel l b (min d.toNat 128))):Ct prog 138 [Ptr g,Str (b),I (d)] [F] (λ_:Unit=>Str (Sm.ndB l b (min d.toNat 128))) (λ_=>True) (λ_=> [F]):=by
 have hln:=hf.few
 have hkl:=Sm.keysS_len l
 have hfl:((Sm.keysS l).filter λk=>!nbl b d k).length≤(Sm.keysS l).length:=List.length_filter_le _ _
 have hW:Sm.WF (128-min d.toNat 128) (Sm.prs l ((Sm.keysS l).filter λk=>!nbl b d k)):=by rw [qOK];exact hw.perm (qLO hf.once _ _)
 have hU:Sm.Up (Sm.prs l ((Sm.keysS l).filter λk=>!nbl b d k)):=by rw [Sm.prs_filter];exact(Sm.prs_up hf.once hf.k16).sub List.filter_sublist
 have hR:Sm.nd (128-min d.toNat 128) (Sm.prs l ((Sm.keysS l).filter λk=>!nbl b d k))=Sm.ndB l b (min d.toNat 128):=by rw [qOK];exact(Sm.nd_perm _ hw (qLO hf.once _ _)).symm
 refine Ct.walk func138 rfl ntmps138 rfl (λw0 hw0=>?_)
 change J _ [(0,_),(1,_),(2,_)] _ _ _
 refine J.g λK1 hK1=>J.k (qAi (l:= [Str (b)]) O O O) O λg4 _=>?_
 change J _ _ _ [F,blk g4 [Str (b)] 9] _
 refine J.k (qAi (l:= [I (d)]) O O O) O λg5 _=>?_
 change J _ _ _ [_,_,blk g5 [I (d)] 3] _
 refine J.b O<|J.c hK1<|J.G 0 4 5 ?_
 refine J.j λK2 hK2=>J.g λK3 hK3=>J.b O<|J.f ((qA6 qJW O O O).as (v':= .bool false) O) O<|J.c hK3<|J.O 0 4 5 9 ?_
 refine J.a5 ?_
 refine J.W hK2<|J.G 0 4 5 ?_
 refine J.g λK4 hK4=>J.b O<|J.k (qAA O O ent134 (Ct.use (new:=λx:Option Addr×Nat×Hp=> [x.2.2]) (λF' hF=>qKW F' g l (hT.mono (hF F (by simp))) (by omega)))) rfl ?_
 rintro⟨A11,c11,m11⟩ h11
 try dsimp only at h11
 change J _ ((11,.slice A11 (Sm.keysS l).length c11)::_) _ [_,_,_,m11] _
 refine J.f (qBR O O) O<|J.k (qAA O O ent136 (Ct.use1 3 (m':=λx:Hp=>x) (new:=λ_=> []) O (λF' hF=>qSC F' m11 A11 (Sm.keysS l).length c11 (Sm.keysS l) h11 (by omega) (qFe hf.k16) g4 g5 b d (qAL.blk0.mono (hF (blk g4 [Str (b)] 9) (by simp))) (qAL.blk0.mono (hF (blk g5 [I (d)] 3) (by simp))) hb))) rfl ?_
 rintro m13 h13
 change J _ ((13,.slice A11 ((Sm.keysS l).filter λk=>!nbl b d k).length c11)::_) _ [_,_,_,m13] _
 refine J.b O<|J.c hK4<|J.G 0 5 7 ?_
 refine J.g λK5 hK5=>J.p 2 O<|J.f (qAE 2 (v:=I (d)) O O O b3_ O) O<|J.f ((qKr O O O).nat (d.toNat) (by omega)) O<|J.f ((qEU O O O).nat (min d.toNat 128) (by omega)) O<|J.k (qAA O O ent187 (Ct.use0 (λF' hF=>qKV (128-min d.toNat 128) F' (hK.mo hF) g l (hT.mono (hF F (by simp))) hf.small A11 _ c11 _ (h13.sl.mono (hF m13 (by simp))) (by omega) hW hU (min d.toNat 128) (by omega)))) rfl λg19 _=>J.b rfl<|J.c hK5<|J.u 6 ?_
 exact J.D<|J.M hw0 O () (by rw [hR]) trivial [0] rfl (by decide)
theorem qGt{l:List Sm.PR}{b:List UInt8}(hf:qCI l):Sm.WF (128-min (0:Int).toNat 128) (Sm.bel l b (min (0:Int).toNat 128)):=by
 show Sm.WF 128 (Sm.bel l b 0)
 rw [Sm.bel_zero];exact Sm.WF.top hf.once hf.k16
theorem qKO{l:List Sm.PR}{b:List UInt8}{d:Int}(hf:qCI l)(hb:b.length=16):Sm.WF (128-min d.toNat 128) (Sm.bel l b (min d.toNat 128)):=Sm.bel_wf hf.once hf.k16 hb (Nat.min_le_right _ _)
def qUX(k:List UInt8)(m:List Pr):List Pr:=m.filter λp=>decide (p.k≠k)
def setR(m:List Pr)(x:Pr):List Pr:=qUX x.k m++ [x]
theorem qPZ(m:List Pr)(x:Pr):(setR m x).map toP=Sm.setP (m.map toP) x.k x.v:=by
 unfold setR qUX Sm.setP
 rw [List.map_append,List.filter_map];rfl
structure qDf (m:List Pr) (kv:List Sm.PR):Prop where
 fine:qCI kv
 perm:(m.map toP).Perm kv
theorem qDf.len{m:List Pr}{kv:List Sm.PR}(h:qDf m kv):kv.length=m.length:=by rw [←h.perm.length_eq,List.length_map]
theorem qDf.set{m:List Pr}{kv:List Sm.PR}(h:qDf m kv){k v:List UInt8}(hk:k.length=16)(hv:v.length≤1000000)(hl:m.length≤100000):qDf (setR m ⟨k,v⟩) (Sm.putP kv k v):=by
  have hp:((setR m ⟨k,v⟩).map toP).Perm (Sm.putP kv k v):=by
    rw [qPZ]
    exact(Sm.setP_perm k v h.perm).trans (Sm.putP_perm k v h.fine.once).symm
  have ho:Sm.Once (Sm.putP kv k v):=(Sm.setP_once k v h.fine.once).perm (Sm.putP_perm k v h.fine.once).symm
  have hm: ∀p∈Sm.putP kv k v,p∈kv∨p=(k,v):=λp q=>Sm.setP_mem ((Sm.putP_perm k v h.fine.once).mem_iff.1 q)
  refine⟨⟨ho,λp q=>?_,λp q=>?_,Nat.le_trans (Sm.putP_len kv k v) (by rw [h.len];omega)⟩,hp⟩
  · rcases hm p q with q|rfl
    · exact h.fine.k16 p q
    · exact hk
  · rcases hm p q with q|rfl
    · exact h.fine.small p q
    · exact hv
theorem qDf.once{m:List Pr}{kv:List Sm.PR}(h:qDf m kv):Sm.Once (m.map toP):=h.fine.once.perm h.perm.symm
theorem qDf.k16{m:List Pr}{kv:List Sm.PR}(h:qDf m kv): ∀p∈m.map toP,p.1.length=16:=λp q=>h.fine.k16 p (h.perm.mem_iff.1 q)
theorem qDf.small{m:List Pr}{kv:List Sm.PR}(h:qDf m kv): ∀p∈m,p.v.length≤1000000:=λp q=>h.fine.small (toP p) (h.perm.mem_iff.1 (List.mem_map.2 ⟨p,q,rfl⟩))
theorem qDf.wf{m:List Pr}{kv:List Sm.PR}(h:qDf m kv):Sm.WF 128 (m.map toP):=Sm.WF.top h.once h.k16
structure Pu where
 a:UInt8
 b:UInt8
 v:List UInt8
 deriving DecidableEq
def Pu.cells(x:Pu):List Value:= [B8 (x.a),B8 (x.b),Str (x.v)]
end Go.Proofs.YtllnfioplpipiaaGreatDoor
