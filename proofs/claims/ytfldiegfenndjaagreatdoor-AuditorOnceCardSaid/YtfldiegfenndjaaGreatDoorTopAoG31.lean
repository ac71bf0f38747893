/- A part of the proof. -/
import Derived.Test.YtfldiegfenndjaaGreatDoorTopAoG8
import Derived.Test.YtfldiegfenndjaaGreatDoorTopAoG24
import Derived.Test.YtfldiegfenndjaaGreatDoorTopAoG16
set_option linter.unusedSimpArgs false
set_option linter.unusedVariables false
namespace Go.Proofs.YtfldiegfenndjaaGreatDoor
open Go Go.Fw Go.Proofs.Tryz
set_option maxRecDepth 100000
set_option maxHeartbeats 1000000
theorem qNR(F:Hp)(gb gd:Nat)(first:Int)(size:Nat)(hat:Int)(hturn:UInt64)(hend:Int)(Ar:Option Addr)(nr cr:Nat)(hB:qAP F ⟨gb,0,none⟩ [Ptr gd,I first,I (size:Nat),I hat,W64 hturn,I hend,.slice Ar nr cr,.bool false])(s:List UInt8)(hs:s.length≤900)(hsz:size≤1048576)(he:0≤hend∧hend≤1048576)(hfull:(size:Int)-hend<qAx s.length):Ct prog 121 [Ptr gb,Str s] [F] (λ_:Unit=>I 9) (λ_=>True) (λ_=> [F]):=by
 refine Ct.walk func121 rfl ntmps121 rfl (λw0 hw0=>?_)
 change J _ [(0,_),(1,_)] _ _ _
 refine J.g λK1 hK1=>J.b V<|J.c hK1<|J.E 0 1 ?_
 refine J.k λK2 hK2=>J.g λK3 hK3=>J.j 2 V<|J.q (qAB V V ent164 (Ct.use0 (λF' hF=>by have:=qIs F' gb gd first size hat hturn hend Ar nr cr false (hB.mono (hF F (by simp))) s;rw [if_neg (by omega),if_neg (by decide)] at this;exact this))) rfl λg9 _=>J.b rfl<|J.c hK3<|J.G 0 1 5 ?_
 refine J.g λK4 hK4=>J.b V<|J.f ((qAU V V V).no (by decide)) V<|J.c hK4<|J.O 0 1 5 11 ?_
 refine J.a5 ?_
 refine J.W hK2<|J.E 0 1 ?_
 refine J.g λK5 hK5=>J.b V<|J.f (qAC V V) V<|J.a2 3 qBX qBG V V V V V<|J.f (qAl V V qE1 qBG (m:=F) (by simp) (vs:= [I hat,W64 hturn,I hend,.slice Ar nr cr]) (qGI hB (λj u hj=>by match j,hj with|0,hj=>exact hj|1,hj=>exact hj|2,hj=>exact hj|3,hj=>exact hj)) rfl) rfl<|J.q (qAO rfl qHv rfl) rfl λg6 _=>?_
 change J _ _ _ [F,blk g6 _ 221] _
 refine J.b1 (qAG (l:= [I 0,W64 0,I 0,.slice none 0 0]) (i:=1) (vs:= [I hat,W64 hturn,I hend,.slice Ar nr cr]) V V V V V qBG V V) V V λ_ _=>?_
 change J _ _ _ [_,blk g6 [I hat,W64 hturn,I hend,.slice Ar nr cr] 221] _
 refine J.c hK5<|J.G 0 1 6 ?_
 refine J.k λK6 hK6=>J.g λK7 hK7=>J.b V<|J.q (qAB V V ent165 (Ct.use0 (λF' hF=>qJ2 F' gb gd first size hat hturn hend Ar nr cr false (hB.mono (hF F (by simp))) hsz he))) rfl λg18 _=>J.b rfl<|J.f (qAg u9_ rfl rfl) rfl<|J.q (qAB rfl rfl ent166 (Ct.use0 (λF' hF=>qCL F' s.length (by omega)))) rfl λg21 _=>J.f ((qAT rfl rfl rfl).yes (by omega)) rfl<|J.j 6 rfl<|J.c hK7<|J.O 0 1 6 28 ?_
 refine J.c7 ?_
 refine J.g λK8 hK8=>J.b V<|J.c hK8<|J.A 4 ?_
 exact J.D<|J.a7<|J.Z hw0 V () V trivial [0] V (by decide)
theorem qH5(F mm:Hp)(hK:KF F)(gb gd first size hat:Nat)(hturn:UInt64)(hend:Nat)(Ar:Option Addr)(nr cr:Nat)(d:Dk)(C:Option Addr)(f:Nat)(hb:Dsk mm gd d C f)(hok:d.ok)(hn2:d.wait.length≤1048576)(hKp:Sl F 1 C d.keep.length f (qAR d.keep))(hn3:d.keep.length≤9223372036854775807)(s:List UInt8)(hs:s.length≤900)(n:Nat)(hn:n=qAx s.length)(ht:hturn.toNat+1<2^(8*4))(hf:first≤1000)(hsz:size≤1000)(hat1:hat≤2*first+size)(hfit:n≤size)(he:(qBM d (2*first+size-hat+0) (λi=>(prt (hturn+1) (UInt64.ofNat 0) s n i).text) n).2=0):
    Ct prog 168 [Ptr gb,Str s] [blk gb [Ptr gd,I ((first:Nat):Int),I ((size:Nat):Int),I ((hat:Nat):Int),W64 hturn,I ((hend:Nat):Int),.slice Ar nr cr,.bool false] 223,mm,F] (λ_:Hp×Option Addr×Nat×Hp=>I 0) (λx=>Dsk x.1 gd (qBM d (2*first+size-hat+0) (λi=>(prt (hturn+1) (UInt64.ofNat 0) s n i).text) n).1 C f∧Row x.2.2.2 9 1 x.2.1 (0+1) x.2.2.1 (qAH ([]++ [s]))) (λx=> [blk gb [Ptr gd,I ((first:Nat):Int),I ((size:Nat):Int),I ((2*first+size-hat:Nat):Int),W64 (hturn+1),I ((0+n:Nat):Int),.slice x.2.1 (0+1) x.2.2.1,.bool false] 223,x.1,F,x.2.2.2]):=by
  have hn1:=qCm s.length
  have ht0:hturn.toNat+1<4294967296:=ht
  have ht1:(hturn+1).toNat<2^(8*4):=by
    rw [UInt64.toNat_add]
    show(hturn.toNat+1)%18446744073709551616<4294967296
    omega
  refine Ct.walk func168 rfl ntmps168 rfl (λw0 hw0=>?_)
  change J _ [(0,_),(1,_)] _ _ _
  refine J.g λK1 hK1=>J.b V<|J.c hK1<|J.E 0 1 ?_
  refine J.k λK2 hK2=>J.g λK3 hK3=>J.j 2 V<|J.q (qAB V V ent164 (Ct.use0 (λF' hF=>by have:=qIs F' gb gd ((first:Nat):Int) size ((hat:Nat):Int) hturn ((hend:Nat):Int) Ar nr cr false (qAP.blk0.mono (hF (blk gb [Ptr gd,I ((first:Nat):Int),I ((size:Nat):Int),I ((hat:Nat):Int),W64 hturn,I ((hend:Nat):Int),.slice Ar nr cr,.bool false] 223) (by simp))) s;rw [if_neg (by omega),if_neg (by decide)] at this;exact this))) rfl λg9 _=>J.b rfl<|J.c hK3<|J.G 0 1 5 ?_
  refine J.g λK4 hK4=>J.b V<|J.f ((qAU V V V).no (by decide)) V<|J.c hK4<|J.O 0 1 5 11 ?_
  refine J.a5 ?_
  refine J.W hK2<|J.E 0 1 ?_
  refine J.k λK5 hK5=>J.k λK6 hK6=>J.b7 [blk gb [Ptr gd,I ((first:Nat):Int),I ((size:Nat):Int),I ((hat:Nat):Int),W64 hturn,I ((hend:Nat):Int),.slice Ar nr cr,.bool false] 223,mm,F] [] (.y 0 (.y 1 (.y 2 (.y 3 (.y 4 (.y 5 (.e 6 (.y 7 (.y 8 (.y 9 (.y 10 (.y 11 (.y 12 (.y 13 (.y 14 (.y 15 .nil)))))))))))))))) Tryz.wide (by decide+kernel) (by simp) ?_
  refine J.L ?_
  refine J.p V (qAC V V) V V<|J.p V (qAA (j:=2) V V qBX V z3_ V) V V<|J.p V (qAD 0 (v:=I ((size:Nat):Int)) V V V b3_ V) V V<|J.L ?_
  refine J.p V (qAg u9_ V V) V V<|J.b2 V (qAB V V ent166 (Ct.use0 (λF' hF=>by have:=qCL F' s.length (by omega);rw [←hn] at this;exact this))) rfl (by simp) λg19 _=>J.p rfl ((qAT rfl rfl rfl).no (by omega)) rfl rfl<|J.L ?_
  refine J.V V (qAb V V) V V<|J.V V (qAC V V) V V<|J.V V (qAA (j:=3) V V qBX V qBG V) V V<|J.V V (qAA (j:=4) V V qBH V qCG V) V V<|J.V V (qAD 0 (v:=W64 hturn) V V V qCZ V) V V<|J.V V ((qA9 V V V).no (by omega)) V V<|J.d5 ?_
  refine J.b3<|J.u (J.M hK6 ?_)
  refine J.G 0 1 28 ?_
  refine J.a5 ?_
  refine J.W hK5<|J.E 0 1 ?_
  refine J.k λK7 hK7=>J.b7 [blk gb [Ptr gd,I ((first:Nat):Int),I ((size:Nat):Int),I ((hat:Nat):Int),W64 hturn,I ((hend:Nat):Int),.slice Ar nr cr,.bool false] 223,mm,F] [] (.y 0 (.y 1 (.y 2 (.y 3 (.y 4 (.y 5 (.y 6 (.y 7 (.y 8 (.y 9 (.y 10 (.y 11 (.y 12 (.y 13 (.y 14 (.y 15 (.y 16 .nil))))))))))))))))) Tryz.wide (by decide+kernel) (by simp) ?_
  refine J.L ?_
  refine J.p V (qAC V V) V V<|J.p V (qAA (j:=1) V V qBX V z3_ V) V V<|J.p V (qAD 0 (v:=I ((first:Nat):Int)) V V V b3_ V) V V<|J.p V ((qB6 V V V (by omega)).nat (2*first) (by omega)) V V<|J.L ?_
  refine J.p V (qAC V V) V V<|J.p V (qAA (j:=2) V V qBX V z3_ V) V V<|J.p V (qAD 0 (v:=I ((size:Nat):Int)) V V V b3_ V) V V<|J.p V ((qAQ V V V (by omega)).nat (2*first+size) (by omega)) V V<|J.L ?_
  refine J.p V (qAC V V) V V<|J.p V (qAA (j:=3) V V qBX V qBG V) V V<|J.p V (qAA (j:=3) V V qBH V z3_ V) V V<|J.p V (qAD 0 (v:=I ((hat:Nat):Int)) V V V b3_ V) V V<|J.p V ((qAn V V V (by omega)).nat (2*first+size-hat) (by omega)) V V<|J.c3 ?_
  refine J.b3<|J.u (J.M hK7 ?_)
  refine J.G 0 1 6 ?_
  refine J.g λK8 hK8=>J.j 3 V<|J.f (qAC V V) V<|J.a2 3 qBX qBG V V V V V<|J.a2 4 qBH qCG V V V V V<|J.f (qAD 0 (v:=W64 hturn) V V V qCZ V) V<|J.f (qHi (b:=1) V V V) V<|J.f (qAK (l:= [(0,.tmp 46),(1,.tmp 52)]) (vs:= [I ((2*first+size-hat:Nat):Int),W64 (hturn+1)]) (places:= [(0,1),(1,1),(2,1),(3,1)]) (r:= [I ((2*first+size-hat:Nat):Int),W64 (hturn+1),I 0,.slice none 0 0]) V V V qBH qHv (λ_=>by kernel_rfl) V) V<|J.b V<|J.q (qAB V V ent167 (Ct.useA [blk gb [Ptr gd,I ((first:Nat):Int),I ((size:Nat):Int),I ((hat:Nat):Int),W64 hturn,I ((hend:Nat):Int),.slice Ar nr cr,.bool false] 223,mm] [F] (A':=λx:Hp×Option Addr×Nat×Hp=> [blk gb [Ptr gd,I ((first:Nat):Int),I ((size:Nat):Int),I ((2*first+size-hat:Nat):Int),W64 (hturn+1),I ((0+n:Nat):Int),.slice x.2.1 (0+1) x.2.2.1,.bool false] 223,x.1]) (new:=λx=> [x.2.2.2]) (λF' hF=>qDu F' mm (hK.mo hF) gb gd ((first:Nat):Int) ((size:Nat):Int) ((hat:Nat):Int) hturn ((hend:Nat):Int) Ar nr cr false d C f hb hok hn2 (hKp.mono (hF F (by simp))) hn3 (2*first+size-hat) (hturn+1) 0 none 0 0 [] rfl Sl.nil s hs n hn ht1 (by decide) (by omega) he))) rfl ?_
  rintro⟨m55,A55,c55,m56⟩ ⟨hd55,h55⟩
  change J _ _ _ [blk gb [Ptr gd,I ((first:Nat):Int),I ((size:Nat):Int),I ((2*first+size-hat:Nat):Int),W64 (hturn+1),I ((0+n:Nat):Int),.slice A55 (0+1) c55,.bool false] 223,m55,F,m56] _
  refine J.b V<|J.c hK8<|J.A 4 ?_
  exact J.D<|J.Z hw0 V (m55,A55,c55,m56) V ⟨hd55,h55⟩ [0,1,2,3] V (by decide)
theorem qJI(F mm:Hp)(hK:KF F)(gb gd first size hat:Nat)(hturn:UInt64)(hend:Nat)(Ar:Option Addr)(nr cr:Nat)(d:Dk)(C:Option Addr)(f:Nat)(hb:Dsk mm gd d C f)(hok:d.ok)(hn2:d.wait.length≤1048576)(hKp:Sl F 1 C d.keep.length f (qAR d.keep))(hn3:d.keep.length≤9223372036854775807)(s:List UInt8)(hs:s.length≤900)(n:Nat)(hn:n=qAx s.length)(ht:hturn.toNat+1<2^(8*4))(hf:first≤1000)(hsz:size≤1000)(hat1:hat≤2*first+size)(hfit:n≤size)(he: ¬(qBM d (2*first+size-hat+0) (λi=>(prt (hturn+1) (UInt64.ofNat 0) s n i).text) n).2=0):
    Ct prog 168 [Ptr gb,Str s] [blk gb [Ptr gd,I ((first:Nat):Int),I ((size:Nat):Int),I ((hat:Nat):Int),W64 hturn,I ((hend:Nat):Int),.slice Ar nr cr,.bool false] 223,mm,F] (λ_:Hp=>I (qBM d (2*first+size-hat+0) (λi=>(prt (hturn+1) (UInt64.ofNat 0) s n i).text) n).2) (λx=>Dsk x gd (qBM d (2*first+size-hat+0) (λi=>(prt (hturn+1) (UInt64.ofNat 0) s n i).text) n).1 C f) (λx=> [blk gb [Ptr gd,I ((first:Nat):Int),I ((size:Nat):Int),I ((hat:Nat):Int),W64 hturn,I ((hend:Nat):Int),.slice Ar nr cr,.bool true] 223,x,F]):=by
  have hn1:=qCm s.length
  have ht0:hturn.toNat+1<4294967296:=ht
  have ht1:(hturn+1).toNat<2^(8*4):=by
    rw [UInt64.toNat_add]
    show(hturn.toNat+1)%18446744073709551616<4294967296
    omega
  refine Ct.walk func168 rfl ntmps168 rfl (λw0 hw0=>?_)
  change J _ [(0,_),(1,_)] _ _ _
  refine J.g λK1 hK1=>J.b V<|J.c hK1<|J.E 0 1 ?_
  refine J.k λK2 hK2=>J.g λK3 hK3=>J.j 2 V<|J.q (qAB V V ent164 (Ct.use0 (λF' hF=>by have:=qIs F' gb gd ((first:Nat):Int) size ((hat:Nat):Int) hturn ((hend:Nat):Int) Ar nr cr false (qAP.blk0.mono (hF (blk gb [Ptr gd,I ((first:Nat):Int),I ((size:Nat):Int),I ((hat:Nat):Int),W64 hturn,I ((hend:Nat):Int),.slice Ar nr cr,.bool false] 223) (by simp))) s;rw [if_neg (by omega),if_neg (by decide)] at this;exact this))) rfl λg9 _=>J.b rfl<|J.c hK3<|J.G 0 1 5 ?_
  refine J.g λK4 hK4=>J.b V<|J.f ((qAU V V V).no (by decide)) V<|J.c hK4<|J.O 0 1 5 11 ?_
  refine J.a5 ?_
  refine J.W hK2<|J.E 0 1 ?_
  refine J.k λK5 hK5=>J.k λK6 hK6=>J.b7 [blk gb [Ptr gd,I ((first:Nat):Int),I ((size:Nat):Int),I ((hat:Nat):Int),W64 hturn,I ((hend:Nat):Int),.slice Ar nr cr,.bool false] 223,mm,F] [] (.y 0 (.y 1 (.y 2 (.y 3 (.y 4 (.y 5 (.e 6 (.y 7 (.y 8 (.y 9 (.y 10 (.y 11 (.y 12 (.y 13 (.y 14 (.y 15 .nil)))))))))))))))) Tryz.wide (by decide+kernel) (by simp) ?_
  refine J.L ?_
  refine J.p V (qAC V V) V V<|J.p V (qAA (j:=2) V V qBX V z3_ V) V V<|J.p V (qAD 0 (v:=I ((size:Nat):Int)) V V V b3_ V) V V<|J.L ?_
  refine J.p V (qAg u9_ V V) V V<|J.b2 V (qAB V V ent166 (Ct.use0 (λF' hF=>by have:=qCL F' s.length (by omega);rw [←hn] at this;exact this))) rfl (by simp) λg19 _=>J.p rfl ((qAT rfl rfl rfl).no (by omega)) rfl rfl<|J.L ?_
  refine J.V V (qAb V V) V V<|J.V V (qAC V V) V V<|J.V V (qAA (j:=3) V V qBX V qBG V) V V<|J.V V (qAA (j:=4) V V qBH V qCG V) V V<|J.V V (qAD 0 (v:=W64 hturn) V V V qCZ V) V V<|J.V V ((qA9 V V V).no (by omega)) V V<|J.d5 ?_
  refine J.b3<|J.u (J.M hK6 ?_)
  refine J.G 0 1 28 ?_
  refine J.a5 ?_
  refine J.W hK5<|J.E 0 1 ?_
  refine J.k λK7 hK7=>J.b7 [blk gb [Ptr gd,I ((first:Nat):Int),I ((size:Nat):Int),I ((hat:Nat):Int),W64 hturn,I ((hend:Nat):Int),.slice Ar nr cr,.bool false] 223,mm,F] [] (.y 0 (.y 1 (.y 2 (.y 3 (.y 4 (.y 5 (.y 6 (.y 7 (.y 8 (.y 9 (.y 10 (.y 11 (.y 12 (.y 13 (.y 14 (.y 15 (.y 16 .nil))))))))))))))))) Tryz.wide (by decide+kernel) (by simp) ?_
  refine J.L ?_
  refine J.p V (qAC V V) V V<|J.p V (qAA (j:=1) V V qBX V z3_ V) V V<|J.p V (qAD 0 (v:=I ((first:Nat):Int)) V V V b3_ V) V V<|J.p V ((qB6 V V V (by omega)).nat (2*first) (by omega)) V V<|J.L ?_
  refine J.p V (qAC V V) V V<|J.p V (qAA (j:=2) V V qBX V z3_ V) V V<|J.p V (qAD 0 (v:=I ((size:Nat):Int)) V V V b3_ V) V V<|J.p V ((qAQ V V V (by omega)).nat (2*first+size) (by omega)) V V<|J.L ?_
  refine J.p V (qAC V V) V V<|J.p V (qAA (j:=3) V V qBX V qBG V) V V<|J.p V (qAA (j:=3) V V qBH V z3_ V) V V<|J.p V (qAD 0 (v:=I ((hat:Nat):Int)) V V V b3_ V) V V<|J.p V ((qAn V V V (by omega)).nat (2*first+size-hat) (by omega)) V V<|J.c3 ?_
  refine J.b3<|J.u (J.M hK7 ?_)
  refine J.G 0 1 6 ?_
  refine J.g λK8 hK8=>J.j 3 V<|J.f (qAC V V) V<|J.a2 3 qBX qBG V V V V V<|J.a2 4 qBH qCG V V V V V<|J.f (qAD 0 (v:=W64 hturn) V V V qCZ V) V<|J.f (qHi (b:=1) V V V) V<|J.f (qAK (l:= [(0,.tmp 46),(1,.tmp 52)]) (vs:= [I ((2*first+size-hat:Nat):Int),W64 (hturn+1)]) (places:= [(0,1),(1,1),(2,1),(3,1)]) (r:= [I ((2*first+size-hat:Nat):Int),W64 (hturn+1),I 0,.slice none 0 0]) V V V qBH qHv (λ_=>by kernel_rfl) V) V<|J.b V<|J.q (qAB V V ent167 (Ct.useA [blk gb [Ptr gd,I ((first:Nat):Int),I ((size:Nat):Int),I ((hat:Nat):Int),W64 hturn,I ((hend:Nat):Int),.slice Ar nr cr,.bool false] 223,mm] [F] (A':=λx:Hp=> [blk gb [Ptr gd,I ((first:Nat):Int),I ((size:Nat):Int),I ((hat:Nat):Int),W64 hturn,I ((hend:Nat):Int),.slice Ar nr cr,.bool true] 223,x]) (new:=λ_=> []) (λF' hF=>qEZ F' mm (hK.mo hF) gb gd ((first:Nat):Int) ((size:Nat):Int) ((hat:Nat):Int) hturn ((hend:Nat):Int) Ar nr cr false d C f hb hok hn2 (hKp.mono (hF F (by simp))) hn3 (2*first+size-hat) (hturn+1) 0 none 0 0 [] rfl Sl.nil s hs n hn ht1 (by decide) (by omega) he))) rfl ?_
  rintro m55 hd55
  change J _ _ _ [blk gb [Ptr gd,I ((first:Nat):Int),I ((size:Nat):Int),I ((hat:Nat):Int),W64 hturn,I ((hend:Nat):Int),.slice Ar nr cr,.bool true] 223,m55,F] _
  refine J.b V<|J.c hK8<|J.A 4 ?_
  exact J.D<|J.Z hw0 V m55 V hd55 [0,1,2] V (by decide)
theorem ent168:qAE prog 168:=qAE.of func168 rfl (by kernel_rfl)
attribute [local irreducible] Sha.tagged Wo.pub Wo.publicOf Wo.signs Wo.ends Wo.digs Wo.walk Wo.opn Mk.root Mk.path Mk.climb Xm.root sgC sgP prt
theorem qM1(d:Dk)(h:d.sErr=0∨d.sErr=8)(ho:d.off=false)(hl:0<d.last.length):d.sync.wait= []∧d.sync.keep=d.keep:=by
  have h0:d.ready 0=0:=qBR ho (i:=0) hl
  have hb:=qEa d
  unfold Dk.sync
  rw [if_neg (by rw [h0];decide)]
  split
  · rename_i hb2
    refine⟨?_,hb.1⟩
    unfold Dk.burn
    rw [if_pos hb2.1,if_pos hb2.2];rfl
  · exact⟨rfl,hb.1⟩
theorem qMl{d:Dk}(h:d.ok)(p:Nat)(t:Nat→List UInt8)(n:Nat):(qBM d p t n).1.ok:=by
 have hw:=(qEi h p t n).1
 unfold qBM
 split
 · exact hw.sync
 · exact hw
theorem qIG{d:Dk}{p:Nat}{t:Nat→List UInt8}(h64:(t 0).length=64)(ho:d.off=false)(hw:d.wait= [])(hp:p<d.last.length)(hok:d.ok):(qBM d p t 1).1.wait= []∧(qBM d p t 1).1.keep=d.keep:=by
  have h0:d.ready ((p+0:Nat):Int)=0:=qBR ho (i:=p+0) (by omega)
  have e1:qCH d p t 1=(d.write ((p+0:Nat):Int) (t 0),d.wErr ((p+0:Nat):Int) (t 0)):=qB1 rfl
  by_cases hb:d.burns
  · have hwe:d.wErr ((p+0:Nat):Int) (t 0)=8:=by unfold Dk.wErr;rw [if_neg (by rw [h0];decide),if_neg (by omega),if_pos hb]
    have hwr:d.write ((p+0:Nat):Int) (t 0)=d.burn:=by unfold Dk.write;rw [if_neg (by rw [h0];decide),if_neg (by omega),if_pos hb]
    have e:qBM d p t 1=(d.burn,8):=by unfold qBM;rw [e1,hwe,hwr];rfl
    have hbn:d.burn={d with fuse:=d.fuse-1}.cut d.keep:=by unfold Dk.burn;rw [if_pos hb.1,if_pos hb.2]
    rw [e,hbn];exact⟨rfl,rfl⟩
  · have hwr:=qFN h0 (s:=t 0) (by omega) hb
    have hbl:=qBe hb
    rw [hwr.1,hwr.2] at e1
    obtain ⟨D,hD⟩: ∃D,D=({d.burn with wait:=d.burn.wait++ [(((p+0:Nat):Int).toNat,qHA (t 0))]}:Dk):=⟨_,rfl⟩
    rw [←hD] at e1
    have hDl:D.last=d.last:=by rw [hD];exact hbl.1
    have hDo:D.off=false:=by rw [hD];show d.burn.off=false;rw [hbl.2.2];exact ho
    have hDk:D.keep=d.keep:=by rw [hD];exact(qEa d).1
    have e:qBM d p t 1=(D.sync,D.sErr):=by unfold qBM;rw [e1];rfl
    have h3:D.ready 0=0:=qBR hDo (i:=0) (by rw [hDl];omega)
    have hs:=qM1 D (by unfold Dk.sErr;rw [if_neg (by rw [h3];decide)];split;exact Or.inr rfl;exact Or.inl rfl) hDo (by rw [hDl];omega)
    rw [e]
    exact⟨hs.1,hs.2.trans hDk⟩
theorem qFr{X:Type}(F B md:Hp)(gs gk gb nx:Nat)(hS:qAP F ⟨gs,0,none⟩ [Ptr gk,Ptr gb,I ((nx:Nat):Int)])(hnx:nx≤65534)(e1:Int)(hP: ∀F':Hp,Le B F'→Ct prog 121 [Ptr gb,Str (qBL nx)] [F'] (λ_:Unit=>I 9) (λ_=>True) (λ_=> [F']))(φ:X→Prop)(B1 M1 N1:X→Hp)(hC: ∀F':Hp,Le F F'→Ct prog 168 [Ptr gb,Str (qBL nx)] [B,md,F'] (λ_:X=>I e1) φ (λx=> [B1 x,M1 x,F',N1 x])):Ct prog 122 [Ptr gs] [B,md,F] (λ_:X=>I e1) φ (λx=> [B1 x,M1 x,F,N1 x]):=by
 refine Ct.walk func122 rfl ntmps122 rfl (λw0 hw0=>?_)
 change J _ [(0,_)] _ _ _
 refine J.g λK1 hK1=>J.b V<|J.c hK1<|J.A 0 ?_
 refine J.g λK2 hK2=>J.q (qAO (l:= [.pointer none,.slice none 0 0,I 0]) V qKB V) V λg3 _=>?_
 change J _ _ _ [B,md,F,blk g3 [.pointer none,.slice none 0 0,I 0] 188] _
 refine J.c hK2<|J.E 0 3 ?_
 refine J.g λK3 hK3=>J.b V<|J.f (qAC V V) V<|J.a2 2 qB4 z3_ V V V V V<|J.f (qAL (v:=I ((nx:Nat):Int)) V V b3_ (m:=F) (by simp) (hS.at (i:=2) rfl)) rfl<|J.f (qCn (m:=nx) rfl rfl u3_ qED (by omega)) rfl<|J.f (qEr (a:=nx) (b:=1) rfl rfl rfl (by omega)) rfl<|J.q (qAB rfl rfl ent83 (Ct.use1 3 (m':=λx:Hp=>x) (new:=λ_=> []) rfl (λF' hF=>qEs F' (blk g3 [.pointer none,.slice none 0 0,I 0] 188) g3 ([]) (wtrN g3) (by first|decide|omega|(simp only [jA,jD,jH,jP,Sha.numB_length,qDC]<;>omega)) (nx+1) 2 (by decide) (by decide) (by first|decide|omega|assumption)))) rfl ?_
 rintro m13 hw13
 change J _ ((13,Ptr g3)::_) _ [_,_,_,m13] _
 rw [jp] at hw13
 replace hw13:Wtr m13 g3 (qBL nx) 0:=hw13
 have hnl:=qBi nx
 refine J.q (qAB V V ent86 (Ct.use1 3 (m':=λx:Hp=>x) (new:=λ_=> []) V (λF' hF=>qEY F' m13 g3 (qBL nx) hw13 (by first|decide|omega|(simp only [jA,jD,jH,jP,Sha.numB_length,qDC]<;>omega))))) rfl ?_
 rintro m14 hw14
 change J _ ((14,.tuple #[Str (qBL nx),I ((0:Nat):Int)])::_) _ [_,_,_,m14] _
 refine J.j 5 V<|J.c hK3<|J.G 0 4 5 ?_
 refine J.k λK4 hK4=>J.g λK5 hK5=>J.b V<|J.f ((qAU V V V).no (by decide)) V<|J.c hK5<|J.O 0 4 5 18 ?_
 refine J.a5 ?_
 refine J.W hK4<|J.E 0 4 ?_
 refine J.g λK6 hK6=>J.b V<|J.f (qAC V V) V<|J.a2 1 qB4 sizeOf140 V V V V V<|J.f (qAL (v:=Ptr gb) V V isAgg140 (m:=F) (by simp) (hS.at (i:=1) rfl)) rfl<|J.b rfl<|J.q (qAB rfl rfl ent121 (Ct.use0 (λF' hF=>hP F' (hF B (by simp))))) rfl λg25 _=>J.b rfl<|J.c hK6<|J.G 0 4 5 ?_
 refine J.k λK7 hK7=>J.g λK8 hK8=>J.b V<|J.f ((qAS V V V).yes (by decide)) V<|J.c hK8<|J.O 0 4 5 27 ?_
 refine J.c7 ?_
 refine J.H<|J.b V<|J.f (qAC V V) V<|J.a2 1 qB4 sizeOf140 V V V V V<|J.f (qAL (v:=Ptr gb) V V isAgg140 (m:=F) (by simp) (hS.at (i:=1) rfl)) rfl<|J.b rfl<|J.q (qAB rfl rfl ent168 (Ct.useA [B,md] [F,m14] (A':=λx:X=> [B1 x,M1 x]) (new:=λx=> [N1 x]) (λF' hF=>hC F' (hF F (by simp))))) rfl ?_
 rintro x33 h33
 change J _ _ _ [B1 x33,M1 x33,_,_,N1 x33] _
 refine J.b V<|J.c hK7<|J.A 5 ?_
 refine J.g λK9 hK9=>J.j 2 V<|J.c hK9<|J.A 2 ?_
 exact J.D<|J.Z hw0 V x33 V h33 [0,1,2,4] V (by decide)
theorem qM5{X:Type}(F B md:Hp)(gs gk gb nx:Nat)(hK:KF F)(seed:List UInt8)(kh:Nat)(hk:qGR F gk seed kh)(hsd:seed.length≤1048576)(h6:kh≤6)(hnx:nx<2^kh)(mg:List UInt8)(hm:mg.length≤1048576)(φ:X→Prop)(B1 M1 N1:X→Hp)(hP: ∀F':Hp,Le F F'→qAP F' ⟨gs,0,none⟩ [Ptr gk,Ptr gb,I ((nx:Nat):Int)]→Ct prog 122 [Ptr gs] [B,md,F'] (λ_:X=>I (0)) φ (λx=> [B1 x,M1 x,F',N1 x])):Ct prog 61 [Ptr gs,Str mg] [blk gs [Ptr gk,Ptr gb,I ((nx:Nat):Int)] 216,B,md,F] (λx:X×((Option Addr×Nat×Hp)×(Option Addr×Nat×Hp))=> .tuple #[.agg #[I ((nx:Nat):Int),.slice x.2.1.1 (sgC seed nx mg).length x.2.1.2.1,.slice x.2.2.1 (sgP seed kh nx).length x.2.2.2.1],I ((0:Nat):Int)]) (λx=>φ x.1∧Row x.2.1.2.2 9 1 x.2.1.1 (sgC seed nx mg).length x.2.1.2.1 (qAH (sgC seed nx mg))∧Row x.2.2.2.2 9 1 x.2.2.1 (sgP seed kh nx).length x.2.2.2.1 (qAH (sgP seed kh nx))) (λx=> [blk gs [Ptr gk,Ptr gb,I ((nx+1:Nat):Int)] 216,B1 x.1,M1 x.1,F,N1 x.1,x.2.1.2.2,x.2.2.2.2]):=by
 have hp64:=Xm.pow_le kh h6
 obtain ⟨pk,hpk⟩: ∃pk,pk=2^kh:=⟨_,rfl⟩
 rw [←hpk] at hp64 hnx
 refine Ct.walk func61 rfl ntmps61 rfl (λw0 hw0=>?_)
 change J _ [(0,_),(1,_)] _ _ _
 refine J.g λK1 hK1=>J.q (qAO (l:= [I 0,.slice none 0 0,.slice none 0 0]) V qLK V) V λg4 _=>?_
 change J _ _ _ [blk gs [Ptr gk,Ptr gb,I ((nx:Nat):Int)] 216,B,md,F,blk g4 [I 0,.slice none 0 0,.slice none 0 0] 50] _
 refine J.b V<|J.c hK1<|J.G 0 1 4 ?_
 refine J.k λK2 hK2=>J.a1<|J.g λK3 hK3=>J.b V<|J.f (qA1 qLh V V V) V<|J.b V<|J.c hK3<|J.O 0 1 4 7 ?_
 refine J.a5 ?_
 refine J.k λK4 hK4=>J.b7 [blk gs [Ptr gk,Ptr gb,I ((nx:Nat):Int)] 216,F] [] (.y 0 (.y 1 (.y 2 (.y 3 (.y 4 (.y 5 (.y 6 (.y 7 (.e 8 (.y 9 (.y 10 .nil))))))))))) Tryz.wide (by decide+kernel) (by simp) ?_
 refine J.L ?_
 refine J.p V (qAC V V) V V<|J.p V (qAA (j:=2) V V qB4 V z3_ V) V V<|J.p V (qAD 0 (v:=I ((nx:Nat):Int)) V V V b3_ V) V V<|J.L ?_
 refine J.p V (qAC V V) V V<|J.p V (qAA (j:=0) V V qB4 V sizeOf105 V) V V<|J.p V (qAD 0 (v:=Ptr gk) V V V isAgg105 V) V V<|J.b2 V (qAB V V ent89 (Ct.use0 (λF' hF=>by have:=qDa F' gk seed kh (hk.mono (hF F (by simp)));rw [←hpk] at this;exact this))) rfl (by simp) λg20 _=>J.p rfl ((qA9 rfl rfl rfl).no (by omega)) rfl rfl<|J.c3 ?_
 refine J.b3<|J.u (J.M hK4 ?_)
 refine J.O 0 1 4 11 ?_
 refine J.a5 ?_
 refine J.c0<|J.b0<|J.u (J.M hK2 ?_)
 refine J.G 0 1 4 ?_
 refine J.k λK5 hK5=>J.k λK6 hK6=>J.c9 [1,2,0,3,4] [B,md,blk gs [Ptr gk,Ptr gb,I ((nx:Nat):Int)] 216,F,blk g4 [I 0,.slice none 0 0,.slice none 0 0] 50] V (by decide)<|J.H<|J.b V<|J.q (qAB V V ent122 (Ct.useA [B,md] [blk gs [Ptr gk,Ptr gb,I ((nx:Nat):Int)] 216,F,blk g4 [I 0,.slice none 0 0,.slice none 0 0] 50] (A':=λx:X=> [B1 x,M1 x]) (new:=λx=> [N1 x]) (λF' hF=>hP F' (hF F (by simp)) (qAP.blk0.mono (hF (blk gs [Ptr gk,Ptr gb,I ((nx:Nat):Int)] 216) (by simp)))))) rfl ?_
 rintro x24 h24
 change J _ _ _ [B1 x24,M1 x24,blk gs [Ptr gk,Ptr gb,I ((nx:Nat):Int)] 216,F,blk g4 [I 0,.slice none 0 0,.slice none 0 0] 50,N1 x24] _
 refine J.b V<|J.c hK6<|J.O 0 1 4 6 ?_
 refine J.g λK7 hK7=>J.b V<|J.f ((qAU V V V).no (by decide)) V<|J.c hK7<|J.a0 0 1 4 6 26 ?_
 refine J.a5 ?_
 refine J.W hK5<|J.G 0 1 4 ?_
 refine J.g λK8 hK8=>J.b V<|J.f (qAC V V) V<|J.a2 2 qB4 z3_ V V V V V<|J.f (qAD 2 (v:=I ((nx:Nat):Int)) V V V b3_ V) V<|J.f ((qAQ V V V (by omega)).nat (nx+1) (by omega)) V<|J.f (qAC V V) V<|J.a2 2 qB4 z3_ V V V V V<|J.b1 (qAV (i:=2) (l:= [Ptr gk,Ptr gb,I ((nx:Nat):Int)]) (vs:= [I ((nx+1:Nat):Int)]) V V V V V z3_ V (by simp)) rfl rfl λ_ _=>?_
 change J _ _ _ [_,_,blk gs [Ptr gk,Ptr gb,I ((nx+1:Nat):Int)] 216,_,_,_] _
 refine J.c hK8<|J.G 0 1 4 ?_
 refine J.k λK9 hK9=>J.b7 [blk gs [Ptr gk,Ptr gb,I ((nx+1:Nat):Int)] 216] [13,14] (.y 0 (.y 1 (.y 2 (.y 3 (.y 4 (.y 5 (.y 6 (.y 7 (.y 8 (.y 9 (.e 10 (.y 11 (.y 12 (.e 13 (.e 14 .nil))))))))))))))) Tryz.wide (by decide+kernel) (by simp) ?_
 refine J.L ?_
 refine J.p V (qAC V V) V V<|J.p V (qAA (j:=0) V V qB4 V sizeOf105 V) V V<|J.p V (qAD 0 (v:=Ptr gk) V V V isAgg105 V) V V<|J.L ?_
 refine J.p V (qAC V V) V V<|J.p V (qAA (j:=2) V V qB4 V z3_ V) V V<|J.p V (qAD 0 (v:=I ((nx+1:Nat):Int)) V V V b3_ V) V V<|J.p V ((qAn V V V (by omega)).nat (nx) (by omega)) V V<|J.L ?_
 refine J.b2 V (qAB V V ent45 (Ct.use (new:=λx:(Option Addr×Nat×Hp)×(Option Addr×Nat×Hp)=> [x.1.2.2,x.2.2.2]) (λF' hF=>qIB F' (hK.mo hF) gk seed kh (hk.mono (hF F (by simp))) (by first|assumption|decide) (by first|assumption|decide) nx (by rw [←hpk];exact hnx) mg (by omega)))) rfl (by simp) ?_
 rintro⟨⟨A46,c46,m46⟩,⟨B46,d46,n46⟩⟩ ⟨h46,k46⟩
 change J _ ((46,.tuple #[.agg #[I ((nx:Nat):Int),.slice A46 (sgC seed nx mg).length c46,.slice B46 (sgP seed kh nx).length d46],I 0])::_) _ [_,_,_,_,_,_,m46,n46] _
 refine J.d3 (.agg #[I ((nx:Nat):Int),.slice A46 ((sgC seed nx mg).length) c46,.slice B46 ((sgP seed kh nx).length) d46]) ?_
 refine J.d3 (I ((0:Nat):Int)) ?_
 refine J.d2 V (qAG (i:=4) (l:= [I 0,.slice none 0 0,.slice none 0 0]) (vs:= [I ((nx:Nat):Int),.slice A46 ((sgC seed nx mg).length) c46,.slice B46 ((sgP seed kh nx).length) d46]) V V V V V qE5 V V) V V V λ_ _=>?_
 change J _ _ _ [_,_,_,_,blk g4 [I ((nx:Nat):Int),.slice A46 ((sgC seed nx mg).length) c46,.slice B46 ((sgP seed kh nx).length) d46] 50,_,_,_] _
 refine J.e5 V (YOp.eop (qAy V V)) V V V V ?_
 intro _ _
 refine J.b3<|J.u (J.M hK9 ?_)
 refine J.E 4 5 ?_
 exact J.D<|J.b4 hw0 (λ_ _ h=>h) (rv2 V (RV.blkA 4 V V isAgg50 qE5) V) (qAj (x24,((A46,c46,m46),(B46,d46,n46))) V ⟨h24,h46,k46⟩ [2,0,1,3,5,6,7] V (by decide))
theorem qLq{X:Type}(F B md:Hp)(gs gk gb nx:Nat)(hK:KF F)(seed:List UInt8)(kh:Nat)(hk:qGR F gk seed kh)(hsd:seed.length≤1048576)(h6:kh≤6)(hnx:nx<2^kh)(mg:List UInt8)(hm:mg.length≤1048576)(e1:Int)(h0:e1≠0)(φ:X→Prop)(B1 M1 N1:X→Hp)(hP: ∀F':Hp,Le F F'→qAP F' ⟨gs,0,none⟩ [Ptr gk,Ptr gb,I ((nx:Nat):Int)]→Ct prog 122 [Ptr gs] [B,md,F'] (λ_:X=>I (e1)) φ (λx=> [B1 x,M1 x,F',N1 x])):Ct prog 61 [Ptr gs,Str mg] [blk gs [Ptr gk,Ptr gb,I ((nx:Nat):Int)] 216,B,md,F] (λ_:X=> .tuple #[.agg #[I ((0:Nat):Int),.slice none 0 0,.slice none 0 0],I e1]) φ (λx=> [blk gs [Ptr gk,Ptr gb,I ((nx:Nat):Int)] 216,B1 x,M1 x,F,N1 x]):=by
 have hp64:=Xm.pow_le kh h6
 obtain ⟨pk,hpk⟩: ∃pk,pk=2^kh:=⟨_,rfl⟩
 rw [←hpk] at hp64 hnx
 refine Ct.walk func61 rfl ntmps61 rfl (λw0 hw0=>?_)
 change J _ [(0,_),(1,_)] _ _ _
 refine J.g λK1 hK1=>J.q (qAO (l:= [I 0,.slice none 0 0,.slice none 0 0]) V qLK V) V λg4 _=>?_
 change J _ _ _ [blk gs [Ptr gk,Ptr gb,I ((nx:Nat):Int)] 216,B,md,F,blk g4 [I 0,.slice none 0 0,.slice none 0 0] 50] _
 refine J.b V<|J.c hK1<|J.G 0 1 4 ?_
 refine J.k λK2 hK2=>J.a1<|J.g λK3 hK3=>J.b V<|J.f (qA1 qLh V V V) V<|J.b V<|J.c hK3<|J.O 0 1 4 7 ?_
 refine J.a5 ?_
 refine J.k λK4 hK4=>J.b7 [blk gs [Ptr gk,Ptr gb,I ((nx:Nat):Int)] 216,F] [] (.y 0 (.y 1 (.y 2 (.y 3 (.y 4 (.y 5 (.y 6 (.y 7 (.e 8 (.y 9 (.y 10 .nil))))))))))) Tryz.wide (by decide+kernel) (by simp) ?_
 refine J.L ?_
 refine J.p V (qAC V V) V V<|J.p V (qAA (j:=2) V V qB4 V z3_ V) V V<|J.p V (qAD 0 (v:=I ((nx:Nat):Int)) V V V b3_ V) V V<|J.L ?_
 refine J.p V (qAC V V) V V<|J.p V (qAA (j:=0) V V qB4 V sizeOf105 V) V V<|J.p V (qAD 0 (v:=Ptr gk) V V V isAgg105 V) V V<|J.b2 V (qAB V V ent89 (Ct.use0 (λF' hF=>by have:=qDa F' gk seed kh (hk.mono (hF F (by simp)));rw [←hpk] at this;exact this))) rfl (by simp) λg20 _=>J.p rfl ((qA9 rfl rfl rfl).no (by omega)) rfl rfl<|J.c3 ?_
 refine J.b3<|J.u (J.M hK4 ?_)
 refine J.O 0 1 4 11 ?_
 refine J.a5 ?_
 refine J.c0<|J.b0<|J.u (J.M hK2 ?_)
 refine J.G 0 1 4 ?_
 refine J.k λK5 hK5=>J.k λK6 hK6=>J.c9 [1,2,0,3,4] [B,md,blk gs [Ptr gk,Ptr gb,I ((nx:Nat):Int)] 216,F,blk g4 [I 0,.slice none 0 0,.slice none 0 0] 50] V (by decide)<|J.H<|J.b V<|J.q (qAB V V ent122 (Ct.useA [B,md] [blk gs [Ptr gk,Ptr gb,I ((nx:Nat):Int)] 216,F,blk g4 [I 0,.slice none 0 0,.slice none 0 0] 50] (A':=λx:X=> [B1 x,M1 x]) (new:=λx=> [N1 x]) (λF' hF=>hP F' (hF F (by simp)) (qAP.blk0.mono (hF (blk gs [Ptr gk,Ptr gb,I ((nx:Nat):Int)] 216) (by simp)))))) rfl ?_
 rintro x24 h24
 change J _ _ _ [B1 x24,M1 x24,blk gs [Ptr gk,Ptr gb,I ((nx:Nat):Int)] 216,F,blk g4 [I 0,.slice none 0 0,.slice none 0 0] 50,N1 x24] _
 refine J.b V<|J.c hK6<|J.O 0 1 4 6 ?_
 refine J.g λK7 hK7=>J.b V<|J.f ((qAU V V V).yes (h0)) V<|J.c hK7<|J.a0 0 1 4 6 26 ?_
 refine J.c7 ?_
 refine J.g λK8 hK8=>J.f (qAK (l:= []) (vs:= []) (places:= [(0,1),(1,1),(2,1)]) (r:= [I 0,.slice none 0 0,.slice none 0 0]) V V V qLe qLK (λ_=>by kernel_rfl) V) V<|J.b V<|J.b1 (qAG (i:=4) (l:= [I 0,.slice none 0 0,.slice none 0 0]) (vs:= [I 0,.slice none 0 0,.slice none 0 0]) V V V V V qE5 V V) V V λ_ _=>?_
 change J _ _ _ [_,_,_,_,_,_] _
 refine J.b V<|J.c hK8<|J.E 4 5 ?_
 exact J.D<|J.a7<|J.b4 hw0 (λ_ _ h=>h) (rv2 V (RV.blkA 4 V V isAgg50 qE5) V) (qAj x24 V h24 [2,0,1,3,5] V (by decide))
theorem qMA(v:Nat):(qBL v).length≤900:=by rw [qBi];decide
theorem _root_.Go.Fw.Ct.addE{P:Program}{f:FuncId}{vs:List Value}{X:Type}{ms:List Hp}{val:X→Value}{φ:X→Prop}{ms':X→List Hp}(h:Ct P f vs ms val φ ms'):Ct P f vs ms val φ (λx=>ms' x++ [λ_=>none]):=
 h.mono id (λ_ _=>rfl) (λ_ hx=>hx) (λ_ _ _ _ hs=>hs.empty)
structure qGf where
 idx:Nat
 e:Int
 Cl:List (List UInt8)
 P:Option Addr
 p:Nat
 Pl:List (List UInt8)
 Q:Option Addr
 q:Nat
 nx:Nat
 X:Hlf
 A:Option Addr
 c:Nat
 bad:Bool
 D:Dk
 md:Hp
 N:Hp
 u:Hp
 w:Hp
end Go.Proofs.YtfldiegfenndjaaGreatDoor
