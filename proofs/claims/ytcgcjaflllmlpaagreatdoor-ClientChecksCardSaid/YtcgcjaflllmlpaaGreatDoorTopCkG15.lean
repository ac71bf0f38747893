/- A part of the proof. -/
import Derived.Test.YtcgcjaflllmlpaaGreatDoorTopCkG11
set_option maxRecDepth 100000
set_option maxHeartbeats 1000000
set_option linter.unusedSimpArgs false
set_option linter.unusedVariables false
namespace Go.Proofs.YtcgcjaflllmlpaaGreatDoor
namespace SM
open SN (qAy qAr)
noncomputable def schP(u:Nat)(n:Nat):Nat→Nat→Nat→Nat→Nat→Nat→Nat→Nat→Nat→Nat→Nat→Nat→Nat→Nat→Nat→Nat→List Nat:=
 Nat.rec (λa b c d e f g h i j k l m n o p=> [a,b,c,d,e,f,g,h,i,j,k,l,m,n,o,p])
  (λ_ ih a b c d e f g h i j k l m n o p=>a::qAy (qDl u (a+Nat.xor (Nat.xor (qEa u b 7) (qEa u b 18)) (qJm u b 3)+j+Nat.xor (Nat.xor (qEa u o 17) (qEa u o 19)) (qJm u o 10))) λx=>ih b c d e f g h i j k l m n o p x) n
noncomputable def rdsP(u:Nat)(kw:List Nat):List Nat→Nat→Nat→Nat→Nat→Nat→Nat→Nat→Nat→List Nat:=
 List.rec (λ_ a b c d e f g h=> [a,b,c,d,e,f,g,h])
  (λk _ ih ws a b c d e f g h=>List.rec [] (λw ws _=>
   qAy (qDl u (h+Nat.xor (Nat.xor (qEa u e 6) (qEa u e 11)) (qEa u e 25)+Nat.xor (Nat.land e f) (Nat.land (4294967295*u-e) g)+k*u+w)) λt1=>
   qAy (qDl u (t1+(Nat.xor (Nat.xor (qEa u a 2) (qEa u a 13)) (qEa u a 22)+Nat.xor (Nat.xor (Nat.land a b) (Nat.land a c)) (Nat.land b c)))) λx=>
   qAy (qDl u (d+t1)) λy=>ih ws x a b c y e f g) ws) kw
theorem qQY(u k w:Nat)(ks ws:List Nat)(a b c d e f g h:Nat):rdsP u (k::ks) (w::ws) a b c d e f g h=
      qAy (qDl u (h+Nat.xor (Nat.xor (qEa u e 6) (qEa u e 11)) (qEa u e 25)+Nat.xor (Nat.land e f) (Nat.land (4294967295*u-e) g)+k*u+w)) λt1=>
      qAy (qDl u (t1+(Nat.xor (Nat.xor (qEa u a 2) (qEa u a 13)) (qEa u a 22)+Nat.xor (Nat.xor (Nat.land a b) (Nat.land a c)) (Nat.land b c)))) λx=>
      qAy (qDl u (d+t1)) λy=>rdsP u ks ws x a b c y e f g:=rfl
theorem qQP(u n' a b c d e f g h i j k l m n o p:Nat):schP u (n'+1) a b c d e f g h i j k l m n o p=a::qAy (qDl u (a+Nat.xor (Nat.xor (qEa u b 7) (qEa u b 18)) (qJm u b 3)+j+Nat.xor (Nat.xor (qEa u o 17) (qEa u o 19)) (qJm u o 10))) λx=>schP u n' b c d e f g h i j k l m n o p x:=rfl
theorem qTz(u:Nat)(ws:List Nat)(a b c d e f g h:Nat):rdsP u [] ws a b c d e f g h= [a,b,c,d,e,f,g,h]:=rfl
theorem qQO(u a b c d e f g h i j k l m n o p:Nat):schP u 0 a b c d e f g h i j k l m n o p= [a,b,c,d,e,f,g,h,i,j,k,l,m,n,o,p]:=rfl
attribute [local irreducible] rdsP schP
def qYl:Nat→(Nat→UInt32)→(Nat→UInt32)→(Nat→UInt32)→(Nat→UInt32)→(Nat→UInt32)→(Nat→UInt32)→(Nat→UInt32)→(Nat→UInt32)→(Nat→UInt32)→(Nat→UInt32)→(Nat→UInt32)→(Nat→UInt32)→(Nat→UInt32)→(Nat→UInt32)→(Nat→UInt32)→(Nat→UInt32)→List (Nat→UInt32)
 |0,a,b,c,d,e,f,g,h,i,j,k,l,m,n,o,p=> [a,b,c,d,e,f,g,h,i,j,k,l,m,n,o,p]
 |n'+1,a,b,c,d,e,f,g,h,i,j,k,l,m,n,o,p=>a::qYl n' b c d e f g h i j k l m n o p (λz=>a z+Sha.sg0 (b z)+j z+Sha.sg1 (o z))
theorem qUr(z:Nat)(n':Nat): ∀(q:List UInt32) (a b c d e f g h i j k l m n o p:Nat→UInt32),Sha.exts n' (q++ [a z,b z,c z,d z,e z,f z,g z,h z,i z,j z,k z,l z,m z,n z,o z,p z])=q++(qYl n' a b c d e f g h i j k l m n o p).map (λw=>w z):=by
 induction n' with
 |zero=>intro q a b c d e f g h i j k l m n o p;rfl
 |succ n' ih=>
  intro q a b c d e f g h i j k l m n o p
  rw [SN.exts_succ',SN.ext_eq]
  have:=ih (q++ [a z]) b c d e f g h i j k l m n o p (λz=>a z+Sha.sg0 (b z)+j z+Sha.sg1 (o z))
  rw [this,qYl,List.map_cons,List.append_assoc];rfl
theorem lane4{x y z w:Nat}(h1:x<2^32)(h2:y<2^32)(h3:z<2^32)(h4:w<2^32):x+y+z+w<2^64:=by omega
theorem lane5{x y z w v:Nat}(h1:x<2^32)(h2:y<2^32)(h3:z<2^32)(h4:w<2^32)(h5:v<2^32):x+y+z+w+v<2^64:=by omega
theorem lane3{x y z:Nat}(h1:x<2^32)(h2:y<2^32)(h3:z<2^32):x+(y+z)<2^64:=by omega
theorem qZV{x y:Nat}(h1:x<2^32)(h2:y<2^32):x+y<2^64:=by omega
theorem sum5(a b c d e:UInt32):(a.toNat+b.toNat+c.toNat+d.toNat+e.toNat)%4294967296=(a+b+c+d+e).toNat:=by
 simp only [UInt32.toNat_add];omega
theorem sum3(a b c:UInt32):(a.toNat+(b.toNat+c.toNat))%4294967296=(a+(b+c)).toNat:=by
 simp only [UInt32.toNat_add];omega
theorem qWw(N:Nat)(n':Nat): ∀(a b c d e f g h i j k l m n o p:Nat→UInt32),schP (qBT N) n' (pk N a) (pk N b) (pk N c) (pk N d) (pk N e) (pk N f) (pk N g) (pk N h) (pk N i) (pk N j) (pk N k) (pk N l) (pk N m) (pk N n) (pk N o) (pk N p)=(qYl n' a b c d e f g h i j k l m n o p).map (pk N):=by
 induction n' with
 |zero=>intro a b c d e f g h i j k l m n o p;rw [qQO];rfl
 |succ n' ih=>
  intro a b c d e f g h i j k l m n o p
  have e1:Nat.xor (Nat.xor (qEa (qBT N) (pk N b) 7) (qEa (qBT N) (pk N b) 18)) (qJm (qBT N) (pk N b) 3)=pk N λz=>Sha.sg0 (b z):=by
   rw [qC1 N b (by decide) (by decide),qC1 N b (by decide) (by decide),qIs N b (by decide) (by decide),qDt,qDt];rfl
  have e2:Nat.xor (Nat.xor (qEa (qBT N) (pk N o) 17) (qEa (qBT N) (pk N o) 19)) (qJm (qBT N) (pk N o) 10)=pk N λz=>Sha.sg1 (o z):=by
   rw [qC1 N o (by decide) (by decide),qC1 N o (by decide) (by decide),qIs N o (by decide) (by decide),qDt,qDt];rfl
  have e3:qDl (qBT N) (pk N a+(pk N λz=>Sha.sg0 (b z))+pk N j+(pk N λz=>Sha.sg1 (o z)))=pk N λz=>a z+Sha.sg0 (b z)+j z+Sha.sg1 (o z):=by
   unfold pk
   rw [qBC,qBC,qBC,qEl N (λz=>lane4 (u32 _) (u32 _) (u32 _) (u32 _))]
   exact qA5 λz=>SN.sch_sum (a z) (b z) (j z) (o z)
  rw [qQP,qAr,e1,e2,e3,ih,qYl,List.map_cons]
def qFg(ks:List UInt32)(ws:List (Nat→UInt32))(s:Nat→Sha.St8)(z:Nat):Sha.St8:=SN.fold ks (ws.map λw=>w z) (s z)
theorem qXE(N:Nat)(ks:List UInt32): ∀(ws:List (Nat→UInt32)) (s:Nat→Sha.St8),ks.length=ws.length→
    rdsP (qBT N) (ks.map UInt32.toNat) (ws.map (pk N)) (pk N λz=>(s z).a) (pk N λz=>(s z).b) (pk N λz=>(s z).c) (pk N λz=>(s z).d) (pk N λz=>(s z).e) (pk N λz=>(s z).f) (pk N λz=>(s z).g) (pk N λz=>(s z).h)=
      [pk N λz=>(qFg ks ws s z).a,pk N λz=>(qFg ks ws s z).b,pk N λz=>(qFg ks ws s z).c,pk N λz=>(qFg ks ws s z).d,pk N λz=>(qFg ks ws s z).e,pk N λz=>(qFg ks ws s z).f,pk N λz=>(qFg ks ws s z).g,pk N λz=>(qFg ks ws s z).h]:=by
  induction ks with
  |nil=>
    intro ws s h
    cases ws with
    |nil=>rw [List.map_nil,qTz];rfl
    |cons _ _=>cases h
  |cons k ks ih=>
    intro ws s h
    cases ws with
    |nil=>cases h
    |cons w ws=>
      have e1:Nat.xor (Nat.xor (qEa (qBT N) (pk N λz=>(s z).e) 6) (qEa (qBT N) (pk N λz=>(s z).e) 11)) (qEa (qBT N) (pk N λz=>(s z).e) 25)=pk N λz=>Sha.rotr (s z).e 6^^^Sha.rotr (s z).e 11^^^Sha.rotr (s z).e 25:=by
        rw [qC1 N _ (by decide) (by decide),qC1 N _ (by decide) (by decide),qC1 N _ (by decide) (by decide),qDt,qDt]
      have e2:Nat.xor (Nat.land (pk N λz=>(s z).e) (pk N λz=>(s z).f)) (Nat.land (4294967295*qBT N-pk N λz=>(s z).e) (pk N λz=>(s z).g))=pk N λz=>(s z).e&&&(s z).f^^^ ~~~ (s z).e&&&(s z).g:=by
        rw [qZB,qKL,qKL,qDt]
      have e3:Nat.xor (Nat.xor (qEa (qBT N) (pk N λz=>(s z).a) 2) (qEa (qBT N) (pk N λz=>(s z).a) 13)) (qEa (qBT N) (pk N λz=>(s z).a) 22)=pk N λz=>Sha.rotr (s z).a 2^^^Sha.rotr (s z).a 13^^^Sha.rotr (s z).a 22:=by
        rw [qC1 N _ (by decide) (by decide),qC1 N _ (by decide) (by decide),qC1 N _ (by decide) (by decide),qDt,qDt]
      have e4:Nat.xor (Nat.xor (Nat.land (pk N λz=>(s z).a) (pk N λz=>(s z).b)) (Nat.land (pk N λz=>(s z).a) (pk N λz=>(s z).c))) (Nat.land (pk N λz=>(s z).b) (pk N λz=>(s z).c))=pk N λz=>(s z).a&&&(s z).b^^^(s z).a&&&(s z).c^^^(s z).b&&&(s z).c:=by
        rw [qKL,qKL,qKL,qDt,qDt]
      have t1:qDl (qBT N) ((pk N λz=>(s z).h)+(pk N λz=>Sha.rotr (s z).e 6^^^Sha.rotr (s z).e 11^^^Sha.rotr (s z).e 25)+(pk N λz=>(s z).e&&&(s z).f^^^ ~~~ (s z).e&&&(s z).g)+k.toNat*qBT N+pk N w)=pk N λz=>(s z).h+(Sha.rotr (s z).e 6^^^Sha.rotr (s z).e 11^^^Sha.rotr (s z).e 25)+((s z).e&&&(s z).f^^^ ~~~ (s z).e&&&(s z).g)+k+w z:=by
        rw [qBl]
        unfold pk
        rw [qBC,qBC,qBC,qBC,qEl N (λz=>lane5 (u32 _) (u32 _) (u32 _) (u32 _) (u32 _))]
        exact qA5 λz=>sum5 _ _ _ _ _
      have t2: ∀T:Nat→UInt32,qDl (qBT N) (pk N T+((pk N λz=>Sha.rotr (s z).a 2^^^Sha.rotr (s z).a 13^^^Sha.rotr (s z).a 22)+(pk N λz=>(s z).a&&&(s z).b^^^(s z).a&&&(s z).c^^^(s z).b&&&(s z).c)))=pk N λz=>T z+((Sha.rotr (s z).a 2^^^Sha.rotr (s z).a 13^^^Sha.rotr (s z).a 22)+((s z).a&&&(s z).b^^^(s z).a&&&(s z).c^^^(s z).b&&&(s z).c)):=λT=>by
        unfold pk
        rw [qBC,qBC,qEl N (λz=>lane3 (u32 _) (u32 _) (u32 _))]
        exact qA5 λz=>sum3 _ _ _
      have t3: ∀T:Nat→UInt32,qDl (qBT N) ((pk N λz=>(s z).d)+pk N T)=pk N λz=>(s z).d+T z:=λT=>by
        unfold pk
        rw [qBC,qEl N (λz=>qZV (u32 _) (u32 _))]
        exact qA5 λz=>by simp only [UInt32.toNat_add]
      rw [List.map_cons,List.map_cons,qQY,qAr,e1,e2,t1,qAr,e3,e4,t2,qAr,t3]
      have hr:=ih ws (λz=>Sha.rnd (w z) k (s z)) (by simpa using h)
      have hf: ∀z,qFg (k::ks) (w::ws) s z=qFg ks ws (λz=>Sha.rnd (w z) k (s z)) z:=λz=>by
        unfold qFg
        rw [List.map_cons,SN.fold_cons]
      simp only [hf]
      exact hr
end SM
end Go.Proofs.YtcgcjaflllmlpaaGreatDoor
namespace Go.Proofs.YtcgcjaflllmlpaaGreatDoor
namespace SM
open SN (qAy qAr forceL qA8)
noncomputable def hd{α:Type}(l:List Nat)(g:Nat→List Nat→α):α:=List.rec (g 0 []) (λa r _=>g a r) l
noncomputable def w4s(n:Nat):List Nat→List Nat:=
 Nat.rec (λ_=> []) (λ_ ih l=>hd l λa r=>hd r λb r=>hd r λc r=>hd r λd r=>qAy (((a*256+b)*256+c)*256+d) λx=>x::ih r) n
theorem qTB(n a b c d:Nat)(r:List Nat):w4s (n+1) (a::b::c::d::r)=(((a*256+b)*256+c)*256+d)::w4s n r:=by
 show qAy (((a*256+b)*256+c)*256+d) (λx=>x::w4s n r)=_
 rw [qAr]
theorem qPk(l:List UInt8)(i:Nat):Sha.word (l.drop 4) i=Sha.word l (i+1):=by
 have e: ∀k,(l.drop 4).getD (4*i+k) 0=l.getD (4*(i+1)+k) 0:=λk=>by
  rw [List.getD_eq_getElem?_getD,List.getElem?_drop,←List.getD_eq_getElem?_getD,show 4+(4*i+k)=4*(i+1)+k by omega]
 unfold Sha.word
 exact congr (congr (congr (congrArg Sha.be32 (e 0)) (e 1)) (e 2)) (e 3)
theorem qEn(l:List UInt8)(n:Nat):Sha.firsts l (n+1)=Sha.word l 0::Sha.firsts (l.drop 4) n:=by
 unfold Sha.firsts
 rw [List.range_succ_eq_map,List.map_cons,List.map_map]
 exact congrArg (List.cons _) (List.map_congr_left λi _=>(qPk l i).symm)
theorem qVZ: ∀(n:Nat) (l:List UInt8),4*n≤l.length→w4s n (l.map UInt8.toNat)=(Sha.firsts l n).map UInt32.toNat
 |0,_,_=>rfl
 |n+1,l,h=>by
  match l,h with
  |a::b::c::d::r,h=>
   have ih:=qVZ n r (by simp only [List.length_cons] at h;omega)
   rw [qEn]
   show w4s (n+1) (a.toNat::b.toNat::c.toNat::d.toNat::r.map UInt8.toNat)=_
   rw [qTB,ih,List.map_cons]
   congr 1
   have:=SN.w4_eq (a::b::c::d::r) 0
   rw [Nat.mul_zero,List.drop_zero] at this
   exact this
  | [],h=>simp at h
  | [_],h=>simp only [List.length_cons,List.length_nil] at h;omega
  | [_,_],h=>simp only [List.length_cons,List.length_nil] at h;omega
  | [_,_,_],h=>simp only [List.length_cons,List.length_nil] at h;omega
noncomputable def cols{α:Type}(L:List (List Nat)):(List Nat→α)→α:=
 List.rec (λg=>g [0,0,0,0,0,0,0,0,0,0,0,0,0,0,0,0]) (λws _ ih g=>ih λacc=>forceL (List.zipWith (λw p=>w+18446744073709551616*p) ws acc) g) L
def qSF:List (List Nat)→List Nat
 | []=> [0,0,0,0,0,0,0,0,0,0,0,0,0,0,0,0]
 |ws::L=>List.zipWith (λw p=>w+18446744073709551616*p) ws (qSF L)
theorem qSD{α:Type}: ∀(L:List (List Nat)) (g:List Nat→α),cols L g=g (qSF L)
 | [],_=>rfl
 |ws::L,g=>by
  show cols L (λacc=>forceL (List.zipWith (λw p=>w+18446744073709551616*p) ws acc) g)=_
  rw [qSD L,qA8];rfl
def wd(M:List (List UInt8))(j z:Nat):UInt32:=Sha.word (M.getD z []) j
theorem qOv(n:Nat)(f:Nat→Nat):qBH (n+1) f=f 0+18446744073709551616*qBH n (λi=>f (i+1)):=rfl
attribute [local irreducible] qBH Sha.word
theorem qXN(b:List UInt8)(M:List (List UInt8))(j:Nat):pk (b::M).length (wd (b::M) j)=(Sha.word b j).toNat+18446744073709551616*pk M.length (wd M j):=by
 have h: ∀i,wd (b::M) j (i+1)=wd M j i:=λi=>by unfold wd;rw [List.getD_cons_succ]
 have h0:wd (b::M) j 0=Sha.word b j:=by unfold wd;rw [List.getD_cons_zero]
 unfold pk
 rw [List.length_cons,qOv,h0]
 simp only [h]
theorem qPe{f g:Nat→Nat}: ∀(l:List Nat),List.zipWith (λw p=>w+18446744073709551616*p) (l.map f) (l.map g)=l.map λj=>f j+18446744073709551616*g j
 | []=>List.zipWith_nil_left
 |a::l=>by rw [List.map_cons,List.map_cons,List.map_cons,List.zipWith_cons_cons,qPe l]
theorem qSE:qSF []=(List.range 16).map λj=>pk ([]:List (List UInt8)).length (wd [] j):=by
 have h: ∀j,pk ([]:List (List UInt8)).length (wd [] j)=0:=λj=>by
  unfold pk;rw [List.length_nil];unfold qBH;rfl
 simp only [h]
 decide
theorem qUx(M:List (List UInt8)):qSF (M.map λb=>(Sha.firsts b 16).map UInt32.toNat)=(List.range 16).map λj=>pk M.length (wd M j):=by
 induction M with
 |nil=>exact qSE
 |cons b M ih=>
  rw [List.map_cons,qSF,ih]
  unfold Sha.firsts
  rw [List.map_map,qPe]
  refine List.map_congr_left λj _=>?_
  rw [Function.comp_apply,qXN]
theorem K_len:Sha.K.length=64:=by decide
noncomputable def oneP{α:Type}(u:Nat)(ws:List Nat)(g:Nat→Nat→Nat→Nat→α):α:=
 forceL (rdsP u SN.KN (schP u 48 (ws.getD 0 0) (ws.getD 1 0) (ws.getD 2 0) (ws.getD 3 0) (ws.getD 4 0) (ws.getD 5 0) (ws.getD 6 0) (ws.getD 7 0) (ws.getD 8 0) (ws.getD 9 0) (ws.getD 10 0) (ws.getD 11 0) (ws.getD 12 0) (ws.getD 13 0) (ws.getD 14 0) (ws.getD 15 0)) (1779033703*u) (3144134277*u) (1013904242*u) (2773480762*u) (1359893119*u) (2600822924*u) (528734635*u) (1541459225*u)) λr=>
 qAy (qDl u (1779033703*u+r.getD 0 0)) λa=>qAy (qDl u (3144134277*u+r.getD 1 0)) λb=>qAy (qDl u (1013904242*u+r.getD 2 0)) λc=>qAy (qDl u (2773480762*u+r.getD 3 0)) λd=>g a b c d
attribute [local irreducible] rdsP schP SN.KN Sha.K
theorem qLG(N:Nat)(k:UInt32)(a:Nat→UInt32):qDl (qBT N) (k.toNat*qBT N+pk N a)=pk N λz=>k+a z:=by
 rw [qBl]
 unfold pk
 rw [qBC,qEl N (λz=>qZV (u32 _) (u32 _))]
 exact qA5 λz=>SN.add_eq k (a z)
theorem qUP(b:List UInt8):Sha.mix Sha.init b=Sha.init.add (SN.fold Sha.K (Sha.sched b) Sha.init):=by
 have:=SN.fold_rnds (Sha.sched b) Sha.init (Sha.sched_length b) 64 0 rfl
 rw [List.drop_zero,List.drop_zero] at this
 unfold Sha.mix
 rw [←this];rfl
theorem qRB{α:Type}(M:List (List UInt8))(g:Nat→Nat→Nat→Nat→α):oneP (qBT M.length) ((List.range 16).map λj=>pk M.length (wd M j)) g=
    g (pk M.length λz=>(Sha.mix Sha.init (M.getD z [])).a) (pk M.length λz=>(Sha.mix Sha.init (M.getD z [])).b) (pk M.length λz=>(Sha.mix Sha.init (M.getD z [])).c) (pk M.length λz=>(Sha.mix Sha.init (M.getD z [])).d):=by
  unfold oneP
  have hs:=qWw M.length 48 (wd M 0) (wd M 1) (wd M 2) (wd M 3) (wd M 4) (wd M 5) (wd M 6) (wd M 7) (wd M 8) (wd M 9) (wd M 10) (wd M 11) (wd M 12) (wd M 13) (wd M 14) (wd M 15)
  have hl:=λz=>qUr z 48 [] (wd M 0) (wd M 1) (wd M 2) (wd M 3) (wd M 4) (wd M 5) (wd M 6) (wd M 7) (wd M 8) (wd M 9) (wd M 10) (wd M 11) (wd M 12) (wd M 13) (wd M 14) (wd M 15)
  obtain ⟨W,hW⟩: ∃W,W=qYl 48 (wd M 0) (wd M 1) (wd M 2) (wd M 3) (wd M 4) (wd M 5) (wd M 6) (wd M 7) (wd M 8) (wd M 9) (wd M 10) (wd M 11) (wd M 12) (wd M 13) (wd M 14) (wd M 15):=⟨_,rfl⟩
  rw [←hW] at hs
  simp only [←hW] at hl
  have hl2: ∀z,W.map (λw=>w z)=Sha.sched (M.getD z []):=λz=>by
    have:=hl z
    rw [List.nil_append,List.nil_append] at this
    rw [←this];rfl
  have hlen:Sha.K.length=W.length:=by
    have:=congrArg List.length (hl2 0)
    rw [List.length_map,Sha.sched_length] at this
    rw [this];exact K_len
  have hr:=qXE M.length Sha.K W (λ_=>Sha.init) hlen
  have e: ∀k:UInt32,(pk M.length λ_=>k)=k.toNat*qBT M.length:=λk=>(qBl M.length k).symm
  have hf: ∀z,qFg Sha.K W (λ_=>Sha.init) z=SN.fold Sha.K (Sha.sched (M.getD z [])) Sha.init:=λz=>by
    unfold qFg;rw [hl2]
  simp only [hf,e] at hr
  rw [show(((List.range 16).map λj=>pk M.length (wd M j)).getD 0 0)=pk M.length (wd M 0) from rfl,show(((List.range 16).map λj=>pk M.length (wd M j)).getD 1 0)=pk M.length (wd M 1) from rfl,show(((List.range 16).map λj=>pk M.length (wd M j)).getD 2 0)=pk M.length (wd M 2) from rfl,show(((List.range 16).map λj=>pk M.length (wd M j)).getD 3 0)=pk M.length (wd M 3) from rfl,show(((List.range 16).map λj=>pk M.length (wd M j)).getD 4 0)=pk M.length (wd M 4) from rfl,show(((List.range 16).map λj=>pk M.length (wd M j)).getD 5 0)=pk M.length (wd M 5) from rfl,show(((List.range 16).map λj=>pk M.length (wd M j)).getD 6 0)=pk M.length (wd M 6) from rfl,show(((List.range 16).map λj=>pk M.length (wd M j)).getD 7 0)=pk M.length (wd M 7) from rfl,show(((List.range 16).map λj=>pk M.length (wd M j)).getD 8 0)=pk M.length (wd M 8) from rfl,show(((List.range 16).map λj=>pk M.length (wd M j)).getD 9 0)=pk M.length (wd M 9) from rfl,show(((List.range 16).map λj=>pk M.length (wd M j)).getD 10 0)=pk M.length (wd M 10) from rfl,show(((List.range 16).map λj=>pk M.length (wd M j)).getD 11 0)=pk M.length (wd M 11) from rfl,show(((List.range 16).map λj=>pk M.length (wd M j)).getD 12 0)=pk M.length (wd M 12) from rfl,show(((List.range 16).map λj=>pk M.length (wd M j)).getD 13 0)=pk M.length (wd M 13) from rfl,show(((List.range 16).map λj=>pk M.length (wd M j)).getD 14 0)=pk M.length (wd M 14) from rfl,show(((List.range 16).map λj=>pk M.length (wd M j)).getD 15 0)=pk M.length (wd M 15) from rfl,hs,SN.KN_eq]
  obtain ⟨S,hS⟩: ∃S:Nat→Sha.St8,S=λz=>SN.fold Sha.K (Sha.sched (M.getD z [])) Sha.init:=⟨_,rfl⟩
  have hSz: ∀z,SN.fold Sha.K (Sha.sched (M.getD z [])) Sha.init=S z:=λz=>by rw [hS]
  have hm: ∀z,Sha.mix Sha.init (M.getD z [])=Sha.init.add (S z):=λz=>by rw [qUP,hSz]
  simp only [hSz] at hr
  simp only [hm]
  rw [show rdsP (qBT M.length) (Sha.K.map UInt32.toNat) (W.map (pk M.length)) (1779033703*qBT M.length) (3144134277*qBT M.length) (1013904242*qBT M.length) (2773480762*qBT M.length) (1359893119*qBT M.length) (2600822924*qBT M.length) (528734635*qBT M.length) (1541459225*qBT M.length)=_ from hr]
  rw [qA8,qAr,qAr,qAr,qAr]
  have h0:qDl (qBT M.length) (1779033703*qBT M.length+pk M.length λz=>(S z).a)=pk M.length λz=>Sha.init.a+(S z).a:=qLG M.length Sha.init.a _
  have h1:qDl (qBT M.length) (3144134277*qBT M.length+pk M.length λz=>(S z).b)=pk M.length λz=>Sha.init.b+(S z).b:=qLG M.length Sha.init.b _
  have h2:qDl (qBT M.length) (1013904242*qBT M.length+pk M.length λz=>(S z).c)=pk M.length λz=>Sha.init.c+(S z).c:=qLG M.length Sha.init.c _
  have h3:qDl (qBT M.length) (2773480762*qBT M.length+pk M.length λz=>(S z).d)=pk M.length λz=>Sha.init.d+(S z).d:=qLG M.length Sha.init.d _
  exact congr (congr (congr (congrArg g h0) h1) h2) h3
end SM
end Go.Proofs.YtcgcjaflllmlpaaGreatDoor
namespace Go.Proofs.YtcgcjaflllmlpaaGreatDoor
namespace SM
open SN (qAy qAr forceL qA8)
noncomputable def outs(n:Nat):Nat→Nat→Nat→Nat→List (List Nat):=
 Nat.rec (λ_ _ _ _=> []) (λ_ ih A B C D=>(SN.bytes4 (A%18446744073709551616)++(SN.bytes4 (B%18446744073709551616)++(SN.bytes4 (C%18446744073709551616)++SN.bytes4 (D%18446744073709551616))))::
  qAy (A/18446744073709551616) λA=>qAy (B/18446744073709551616) λB=>qAy (C/18446744073709551616) λC=>qAy (D/18446744073709551616) λD=>ih A B C D) n
theorem qG2(n A B C D:Nat):outs (n+1) A B C D=(SN.bytes4 (A%18446744073709551616)++(SN.bytes4 (B%18446744073709551616)++(SN.bytes4 (C%18446744073709551616)++SN.bytes4 (D%18446744073709551616))))::
    qAy (A/18446744073709551616) λA=>qAy (B/18446744073709551616) λB=>qAy (C/18446744073709551616) λC=>qAy (D/18446744073709551616) λD=>outs n A B C D:=rfl
theorem qG0(n:Nat)(f:Nat→Nat):qBH (n+1) f=f 0+18446744073709551616*qBH n (λi=>f (i+1)):=rfl
attribute [local irreducible] qBH outs
theorem qNJ(n:Nat)(a:Nat→UInt32):pk (n+1) a%18446744073709551616=(a 0).toNat:=by
 unfold pk
 rw [qG0,Nat.add_mul_mod_self_left]
 exact Nat.mod_eq_of_lt (u64 (a 0))
theorem qNK(n:Nat)(a:Nat→UInt32):pk (n+1) a/18446744073709551616=pk n (λi=>a (i+1)):=by
 unfold pk
 rw [qG0,Nat.add_mul_div_left _ _ (by decide),Nat.div_eq_of_lt (u64 (a 0)),Nat.zero_add]
def byt(a b c d:UInt32):List Nat:=SN.bytes4 a.toNat++(SN.bytes4 b.toNat++(SN.bytes4 c.toNat++SN.bytes4 d.toNat))
theorem qXP: ∀(n:Nat) (a b c d:Nat→UInt32),outs n (pk n a) (pk n b) (pk n c) (pk n d)=(List.range n).map λz=>byt (a z) (b z) (c z) (d z):=by
 intro n
 induction n with
 |zero=>intro a b c d;unfold outs;rfl
 |succ n ih=>
  intro a b c d
  rw [qG2,qNJ,qNJ,qNJ,qNJ,qNK,qNK,qNK,qNK,qAr,qAr,qAr,qAr,ih,List.range_succ_eq_map,List.map_cons,List.map_map]
  rfl
theorem b4(x:UInt32):SN.bytes4 x.toNat=(Sha.numB x.toUInt64 4).map UInt8.toNat:=by
 rw [SN.bytes4_eq _ (by have:=x.toNat_lt;omega)]
 congr 2
 rw [show x.toUInt64=UInt64.ofNat x.toNat from by apply UInt64.toNat_inj.1;simp]
noncomputable def tagL(tag:Nat)(ls:List (List Nat)):List Nat:=tag::ls.flatMap λs=>SN.bytes4 s.length++s
theorem qWd(tag:UInt8)(ls:List (List UInt8))(h:(Sha.tagB tag ls).length≤55):tagL tag.toNat (ls.map (List.map UInt8.toNat))=(Sha.tagB tag ls).map UInt8.toNat:=by
 unfold tagL Sha.tagB
 simp only [List.map_append,List.map_cons,List.map_nil,List.cons_append,List.nil_append]
 congr 1
 rw [Sha.tagB_length] at h
 have h2:ls.flatten.length≤55:=by omega
 clear h
 induction ls with
 |nil=>rfl
 |cons a l ih=>
  simp only [List.flatten_cons,List.length_append] at h2
  rw [List.map_cons,List.flatMap_cons,List.flatMap_cons,List.map_append,List.map_append,List.length_map,ih (by omega),SN.bytes4_eq _ (by omega)]
end SM
end Go.Proofs.YtcgcjaflllmlpaaGreatDoor
namespace Go.Proofs.YtcgcjaflllmlpaaGreatDoor
namespace SM
open SN (qAy qAr forceL qA8)
def x16(a b c d:UInt32):List UInt8:=Sha.numB a.toUInt64 4++(Sha.numB b.toUInt64 4++(Sha.numB c.toUInt64 4++Sha.numB d.toUInt64 4))
theorem qZC(s:Sha.St8):(Sha.out s).take 16=x16 s.a s.b s.c s.d:=by
 have e:Sha.out s=x16 s.a s.b s.c s.d++(Sha.numB s.e.toUInt64 4++(Sha.numB s.f.toUInt64 4++(Sha.numB s.g.toUInt64 4++Sha.numB s.h.toUInt64 4))):=by
  unfold Sha.out Sha.St8.list x16
  simp only [List.flatMap_cons,List.flatMap_nil,List.append_nil,List.append_assoc]
 rw [e,List.take_left' (by unfold x16;simp only [List.length_append,Sha.numB_length])]
theorem num4(x:UInt32):Sha.numB x.toUInt64 4= [UInt8.ofNat (x.toNat/2^24),UInt8.ofNat (x.toNat/2^16),UInt8.ofNat (x.toNat/2^8),UInt8.ofNat x.toNat]:=by
 rw [show x.toUInt64=UInt64.ofNat x.toNat from by apply UInt64.toNat_inj.1;simp]
 exact R3.four_nat x.toNat (by have:=x.toNat_lt;omega)
theorem qZz(x:UInt32):Sha.be32 0 0 16 (UInt8.ofNat (x.toNat/2^24))=4096+Sha.shr x 24:=by
 apply UInt32.toNat_inj.1
 have hx:=x.toNat_lt
 rw [R3.be32_nat,UInt32.toNat_add,R3.shr_nat x 24 (by decide),UInt8.toNat_ofNat']
 show 256*(256*(256*0+0)+16)+x.toNat/2^24%256=(4096+x.toNat/2^24)%4294967296
 omega
theorem qSd(x y:UInt32):Sha.be32 (UInt8.ofNat (x.toNat/2^16)) (UInt8.ofNat (x.toNat/2^8)) (UInt8.ofNat x.toNat) (UInt8.ofNat (y.toNat/2^24))=x*256+Sha.shr y 24:=by
 apply UInt32.toNat_inj.1
 have hx:=x.toNat_lt
 have hy:=y.toNat_lt
 rw [R3.be32_nat,UInt32.toNat_add,UInt32.toNat_mul,R3.shr_nat y 24 (by decide),UInt8.toNat_ofNat',UInt8.toNat_ofNat',UInt8.toNat_ofNat',UInt8.toNat_ofNat']
 show 256*(256*(256*(x.toNat/2^16%256)+x.toNat/2^8%256)+x.toNat%256)+y.toNat/2^24%256=(x.toNat*256%4294967296+y.toNat/2^24)%4294967296
 omega
theorem qZ0(x:UInt32):Sha.be32 (UInt8.ofNat (x.toNat/2^16)) (UInt8.ofNat (x.toNat/2^8)) (UInt8.ofNat x.toNat) 128=x*256+128:=by
 apply UInt32.toNat_inj.1
 have hx:=x.toNat_lt
 rw [R3.be32_nat,UInt32.toNat_add,UInt32.toNat_mul,UInt8.toNat_ofNat',UInt8.toNat_ofNat',UInt8.toNat_ofNat']
 show 256*(256*(256*(x.toNat/2^16%256)+x.toNat/2^8%256)+x.toNat%256)+128=(x.toNat*256%4294967296+128)%4294967296
 omega
def plc(leaf chain k:Nat):List UInt8:= [0,0,0,UInt8.ofNat leaf,UInt8.ofNat chain,UInt8.ofNat k]
def qYm(o:List UInt8)(j:Nat):UInt32:=Sha.be32 (o.getD (4*j+3) 0) (o.getD (4*j+4) 0) (o.getD (4*j+5) 0) (o.getD (4*j+6) 0)
def qWi(o:List UInt8)(p:UInt32)(a b c d:UInt32):List UInt32:=
 [33554432,Sha.be32 16 (o.getD 0 0) (o.getD 1 0) (o.getD 2 0),qYm o 0,qYm o 1,qYm o 2,Sha.be32 (o.getD 15 0) 0 0 0,100663296,p,4096+Sha.shr a 24,a*256+Sha.shr b 24,b*256+Sha.shr c 24,c*256+Sha.shr d 24,d*256+128,0,0,408]
theorem n16:Sha.numB (UInt64.ofNat 16) 4= [0,0,0,16]:=by decide+kernel
theorem n6:Sha.numB (UInt64.ofNat 6) 4= [0,0,0,6]:=by decide+kernel
theorem n408:Sha.numB (8*UInt64.ofNat 51) 8= [0,0,0,0,0,0,1,152]:=by decide+kernel
theorem qTR(o0 o1 o2 o3 o4 o5 o6 o7 o8 o9 o10 o11 o12 o13 o14 o15 x0 x1 x2 x3 x4 x5 x6 x7 x8 x9 x10 x11 x12 x13 x14 x15:UInt8)(leaf chain k:Nat):Sha.tagB 2 [[o0,o1,o2,o3,o4,o5,o6,o7,o8,o9,o10,o11,o12,o13,o14,o15],plc leaf chain k,[x0,x1,x2,x3,x4,x5,x6,x7,x8,x9,x10,x11,x12,x13,x14,x15]]= [2,0,0,0,16,o0,o1,o2,o3,o4,o5,o6,o7,o8,o9,o10,o11,o12,o13,o14,o15,0,0,0,6,0,0,0,UInt8.ofNat leaf,UInt8.ofNat chain,UInt8.ofNat k,0,0,0,16,x0,x1,x2,x3,x4,x5,x6,x7,x8,x9,x10,x11,x12,x13,x14,x15]:=by
 show [2]++(Sha.numB (UInt64.ofNat 16) 4++ [o0,o1,o2,o3,o4,o5,o6,o7,o8,o9,o10,o11,o12,o13,o14,o15]++(Sha.numB (UInt64.ofNat 6) 4++plc leaf chain k++(Sha.numB (UInt64.ofNat 16) 4++ [x0,x1,x2,x3,x4,x5,x6,x7,x8,x9,x10,x11,x12,x13,x14,x15]++ [])))=_
 rw [n16,n6];rfl
theorem pad51(l:List UInt8)(h:l.length=51):Sha.pad l=l++ [128,0,0,0,0,0,0,0,0,0,0,1,152]:=by
 unfold Sha.pad
 rw [h,n408,List.append_assoc,List.append_assoc];rfl
theorem be_2:Sha.be32 2 0 0 0=33554432:=by decide+kernel
theorem be_6:Sha.be32 6 0 0 0=100663296:=by decide+kernel
theorem be_0:Sha.be32 0 0 0 0=0:=by decide+kernel
theorem qZ1:Sha.be32 0 0 1 152=408:=by decide+kernel
theorem qQB(o0 o1 o2 o3 o4 o5 o6 o7 o8 o9 o10 o11 o12 o13 o14 o15 x0 x1 x2 x3 x4 x5 x6 x7 x8 x9 x10 x11 x12 x13 x14 x15:UInt8)(leaf chain k:Nat):Sha.firsts (Sha.pad [2,0,0,0,16,o0,o1,o2,o3,o4,o5,o6,o7,o8,o9,o10,o11,o12,o13,o14,o15,0,0,0,6,0,0,0,UInt8.ofNat leaf,UInt8.ofNat chain,UInt8.ofNat k,0,0,0,16,x0,x1,x2,x3,x4,x5,x6,x7,x8,x9,x10,x11,x12,x13,x14,x15]) 16= [(Sha.be32 2 0 0 0),(Sha.be32 16 o0 o1 o2),(Sha.be32 o3 o4 o5 o6),(Sha.be32 o7 o8 o9 o10),(Sha.be32 o11 o12 o13 o14),(Sha.be32 o15 0 0 0),(Sha.be32 6 0 0 0),(Sha.be32 (UInt8.ofNat leaf) (UInt8.ofNat chain) (UInt8.ofNat k) 0),(Sha.be32 0 0 16 x0),(Sha.be32 x1 x2 x3 x4),(Sha.be32 x5 x6 x7 x8),(Sha.be32 x9 x10 x11 x12),(Sha.be32 x13 x14 x15 128),(Sha.be32 0 0 0 0),(Sha.be32 0 0 0 0),(Sha.be32 0 0 1 152)]:=by
 rw [pad51 _ rfl];rfl
theorem qOe(o:List UInt8)(ho:o.length=16)(leaf chain k:Nat)(a b c d:UInt32):Sha.firsts (Sha.pad (Sha.tagB 2 [o,plc leaf chain k,x16 a b c d])) 16=qWi o (Sha.be32 (UInt8.ofNat leaf) (UInt8.ofNat chain) (UInt8.ofNat k) 0) a b c d:=by
 unfold qWi
 rw [←qZz a,←qSd a b,←qSd b c,←qSd c d,←qZ0 d]
 unfold x16
 rw [num4,num4,num4,num4]
 match o,ho with
 | [o0,o1,o2,o3,o4,o5,o6,o7,o8,o9,o10,o11,o12,o13,o14,o15],_=>
  show Sha.firsts (Sha.pad (Sha.tagB 2 [[o0,o1,o2,o3,o4,o5,o6,o7,o8,o9,o10,o11,o12,o13,o14,o15],plc leaf chain k,[UInt8.ofNat (a.toNat/2^24),UInt8.ofNat (a.toNat/2^16),UInt8.ofNat (a.toNat/2^8),UInt8.ofNat a.toNat,UInt8.ofNat (b.toNat/2^24),UInt8.ofNat (b.toNat/2^16),UInt8.ofNat (b.toNat/2^8),UInt8.ofNat b.toNat,UInt8.ofNat (c.toNat/2^24),UInt8.ofNat (c.toNat/2^16),UInt8.ofNat (c.toNat/2^8),UInt8.ofNat c.toNat,UInt8.ofNat (d.toNat/2^24),UInt8.ofNat (d.toNat/2^16),UInt8.ofNat (d.toNat/2^8),UInt8.ofNat d.toNat]])) 16=_
  rw [qTR,qQB,be_2,be_6,be_0,qZ1]
  rfl
end SM
end Go.Proofs.YtcgcjaflllmlpaaGreatDoor
namespace Go.Proofs.YtcgcjaflllmlpaaGreatDoor
namespace SM
open SN (qAy qAr forceL qA8)
theorem qI5: ∀{n:Nat} {f g:Nat→Nat},(∀i,i<n→f i=g i)→qBH n f=qBH n g
 |0,_,_,_=>rfl
 |n+1,f,g,h=>by rw [qBH,qBH,h 0 (by omega),qI5 (λi hi=>h (i+1) (by omega))]
theorem pk_lt{n:Nat}{a b:Nat→UInt32}(h: ∀i,i<n→a i=b i):pk n a=pk n b:=qI5 λi hi=>congrArg UInt32.toNat (h i hi)
attribute [local irreducible] qBH Sha.word Sha.be32 Sha.shr
theorem qRN(N:Nat)(a b:Nat→UInt32):qDl (qBT N) (pk N a*256+qJm (qBT N) (pk N b) 24)=pk N λz=>a z*256+Sha.shr (b z) 24:=by
 rw [qIs N b (by decide) (by decide)]
 unfold pk
 rw [qDu,qBC,qEl N (λz=>by
  have h1:=u32 (a z)
  have h2:=u32 (Sha.shr (b z) 24)
  show(a z).toNat*256+(Sha.shr (b z) 24).toNat<2^64
  omega)]
 refine qA5 λz=>?_
 show((a z).toNat*256+(Sha.shr (b z) 24).toNat)%4294967296=(a z*256+Sha.shr (b z) 24).toNat
 rw [UInt32.toNat_add,UInt32.toNat_mul]
 show _=((a z).toNat*256%4294967296+_)%4294967296
 omega
theorem qZn(N:Nat)(a:Nat→UInt32):qDl (qBT N) (pk N a*256+128*qBT N)=pk N λz=>a z*256+128:=by
 rw [show 128*qBT N=pk N λ_=>128 from qBl N 128]
 unfold pk
 rw [qDu,qBC,qEl N (λz=>by
  have h1:=u32 (a z)
  show(a z).toNat*256+128<2^64
  omega)]
 refine qA5 λz=>?_
 show((a z).toNat*256+128)%4294967296=(a z*256+128).toNat
 rw [UInt32.toNat_add,UInt32.toNat_mul]
 show _=((a z).toNat*256%4294967296+128)%4294967296
 omega
theorem qYy(N:Nat)(a:Nat→UInt32):qDl (qBT N) (4096*qBT N+qJm (qBT N) (pk N a) 24)=pk N λz=>4096+Sha.shr (a z) 24:=by
 rw [qIs N a (by decide) (by decide)]
 exact qLG N 4096 _
noncomputable def stepP{α:Type}(u o0 o1 o2 o3 o4 w A B C D:Nat)(g:Nat→Nat→Nat→Nat→α):α:=
 forceL [33554432*u,o0*u,o1*u,o2*u,o3*u,o4*u,100663296*u,w,qDl u (4096*u+qJm u A 24),qDl u (A*256+qJm u B 24),qDl u (B*256+qJm u C 24),qDl u (C*256+qJm u D 24),qDl u (D*256+128*u),0*u,0*u,408*u] λws=>oneP u ws g
def oW(o:List UInt8):Nat→UInt32
 |0=>Sha.be32 16 (o.getD 0 0) (o.getD 1 0) (o.getD 2 0)
 |1=>qYm o 0
 |2=>qYm o 1
 |3=>qYm o 2
 |_=>Sha.be32 (o.getD 15 0) 0 0 0
theorem qTV{α:Type}(N:Nat)(o:List UInt8)(ho:o.length=16)(lf ch:Nat→Nat)(k:Nat)(a b c d:Nat→UInt32)(w:Nat)(hw:w=pk N λz=>Sha.be32 (UInt8.ofNat (lf z)) (UInt8.ofNat (ch z)) (UInt8.ofNat k) 0)(g:Nat→Nat→Nat→Nat→α):
    ∃a' b' c' d':Nat→UInt32,stepP (qBT N) (oW o 0).toNat (oW o 1).toNat (oW o 2).toNat (oW o 3).toNat (oW o 4).toNat w (pk N a) (pk N b) (pk N c) (pk N d) g=g (pk N a') (pk N b') (pk N c') (pk N d')∧
      ∀z,z<N→x16 (a' z) (b' z) (c' z) (d' z)=Sha.tagged 2 [o,plc (lf z) (ch z) k,x16 (a z) (b z) (c z) (d z)]:=by
  obtain ⟨M,hM⟩: ∃M,M=(List.range N).map λz=>Sha.pad (Sha.tagB 2 [o,plc (lf z) (ch z) k,x16 (a z) (b z) (c z) (d z)]):=⟨_,rfl⟩
  have hlen:M.length=N:=by rw [hM,List.length_map,List.length_range]
  have hz: ∀z,z<N→M.getD z []=Sha.pad (Sha.tagB 2 [o,plc (lf z) (ch z) k,x16 (a z) (b z) (c z) (d z)]):=λz h=>by
    rw [hM,List.getD_eq_getElem?_getD,List.getElem?_map,List.getElem?_range h];rfl
  have hwd: ∀j,j<16→pk N (wd M j)=pk N λz=>(qWi o (Sha.be32 (UInt8.ofNat (lf z)) (UInt8.ofNat (ch z)) (UInt8.ofNat k) 0) (a z) (b z) (c z) (d z)).getD j 0:=λj hj=>pk_lt λz h=>by
    have:=qOe o ho (lf z) (ch z) k (a z) (b z) (c z) (d z)
    rw [←hz z h] at this
    rw [←this]
    unfold Sha.firsts wd
    generalize M.getD z []=q
    rw [List.getD_eq_getElem?_getD,List.getElem?_map,List.getElem?_range hj];rfl
  have hl: [33554432*qBT N,(oW o 0).toNat*qBT N,(oW o 1).toNat*qBT N,(oW o 2).toNat*qBT N,(oW o 3).toNat*qBT N,(oW o 4).toNat*qBT N,100663296*qBT N,w,qDl (qBT N) (4096*qBT N+qJm (qBT N) (pk N a) 24),qDl (qBT N) (pk N a*256+qJm (qBT N) (pk N b) 24),qDl (qBT N) (pk N b*256+qJm (qBT N) (pk N c) 24),qDl (qBT N) (pk N c*256+qJm (qBT N) (pk N d) 24),qDl (qBT N) (pk N d*256+128*qBT N),0*qBT N,0*qBT N,408*qBT N]=(List.range 16).map λj=>pk M.length (wd M j):=by
    rw [hlen,qYy,qRN,qRN,qRN,qZn,qBl,qBl,qBl,qBl,qBl,hw]
    rw [show 33554432*qBT N=pk N λ_=>33554432 from qBl N 33554432,show 100663296*qBT N=pk N λ_=>100663296 from qBl N 100663296,show 0*qBT N=pk N λ_=>0 from qBl N 0,show 408*qBT N=pk N λ_=>408 from qBl N 408]
    show _= [pk N (wd M 0),pk N (wd M 1),pk N (wd M 2),pk N (wd M 3),pk N (wd M 4),pk N (wd M 5),pk N (wd M 6),pk N (wd M 7),pk N (wd M 8),pk N (wd M 9),pk N (wd M 10),pk N (wd M 11),pk N (wd M 12),pk N (wd M 13),pk N (wd M 14),pk N (wd M 15)]
    rw [hwd 0 (by decide),hwd 1 (by decide),hwd 2 (by decide),hwd 3 (by decide),hwd 4 (by decide),hwd 5 (by decide),hwd 6 (by decide),hwd 7 (by decide),hwd 8 (by decide),hwd 9 (by decide),hwd 10 (by decide),hwd 11 (by decide),hwd 12 (by decide),hwd 13 (by decide),hwd 14 (by decide),hwd 15 (by decide)]
    rfl
  refine⟨λz=>(Sha.mix Sha.init (M.getD z [])).a,λz=>(Sha.mix Sha.init (M.getD z [])).b,λz=>(Sha.mix Sha.init (M.getD z [])).c,λz=>(Sha.mix Sha.init (M.getD z [])).d,?_,λz h=>?_⟩
  · unfold stepP
    rw [qA8,hl]
    have:=qRB M g
    rw [hlen] at this
    rw [hlen]
    exact this
  · rw [←qZC,hz z h]
    unfold Sha.tagged Sha.sum
    have h51:(Sha.tagB 2 [o,plc (lf z) (ch z) k,x16 (a z) (b z) (c z) (d z)]).length=51:=by
      rw [Sha.tagB_length]
      simp only [List.flatten_cons,List.flatten_nil,List.length_append,List.length_cons,List.length_nil,ho]
      unfold x16 plc
      simp only [List.length_append,Sha.numB_length,List.length_cons,List.length_nil]
    rw [show(Sha.pad (Sha.tagB 2 [o,plc (lf z) (ch z) k,x16 (a z) (b z) (c z) (d z)])).length/64=1 by rw [Sha.pad_length,h51],Sha.mixes,Sha.mixes,Nat.mul_zero,List.drop_zero]
end SM
end Go.Proofs.YtcgcjaflllmlpaaGreatDoor
namespace Go.Proofs.YtcgcjaflllmlpaaGreatDoor
open Go Go.Fw Go.Proofs.Tryz
namespace Mk
def node(a b:xA):xA:=Sha.tagged 5 [a,b]
def above(l:List xA):List xA:=(List.range (l.length/2)).map λk=>node (l.getD (2*k) []) (l.getD (2*k+1) [])
def lvl(l:List xA):Nat→List xA
 |0=>l
 |j+1=>above (lvl l j)
def root(l:List xA)(h:Nat):xA:=(lvl l h).getD 0 []
def path(l:List xA)(i h:Nat):List xA:=(List.range h).map λj=>(lvl l j).getD ((i/2^j)^^^1) []
def climb:xA→Nat→List xA→xA
 |x,_,[]=>x
 |x,i,s::r=>climb (if i%2=0 then node x s else node s x) (i/2) r
def Right(n:Nat):Prop:=n=1∨n=2∨n=4∨n=8∨n=16∨n=32∨n=64
instance (n:Nat):Decidable (Right n):=by unfold Right;infer_instance
theorem qQX: ∀n:Fin 65,(1≤n.val∧n.val&&&(n.val-1)=0)↔Right n.val:=by decide+kernel
theorem right_of(n:Nat):(1≤n∧n≤64∧n&&&(n-1)=0)↔Right n:=by
  by_cases h:n<65
  · have:=qQX ⟨n,h⟩
    dsimp only at this
    rw [←this]
    constructor
    · intro ⟨a,_,c⟩;exact⟨a,c⟩
    · intro ⟨a,c⟩;exact⟨a,xB,c⟩
  · constructor
    · intro ⟨_,b,_⟩;omega
    · intro hr;unfold Right at hr;omega
theorem right_pow(h:Nat)(h6:h≤6):Right (2^h):=by
 have: ∀h:Fin 7,Right (2^h.val):=by decide+kernel
 exact this ⟨h,xB⟩
theorem node_length(a b:xA):(node a b).length=16:=Sha.tagged_length _ _
theorem qLI(l:List xA):(above l).length=l.length/2:=by simp [above]
theorem qMe(l:List xA): ∀s∈above l,s.length=16:=λs hs=>by
 simp only [above,zc] at hs
 obtain ⟨k,_,rfl⟩:=hs
 exact node_length _ _
theorem lvl_succ_length(l:List xA)(j:Nat):(lvl l (j+1)).length=(lvl l j).length/2:=qLI _
theorem lvl_length(l:List xA)(h:Nat)(hl:l.length=2^h): ∀j,j≤h→(lvl l j).length=2^(h-j)
 |0,_=>hl
 |j+1,hj=>by
  rw [lvl_succ_length,lvl_length l h hl j xB,show h-j=(h-(j+1))+1 by omega,jt]
  omega
theorem lvl_small(l:List xA)(hs: ∀s∈l,s.length≤1048576): ∀j,∀s∈lvl l j,s.length≤1048576
 |0=>hs
 |j+1=>λs h=>by rw [qMe _ s h];decide
theorem xor_one(m k:Nat)(h:m<2*k):m^^^1<2*k:=by
 have e1:(m^^^1)/2=m/2:=by rw [Nat.xor_div_two];simp
 omega
theorem path_succ(l:List xA)(i h:Nat):path l i (h+1)=path l i h++ [(lvl l h).getD ((i/2^h)^^^1) []]:=by simp [path,jx]
theorem path_length(l:List xA)(i h:Nat):(path l i h).length=h:=by simp [path]
theorem above_succ(l:List xA)(k:Nat):((List.range (k+1)).map λk=>node (l.getD (2*k) []) (l.getD (2*k+1) []))=((List.range k).map λk=>node (l.getD (2*k) []) (l.getD (2*k+1) []))++ [node (l.getD (2*k) []) (l.getD (2*k+1) [])]:=by simp [jx]
theorem getS{l:List xA}{j:Nat}(h:j<l.length):l[j]?=some (l.getD j []):=by rw [jB,jC h];rfl
theorem getS_mem{l:List xA}{j:Nat}(h:j<l.length):l.getD j []∈l:=jL (getS h)
end Mk
theorem qJ4(a:List xA):(qAG a).all (λx=>x.all Value.oneCell')=true:=by simp [qAG,Value.oneCell']
attribute [local irreducible] Mk.node
theorem qL9(F:Hp)(hK:KF F)(a b:xA)(ha:a.length≤1048576)(hb:b.length≤1048576):
    Cz prog 163 [Str a,Str b] F (Str (Mk.node a b)):=by
  refine Ct.walk func163 O ntmps163 O (λw0 hw0=>?_)
  exact J.g λ_ j1=>J.b O<|J.c j1<|J.g λ_ j2=>J.k 2 O<|J.p (qAE (l:= [.tmp 5,.tmp 6]) (xs:= [[Str a],[Str b]]) O O O O qAk el9 O xC xC xD) O λg7 _=>J.p (qAa O O (λF' hF=>qA6 F' (hK.mono (Fa hF)) 5 (some ⟨g7,0,none⟩) 2 2 [a,b] (((qAl (q:=True) (xs:=qAG [a,b]) O (by simp [qAG])).sl (m:=blk g7 [Str a,Str b] 9)).mono (Fa hF)) xK xC)) O λg8 _=>J.b O<|J.c j2<|J.A<|J.E hw0 O () (by unfold Mk.node;rfl) trivial [0] O xC
theorem qM8(F:Hp)(n:Nat)(hn:n<9223372036854775808):Cz prog 107 [I n] F (.bool (decide (Mk.Right n))):=by
 have hR:=Mk.right_of n
 refine Ct.walk func107 O ntmps107 O (λw0 hw0=>?_)
 refine J.g λ_ j1=>J.b O<|J.c j1<|J.g λ_ j2=>J.b O<|J.f (qBL O O O) O<|J.b O<|J.b9 (d:=5) O (λh5=>?_) (λh5=>?_)
 ·
  refine J.b O<|J.D (qCY O O O) O<|J.k 2 O<|J.b9 (d:=9) O (λh9=>?_) (λh9=>?_)
  ·
   exact J.k 2 O<|J.D ((qA3 O O O xB).nat (n-1) xB) O<|J.D (qL2 O O O xB) O<|J.D (qAX O O O) O<|J.k 2 O<|J.c j2<|J.A<|J.E hw0 O () (congrArg Value.bool (decide_eq_decide.2 (by rw [←hR];omega))) trivial [0] O xC
  exact J.k 7 O<|J.c j2<|J.A<|J.E hw0 O () (congrArg Value.bool (decide_eq_false (by rw [←hR];omega)).symm) trivial [0] O xC
 exact J.k 11 O<|J.c j2<|J.A<|J.E hw0 O () (congrArg Value.bool (decide_eq_false (by rw [←hR];omega)).symm) trivial [0] O xC
theorem qOK(F:Hp)(hK:KF F)(A:Option Addr)(n c:Nat)(ls:List xA)(hl:Sl F 1 A n c (qAG ls))(hsm: ∀s∈ls,s.length≤1048576)(hn:n≤1048576):
    Ct prog 108 [.slice A n c] [F] (λx:Option Addr×Nat×Hp=> .slice x.1 (n/2) x.2.1) (λx=>Row x.2.2 9 1 x.1 (n/2) x.2.1 (qAG (Mk.above ls))) (λx=> [F,x.2.2]):=by
  have hlen:ls.length=n:=by have:=hl.1;simpa [qAG] using this
  refine Ct.walk func108 O ntmps108 O (λw0 hw0=>?_)
  refine J.g λ_ j1=>J.b O<|J.c j1<|J.g λ_ j2=>J.b O<|J.c j2<|J.q λ_ j3=>J.q λ_ j4=>J.d0 [0,1] [F,(λ_=>none)] O xC<|J.H<|J.b O<|J.c j4<|J.V<|J.b6 (X:=Nat×Option Addr×Nat×Hp) (λx=> [(0,.slice A n c),(3,.slice x.2.1 x.1 x.2.2.1),(4,I (2*x.1:Nat))]) (λx=> [F,x.2.2.2]) (λx=>2*x.1≤n∧Row x.2.2.2 9 1 x.2.1 x.1 x.2.2.1 (qAG ((List.range x.1).map λk=>Mk.node (ls.getD (2*k) []) (ls.getD (2*k+1) [])))) (λx=>n-x.1) (0,none,0,λ_=>none) (⟨jG _,qBh.nil⟩) ⟨O,O,O,trivial⟩ (λ_ h=>h) ?_
  rintro⟨k,A1,c1,m⟩ ⟨hk,hrow⟩ I0 hI0
  dsimp only at hk hrow⊢
  refine J.q λ_ j5=>J.g λ_ j6=>J.b O<|J.f ((qAQ O O O xB)) O<|J.b O<|J.f (qAR qAk O O) O<|J.f (qAS O O O) O<|J.c j6<|J.a0 O (λh9=>?_) (λh9=>?_)
  ·
    refine J.T j5<|J.q λ_ j7=>J.V<|J.b1 [F] [] (.y 0 (.y 1 (.y 2 (.y 3 (.y 4 (.y 5 (.y 6 (.y 7 (.y 8 (.y 9 (.e 10 (.e 11 (.e 12 (.y 13 .nil)))))))))))))) Tryz.wide xF xD ?_
    iterate 3 refine J.L ?_
    refine J.j O (qAF O O O qAk z9_ hl xB) O O<|J.j O (qAI O O b9_ (m:=F) xD (hl.elem (qAY (Mk.getS (l:=ls) (j:=2*k) xB)))) O O<|J.L ?_
    refine J.L ?_
    refine J.j O ((qAQ O O O xB).nat (2*k+1) xB) O O<|J.j O (qAF O O O qAk z9_ hl xB) O O<|J.j O (qAI O O b9_ (m:=F) xD (hl.elem (qAY (Mk.getS (l:=ls) (j:=2*k+1) xB)))) O O<|J.Z O (qAa O O (λF' hF=>qL9 F' (hK.mono (Fa hF)) (ls.getD (2*k) []) (ls.getD (2*k+1) []) (hsm _ (Mk.getS_mem xB)) (hsm _ (Mk.getS_mem xB)))) O xD λg22 _=>J.Z O (qAE (l:= [.tmp 22]) (xs:= [[Str (Mk.node (ls.getD (2*k) []) (ls.getD (2*k+1) []))]]) O O O O qAk el9 O xC xC xD) O xD λg23 _=>J.Z O (qAU (i:=1) (m2:=blk g23 [Str (Mk.node (ls.getD (2*k) []) (ls.getD (2*k+1) []))] 9) O O O qAk qAk el9 O hrow xD (qAl (q:=True) (xs:=qAG [Mk.node (ls.getD (2*k) []) (ls.getD (2*k+1) [])]) O (by simp [qAG])).sl (qJ4 _) xB xB) O xD ?_
    rintro⟨A24,c24,m24⟩ h24
    try dsimp only at h24
    rw [←qCO,←Mk.above_succ ls k] at h24
    refine J.b7 ?_
    refine J.a9<|J.a3<|J.u (J.G j7 ?_)
    refine J.c5 [0,1] [F,m24] O xC<|J.H<|J.b O<|J.f ((qAQ O O O xB).nat (2*(k+1)) xB) O<|J.b O<|J.a4<|J.u<|J.a5 (k+1,A24,c24,m24) (λx (hx:_∧n-x.1<n-k)=>hI0 x hx.1 hx.2) ⟨⟨by dsimp only;omega,h24⟩,by dsimp only;omega⟩ ⟨O,O,O,trivial⟩ (λ_ h=>h)
  refine J.b3<|J.a1<|J.a1<|J.b4 ?_
  refine J.u (J.G j3 ?_)
  refine J.g λ_ j8=>J.k 2 O<|J.c j8<|J.A ?_
  have hk2:k=n/2:=xB
  subst hk2
  exact J.E hw0 O (A1,c1,m) O (by rw [←hlen] at hrow;unfold Mk.above;rw [←hlen];exact hrow) [0,1] O xC
theorem qW1(F:Hp)(hK:KF F)(A:Option Addr)(n c:Nat)(ls:List xA)(hl:Sl F 1 A n c (qAG ls))(h:Nat)(h6:h≤6)(hn:n=2^h)(hsm: ∀s∈ls,s.length≤1048576):
    Cz prog 48 [.slice A n c] F (.tuple #[Str (Mk.root ls h),I 0]):=by
  have hlen:ls.length=n:=by have:=hl.1;simpa [qAG] using this
  have hR:Mk.Right n:=by rw [hn];exact Mk.right_pow h h6
  have hn64:n≤64:=by unfold Mk.Right at hR;omega
  have hlv: ∀j,j≤h→(Mk.lvl ls j).length=2^(h-j):=Mk.lvl_length ls h xB
  have hle: ∀j,2^(h-j)≤64:=λj=>jZ (jh xC (show h-j≤6 by omega)) xC
  refine Ct.walk func48 O ntmps48 O (λw0 hw0=>?_)
  refine J.g λ_ j1=>J.k 2 O<|J.c j1<|J.q λ_ j2=>J.g λ_ j3=>J.b O<|J.f (qAR qAk O O) O<|J.p (qAK O O ent (qM8 F n xB)) O λg6 _=>J.f ((qG6 O O).as (v':= .bool false) (by simp [hR])) O<|J.d0 [0,1] [F,(λ_=>none)] O xC<|J.c j3<|J.a2 ?_
  refine J.T j2<|J.q λ_ j4=>J.V<|J.b6 (X:=Nat×Option Addr×Nat×Hp) (λx=> [(0,.slice x.2.1 (Mk.lvl ls x.1).length x.2.2.1)]) (λx=> [F,x.2.2.2]) (λx=>x.1≤h∧ ∃mm∈ [F,x.2.2.2],Sl mm 1 x.2.1 (Mk.lvl ls x.1).length x.2.2.1 (qAG (Mk.lvl ls x.1))) (λx=>h-x.1) (0,A,c,λ_=>none) (⟨jG _,F,.head _,by rw [show(Mk.lvl ls (0,A,c,(λ_=>none:Hp)).1).length=n from hlen];exact hl⟩) ⟨by rw [←hlen];rfl,trivial⟩ (λ_ h=>h) ?_
  rintro⟨j,A1,c1,m⟩ ⟨hj,mm,hmm,hsl⟩ I0 hI0
  dsimp only at hj hmm hsl⊢
  have hj2:=hlv j hj
  have hj3:=hle j
  have hpos:0<(Mk.lvl ls j).length:=by rw [hj2];exact zA _
  have hmm2:mm=F∨mm=m:=by simpa using hmm
  refine J.q λ_ j5=>J.g λ_ j6=>J.b O<|J.f (qAR qAk O O) O<|J.f (qAz O O O) O<|J.c j6<|J.a0 O (λh10=>?_) (λh10=>?_)
  ·
    refine J.T j5<|J.V ?_
    have hjh:j<h:=by
      rcases zq j h with hlt|hge
      · exact hlt
      · rw [hj2,show h-j=0 by omega] at h10;simp at h10
    refine J.H<|J.b O<|J.p (qBr O O (λF' hF=>qOK F' (hK.mono (Fa hF)) A1 (Mk.lvl ls j).length c1 (Mk.lvl ls j) (hsl.mono (hF _ (by rcases hmm2 with rfl|rfl<;>simp))) (Mk.lvl_small ls hsm j) xB)) O ?_
    rintro⟨A12,c12,m12⟩ h12
    try dsimp only at h12
    refine J.c5 [0,2] [F,m12] O xC<|J.b O<|J.a4<|J.a3<|J.u<|J.a5 (j+1,A12,c12,m12) (λx (hx:_∧h-x.1<h-j)=>hI0 x hx.1 hx.2) ⟨⟨by dsimp only;omega,m12,by simp,by rw [Mk.lvl_succ_length];exact h12.sl⟩,by dsimp only;omega⟩ ⟨by rw [Mk.lvl_succ_length];rfl,trivial⟩ (λ_ h=>h)
  refine J.b3<|J.a1<|J.a1<|J.b4 ?_
  refine J.u (J.G j4 ?_)
  refine J.q λ_ j7=>?_
  have hjh:j=h:=by
    rcases zq j h with hlt|hge
    · have:=Nat.one_lt_two_pow_iff.2 (show h-j≠0 by omega)
      omega
    · omega
  exact J.H<|J.b O<|J.f (qAF O O O qAk z9_ hsl hpos) O<|J.f (qAI O O b9_ hmm (hsl.elem (qAY (Mk.getS (l:=Mk.lvl ls j) (j:=0) hpos)))) O<|J.k 2 O<|J.c j7<|J.A<|J.b0 hw0 (λ_ _ h=>h) (qCK O O O) (qAn () (by rw [hjh];rfl) trivial [0] O xC)
theorem qXO(F:Hp)(hK:KF F)(A:Option Addr)(n c:Nat)(ls:List xA)(hl:Sl F 1 A n c (qAG ls))(h:Nat)(h6:h≤6)(hn:n=2^h)(hsm: ∀s∈ls,s.length≤1048576)(i:Nat)(hi:i<n):
    Ct prog 82 [.slice A n c,I i] [F] (λx:Option Addr×Nat×Hp=> .tuple #[.slice x.1 h x.2.1,I 0]) (λx=>Row x.2.2 9 1 x.1 h x.2.1 (qAG (Mk.path ls i h))) (λx=> [F,x.2.2]):=by
  have hlen:ls.length=n:=by have:=hl.1;simpa [qAG] using this
  have hR:Mk.Right n:=by rw [hn];exact Mk.right_pow h h6
  have hn64:n≤64:=by unfold Mk.Right at hR;omega
  have hlv: ∀j,j≤h→(Mk.lvl ls j).length=2^(h-j):=Mk.lvl_length ls h xB
  have hle: ∀j,2^(h-j)≤64:=λj=>jZ (jh xC (show h-j≤6 by omega)) xC
  refine Ct.walk func82 O ntmps82 O (λw0 hw0=>?_)
  refine J.g λ_ j1=>J.k 2 O<|J.c j1<|J.q λ_ j2=>J.V<|J.g λ_ j3=>J.b O<|J.f (qAR qAk O O) O<|J.p (qAK O O ent (qM8 F n xB)) O λg10 _=>J.f ((qG6 O O).as (v':= .bool false) (by simp [hR])) O<|J.b O<|J.c j3<|J.a2 ?_
  refine J.g λ_ j4=>J.b O<|J.f ((qAS O O O).no xB) O<|J.k 3 O<|J.D (qAR qAk O O) O<|J.D ((qBL O O O).no xB) O<|J.k 2 O<|J.c j4<|J.a2 ?_
  refine J.b5<|J.a3<|J.u (J.G j2 ?_)
  refine J.q λ_ j5=>J.d0 [0,1] [F,(λ_=>none)] O xC<|J.d0 [0,1,2] [F,(λ_=>none),(λ_=>none)] O xC<|J.H<|J.b O<|J.c j5<|J.q λ_ j6=>J.V<|J.b6 (X:=Nat×Option Addr×Nat×Hp×Option Addr×Nat×Hp) (λx=> [(0,.slice x.2.1 (Mk.lvl ls x.1).length x.2.2.1),(1,I (i/2^x.1:Nat)),(6,.slice x.2.2.2.2.1 x.1 x.2.2.2.2.2.1)]) (λx=> [F,x.2.2.2.2.2.2,x.2.2.2.1]) (λx=>x.1≤h∧(∃mm∈ [F,x.2.2.2.1],Sl mm 1 x.2.1 (Mk.lvl ls x.1).length x.2.2.1 (qAG (Mk.lvl ls x.1)))∧Row x.2.2.2.2.2.2 9 1 x.2.2.2.2.1 x.1 x.2.2.2.2.2.1 (qAG (Mk.path ls i x.1))) (λx=>h-x.1) (0,A,c,(λ_=>none),none,0,λ_=>none) (⟨jG _,⟨F,.head _,by rw [show(Mk.lvl ls (0,A,c,(λ_=>none:Hp)).1).length=n from hlen];exact hl⟩,qBh.nil⟩) ⟨by rw [←hlen];rfl,by rw [Nat.pow_zero,Nat.div_one];rfl,O,trivial⟩ (λ_ h=>h) ?_
  rintro⟨j,A1,c1,m,A2,c2,m2⟩ ⟨hj,⟨mm,hmm,hsl⟩,hrow⟩ I0 hI0
  dsimp only at hj hmm hsl hrow⊢
  have hj2:=hlv j hj
  have hj3:=hle j
  have hpos:0<(Mk.lvl ls j).length:=by rw [hj2];exact zA _
  have hmm2:mm=F∨mm=m:=by simpa using hmm
  have hmF:mm∈ [F,m2,m]:=by rcases hmm2 with rfl|rfl<;>simp
  refine J.q λ_ j7=>J.g λ_ j8=>J.b O<|J.f (qAR qAk O O) O<|J.f (qAz O O O) O<|J.c j8<|J.a0 O (λh23=>?_) (λh23=>?_)
  ·
    refine J.T j7<|J.q λ_ j9=>J.V ?_
    have hjh:j<h:=by
      rcases zq j h with hlt|hge
      · exact hlt
      · rw [hj2,show h-j=0 by omega] at h23;simp at h23
    have hij:i/2^j<2^(h-j):=by
      rw [yA (zA j),←Nat.pow_add,show h-j+j=h by omega,←hn];exact hi
    have hx1:i/2^j^^^1<(Mk.lvl ls j).length:=by
      rw [hj2,show h-j=(h-j-1)+1 by omega,jt,zu]
      refine Mk.xor_one _ _ ?_
      rw [show h-j=(h-j-1)+1 by omega,jt,zu] at hij;exact hij
    refine J.H<|J.k 3 O<|J.f (qXQ O O O ⟨zR (zt _ _) (show i<9223372036854775808 by omega),xC⟩) O<|J.f (qAF O O O qAk z9_ hsl hx1) O<|J.f (qAI O O b9_ hmF (hsl.elem (qAY (Mk.getS (l:=Mk.lvl ls j) (j:=i/2^j^^^1) hx1)))) O<|J.p (qAE (l:= [.tmp 33]) (xs:= [[Str ((Mk.lvl ls j).getD ((i/2^j)^^^1) [])]]) O O O O qAk el9 O xC xC xD) O λg34 _=>J.p (qAU (i:=1) (m2:=blk g34 [Str ((Mk.lvl ls j).getD ((i/2^j)^^^1) [])] 9) O O O qAk qAk el9 O hrow xD (qAl (q:=True) (xs:=qAG [((Mk.lvl ls j).getD ((i/2^j)^^^1) [])]) O (by simp [qAG])).sl (qJ4 _) xB xB) O ?_
    rintro⟨A35,c35,m35⟩ h35
    try dsimp only at h35
    rw [←qCO,←Mk.path_succ] at h35
    refine J.b O<|J.a4<|J.a3<|J.u (J.G j9 ?_)
    refine J.H<|J.b O<|J.p (qBr O O (λF' hF=>qOK F' (hK.mono (Fa hF)) A1 (Mk.lvl ls j).length c1 (Mk.lvl ls j) (hsl.mono (hF _ (by rcases hmm2 with rfl|rfl<;>simp))) (Mk.lvl_small ls hsm j) xB)) O ?_
    rintro⟨A25,c25,m25⟩ h25
    try dsimp only at h25
    refine J.c5 [0,1,4] [F,m35,m25] O xC<|J.b O<|J.f ((qIA O O O ⟨Int.natCast_nonneg _,xC,Int.ofNat_le.2 (jZ (zt _ _) (show i≤9223372036854775807 by omega))⟩).as (v':=I (i/2^(j+1):Nat)) (congrArg I (by rw [jt,←z6];rfl))) O<|J.k 2 O<|J.a4<|J.u<|J.a5 (j+1,A25,c25,m25,A35,c35,m35) (λx (hx:_∧h-x.1<h-j)=>hI0 x hx.1 hx.2) ⟨⟨by dsimp only;omega,⟨m25,by simp,by rw [Mk.lvl_succ_length];exact h25.sl⟩,h35⟩,by dsimp only;omega⟩ ⟨by rw [Mk.lvl_succ_length];rfl,O,O,trivial⟩ (λ_ h=>h)
  refine J.b3<|J.a1<|J.a1<|J.b4 ?_
  refine J.u (J.G j6 ?_)
  refine J.q λ_ j10=>?_
  have hjh:j=h:=by
    rcases zq j h with hlt|hge
    · have:=Nat.one_lt_two_pow_iff.2 (show h-j≠0 by omega)
      omega
    · omega
  exact J.H<|J.k 3 O<|J.c j10<|J.A<|J.b0 hw0 (λ_ _ h=>h) (qCK O O O) (qAn (A2,c2,m2) (by rw [hjh]) (by rw [hjh] at hrow;exact hrow) [0,1] O xC)
theorem qUz(F:Hp)(hK:KF F)(xx:xA)(i:Nat)(A:Option Addr)(n c:Nat)(ls:List xA)(hl:Sl F 1 A n c (qAG ls))(hx:xx.length≤1048576)(hsm: ∀s∈ls,s.length≤1048576)(hi:i<9223372036854775808)(hn:n≤1048576):
    Cz prog 182 [Str xx,I i,.slice A n c] F (Str (Mk.climb xx i ls)):=by
  have hlen:ls.length=n:=by have:=hl.1;simpa [qAG] using this
  refine Ct.walk func182 O ntmps182 O (λw0 hw0=>?_)
  refine J.g λ_ j1=>J.b O<|J.c j1<|J.q λ_ j2=>J.g λ_ j3=>J.b O<|J.f (qAR qAk O O) O<|J.b O<|J.c j3<|J.V<|J.b6 (X:=Nat×xA×Nat) (λx=> [(0,Str x.2.1),(1,I x.2.2),(9,.slice A n c),(10,I n),(11,I x.1)]) (λ_=> [F]) (λx=>x.1≤n∧x.2.1.length≤1048576∧x.2.2≤i∧Mk.climb x.2.1 x.2.2 (ls.drop x.1)=Mk.climb xx i ls) (λx=>n-x.1) (0,xx,i) (⟨jG _,hx,jK _,O⟩) ⟨O,O,O,O,O,trivial⟩ (λ_ h=>h) ?_
  rintro⟨k,y,j⟩ ⟨hk,hy,hji,hc⟩ I0 hI0
  dsimp only at hk hy hji hc⊢
  refine J.g λ_ j4=>J.f (qAS O O O) O<|J.c j4<|J.q λ_ j5=>J.a0 O (λh12=>?_) (λh12=>?_)
  ·
    refine J.T j5<|J.q λ_ j6=>J.V<|J.q λ_ j7=>?_
    have hkn:k<n:=xB
    obtain ⟨s,hs⟩: ∃s,ls[k]?=some s:=⟨_,jC xB⟩
    have hdr:ls.drop k=s::ls.drop (k+1):=by
      obtain ⟨hk2,rfl⟩:=List.getElem?_eq_some_iff.1 hs
      exact zE hk2
    rw [hdr,Mk.climb] at hc
    refine J.H<|J.f (qAF O O O qAk z9_ hl xB) O<|J.f (qAI O O b9_ (m:=F) xD (hl.elem (qAY hs))) O<|J.b O<|J.c j7<|J.q λ_ j8=>J.g λ_ j9=>J.b O<|J.f (qL2 (a:=j) (b:=1) O O O xB) O<|J.f (qAX O O O) O<|J.c j9<|J.a0 O (λh17=>?_) (λh17=>?_)
    ·
      refine J.H<|J.k 2 O<|J.p (qAa O O (λF' hF=>qL9 F' (hK.mono (Fa hF)) y s hy (hsm _ (jL hs)))) O λg20 _=>J.b O<|J.c j8<|J.H<|J.b O<|J.f ((qC3 (m:=1) O O O xB).nat (j/2) xB) O<|J.b O<|J.a4<|J.a3<|J.u (J.G j6 ?_)
      refine J.H<|J.f (qAQ O O O xB) O<|J.b O<|J.a4<|J.u ?_
      rw [if_pos (by rw [Nat.and_one_is_mod] at h17;omega)] at hc
      refine J.a5 (k+1,Mk.node y s,j/2) (λx (hx:_∧n-x.1<n-k)=>hI0 x hx.1 hx.2) ⟨⟨by dsimp only;omega,by dsimp only;rw [Mk.node_length];decide,by dsimp only;omega,hc⟩,by dsimp only;omega⟩ ⟨O,O,O,O,O,trivial⟩ (λ_ h=>h)
    refine J.H<|J.k 2 O<|J.p (qAa O O (λF' hF=>qL9 F' (hK.mono (Fa hF)) s y (hsm _ (jL hs)) hy)) O λg23 _=>J.b O<|J.c j8<|J.H<|J.b O<|J.f ((qC3 (m:=1) O O O xB).nat (j/2) xB) O<|J.b O<|J.a4<|J.a3<|J.u (J.G j6 ?_)
    refine J.H<|J.f (qAQ O O O xB) O<|J.b O<|J.a4<|J.u ?_
    rw [if_neg (by rw [Nat.and_one_is_mod] at h17;omega)] at hc
    refine J.a5 (k+1,Mk.node s y,j/2) (λx (hx:_∧n-x.1<n-k)=>hI0 x hx.1 hx.2) ⟨⟨by dsimp only;omega,by dsimp only;rw [Mk.node_length];decide,by dsimp only;omega,hc⟩,by dsimp only;omega⟩ ⟨O,O,O,O,O,trivial⟩ (λ_ h=>h)
  refine J.b3<|J.a1<|J.a1<|J.b4 ?_
  refine J.u (J.G j2 ?_)
  refine J.q λ_ j10=>?_
  rw [jr xB] at hc
  exact J.H<|J.k 2 O<|J.c j10<|J.A<|J.E hw0 O () (by rw [←hc];rfl) trivial [0] O xC
end Go.Proofs.YtcgcjaflllmlpaaGreatDoor
namespace Go.Proofs.YtcgcjaflllmlpaaGreatDoor
open Go Go.Fw Go.Proofs.Tryz
attribute [local irreducible] Mk.node
namespace Mk
theorem qWM(m:Nat):m^^^1=if m%2=0 then m+1 else m-1:=by
 have e1:(m^^^1)/2=m/2:=by rw [Nat.xor_div_two];simp
 have e2:(m^^^1)%2=(m%2)^^^1:=Nat.xor_mod_two_pow (n:=1)
 rcases Nat.mod_two_eq_zero_or_one m with h|h
 · rw [h,show(0:Nat)^^^1=1 from rfl] at e2;rw [if_pos h];omega
 · rw [h,show(1:Nat)^^^1=0 from rfl] at e2;rw [if_neg xB];omega
theorem qSp(l:List xA)(k:Nat):(above l)[k]?=if k<l.length/2 then some (node (l.getD (2*k) []) (l.getD (2*k+1) [])) else none:=by
 unfold above
 rw [jN]
 by_cases h:k<l.length/2
 · rw [if_pos h,zC h];rfl
 · rw [if_neg h,ji (by simpa using Nat.le_of_not_lt h)];rfl
theorem qJ0{k:Nat}(h:0<k):2^k%2=0:=by
 rw [show k=(k-1)+1 by omega,jt];omega
end Mk
attribute [local irreducible] Mk.root Mk.path
end Go.Proofs.YtcgcjaflllmlpaaGreatDoor
namespace Go.Proofs.YtcgcjaflllmlpaaGreatDoor
open Go Go.Fw Go.Proofs.Tryz
attribute [local irreducible] Mk.node
namespace Mk
theorem qIR(s:xA): ∀(p:List xA) (x:xA) (i:Nat),climb x i (p++ [s])=if i/2^p.length%2=0 then node (climb x i p) s else node s (climb x i p)
 | [],x,i=>by simp [climb]
 |a::p,x,i=>by
  rw [zy,climb,climb,qIR s p,jD,jt,zu,←z6]
theorem qK7(l:List xA)(h i:Nat)(hl:l.length=2^h)(hi:i<2^h): ∀j,j≤h→climb (l.getD i []) i (path l i j)=(lvl l j).getD (i/2^j) []
  |0,_=>by simp [path,climb,lvl]
  |j+1,hj=>by
    have hlen:=lvl_length l h hl j xB
    have h1:i/2^j<2^(h-j):=by rw [yA (zA j),←Nat.pow_add,show h-j+j=h by omega];exact hi
    have h2:=qJ0 (show 0<h-j by omega)
    rw [path_succ,qIR,qK7 l h i hl hi j xB,path_length,jt,←z6]
    generalize i/2^j=q at*
    rw [show lvl l (j+1)=above (lvl l j) from rfl,jB (l:=above (lvl l j)),qSp,hlen,if_pos (show q/2<2^(h-j)/2 by omega),qWM]
    split
    · rename_i e
      rw [show 2*(q/2)=q by omega];rfl
    · rename_i e
      rw [show 2*(q/2)=q-1 by omega,show q-1+1=q by omega];rfl
theorem climb_root(l:List xA)(h i:Nat)(hl:l.length=2^h)(hi:i<2^h):climb (l.getD i []) i (path l i h)=root l h:=by
 rw [qK7 l h i hl hi h (jK _),zL hi];rfl
theorem flat_small{ls:List xA}{w:Nat}(h: ∀s∈ls,s.length≤w):ls.flatten.length≤w*ls.length:=by
 induction ls with
 |nil=>simp
 |cons a l ih=>
  have:=ih (λs hs=>h s (.tail _ hs))
  have h2:=h a (.head _)
  rw [jc,jA,jD,Nat.mul_add];omega
end Mk
namespace Sha
end Sha
attribute [local irreducible] Sha.tagB Mk.root Mk.path
end Go.Proofs.YtcgcjaflllmlpaaGreatDoor
namespace Go.Proofs.YtcgcjaflllmlpaaGreatDoor
open Go Go.Fw Go.Proofs.Tryz
namespace Sha
structure Strm where
 seed:xA
 count:UInt64
 left:xA
def Strm.cells(s:Strm):List Value:= [Str s.seed,W64 s.count,Str s.left]
def Strm.new(seed:xA):Strm:=⟨seed,0,[]⟩
def Strm.Ok(s:Strm):Prop:=s.left= []∨8≤s.left.length
def Strm.fill(s:Strm):Strm:=if s.left= [] then⟨s.seed,s.count+1,sum (s.seed++numB s.count 4)⟩ else s
def val:xA→Nat→UInt64
 |_,0=>0
 |l,k+1=>UInt64.ofNat ((val l k).toNat*2^min 8 64)|||(l.getD k 0).toUInt64
def Strm.num(s:Strm):UInt64:=val s.fill.left 8
def Strm.next(s:Strm):Strm:=⟨s.fill.seed,s.fill.count,s.fill.left.drop 8⟩
def stop(n:UInt64):UInt64:=18446744073709551615-18446744073709551615%n
def draw(e:UInt64):Nat→Strm→Option (UInt64×Strm)
 |0,_=>none
 |f+1,s=>if s.num.toNat<e.toNat then some (s.num,s.next) else draw e f s.next
theorem Strm.fill_len{s:Strm}(h:s.Ok):8≤s.fill.left.length:=by
  unfold Strm.fill
  split
  · dsimp only;rw [sum_length];decide
  · rcases h with h|h
    · contradiction
    · exact h
theorem Strm.fill_seed(s:Strm):s.fill.seed=s.seed:=by unfold Strm.fill;split<;>rfl
def Strm.Ok8(s:Strm):Prop:=s.left.length%8=0
theorem Strm.Ok8.ok{s:Strm}(h:s.Ok8):s.Ok:=by
 unfold Strm.Ok8 at h
 unfold Strm.Ok
 cases hl:s.left with
 |nil=>exact .inl O
 |cons a l=>rw [hl] at h;simp only [jD] at h⊢;right;omega
theorem Strm.Ok8.next{s:Strm}(h:s.Ok8):s.next.Ok8:=by
 unfold Strm.Ok8 Strm.next Strm.fill at*
 dsimp only
 rw [jH]
 split
 · dsimp only;rw [sum_length]
 · omega
theorem Strm.next_seed(s:Strm):s.next.seed=s.seed:=s.fill_seed
theorem qR8{e:UInt64}: ∀{f:Nat} {s:Strm} {k:UInt64} {s':Strm},draw e f s=some (k,s')→s.Ok8→s'.Ok8∧s'.seed=s.seed
  |0,_,_,_,h,_=>by simp [draw] at h
  |f+1,s,k,s',h,ho=>by
    unfold draw at h
    split at h
    · simp only [zO,ze] at h
      obtain ⟨_,rfl⟩:=h
      exact⟨ho.next,s.next_seed⟩
    · have:=qR8 h ho.next
      exact⟨this.1,this.2.trans s.next_seed⟩
end Sha
attribute [local irreducible] Sha.val Sha.Strm.fill
theorem qKd(F:Hp)(seed:xA):
    Ct prog 145 [Str seed] [F] (λg:Nat=>Ptr g) (λ_=>True) (λg=> [F,blk g (Sha.Strm.new seed).cells 286]):=by
  refine Ct.walk func145 O ntmps145 O (λw0 hw0=>?_)
  exact J.g λ_ j1=>J.b O<|J.c j1<|J.g λ_ j2=>J.b O<|J.f (qAH (places:= [(0,1),(1,1),(2,1)]) (r:=(Sha.Strm.new seed).cells) O O O qHe zeroValue286 (λ_=>xI) O) O<|J.p (qAZ O O O) O λg5 _=>J.b O<|J.c j2<|J.A<|J.E hw0 O g5 O trivial [0,1] O xC
theorem qXi(F:Hp)(hK:KF F)(g:Nat)(s:Sha.Strm)(ho:s.Ok)(hs:s.seed.length≤1048576):
    Ct prog 189 [Ptr g] [blk g s.cells 286,F] (λ_:Unit=>W64 s.num) (λ_=>True) (λ_=> [blk g s.next.cells 286,F]):=by
  have hfl:=s.fill_len ho
  refine Ct.walk func189 O ntmps189 O (λw0 hw0=>?_)
  refine J.g λ_ j1=>J.b O<|J.c j1<|J.d4 (λ_:Unit=> [(0,Ptr g)]) (λ_=> [blk g s.fill.cells 286,F]) (λ_=>True) (λ_ j2=>?_) ?_
  ·
    refine J.g λ_ j3=>J.b O<|J.f (qAB O O) O<|J.M 2 qHe z9_ O O O O O<|J.a7 0 b9_ O O O O O<|J.f (qBA O O O) O<|J.c j3<|J.a0 O (λh9=>?_) (λh9=>?_)
    ·
      refine J.q λ_ j4=>J.b1 [blk g s.cells 286,F] [15] (.y 0 (.y 1 (.y 2 (.y 3 (.y 4 (.y 5 (.y 6 (.y 7 (.y 8 (.e 9 (.y 10 (.e 11 (.e 12 (.y 13 (.y 14 (.e 15 .nil)))))))))))))))) Tryz.wide xF xD ?_
      refine J.L ?_
      refine J.L ?_
      refine J.j O (qAB O O) O O<|J.j O (qAA O O qHe O z9_ O) O O<|J.j O (qAC 0 O O O b9_ O) O O<|J.L ?_
      refine J.j O (qAB O O) O O<|J.j O (qAA O O qHe O qEW O) O O<|J.j O (qAC 0 O O O qFM O) O O<|J.e7 (λx=> [blk g s.cells 286,F]++ [x.2.2]) O (qBr O O (λF' _=>qFB F' s.count 4 xC)) O O O (λ_ _ h=>jg _ h) xD ?_
      rintro⟨A19,c19,m19⟩ h19
      try dsimp only at h19
      refine J.j O (qBn O O qBt u5_ u9_ (m:=m19) xD h19.sl) O O<|J.Z O (qAE (l:= [.tmp 14,.tmp 20]) (xs:= [[Str s.seed],[Str (Sha.numB s.count 4)]]) O O O O qAk el9 O xC xC xD) O xD λg21 _=>J.Z O (qAa O O (λF' hF=>qVf F' (hK.mono (Fa hF)) (some ⟨g21,0,none⟩) 2 2 [s.seed,(Sha.numB s.count 4)] (((qAl (q:=True) (xs:=qAG [s.seed,(Sha.numB s.count 4)]) O (by simp [qAG])).sl (m:=blk g21 [Str s.seed,Str (Sha.numB s.count 4)] 9)).mono (Fa hF)) (by simp [Sha.numB_length];omega) xC)) O xD λg22 _=>J.j O (qAB O O) O O<|J.j O (qAA O O qHe O z9_ O) O O<|J.c1 O (qAT (i:=0) O O O O O z9_ O (by show 2+1≤3;decide)) O O O λ_ _=>J.a9<|J.u (J.G j4 ?_)
      refine J.H<|J.b O<|J.f (qAB O O) O<|J.M 1 qHe qEW O O O O O<|J.a7 0 qFM O O O O O<|J.f (qNU (b:=1) O O O) O<|J.f (qAB O O) O<|J.M 1 qHe qEW O O O O O<|J.a6 (qAT (i:=0) O O O O O qEW O (by show 1+1≤3;decide)) O O λ_ _=>J.a4<|J.u ?_
      have hf:s.fill.cells= [Str s.seed,W64 (s.count+1),Str (Sha.sum [s.seed,(Sha.numB s.count 4)].flatten)]:=by
        unfold Sha.Strm.fill Sha.Strm.cells
        rw [if_pos h9]
        simp
      exact J.a5 () j2 trivial ⟨O,trivial⟩ (λ_ h=>by rw [hf];exact h.pick [0,1] xC)
    refine J.b5<|J.u ?_
    have hf:s.fill=s:=by unfold Sha.Strm.fill;rw [if_neg h9]
    exact J.a5 () j2 trivial ⟨O,trivial⟩ (λ_ h=>by rw [hf];exact h)
  rintro _ _
  refine J.g λ_ j5=>J.b O<|J.c j5<|J.q λ_ j6=>J.g λ_ j7=>J.b O<|J.c j7<|J.V<|J.b6 (λk:Nat=> [(0,Ptr g),(3,W64 (Sha.val s.fill.left k)),(32,I k)]) (λ_=> [blk g s.fill.cells 286,F]) (λk=>k≤8) (λk=>8-k) 0 (jG _) ⟨O,by unfold Sha.val;rfl,O,trivial⟩ (λ_ h=>h) ?_
  intro k hk I0 hI0
  refine J.g λ_ j8=>J.f (qAS O O O) O<|J.c j8<|J.q λ_ j9=>J.a0 O (λh33=>?_) (λh33=>?_)
  ·
    refine J.T j9<|J.q λ_ j10=>J.V<|J.g λ_ j11=>J.k 2 O<|J.c j11 ?_
    have hk8:k<8:=xB
    refine J.H<|J.b O<|J.f (qNN O O O) O<|J.b O<|J.f (qAB O O) O<|J.M 2 qHe z9_ O O O O O<|J.a7 0 b9_ O O O O O<|J.b O<|J.f (qBb u9_ O O O (getB (b:=s.fill.left) (j:=k) xB)) O<|J.f (qFs O O u5_ qEd) O<|J.f (qQ6 O O O) O<|J.b O<|J.a4<|J.a3<|J.u (J.G j10 ?_)
    exact J.H<|J.f (qAQ O O O xB) O<|J.b O<|J.a4<|J.u<|J.a5 (k+1) (λx (hx:x≤8∧8-x<8-k)=>hI0 x hx.1 hx.2) ⟨xB,xB⟩ ⟨O,by rw [Sha.val];rfl,O,trivial⟩ (λ_ h=>h)
  refine J.b3<|J.a1<|J.a1<|J.b4 ?_
  refine J.u (J.G j6 ?_)
  refine J.q λ_ j12=>?_
  have hk8:k=8:=xB
  subst hk8
  exact J.H<|J.k 2 O<|J.f (qAB O O) O<|J.M 2 qHe z9_ O O O O O<|J.a7 0 b9_ O O O O O<|J.f ((qBD u9_ O O O O ⟨hfl,jK _⟩).as (v':=Str s.next.left) (by rw [jp];rfl)) O<|J.f (qAB O O) O<|J.M 2 qHe z9_ O O O O O<|J.a6 (qAT (i:=0) O O O O O z9_ O (by show 2+1≤3;decide)) O O λ_ _=>J.c j12<|J.g λ_ j13=>J.k 2 O<|J.c j13<|J.A<|J.E hw0 O () O trivial [0,1] (by simp only [Sha.Strm.next,Sha.Strm.cells];rfl) xC
theorem qOf(F:Hp)(hK:KF F)(g:Nat)(s:Sha.Strm)(ho0:s.Ok8)(hs:s.seed.length≤1048576)(n:UInt64)(hn:2≤n.toNat)(fuel:Nat)(k:UInt64)(s':Sha.Strm)(hd:Sha.draw (Sha.stop n) fuel s=some (k,s')):
    Ct prog 146 [Ptr g,W64 n] [blk g s.cells 286,F] (λ_:Unit=>W64 (k%n)) (λ_=>True) (λ_=> [blk g s'.cells 286,F]):=by
  have hn0:n≠0:=λe=>by rw [e] at hn;exact absurd hn xC
  refine Ct.walk func146 O ntmps146 O (λw0 hw0=>?_)
  refine J.g λ_ j1=>J.b O<|J.c j1<|J.q λ_ j2=>J.g λ_ j3=>J.b O<|J.f ((qA4 underlying237 O O O).as (v':= .bool false) O) O<|J.k 2 O<|J.D ((qAS O O O).no xB) O<|J.b O<|J.c j3<|J.a2 ?_
  refine J.T j2<|J.g λ_ j4=>J.b O<|J.f (qNO (a:=18446744073709551615) O O O hn0) O<|J.f (qNM (a:=18446744073709551615) O O O) O<|J.b O<|J.c j4<|J.V<|J.b6 (X:=Nat×Sha.Strm) (λ_=> [(0,Ptr g),(1,W64 n),(5,W64 (Sha.stop n))]) (λx=> [blk g x.2.cells 286,F]) (λx=>Sha.draw (Sha.stop n) x.1 x.2=some (k,s')∧x.2.Ok8∧x.2.seed=s.seed) (λx=>x.1) (fuel,s) (⟨hd,ho0,O⟩) ⟨O,O,O,trivial⟩ (λ_ h=>h) ?_
  rintro⟨f,st⟩ ⟨hdr,ho,hsd⟩ I0 hI0
  dsimp only at hdr ho hsd⊢
  obtain ⟨f,rfl⟩: ∃f',f=f'+1:=by cases f with
    |zero=>simp [Sha.draw] at hdr
    |succ f=>exact⟨f,O⟩
  unfold Sha.draw at hdr
  refine J.V<|J.g λ_ j5=>J.b O<|J.p (qAK O O ent (qXi F hK g st ho.ok (by rw [hsd];exact hs))) O λg17 _=>J.b O<|J.c j5<|J.g λ_ j6=>J.k 2 O<|J.f (qAS O O O) O<|J.c j6<|J.a0 O (λh20=>?_) (λh20=>?_)
  ·
    refine J.g λ_ j7=>J.k 2 O<|J.f (qNO O O O hn0) O<|J.b O<|J.c j7<|J.A<|J.a8<|J.W<|J.a8 ?_
    rw [if_pos xB] at hdr
    simp only [zO,ze] at hdr
    obtain ⟨hk1,hk2⟩:=hdr
    exact J.E hw0 O () (by rw [←hk1]) trivial [0,1] (by rw [←hk2];rfl) xC
  refine J.b5<|J.a3<|J.u ?_
  rw [if_neg xB] at hdr
  exact J.a5 (f,st.next) (λx (hx:_∧x.1<f+1)=>hI0 x hx.1 hx.2) ⟨⟨hdr,ho.next,st.next_seed.trans hsd⟩,Nat.lt_succ_self f⟩ ⟨O,O,O,trivial⟩ (λ_ h=>h)
theorem qMc(F:Hp)(g:Nat)(s:Sha.Strm)(n:UInt64)(hn:n.toNat<2):
    Ct prog 146 [Ptr g,W64 n] [blk g s.cells 286,F] (λ_:Unit=>W64 0) (λ_=>True) (λ_=> [blk g s.cells 286,F]):=by
  refine Ct.walk func146 O ntmps146 O (λw0 hw0=>?_)
  refine J.g λ_ j1=>J.b O<|J.c j1<|J.q λ_ j2=>J.g λ_ j3=>J.b O<|J.f ((qA4 underlying237 O O O).as (v':= .bool false) O) O<|J.k 2 O<|J.D ((qAS O O O).yes xB) O<|J.b O<|J.c j3<|J.c3 ?_
  exact J.g λ_ j4=>J.b O<|J.c j4<|J.A<|J.W<|J.E hw0 O () O trivial [0,1] O xC
end Go.Proofs.YtcgcjaflllmlpaaGreatDoor