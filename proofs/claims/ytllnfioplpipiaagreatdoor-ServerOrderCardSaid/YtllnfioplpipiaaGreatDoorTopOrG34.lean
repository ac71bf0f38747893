/- A part of the proof. -/
import Derived.Test.YtllnfioplpipiaaGreatDoorTopOrG8
import Derived.Test.YtllnfioplpipiaaGreatDoorTopOrG32
set_option linter.unusedSimpArgs false
set_option linter.unusedVariables false
namespace Go.Proofs.YtllnfioplpipiaaGreatDoor
open Go Go.Fw Go.Proofs.Tryz
set_option maxRecDepth 100000
set_option maxHeartbeats 1000000
namespace Wo
def place(leaf chain step:Nat):List UInt8:= [UInt8.ofNat (leaf/2^24),UInt8.ofNat (leaf/2^16),UInt8.ofNat (leaf/2^8),UInt8.ofNat leaf,UInt8.ofNat chain,UInt8.ofNat step]
def step(opn:List UInt8)(leaf chain k:Nat)(x:List UInt8):List UInt8:=Sha.tagged 2 [opn,place leaf chain k,x]
def walk(opn:List UInt8)(leaf chain a:Nat)(x:List UInt8):Nat→List UInt8
 |0=>x
 |n+1=>step opn leaf chain (a+n) (walk opn leaf chain a x n)
def secret(seed:List UInt8)(leaf chain:Nat):List UInt8:=Sha.tagged 1 [seed,place leaf chain 0]
def opn(seed:List UInt8):List UInt8:=Sha.tagged 3 [seed]
def nibs(s:List UInt8):List Nat:=s.flatMap λb=> [b.toNat/16,b.toNat%16]
def left(s:List UInt8):Nat:=(s.map λb=>30-b.toNat/16-b.toNat%16).sum
def digs(s:List UInt8):List Nat:=nibs s++ [left s/256,left s/16%16,left s%16]
def signs(seed:List UInt8)(leaf:Nat)(ds:List Nat)(k:Nat):List (List UInt8):=(List.range k).map λi=>walk (opn seed) leaf i 0 (secret seed leaf i) (ds.getD i 0)
def ends(op:List UInt8)(leaf:Nat)(ds:List Nat)(sig:List (List UInt8))(k:Nat):List (List UInt8):=(List.range k).map λi=>walk op leaf i (ds.getD i 0) (sig.getD i []) (15-ds.getD i 0)
def publicOf(op:List UInt8)(leaf:Nat)(e:List (List UInt8)):List UInt8:=Sha.tagged 4 ([op,place leaf 0 0]++e)
def tops(seed:List UInt8)(leaf:Nat)(k:Nat):List (List UInt8):=(List.range k).map λi=>walk (opn seed) leaf i 0 (secret seed leaf i) 15
def pub(seed:List UInt8)(leaf:Nat):List UInt8:=publicOf (opn seed) leaf (tops seed leaf 35)
theorem qFF(a:List UInt8)(b c d:Nat)(x:List UInt8):(step a b c d x).length=16:=Sha.tagged_length _ _
theorem secret_length(a:List UInt8)(b c:Nat):(secret a b c).length=16:=Sha.tagged_length _ _
theorem opn_length(a:List UInt8):(opn a).length=16:=Sha.tagged_length _ _
theorem walk_small(o:List UInt8)(leaf chain a:Nat)(x:List UInt8)(h:x.length≤1048576): ∀n,(walk o leaf chain a x n).length≤1048576
 |0=>h
 |n+1=>by rw [walk,qFF];decide
theorem qMX(o:List UInt8)(leaf chain a:Nat)(x:List UInt8)(h:x.length=16): ∀n,(walk o leaf chain a x n).length=16
 |0=>h
 |n+1=>qFF _ _ _ _ _
theorem qKP(o:List UInt8)(leaf chain a:Nat)(x:List UInt8)(n:Nat): ∀m,walk o leaf chain (a+n) (walk o leaf chain a x n) m=walk o leaf chain a x (n+m)
 |0=>rfl
 |m+1=>by rw [walk,qKP o leaf chain a x n m,←Nat.add_assoc,walk,Nat.add_assoc]
theorem place_length(a b c:Nat):(place a b c).length=6:=rfl
theorem nibs_snoc(s:List UInt8)(k:Nat)(h:k<s.length):nibs (s.take (k+1))=nibs (s.take k)++ [(s.getD k 0).toNat/16,(s.getD k 0).toNat%16]:=by
 unfold nibs
 rw [List.take_succ_eq_append_getElem h,List.flatMap_append,List.getD_eq_getElem?_getD,List.getElem?_eq_getElem h];simp
theorem left_snoc(s:List UInt8)(k:Nat)(h:k<s.length):left (s.take (k+1))=left (s.take k)+(30-(s.getD k 0).toNat/16-(s.getD k 0).toNat%16):=by
 unfold left
 rw [List.take_succ_eq_append_getElem h,List.map_append,List.sum_append,List.getD_eq_getElem?_getD,List.getElem?_eq_getElem h];simp
theorem qJq(s:List UInt8):(nibs s).length=2*s.length:=by
 unfold nibs
 induction s with
 |nil=>rfl
 |cons a l ih=>rw [List.flatMap_cons,List.length_append,ih];simp;omega
theorem left_le(s:List UInt8):left s≤30*s.length:=by
 unfold left
 induction s with
 |nil=>simp
 |cons a l ih=>rw [List.map_cons,List.sum_cons,List.length_cons];omega
theorem digs_length(s:List UInt8):(digs s).length=2*s.length+3:=by unfold digs;rw [List.length_append,qJq];rfl
theorem digs_le(s:List UInt8)(h:s.length≤16)(i:Nat):(digs s).getD i 0≤15:=by
  have hl:=left_le s
  have: ∀x∈digs s,x≤15:=λx hx=>by
    unfold digs nibs at hx
    rcases List.mem_append.1 hx with hx|hx
    · obtain ⟨b,_,hb⟩:=List.mem_flatMap.1 hx
      have:=b.toNat_lt
      simp only [List.mem_cons,List.not_mem_nil,or_false] at hb
      omega
    · simp only [List.mem_cons,List.not_mem_nil,or_false] at hx
      omega
  by_cases hi:i<(digs s).length
  · rw [List.getD_eq_getElem?_getD,List.getElem?_eq_getElem hi];exact this _ (List.getElem_mem _)
  · rw [List.getD_eq_getElem?_getD,List.getElem?_eq_none (by omega)];decide
theorem signs_succ(seed:List UInt8)(leaf:Nat)(ds:List Nat)(k:Nat):signs seed leaf ds (k+1)=signs seed leaf ds k++ [walk (opn seed) leaf k 0 (secret seed leaf k) (ds.getD k 0)]:=by simp [signs,List.range_succ]
theorem ends_succ(op:List UInt8)(leaf:Nat)(ds:List Nat)(sig:List (List UInt8))(k:Nat):ends op leaf ds sig (k+1)=ends op leaf ds sig k++ [walk op leaf k (ds.getD k 0) (sig.getD k []) (15-ds.getD k 0)]:=by simp [ends,List.range_succ]
theorem tops_succ(seed:List UInt8)(leaf:Nat)(k:Nat):tops seed leaf (k+1)=tops seed leaf k++ [walk (opn seed) leaf k 0 (secret seed leaf k) 15]:=by simp [tops,List.range_succ]
theorem qMs(seed:List UInt8)(leaf:Nat)(ds:List Nat)(k i:Nat)(h:i<k):(signs seed leaf ds k).getD i []=walk (opn seed) leaf i 0 (secret seed leaf i) (ds.getD i 0):=by
 unfold signs
 rw [List.getD_eq_getElem?_getD,List.getElem?_map,List.getElem?_range h];rfl
theorem tops_small(seed:List UInt8)(leaf:Nat)(k:Nat): ∀s∈tops seed leaf k,s.length≤16:=λs hs=>by
 simp only [tops,List.mem_map] at hs
 obtain ⟨i,_,rfl⟩:=hs
 rw [qMX _ _ _ _ _ (secret_length _ _ _)];exact Nat.le_refl _
theorem signs_16(seed:List UInt8)(leaf:Nat)(ds:List Nat)(k:Nat): ∀s∈signs seed leaf ds k,s.length=16:=λs hs=>by
 simp only [signs,List.mem_map] at hs
 obtain ⟨i,_,rfl⟩:=hs
 rw [qMX _ _ _ _ _ (secret_length _ _ _)]
theorem ends_small(op:List UInt8)(leaf:Nat)(ds:List Nat)(sig:List (List UInt8))(k:Nat)(hg: ∀s∈sig,s.length≤16): ∀s∈ends op leaf ds sig k,s.length≤1048576:=λs hs=>by
 simp only [ends,List.mem_map] at hs
 obtain ⟨i,_,rfl⟩:=hs
 refine walk_small _ _ _ _ _ ?_ _
 by_cases h0:i<sig.length
 · rw [List.getD_eq_getElem?_getD,List.getElem?_eq_getElem h0];exact Nat.le_trans (hg _ (List.getElem_mem _)) (by decide)
 · rw [List.getD_eq_getElem?_getD,List.getElem?_eq_none (by omega)];decide
theorem recovers(seed:List UInt8)(leaf:Nat)(ds:List Nat)(hd: ∀i,ds.getD i 0≤15)(k:Nat):ends (opn seed) leaf ds (signs seed leaf ds k) k=tops seed leaf k:=by
 unfold ends tops
 apply List.map_congr_left
 intro i hi
 rw [List.mem_range] at hi
 rw [qMs _ _ _ _ _ hi]
 have h:=qKP (opn seed) leaf i 0 (secret seed leaf i) (ds.getD i 0) (15-ds.getD i 0)
 rw [Nat.zero_add] at h
 have:=hd i
 rw [h,show ds.getD i 0+(15-ds.getD i 0)=15 by omega]
theorem qUO: ∀b:Fin 256,(UInt8.ofNat b.val&&&15).toNat=b.val%16∧(UInt8.ofNat (b.val/2^min 4 8)).toNat=b.val/16:=by decide+kernel
theorem lo_eq(b:UInt8):(b&&&15).toNat=b.toNat%16∧(UInt8.ofNat (b.toNat/2^min 4 8)).toNat=b.toNat/16:=by
 have h:=qUO ⟨b.toNat,b.toNat_lt⟩
 simp only [UInt8.ofNat_toNat] at h
 exact h
end Wo
attribute [local irreducible] Sha.tagB Sha.tagged Wo.walk Wo.signs Wo.tops Wo.ends Wo.digs Wo.nibs Wo.left
theorem Wo.walk0(o:List UInt8)(leaf chain a:Nat)(x:List UInt8):Wo.walk o leaf chain a x 0=x:=by unfold Wo.walk;rfl
theorem Wo.walkS(o:List UInt8)(leaf chain a:Nat)(x:List UInt8)(n:Nat):Wo.step o leaf chain (a+n) (Wo.walk o leaf chain a x n)=Wo.walk o leaf chain a x (n+1):=by rw [Wo.walk]
theorem Wo.tops0(a:List UInt8)(b:Nat):Wo.tops a b 0= []:=by unfold Wo.tops;rfl
theorem Wo.signs0(a:List UInt8)(b:Nat)(d:List Nat):Wo.signs a b d 0= []:=by unfold Wo.signs;rfl
theorem Wo.ends0(a:List UInt8)(b:Nat)(d:List Nat)(s:List (List UInt8)):Wo.ends a b d s 0= []:=by unfold Wo.ends;rfl
theorem Wo.nibs0:Wo.nibs []= []:=by unfold Wo.nibs;rfl
theorem Wo.left0:Wo.left []=0:=by unfold Wo.left;rfl
theorem qRK{a b c:List UInt8}(h1:a.length≤1048576)(h2:b.length≤1048576)(h3:c.length≤1048576): [a,b,c].flatten.length≤3145728:=by simp;omega
theorem qHG(F:Hp)(leaf chain stp:Nat)(h1:leaf<4611686018427387904)(h2:chain<4611686018427387904)(h3:stp<4611686018427387904):
    Ct prog 159 [I leaf,I chain,I stp] [F] (λ_:Unit=>Str (Wo.place leaf chain stp)) (λ_=>True) (λ_=> [F]):=by
  refine Ct.walk func159 rfl ntmps159 rfl (λw0 hw0=>?_)
  change J _ [(0,_),(1,_),(2,_)] _ _ _
  refine J.g λK1 hK1=>J.b O<|J.c hK1<|J.G 0 1 2 ?_
  refine J.g λK2 hK2=>J.b O<|J.f ((qCP (m:=24) O O O ⟨by decide,by omega⟩).as (v':=I ((leaf/2^24:Nat):Int)) (congrArg I (by simp))) rfl<|J.f (qAj rfl rfl u3_ u5_) rfl<|J.b rfl<|J.f ((qCP (m:=16) rfl rfl rfl ⟨by decide,by omega⟩).as (v':=I ((leaf/2^16:Nat):Int)) (congrArg I (by simp))) rfl<|J.f (qAj rfl rfl u3_ u5_) rfl<|J.b rfl<|J.f ((qCP (m:=8) rfl rfl rfl ⟨by decide,by omega⟩).as (v':=I ((leaf/2^8:Nat):Int)) (congrArg I (by simp))) rfl<|J.f (qAj rfl rfl u3_ u5_) rfl<|J.b rfl<|J.f (qAj rfl rfl u3_ u5_) rfl<|J.b rfl<|J.f (qAj rfl rfl u3_ u5_) rfl<|J.b rfl<|J.f (qAj rfl rfl u3_ u5_) rfl<|J.k (qAF (l:= [.tmp 9,.tmp 12,.tmp 15,.tmp 17,.tmp 19,.tmp 21]) (xs:= [[B8 (UInt8.ofNat (leaf/2^24))],[B8 (UInt8.ofNat (leaf/2^16))],[B8 (UInt8.ofNat (leaf/2^8))],[B8 (UInt8.ofNat leaf)],[B8 (UInt8.ofNat chain)],[B8 (UInt8.ofNat stp)]]) rfl rfl rfl rfl qBV el5 rfl (by decide) (by decide) (by simp)) rfl λg22 _=>?_
  change J _ _ _ [F,blk g22 [B8 (UInt8.ofNat (leaf/2^24)),B8 (UInt8.ofNat (leaf/2^16)),B8 (UInt8.ofNat (leaf/2^8)),B8 (UInt8.ofNat leaf),B8 (UInt8.ofNat chain),B8 (UInt8.ofNat stp)] 5] _
  refine J.f (qBY (l:=Wo.place leaf chain stp) O O qBV u5_ u9_ (m:=blk g22 [B8 (UInt8.ofNat (leaf/2^24)),B8 (UInt8.ofNat (leaf/2^16)),B8 (UInt8.ofNat (leaf/2^8)),B8 (UInt8.ofNat leaf),B8 (UInt8.ofNat chain),B8 (UInt8.ofNat stp)] 5) (by simp) (slB (Wo.place leaf chain stp) rfl)) rfl<|J.b rfl<|J.c hK2<|J.u 6 ?_
  exact J.D<|J.M hw0 O () O trivial [0] O (by decide)
theorem qGs(F:Hp)(hK:KF F)(seed:List UInt8)(hs:seed.length≤1048576):Ct prog 39 [Str seed] [F] (λ_:Unit=>Str (Wo.opn seed)) (λ_=>True) (λ_=> [F]):=by
 refine Ct.walk func39 rfl ntmps39 rfl (λw0 hw0=>?_)
 change J _ [(0,_)] _ _ _
 refine J.g λK1 hK1=>J.b O<|J.c hK1<|J.u 0 ?_
 refine J.g λK2 hK2=>J.b O<|J.k (qAF (l:= [.tmp 3]) (xs:= [[Str (seed)]]) O O O O qAe el9 O (by decide) (by decide) (by simp)) rfl λg4 _=>?_
 change J _ _ _ [F,blk g4 [Str (seed)] 9] _
 refine J.k (qAA O O ent75 (Ct.use0 (λF' hF=>qAv F' (hK.mono (hF _ (by simp))) 3 (some ⟨g4,0,none⟩) 1 1 [seed] ((slS [seed] rfl).mono (hF (blk g4 (([seed]:List (List UInt8)).map λs=>Str s) 9) (by simp))) (by simp [Wo.place_length];omega) (by decide)))) rfl λg5 _=>J.b rfl<|J.c hK2<|J.u 2 ?_
 exact J.D<|J.M hw0 O () O trivial [0] O (by decide)
theorem qJR(F:Hp)(hK:KF F)(o:List UInt8)(leaf chain:Nat)(ho:o.length≤1048576)(h1:leaf<4611686018427387904)(h2:chain<4611686018427387904)(x:List UInt8)(hx:x.length≤1048576)(from' to':Int)(a n:Nat)(ha:(a:Int)=max from' 0)(ha2:a<4611686018427387904)(hn:(n:Int)=max (min to' 15-a) 0):
    Ct prog 96 [Str o,I leaf,I chain,I from',I to',Str x] [F] (λ_:Unit=>Str (Wo.walk o leaf chain a x n)) (λ_=>True) (λ_=> [F]):=by
  refine Ct.walk func96 rfl ntmps96 rfl (λw0 hw0=>?_)
  change J _ [(0,_),(1,_),(2,_),(3,_),(4,_),(5,_)] _ _ _
  refine J.g λK1 hK1=>J.b O<|J.c hK1<|J.b8 0 1 2 3 4 5 ?_
  refine J.j λK2 hK2=>J.g λK3 hK3=>J.b O<|J.f ((qKr O O O).nat (a+0) (by omega)) O<|J.b O<|J.c hK3<|J.b8 0 1 2 4 5 13 ?_
  refine J.V<|J.b6 (λk:Nat=> [(0,Str o),(1,I leaf),(2,I chain),(4,I to'),(5,Str (Wo.walk o leaf chain a x k)),(13,I ((a+k:Nat):Int))]) (λ_=> [F]) (λk=>k≤n) (λk=>n-k) 0 (Nat.zero_le _) ⟨O,O,O,O,by rw [Wo.walk0];rfl,rfl,trivial⟩ (λ_ h=>h) ?_
  intro k hk I0 hI0
  have hw:=Wo.walk_small o leaf chain a x hx k
  refine J.j λK4 hK4=>J.g λK5 hK5=>J.p 2 O<|J.f (qEU O O O) O<|J.f (qAT O O O) O<|J.c hK5<|J.c2 0 1 2 4 5 13 19 ?_
  refine J.a2 O (λh19=>?_) (λh19=>?_)
  ·
    refine J.W hK4<|J.b8 0 1 2 4 5 13 ?_
    refine J.j λK6 hK6=>J.V<|J.L<|J.p 4 O<|J.k (qAA O O ent159 (qHG F leaf chain (a+k) h1 h2 (by omega))) O λg26 _=>J.b O<|J.k (qAF (l:= [.tmp 22,.tmp 26,.tmp 27]) (xs:= [[Str (o)],[Str (Wo.place leaf chain (a+k))],[Str ((Wo.walk o leaf chain a x k))]]) O O O O qAe el9 O (by decide) (by decide) (by simp)) rfl λg28 _=>?_
    change J _ _ _ [F,blk g28 [Str (o),Str (Wo.place leaf chain (a+k)),Str ((Wo.walk o leaf chain a x k))] 9] _
    refine J.k (qAA O O ent75 (Ct.use0 (λF' hF=>qAv F' (hK.mono (hF _ (by simp))) 2 (some ⟨g28,0,none⟩) 3 3 [o,Wo.place leaf chain (a+k),(Wo.walk o leaf chain a x k)] ((slS [o,Wo.place leaf chain (a+k),(Wo.walk o leaf chain a x k)] rfl).mono (hF (blk g28 (([o,Wo.place leaf chain (a+k),(Wo.walk o leaf chain a x k)]:List (List UInt8)).map λs=>Str s) 9) (by simp))) (by have:=qRK ho (show(Wo.place leaf chain (a+k)).length≤1048576 by rw [Wo.place_length];decide) hw;omega) (by decide)))) rfl λg29 _=>J.b rfl<|J.a7<|J.a6<|J.A (J.H hK6 ?_)
    refine J.b8 0 1 2 4 5 13 ?_
    exact J.c8 [0] [F] O (by decide)<|J.L<|J.b O<|J.f ((qAO O O O (by omega)).nat (a+(k+1)) (by omega)) O<|J.b O<|J.a7<|J.A<|J.a8 (k+1) (λx (hx:x≤n∧n-x<n-k)=>hI0 x hx.1 hx.2) ⟨by omega,by omega⟩ ⟨O,O,O,O,by rw [←Wo.walkS];rfl,rfl,trivial⟩ (λ_ h=>h)
  refine J.b4<|J.a1<|J.a1<|J.b5 ?_
  refine J.A (J.H hK2 ?_)
  refine J.u 5 ?_
  refine J.j λK7 hK7=>?_
  have hkn:n=k:=by omega
  subst hkn
  refine J.L<|J.p 2 O<|J.c hK7<|J.u 12 ?_
  exact J.D<|J.M hw0 O () O trivial [0] O (by decide)
theorem qGB(F:Hp)(hK:KF F)(seed:List UInt8)(leaf chain:Nat)(hs:seed.length≤1048576)(h1:leaf<4611686018427387904)(h2:chain<4611686018427387904):
    Ct prog 97 [Str seed,I leaf,I chain] [F] (λ_:Unit=>Str (Wo.secret seed leaf chain)) (λ_=>True) (λ_=> [F]):=by
  refine Ct.walk func97 rfl ntmps97 rfl (λw0 hw0=>?_)
  change J _ [(0,_),(1,_),(2,_)] _ _ _
  refine J.g λK1 hK1=>J.b O<|J.c hK1<|J.G 0 1 2 ?_
  refine J.g λK2 hK2=>J.p 3 O<|J.k (qAA O O ent159 (qHG F leaf chain 0 h1 h2 (by decide))) O λg10 _=>J.k (qAF (l:= [.tmp 7,.tmp 10]) (xs:= [[Str (seed)],[Str (Wo.place leaf chain 0)]]) O O O O qAe el9 O (by decide) (by decide) (by simp)) rfl λg11 _=>?_
  change J _ _ _ [F,blk g11 [Str (seed),Str (Wo.place leaf chain 0)] 9] _
  refine J.k (qAA O O ent75 (Ct.use0 (λF' hF=>qAv F' (hK.mono (hF _ (by simp))) 1 (some ⟨g11,0,none⟩) 2 2 [seed,Wo.place leaf chain 0] ((slS [seed,Wo.place leaf chain 0] rfl).mono (hF (blk g11 (([seed,Wo.place leaf chain 0]:List (List UInt8)).map λs=>Str s) 9) (by simp))) (by simp [Wo.place_length];omega) (by decide)))) rfl λg12 _=>J.b rfl<|J.c hK2<|J.u 6 ?_
  exact J.D<|J.M hw0 O () O trivial [0] O (by decide)
theorem qGC(F:Hp)(hK:KF F)(o:List UInt8)(leaf:Nat)(ho:o.length≤1048576)(h1:leaf<4611686018427387904)(A:Option Addr)(n c:Nat)(e:List (List UInt8))(he:Sl F 1 A n c (qAG e))(hsm: ∀s∈e,s.length≤1048576)(hn:n≤1024):
    Ct prog 98 [Str o,I leaf,.slice A n c] [F] (λ_:Unit=>Str (Wo.publicOf o leaf e)) (λ_=>True) (λ_=> [F]):=by
  have hlen:e.length=n:=by have:=he.1;simpa [qAG] using this
  have hfl:=Mk.flat_small hsm
  rw [hlen] at hfl
  refine Ct.walk func98 rfl ntmps98 rfl (λw0 hw0=>?_)
  change J _ [(0,_),(1,_),(2,_)] _ _ _
  refine J.g λK1 hK1=>J.b O<|J.c hK1<|J.G 0 1 2 ?_
  refine J.g λK2 hK2=>J.p 2 O<|J.k (qAA O O ent159 (qHG F leaf 0 0 h1 (by decide) (by decide))) O λg9 _=>J.k (qAF (l:= [.tmp 7,.tmp 9]) (xs:= [[Str (o)],[Str (Wo.place leaf 0 0)]]) O O O O qAe el9 O (by decide) (by decide) (by simp)) rfl λg10 _=>?_
  change J _ _ _ [F,blk g10 [Str (o),Str (Wo.place leaf 0 0)] 9] _
  refine J.b O<|J.k (qAW (i:=1) (m2:=F) (ys:=qAG e) O O O qAe qAe el9 O (qA4 (q:=True) (qAG [o,Wo.place leaf 0 0]) (n:=2) O (by simp [qAG]) rfl) (by simp) he (qCL _) (by omega) (by omega)) rfl ?_
  rintro⟨A12,c12,m12⟩ h12
  try dsimp only at h12
  change J _ ((12,.slice A12 (2+n) c12)::_) _ [_,m12] _
  rw [←qBm] at h12
  refine J.k (qAA O O ent75 (Ct.use0 (λF' hF=>qAv F' (hK.mono (hF _ (by simp))) 4 A12 (2+n) c12 ([o,Wo.place leaf 0 0]++e) (h12.sl.mono (hF _ (by simp))) (by simp only [List.flatten_append,List.length_append,List.flatten_cons,List.flatten_nil,Wo.place_length,List.length_nil];omega) (by omega)))) rfl λg13 _=>J.b rfl<|J.c hK2<|J.u 6 ?_
  exact J.D<|J.M hw0 O () O trivial [0] O (by decide)
theorem qRr(F:Hp)(hK:KF F)(seed:List UInt8)(leaf:Nat)(hs:seed.length≤1048576)(h1:leaf<4611686018427387904):
    Ct prog 37 [Str seed,I leaf] [F] (λ_:Unit=>Str (Wo.pub seed leaf)) (λ_=>True) (λ_=> [F]):=by
  refine Ct.walk func37 rfl ntmps37 rfl (λw0 hw0=>?_)
  change J _ [(0,_),(1,_)] _ _ _
  refine J.g λK1 hK1=>J.b O<|J.c hK1<|J.E 0 1 ?_
  refine J.g λK2 hK2=>J.b O<|J.k (qAA O O ent39 (qGs F hK seed hs)) O λg9 _=>J.b O<|J.c hK2<|J.G 0 1 5 ?_
  refine J.g λK3 hK3=>J.b O<|J.c hK3<|J.O 0 1 5 6 ?_
  refine J.j λK4 hK4=>J.j λK5 hK5=>J.d5 [0,1] [F,(λ_=>none)] O (by decide)<|J.L<|J.b O<|J.c hK5<|J.a0 0 1 5 6 10 ?_
  refine J.V<|J.b6 (X:=Nat×Option Addr×Nat×Hp) (λx=> [(0,Str seed),(1,I leaf),(5,Str (Wo.opn seed)),(6,.slice x.2.1 x.1 x.2.2.1),(10,I x.1)]) (λx=> [F,x.2.2.2]) (λx=>x.1≤35∧Row x.2.2.2 9 1 x.2.1 x.1 x.2.2.1 (qAG (Wo.tops seed leaf x.1))) (λx=>35-x.1) (0,none,0,λ_=>none) (⟨Nat.zero_le _,by rw [Wo.tops0];exact qBU.nil⟩) ⟨rfl,rfl,rfl,rfl,rfl,trivial⟩ (λ_ h=>h) ?_
  rintro⟨k,A6,c6,m⟩ ⟨hk,hrow⟩ I0 hI0
  dsimp only at hk hrow⊢
  refine J.g λK6 hK6=>J.f (qAT O O O) O<|J.c hK6<|J.b8 0 1 5 6 10 11 ?_
  refine J.j λK7 hK7=>J.a2 O (λh11=>?_) (λh11=>?_)
  ·
    refine J.W hK7<|J.a0 0 1 5 6 10 ?_
    refine J.j λK8 hK8=>J.V<|J.g λK9 hK9=>J.p 2 O<|J.c hK9<|J.b8 0 1 5 6 7 10 ?_
    refine J.L<|J.p 7 O<|J.k (qAA O O ent97 (Ct.use0 (λF' hF=>qGB F' (hK.mono (hF _ (by simp))) seed leaf k hs h1 (by omega)))) rfl λg20 _=>J.k (qAA rfl rfl ent96 (Ct.use0 (λF' hF=>qJR F' (hK.mono (hF _ (by simp))) (Wo.opn seed) leaf k (by rw [Wo.opn_length];decide) h1 (by omega) (Wo.secret seed leaf k) (by rw [Wo.secret_length];decide) 0 15 0 15 (by omega) (by omega) (by omega)))) rfl λg21 _=>J.k (qAF (l:= [.tmp 21]) (xs:= [[Str ((Wo.walk (Wo.opn seed) leaf k 0 (Wo.secret seed leaf k) 15))]]) rfl rfl rfl rfl qAe el9 rfl (by decide) (by decide) (by simp)) rfl λg22 _=>?_
    change J _ _ _ [F,m,blk g22 [Str ((Wo.walk (Wo.opn seed) leaf k 0 (Wo.secret seed leaf k) 15))] 9] _
    refine J.k (qAW (i:=1) (m2:=blk g22 [Str (Wo.walk (Wo.opn seed) leaf k 0 (Wo.secret seed leaf k) 15)] 9) (ys:=qAG [(Wo.walk (Wo.opn seed) leaf k 0 (Wo.secret seed leaf k) 15)]) O O O qAe qAe el9 O hrow (by simp) (qAk (q:=True) (xs:=qAG [(Wo.walk (Wo.opn seed) leaf k 0 (Wo.secret seed leaf k) 15)]) rfl (by simp [qAG])).sl (qCL _) (by omega) (by omega)) rfl ?_
    rintro⟨A23,c23,m23⟩ h23
    try dsimp only at h23
    change J _ ((23,.slice A23 (k+1) c23)::_) _ [_,m23,blk g22 [Str (Wo.walk (Wo.opn seed) leaf k 0 (Wo.secret seed leaf k) 15)] 9] _
    rw [←qBm,←Wo.tops_succ] at h23
    refine J.c8 [0,1] [F,m23] O (by decide)<|J.b O<|J.a7<|J.a6<|J.A (J.H hK8 ?_)
    refine J.a0 0 1 5 6 10 ?_
    exact J.L<|J.f ((qAO O O O (by omega)).nat (k+1) (by omega)) O<|J.b O<|J.a7<|J.A<|J.a8 (k+1,A23,c23,m23) (λx (hx:_∧35-x.1<35-k)=>hI0 x hx.1 hx.2) ⟨⟨by dsimp only;omega,h23⟩,by dsimp only;omega⟩ ⟨O,O,O,O,O,trivial⟩ (λ_ h=>h)
  refine J.b4<|J.a1<|J.a1<|J.b5 ?_
  refine J.A (J.H hK4 ?_)
  refine J.G 1 5 6 ?_
  refine J.j λK10 hK10=>?_
  have hk35:k=35:=by omega
  subst hk35
  refine J.L<|J.p 3 O<|J.k (qAA O O ent98 (Ct.use0 (λF' hF=>qGC F' (hK.mono (hF _ (by simp))) (Wo.opn seed) leaf (by rw [Wo.opn_length];decide) h1 A6 35 c6 (Wo.tops seed leaf 35) (hrow.sl.mono (hF _ (by simp))) (λs hs=>Nat.le_trans (Wo.tops_small seed leaf 35 s hs) (by decide)) (by decide)))) rfl λg28 _=>J.b rfl<|J.c hK10<|J.u 4 ?_
  exact J.D<|J.M hw0 O () O trivial [0] O (by decide)
theorem qFn(F:Hp)(s:List UInt8)(hs:s.length=16):
    Ct prog 203 [Str s] [F] (λx:Option Addr×Nat×Hp=> .tuple #[.slice x.1 35 x.2.1,I 0]) (λx=>Row x.2.2 3 1 x.1 35 x.2.1 (qCi (Wo.digs s))) (λx=> [F,x.2.2]):=by
  have hll:=Wo.left_le s
  refine Ct.walk func203 rfl ntmps203 rfl (λw0 hw0=>?_)
  change J _ [(0,_)] _ _ _
  refine J.g λK1 hK1=>J.p 2 O<|J.c hK1<|J.u 0 ?_
  refine J.j λK2 hK2=>J.g λK3 hK3=>J.b O<|J.f (qAl u9_ O O) O<|J.f ((qAb O O O).no (by omega)) O<|J.c hK3<|J.E 0 12 ?_
  refine J.a5 ?_
  refine J.W hK2<|J.u 0 ?_
  refine J.g λK4 hK4=>J.b O<|J.c hK4<|J.E 0 4 ?_
  refine J.j λK5 hK5=>J.d5 [0,1] [F,(λ_=>none)] O (by decide)<|J.L<|J.b O<|J.c hK5<|J.G 0 4 5 ?_
  refine J.j λK6 hK6=>J.g λK7 hK7=>J.b O<|J.f (qAl u9_ O O) O<|J.b O<|J.c hK7<|J.a0 0 4 5 14 15 ?_
  refine J.V<|J.b6 (X:=Nat×Option Addr×Nat×Hp) (λx=> [(0,Str s),(4,.slice x.2.1 (2*x.1) x.2.2.1),(5,I ((Wo.left (s.take x.1):Nat):Int)),(14,I s.length),(15,I x.1)]) (λx=> [F,x.2.2.2]) (λx=>x.1≤16∧Row x.2.2.2 3 1 x.2.1 (2*x.1) x.2.2.1 (qCi (Wo.nibs (s.take x.1)))) (λx=>16-x.1) (0,none,0,λ_=>none) (⟨Nat.zero_le _,by rw [List.take_zero,Wo.nibs0];exact qBU.nil⟩) ⟨rfl,rfl,by rw [List.take_zero,Wo.left0];rfl,rfl,rfl,trivial⟩ (λ_ h=>h) ?_
  rintro⟨k,A4,c4,m⟩ ⟨hk,hrow⟩ I0 hI0
  dsimp only at hk hrow⊢
  have hlk:=Wo.left_le (s.take k)
  rw [List.length_take] at hlk
  refine J.g λK8 hK8=>J.f (qAT O O O) O<|J.c hK8<|J.b8 0 4 5 14 15 16 ?_
  refine J.j λK9 hK9=>J.a2 O (λh16=>?_) (λh16=>?_)
  ·
    refine J.W hK9<|J.a0 0 4 5 14 15 ?_
    refine J.j λK10 hK10=>J.V<|J.g λK11 hK11=>J.p 2 O<|J.c hK11<|J.b8 0 4 5 6 14 15 ?_
    refine J.j λK12 hK12=>?_
    have hk16:k<16:=by omega
    have hb8:=(s.getD k 0).toNat_lt
    refine J.c1 [F,m] [] (.y 0 (.y 1 (.y 2 (.y 3 (.y 4 (.y 5 (.y 6 (.y 7 (.y 8 (.y 9 (.y 10 (.y 11 .nil)))))))))))) Tryz.wide (by decide+kernel) (by simp) ?_
    refine J.T ?_
    refine J.T ?_
    refine J.q O (qBW (i:=k) u9_ O O O (qAc 0 (by omega))) O O<|J.q O (qJi (m:=4) O O O) O O<|J.q O ((qBZ O O u5_ u3_).as (v':=I (((s.getD k 0).toNat/16:Nat):Int)) (congrArg (λn:Nat=>I (n:Int)) (Wo.lo_eq (s.getD k 0)).2)) O O<|J.T ?_
    refine J.T ?_
    refine J.q O (qBW (i:=k) u9_ O O O (qAc 0 (by omega))) O O<|J.q O (qNa (b:=15) O O O) O O<|J.q O ((qBZ O O u5_ u3_).as (v':=I (((s.getD k 0).toNat%16:Nat):Int)) (congrArg (λn:Nat=>I (n:Int)) (Wo.lo_eq (s.getD k 0)).1)) O O<|J.q O (qDY (l:= [.tmp 22,.tmp 27]) O O O underlying325 el3 zeroValue325 O O (by simp [Value.cells]) (r:= [(s.getD k 0).toNat/16,(s.getD k 0).toNat%16].map λx:Nat=>I (x:Int)) rfl) rfl rfl<|J.T ?_
    refine J.b9<|J.A (J.H hK12 ?_)
    refine J.c2 0 4 5 14 15 28 29 ?_
    refine J.V<|J.b6 (X:=Nat×Option Addr×Nat×Hp) (λx=> [(0,Str s),(4,.slice x.2.1 (2*k+x.1) x.2.2.1),(5,I ((Wo.left (s.take k)+(([(s.getD k 0).toNat/16,(s.getD k 0).toNat%16].take x.1).map (15- ·)).sum:Nat):Int)),(14,I s.length),(15,I k),(28,.agg ([(s.getD k 0).toNat/16,(s.getD k 0).toNat%16].map λx:Nat=>I (x:Int)).toArray),(29,I x.1)]) (λx=> [F,x.2.2.2]) (λx=>x.1≤2∧Row x.2.2.2 3 1 x.2.1 (2*k+x.1) x.2.2.1 (qCi ((Wo.nibs (s.take k))++ [(s.getD k 0).toNat/16,(s.getD k 0).toNat%16].take x.1))) (λx=>2-x.1) (0,A4,c4,m) (⟨Nat.zero_le _,by rw [List.take_zero,List.append_nil];exact hrow⟩) ⟨rfl,rfl,rfl,rfl,rfl,rfl,rfl,trivial⟩ (λ_ h=>h) ?_
    clear hrow
    rintro⟨j,A4,c4,m⟩ ⟨hj,hrow⟩ I2 hI2
    dsimp only at hj hrow⊢
    refine J.g λK13 hK13=>J.f (qAT O O O) O<|J.c hK13<|J.d1 0 4 5 14 15 28 29 30 ?_
    refine J.j λK14 hK14=>J.a2 O (λh30=>?_) (λh30=>?_)
    ·
      refine J.W hK14<|J.c2 0 4 5 14 15 28 29 ?_
      refine J.j λK15 hK15=>J.V<|J.j λK16 hK16=>?_
      have hj2:j<2:=by omega
      have hsj:(([(s.getD k 0).toNat/16,(s.getD k 0).toNat%16].take (j+1)).map (15- ·)).sum=(([(s.getD k 0).toNat/16,(s.getD k 0).toNat%16].take j).map (15- ·)).sum+(15-([(s.getD k 0).toNat/16,(s.getD k 0).toNat%16].getD j 0)):=by match j,hj2 with|0,_=>simp|1,_=>simp
      have hdl:([(s.getD k 0).toNat/16,(s.getD k 0).toNat%16].getD j 0)≤15:=by match j,hj2 with|0,_=>(show(s.getD k 0).toNat/16≤15;omega)|1,_=>(show(s.getD k 0).toNat%16≤15;omega)
      have hsl:(([(s.getD k 0).toNat/16,(s.getD k 0).toNat%16].take j).map (15- ·)).sum≤15*j:=by match j,hj2 with|0,_=>simp|1,_=>simp
      refine J.L<|J.f (qHN (i:=j) (v:=I ((([(s.getD k 0).toNat/16,(s.getD k 0).toNat%16].getD j 0):Nat):Int)) O O O underlying325 z3_ b3_ (by omega) (by rw [Nat.mul_one];match j,hj2 with|0,_=>rfl|1,_=>rfl)) rfl<|J.b rfl<|J.c hK16<|J.d1 0 4 5 8 14 15 28 29 ?_
      refine J.g λK17 hK17=>J.p 2 O<|J.k (qAF (l:= [.tmp 33]) (xs:= [[I ((([(s.getD k 0).toNat/16,(s.getD k 0).toNat%16].getD j 0):Nat):Int)]]) O O O O qF0 el3 O (by decide) (by decide) (by simp)) rfl λg34 _=>?_
      change J _ _ _ [F,m,blk g34 [I ((([(s.getD k 0).toNat/16,(s.getD k 0).toNat%16].getD j 0):Nat):Int)] 3] _
      refine J.k (qAW (i:=1) (m2:=blk g34 (([([(s.getD k 0).toNat/16,(s.getD k 0).toNat%16].getD j 0)]:List Nat).map λx:Nat=>I (x:Int)) 3) (ys:=qCi [([(s.getD k 0).toNat/16,(s.getD k 0).toNat%16].getD j 0)]) O O O qF0 qF0 el3 O hrow (by simp) (slN [([(s.getD k 0).toNat/16,(s.getD k 0).toNat%16].getD j 0)] rfl) (qKu _) (by omega) (by omega)) rfl ?_
      rintro⟨A35,c35,m35⟩ h35
      try dsimp only at h35
      change J _ ((35,.slice A35 (2*k+j+1) c35)::_) _ [_,m35,_] _
      rw [←qIc] at h35
      refine J.b O<|J.c hK17<|J.d1 0 4 5 8 14 15 28 29 ?_
      refine J.c8 [0,1] [F,m35] O (by decide)<|J.L<|J.p 2 O<|J.f ((qAw (a:=15) O O O (by omega)).as (v':=I ((15-([(s.getD k 0).toNat/16,(s.getD k 0).toNat%16].getD j 0):Nat):Int)) (congrArg I (by omega))) O<|J.f ((qAO O O O (by omega)).as (v':=I ((Wo.left (s.take k)+(([(s.getD k 0).toNat/16,(s.getD k 0).toNat%16].take (j+1)).map (15- ·)).sum:Nat):Int)) (congrArg I (by rw [hsj];omega))) rfl<|J.b rfl<|J.a7<|J.a6<|J.A (J.H hK15 ?_)
      refine J.c2 0 4 5 14 15 28 29 ?_
      exact J.L<|J.f ((qAO O O O (by omega)).nat (j+1) (by omega)) O<|J.b O<|J.a7<|J.A<|J.a8 (j+1,A35,c35,m35) (λx (hx:_∧2-x.1<2-j)=>hI2 x hx.1 hx.2) ⟨⟨by dsimp only;omega,by dsimp only;rw [show [(s.getD k 0).toNat/16,(s.getD k 0).toNat%16].take (j+1)= [(s.getD k 0).toNat/16,(s.getD k 0).toNat%16].take j++ [([(s.getD k 0).toNat/16,(s.getD k 0).toNat%16].getD j 0)] by match j,hj2 with|0,_=>rfl|1,_=>rfl,←List.append_assoc];exact h35⟩,by dsimp only;omega⟩ ⟨rfl,rfl,rfl,rfl,rfl,rfl,rfl,trivial⟩ (λ_ h=>h)
    refine J.b4<|J.a1<|J.a1<|J.b5 ?_
    refine J.a6<|J.A (J.H hK10 ?_)
    refine J.a0 0 4 5 14 15 ?_
    refine J.L<|J.f ((qAO O O O (by omega)).nat (k+1) (by omega)) O<|J.b O<|J.a7<|J.A ?_
    have hj2:j=2:=by omega
    subst hj2
    have e1:=Wo.nibs_snoc s k (by omega)
    have e2:=Wo.left_snoc s k (by omega)
    have hb8:=(s.getD k 0).toNat_lt
    have e3:(([(s.getD k 0).toNat/16,(s.getD k 0).toNat%16].take 2).map (15- ·)).sum=(15-(s.getD k 0).toNat/16)+((15-(s.getD k 0).toNat%16)+0):=rfl
    exact J.a8 (k+1,A4,c4,m) (λx (hx:_∧16-x.1<16-k)=>hI0 x hx.1 hx.2) ⟨⟨by dsimp only;omega,by dsimp only;rw [e1];exact hrow⟩,by dsimp only;omega⟩ ⟨rfl,by rw [show 2*(k+1)=2*k+2 by omega];rfl,by rw [e2];exact congrArg (λn:Nat=>some (I (n:Int))) (by rw [e3];omega),rfl,rfl,trivial⟩ (λ_ h=>h)
  refine J.b4<|J.a1<|J.a1<|J.b5 ?_
  refine J.A (J.H hK6 ?_)
  refine J.E 4 5 ?_
  refine J.j λK18 hK18=>J.j λK19 hK19=>?_
  have hk16:k=16:=by omega
  subst hk16
  rw [List.take_of_length_le (by omega)] at hrow
  refine J.L<|J.b O<|J.c hK19<|J.G 4 5 9 ?_
  refine J.V<|J.b6 (X:=Nat×Option Addr×Nat×Hp) (λx=> [(4,.slice x.2.1 (32+x.1) x.2.2.1),(5,I ((Wo.left s:Nat):Int)),(9,I (2-(x.1:Int)))]) (λx=> [F,x.2.2.2]) (λx=>x.1≤3∧Row x.2.2.2 3 1 x.2.1 (32+x.1) x.2.2.1 (qCi (Wo.nibs s++ [Wo.left s/256,Wo.left s/16%16,Wo.left s%16].take x.1))) (λx=>3-x.1) (0,A4,c4,m) (⟨Nat.zero_le _,by rw [List.take_zero,List.append_nil];exact hrow⟩) ⟨rfl,by rw [List.take_of_length_le (by omega)];rfl,rfl,trivial⟩ (λ_ h=>h) ?_
  clear hrow hlk
  rintro⟨t,A4,c4,m⟩ ⟨ht,hrow⟩ I4 hI4
  dsimp only at ht hrow⊢
  refine J.j λK20 hK20=>J.g λK21 hK21=>J.b O<|J.f (qBN O O O) O<|J.c hK21<|J.O 4 5 9 43 ?_
  refine J.a2 O (λh43=>?_) (λh43=>?_)
  ·
    refine J.W hK20<|J.G 4 5 9 ?_
    refine J.j λK22 hK22=>J.V ?_
    have ht2:t<3:=by omega
    refine J.L<|J.p 2 O<|J.f ((qAx O O).nat (2-t) (by omega)) O<|J.f ((qCr (a:=4) O O O (by omega)).nat (4*(2-t)) (by omega)) O<|J.f ((qCP (m:=4*(2-t)) O O O (by omega)).as (v':=I ((Wo.left s/2^(4*(2-t)):Nat):Int)) (congrArg I (by simp))) rfl<|J.f ((qP2 4 rfl rfl rfl (by decide) (by decide)).as (v':=I (([Wo.left s/256,Wo.left s/16%16,Wo.left s%16].getD t 0:Nat):Int)) (congrArg I (by match t,ht2 with|0,_=>(show((Wo.left s/2^(4*(2-0)):Nat):Int)%2^4=((Wo.left s/256:Nat):Int);omega)|1,_=>(show((Wo.left s/2^(4*(2-1)):Nat):Int)%2^4=((Wo.left s/16%16:Nat):Int);omega)|2,_=>(show((Wo.left s/2^(4*(2-2)):Nat):Int)%2^4=((Wo.left s%16:Nat):Int);omega)))) rfl<|J.k (qAF (l:= [.tmp 51]) (xs:= [[I ((([Wo.left s/256,Wo.left s/16%16,Wo.left s%16].getD t 0):Nat):Int)]]) rfl rfl rfl rfl qF0 el3 rfl (by decide) (by decide) (by simp)) rfl λg52 _=>?_
    change J _ _ _ [F,m,blk g52 [I ((([Wo.left s/256,Wo.left s/16%16,Wo.left s%16].getD t 0):Nat):Int)] 3] _
    refine J.k (qAW (i:=1) (m2:=blk g52 (([([Wo.left s/256,Wo.left s/16%16,Wo.left s%16].getD t 0)]:List Nat).map λx:Nat=>I (x:Int)) 3) (ys:=qCi [([Wo.left s/256,Wo.left s/16%16,Wo.left s%16].getD t 0)]) O O O qF0 qF0 el3 O hrow (by simp) (slN [([Wo.left s/256,Wo.left s/16%16,Wo.left s%16].getD t 0)] rfl) (qKu _) (by omega) (by omega)) rfl ?_
    rintro⟨A53,c53,m53⟩ h53
    try dsimp only at h53
    change J _ ((53,.slice A53 (32+t+1) c53)::_) _ [_,m53,_] _
    rw [←qIc] at h53
    refine J.b O<|J.a7<|J.a6<|J.A (J.H hK22 ?_)
    refine J.G 4 5 9 ?_
    exact J.c8 [0,1] [F,m53] O (by decide)<|J.L<|J.b O<|J.f ((qAw O O O (by omega)).as (v':=I (2-((t+1:Nat):Int))) (congrArg I (by omega))) O<|J.b O<|J.a7<|J.A<|J.a8 (t+1,A53,c53,m53) (λx (hx:_∧3-x.1<3-t)=>hI4 x hx.1 hx.2) ⟨⟨by dsimp only;omega,by dsimp only;rw [show [Wo.left s/256,Wo.left s/16%16,Wo.left s%16].take (t+1)= [Wo.left s/256,Wo.left s/16%16,Wo.left s%16].take t++ [[Wo.left s/256,Wo.left s/16%16,Wo.left s%16].getD t 0] by match t,ht2 with|0,_=>rfl|1,_=>rfl|2,_=>rfl,←List.append_assoc];exact h53⟩,by dsimp only;omega⟩ ⟨rfl,rfl,rfl,trivial⟩ (λ_ h=>h)
  refine J.b4<|J.a1<|J.a1<|J.b5 ?_
  refine J.A (J.H hK18 ?_)
  refine J.u 4 ?_
  refine J.j λK23 hK23=>?_
  have ht3:t=3:=by omega
  subst ht3
  refine J.L<|J.p 3 O<|J.c hK23<|J.E 2 3 ?_
  exact J.D<|J.b2 hw0 (λ_ _ h=>h) (qB2 O O O) (qAn (A4,c4,m) O (by unfold Wo.digs;exact hrow) [0,1] O (by decide))
theorem qR9(F:Hp)(hK:KF F)(seed:List UInt8)(leaf:Nat)(d:List UInt8)(hs:seed.length≤1048576)(h1:leaf<4611686018427387904)(hd:d.length=16):
    Ct prog 165 [Str seed,I leaf,Str d] [F] (λx:Option Addr×Nat×Hp=> .tuple #[.slice x.1 35 x.2.1,I 0]) (λx=>Row x.2.2 9 1 x.1 35 x.2.1 (qAG (Wo.signs seed leaf (Wo.digs d) 35))) (λx=> [F,x.2.2]):=by
  have hdl:(Wo.digs d).length=35:=by rw [Wo.digs_length,hd]
  have hd15:=Wo.digs_le d (by omega)
  refine Ct.walk func165 rfl ntmps165 rfl (λw0 hw0=>?_)
  change J _ [(0,_),(1,_),(2,_)] _ _ _
  refine J.g λK1 hK1=>J.p 2 O<|J.c hK1<|J.G 0 1 2 ?_
  refine J.g λK2 hK2=>J.b O<|J.k (qAA O O ent203 (Ct.use (λF' hF=>qFn F' d hd))) O ?_
  rintro⟨A16,c16,m16⟩ h16
  try dsimp only at h16
  change J _ ((16,.tuple #[.slice A16 35 c16,I 0])::_) _ [F,m16] _
  refine J.b O<|J.f (qAa O O O) O<|J.f (qAa O O O) O<|J.p 2 O<|J.c hK2<|J.O 0 1 8 9 ?_
  refine J.j λK3 hK3=>J.g λK4 hK4=>J.b O<|J.f ((qAb O O O).no (by decide)) O<|J.c hK4<|J.a0 0 1 8 9 20 ?_
  refine J.a5 ?_
  refine J.W hK3<|J.G 0 1 8 ?_
  refine J.g λK5 hK5=>J.b O<|J.k (qAA O O ent39 (Ct.use0 (λF' hF=>qGs F' (hK.mono (hF _ (by simp))) seed hs))) rfl λg23 _=>J.b rfl<|J.c hK5<|J.O 0 1 8 10 ?_
  refine J.j λK6 hK6=>J.d5 [0,1,2] [F,m16,(λ_=>none)] O (by decide)<|J.L<|J.b O<|J.c hK6<|J.a0 0 1 8 10 11 ?_
  refine J.j λK7 hK7=>J.g λK8 hK8=>J.b O<|J.f (qAP qF0 O O) O<|J.b O<|J.c hK8<|J.c2 0 1 10 11 24 25 26 ?_
  refine J.V<|J.b6 (X:=Nat×Option Addr×Nat×Hp) (λx=> [(0,Str seed),(1,I leaf),(10,Str (Wo.opn seed)),(11,.slice x.2.1 x.1 x.2.2.1),(24,.slice A16 35 c16),(25,I ((35:Nat):Int)),(26,I x.1)]) (λx=> [F,m16,x.2.2.2]) (λx=>x.1≤35∧Row x.2.2.2 9 1 x.2.1 x.1 x.2.2.1 (qAG (Wo.signs seed leaf (Wo.digs d) x.1))) (λx=>35-x.1) (0,none,0,λ_=>none) (⟨Nat.zero_le _,by rw [Wo.signs0];exact qBU.nil⟩) ⟨rfl,rfl,rfl,rfl,rfl,rfl,rfl,trivial⟩ (λ_ h=>h) ?_
  rintro⟨k,A6,c6,m⟩ ⟨hk,hrow⟩ I0 hI0
  dsimp only at hk hrow⊢
  have hdk:=hd15 k
  refine J.g λK9 hK9=>J.f (qAT O O O) O<|J.c hK9<|J.d1 0 1 10 11 24 25 26 27 ?_
  refine J.j λK10 hK10=>J.a2 O (λh27=>?_) (λh27=>?_)
  ·
    refine J.W hK10<|J.c2 0 1 10 11 24 25 26 ?_
    refine J.j λK11 hK11=>J.V<|J.g λK12 hK12=>J.b O<|J.f (qAH (i:=k) O O O qF0 z3_ h16.sl (by omega)) O<|J.f (qAJ O O b3_ (m:=m16) (by simp) (h16.sl.elem (qIb (k:=k) (by omega)))) rfl<|J.p 2 rfl<|J.c hK12<|J.e1 0 1 10 11 12 13 24 25 26 ?_
    refine J.L<|J.p 8 O<|J.k (qAA O O ent97 (Ct.use0 (λF' hF=>qGB F' (hK.mono (hF _ (by simp))) seed leaf k hs h1 (by omega)))) rfl λg39 _=>J.k (qAA rfl rfl ent96 (Ct.use0 (λF' hF=>qJR F' (hK.mono (hF _ (by simp))) (Wo.opn seed) leaf k (by rw [Wo.opn_length];decide) h1 (by omega) (Wo.secret seed leaf k) (by rw [Wo.secret_length];decide) 0 ((Wo.digs d).getD k 0) 0 ((Wo.digs d).getD k 0) (by omega) (by omega) (by omega)))) rfl λg40 _=>J.k (qAF (l:= [.tmp 40]) (xs:= [[Str ((Wo.walk (Wo.opn seed) leaf k 0 (Wo.secret seed leaf k) ((Wo.digs d).getD k 0)))]]) rfl rfl rfl rfl qAe el9 rfl (by decide) (by decide) (by simp)) rfl λg41 _=>?_
    change J _ _ _ [F,m16,m,blk g41 [Str ((Wo.walk (Wo.opn seed) leaf k 0 (Wo.secret seed leaf k) ((Wo.digs d).getD k 0)))] 9] _
    refine J.k (qAW (i:=2) (m2:=blk g41 [Str (Wo.walk (Wo.opn seed) leaf k 0 (Wo.secret seed leaf k) ((Wo.digs d).getD k 0))] 9) (ys:=qAG [(Wo.walk (Wo.opn seed) leaf k 0 (Wo.secret seed leaf k) ((Wo.digs d).getD k 0))]) O O O qAe qAe el9 O hrow (by simp) (qAk (q:=True) (xs:=qAG [(Wo.walk (Wo.opn seed) leaf k 0 (Wo.secret seed leaf k) ((Wo.digs d).getD k 0))]) rfl (by simp [qAG])).sl (qCL _) (by omega) (by omega)) rfl ?_
    rintro⟨A42,c42,m42⟩ h42
    try dsimp only at h42
    change J _ ((42,.slice A42 (k+1) c42)::_) _ [_,_,m42,blk g41 [Str (Wo.walk (Wo.opn seed) leaf k 0 (Wo.secret seed leaf k) ((Wo.digs d).getD k 0))] 9] _
    rw [←qBm,←Wo.signs_succ] at h42
    refine J.c8 [0,1,2] [F,m16,m42] O (by decide)<|J.b O<|J.a7<|J.a6<|J.A (J.H hK11 ?_)
    refine J.c2 0 1 10 11 24 25 26 ?_
    exact J.L<|J.f ((qAO O O O (by omega)).nat (k+1) (by omega)) O<|J.b O<|J.a7<|J.A<|J.a8 (k+1,A42,c42,m42) (λx (hx:_∧35-x.1<35-k)=>hI0 x hx.1 hx.2) ⟨⟨by dsimp only;omega,h42⟩,by dsimp only;omega⟩ ⟨O,O,O,O,O,O,O,trivial⟩ (λ_ h=>h)
  refine J.b4<|J.a1<|J.a1<|J.b5 ?_
  refine J.A (J.H hK7 ?_)
  refine J.u 11 ?_
  refine J.j λK13 hK13=>?_
  have hk35:k=35:=by omega
  subst hk35
  refine J.L<|J.p 3 O<|J.c hK13<|J.E 6 7 ?_
  exact J.D<|J.b2 hw0 (λ_ _ h=>h) (qB2 O O O) (qAn (A6,c6,m) O hrow [0,2] O (by decide))
theorem qMU(F:Hp)(A:Option Addr)(n c:Nat)(ls:List (List UInt8))(hl:Sl F 1 A n c (qAG ls))(h16: ∀s∈ls,s.length=16)(hn:n=35):
    Ct prog 204 [.slice A n c] [F] (λ_:Unit=> .bool true) (λ_=>True) (λ_=> [F]):=by
  have hlen:ls.length=n:=by have:=hl.1;simpa [qAG] using this
  refine Ct.walk func204 rfl ntmps204 rfl (λw0 hw0=>?_)
  change J _ [(0,_)] _ _ _
  refine J.g λK1 hK1=>J.b O<|J.c hK1<|J.u 0 ?_
  refine J.j λK2 hK2=>J.g λK3 hK3=>J.b O<|J.f (qAP qAe O O) O<|J.b O<|J.c hK3<|J.O 0 5 6 7 ?_
  refine J.V<|J.b6 (λk:Nat=> [(0,.slice A n c),(5,.slice A n c),(6,I n),(7,I k)]) (λ_=> [F]) (λk=>k≤n) (λk=>n-k) 0 (Nat.zero_le _) ⟨O,O,O,O,trivial⟩ (λ_ h=>h) ?_
  intro k hk I0 hI0
  refine J.g λK4 hK4=>J.f (qAT O O O) O<|J.c hK4<|J.a0 0 5 6 7 8 ?_
  refine J.j λK5 hK5=>J.a2 O (λh8=>?_) (λh8=>?_)
  ·
    refine J.W hK5<|J.O 0 5 6 7 ?_
    refine J.j λK6 hK6=>J.V<|J.g λK7 hK7=>J.f (qAH (i:=k) O O O qAe z9_ hl (by omega)) O<|J.f (qAJ O O b9_ (m:=F) (by simp) (hl.elem (qAQ (qAc [] (show k<ls.length by omega))))) rfl<|J.b rfl<|J.c hK7<|J.a0 0 4 5 6 7 ?_
    refine J.g λK8 hK8=>J.b O<|J.f (qAl u9_ O O) O<|J.f ((qAb O O O).no (by have:=h16 _ (List.mem_of_getElem? (qAc [] (show k<ls.length by omega)));omega)) O<|J.c hK8<|J.a0 0 5 6 7 13 ?_
    refine J.a5 ?_
    refine J.b7<|J.a6<|J.A (J.H hK6 ?_)
    refine J.O 0 5 6 7 ?_
    exact J.L<|J.f ((qAO O O O (by omega)).nat (k+1) (by omega)) O<|J.b O<|J.a7<|J.A<|J.a8 (k+1) (λx (hx:x≤n∧n-x<n-k)=>hI0 x hx.1 hx.2) ⟨by omega,by omega⟩ ⟨O,O,O,O,trivial⟩ (λ_ h=>h)
  refine J.b4<|J.a1<|J.a1<|J.b5 ?_
  refine J.A (J.H hK2 ?_)
  refine J.u 0 ?_
  refine J.g λK9 hK9=>J.b O<|J.f (qAP qAe O O) O<|J.f ((qAY O O O).yes (by omega)) O<|J.b O<|J.c hK9<|J.u 2 ?_
  exact J.D<|J.M hw0 O () O trivial [0] O (by decide)
theorem qLi(F:Hp)(hK:KF F)(o:List UInt8)(leaf:Nat)(d:List UInt8)(A:Option Addr)(c:Nat)(sig:List (List UInt8))(hl:Sl F 1 A 35 c (qAG sig))(ho:o.length≤1048576)(h1:leaf<4611686018427387904)(hd:d.length=16)(hsg: ∀s∈sig,s.length=16):
    Ct prog 161 [Str o,I leaf,Str d,.slice A 35 c] [F] (λ_:Unit=> .tuple #[Str (Wo.publicOf o leaf (Wo.ends o leaf (Wo.digs d) sig 35)),I 0]) (λ_=>True) (λ_=> [F]):=by
  have hdl:(Wo.digs d).length=35:=by rw [Wo.digs_length,hd]
  have hd15:=Wo.digs_le d (by omega)
  have hlen:sig.length=35:=by have:=hl.1;simpa [qAG] using this
  refine Ct.walk func161 rfl ntmps161 rfl (λw0 hw0=>?_)
  change J _ [(0,_),(1,_),(2,_),(3,_)] _ _ _
  refine J.g λK1 hK1=>J.p 2 O<|J.c hK1<|J.O 0 1 2 3 ?_
  refine J.g λK2 hK2=>J.b O<|J.k (qAA O O ent203 (Ct.use (λF' hF=>qFn F' d hd))) O ?_
  rintro⟨A17,c17,m17⟩ h17
  try dsimp only at h17
  change J _ ((17,.tuple #[.slice A17 35 c17,I 0])::_) _ [F,m17] _
  refine J.b O<|J.f (qAa O O O) O<|J.f (qAa O O O) O<|J.p 2 O<|J.c hK2<|J.a0 0 1 3 10 11 ?_
  refine J.j λK3 hK3=>J.V<|J.g λK4 hK4=>J.b O<|J.f ((qAb O O O).no (by decide)) O<|J.b O<|J.c hK4<|J.b8 0 1 3 10 11 20 ?_
  refine J.a5 ?_
  refine J.g λK5 hK5=>J.b O<|J.k (qAA O O ent204 (Ct.use0 (λF' hF=>qMU F' A 35 c sig (hl.mono (hF _ (by simp))) hsg rfl))) rfl λg26 _=>J.f ((qAt rfl rfl).as (v':= .bool false) rfl) rfl<|J.b rfl<|J.c hK5<|J.a0 0 1 3 10 24 ?_
  refine J.a5 ?_
  refine J.b7<|J.a6<|J.A (J.H hK3 ?_)
  refine J.O 0 1 3 10 ?_
  refine J.j λK6 hK6=>J.d5 [0,1,2] [F,m17,(λ_=>none)] O (by decide)<|J.L<|J.b O<|J.c hK6<|J.a0 0 1 3 10 12 ?_
  refine J.j λK7 hK7=>J.g λK8 hK8=>J.b O<|J.f (qAP qF0 O O) O<|J.b O<|J.c hK8<|J.c2 0 1 3 12 28 29 30 ?_
  refine J.V<|J.b6 (X:=Nat×Option Addr×Nat×Hp) (λx=> [(0,Str o),(1,I leaf),(3,.slice A 35 c),(12,.slice x.2.1 x.1 x.2.2.1),(28,.slice A17 35 c17),(29,I ((35:Nat):Int)),(30,I x.1)]) (λx=> [F,m17,x.2.2.2]) (λx=>x.1≤35∧Row x.2.2.2 9 1 x.2.1 x.1 x.2.2.1 (qAG (Wo.ends o leaf (Wo.digs d) sig x.1))) (λx=>35-x.1) (0,none,0,λ_=>none) (⟨Nat.zero_le _,by rw [Wo.ends0];exact qBU.nil⟩) ⟨rfl,rfl,rfl,rfl,rfl,rfl,rfl,trivial⟩ (λ_ h=>h) ?_
  rintro⟨k,A6,c6,m⟩ ⟨hk,hrow⟩ I0 hI0
  dsimp only at hk hrow⊢
  have hdk:=hd15 k
  refine J.g λK9 hK9=>J.f (qAT O O O) O<|J.c hK9<|J.d1 0 1 3 12 28 29 30 31 ?_
  refine J.j λK10 hK10=>J.a2 O (λh31=>?_) (λh31=>?_)
  ·
    refine J.W hK10<|J.c2 0 1 3 12 28 29 30 ?_
    refine J.j λK11 hK11=>J.V<|J.g λK12 hK12=>J.b O<|J.f (qAH (i:=k) O O O qF0 z3_ h17.sl (by omega)) O<|J.f (qAJ O O b3_ (m:=m17) (by simp) (h17.sl.elem (qIb (k:=k) (by omega)))) rfl<|J.p 2 rfl<|J.c hK12<|J.e1 0 1 3 12 13 14 28 29 30 ?_
    refine J.L<|J.p 7 O<|J.f (qAH (i:=k) O O O qAe z9_ hl (by omega)) O<|J.f (qAJ O O b9_ (m:=F) (by simp) (hl.elem (qAQ (qAc [] (show k<sig.length by omega))))) rfl<|J.k (qAA rfl rfl ent96 (Ct.use0 (λF' hF=>qJR F' (hK.mono (hF _ (by simp))) o leaf k ho h1 (by omega) (sig.getD k []) (by have:=hsg _ (List.mem_of_getElem? (qAc [] (show k<sig.length by omega)));omega) ((((Wo.digs d).getD k 0):Nat):Int) 15 ((Wo.digs d).getD k 0) (15-((Wo.digs d).getD k 0)) (by omega) (by omega) (by omega)))) rfl λg44 _=>J.k (qAF (l:= [.tmp 44]) (xs:= [[Str ((Wo.walk o leaf k ((Wo.digs d).getD k 0) (sig.getD k []) (15-((Wo.digs d).getD k 0))))]]) rfl rfl rfl rfl qAe el9 rfl (by decide) (by decide) (by simp)) rfl λg45 _=>?_
    change J _ _ _ [F,m17,m,blk g45 [Str ((Wo.walk o leaf k ((Wo.digs d).getD k 0) (sig.getD k []) (15-((Wo.digs d).getD k 0))))] 9] _
    refine J.k (qAW (i:=2) (m2:=blk g45 [Str (Wo.walk o leaf k ((Wo.digs d).getD k 0) (sig.getD k []) (15-((Wo.digs d).getD k 0)))] 9) (ys:=qAG [(Wo.walk o leaf k ((Wo.digs d).getD k 0) (sig.getD k []) (15-((Wo.digs d).getD k 0)))]) O O O qAe qAe el9 O hrow (by simp) (qAk (q:=True) (xs:=qAG [(Wo.walk o leaf k ((Wo.digs d).getD k 0) (sig.getD k []) (15-((Wo.digs d).getD k 0)))]) rfl (by simp [qAG])).sl (qCL _) (by omega) (by omega)) rfl ?_
    rintro⟨A46,c46,m46⟩ h46
    try dsimp only at h46
    change J _ ((46,.slice A46 (k+1) c46)::_) _ [_,_,m46,blk g45 [Str (Wo.walk o leaf k ((Wo.digs d).getD k 0) (sig.getD k []) (15-((Wo.digs d).getD k 0)))] 9] _
    rw [←qBm,←Wo.ends_succ] at h46
    refine J.c8 [0,1,2] [F,m17,m46] O (by decide)<|J.b O<|J.a7<|J.a6<|J.A (J.H hK11 ?_)
    refine J.c2 0 1 3 12 28 29 30 ?_
    exact J.L<|J.f ((qAO O O O (by omega)).nat (k+1) (by omega)) O<|J.b O<|J.a7<|J.A<|J.a8 (k+1,A46,c46,m46) (λx (hx:_∧35-x.1<35-k)=>hI0 x hx.1 hx.2) ⟨⟨by dsimp only;omega,h46⟩,by dsimp only;omega⟩ ⟨O,O,O,O,O,O,O,trivial⟩ (λ_ h=>h)
  refine J.b4<|J.a1<|J.a1<|J.b5 ?_
  refine J.A (J.H hK7 ?_)
  refine J.G 0 1 12 ?_
  refine J.j λK13 hK13=>?_
  have hk35:k=35:=by omega
  subst hk35
  refine J.L<|J.p 3 O<|J.k (qAA O O ent98 (Ct.use0 (λF' hF=>qGC F' (hK.mono (hF _ (by simp))) o leaf ho h1 A6 35 c6 (Wo.ends o leaf (Wo.digs d) sig 35) (hrow.sl.mono (hF _ (by simp))) (Wo.ends_small o leaf (Wo.digs d) sig 35 (λs hs=>Nat.le_of_eq (hsg s hs))) (by decide)))) rfl λg51 _=>J.p 2 rfl<|J.c hK13<|J.E 8 9 ?_
  exact J.D<|J.b2 hw0 (λ_ _ h=>h) (qB2 O O O) (qAn () O trivial [0] O (by decide))
end Go.Proofs.YtllnfioplpipiaaGreatDoor
