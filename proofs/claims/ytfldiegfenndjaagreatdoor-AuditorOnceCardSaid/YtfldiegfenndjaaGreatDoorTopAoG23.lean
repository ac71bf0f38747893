/- A part of the proof. -/
import Derived.Test.YtfldiegfenndjaaGreatDoorTopAoG8
import Derived.Test.YtfldiegfenndjaaGreatDoorTopAoG18
set_option linter.unusedSimpArgs false
set_option linter.unusedVariables false
namespace Go.Proofs.YtfldiegfenndjaaGreatDoor
open Go Go.Fw Go.Proofs.Tryz
set_option maxRecDepth 100000
set_option maxHeartbeats 1000000
namespace Wo
def place(leaf chain step:Nat):List UInt8:= [UInt8.ofNat (leaf/2^24),UInt8.ofNat (leaf/2^16),UInt8.ofNat (leaf/2^8),UInt8.ofNat leaf,UInt8.ofNat chain,UInt8.ofNat step]
def step(opn:List UInt8)(leaf chain k:Nat)(x:List UInt8):List UInt8:=Sha.tagged 2 [opn,place leaf chain k,x]
def walk(opn:List UInt8)(leaf chain a:Nat)(x:List UInt8):Nat→List UInt8
 |0=>x
 |n+1=>step opn leaf chain (a+n) (walk opn leaf chain a x n)
def secret(seed:List UInt8)(leaf chain:Nat):List UInt8:=Sha.tagged 1 [seed,place leaf chain 0]
def opn(seed:List UInt8):List UInt8:=Sha.tagged 3 [seed]
def nibs(s:List UInt8):List Nat:=s.flatMap λb=> [b.toNat/16,b.toNat%16]
def left(s:List UInt8):Nat:=(s.map λb=>30-b.toNat/16-b.toNat%16).sum
def digs(s:List UInt8):List Nat:=nibs s++ [left s/256,left s/16%16,left s%16]
def signs(seed:List UInt8)(leaf:Nat)(ds:List Nat)(k:Nat):List (List UInt8):=(List.range k).map λi=>walk (opn seed) leaf i 0 (secret seed leaf i) (ds.getD i 0)
def ends(op:List UInt8)(leaf:Nat)(ds:List Nat)(sig:List (List UInt8))(k:Nat):List (List UInt8):=(List.range k).map λi=>walk op leaf i (ds.getD i 0) (sig.getD i []) (15-ds.getD i 0)
def publicOf(op:List UInt8)(leaf:Nat)(e:List (List UInt8)):List UInt8:=Sha.tagged 4 ([op,place leaf 0 0]++e)
def tops(seed:List UInt8)(leaf:Nat)(k:Nat):List (List UInt8):=(List.range k).map λi=>walk (opn seed) leaf i 0 (secret seed leaf i) 15
def pub(seed:List UInt8)(leaf:Nat):List UInt8:=publicOf (opn seed) leaf (tops seed leaf 35)
theorem qFn(a:List UInt8)(b c d:Nat)(x:List UInt8):(step a b c d x).length=16:=Sha.tagged_length _ _
theorem secret_length(a:List UInt8)(b c:Nat):(secret a b c).length=16:=Sha.tagged_length _ _
theorem opn_length(a:List UInt8):(opn a).length=16:=Sha.tagged_length _ _
theorem walk_small(o:List UInt8)(leaf chain a:Nat)(x:List UInt8)(h:x.length≤1048576): ∀n,(walk o leaf chain a x n).length≤1048576
 |0=>h
 |n+1=>by rw [walk,qFn];decide
theorem qMm(o:List UInt8)(leaf chain a:Nat)(x:List UInt8)(h:x.length=16): ∀n,(walk o leaf chain a x n).length=16
 |0=>h
 |n+1=>qFn _ _ _ _ _
theorem qKU(o:List UInt8)(leaf chain a:Nat)(x:List UInt8)(n:Nat): ∀m,walk o leaf chain (a+n) (walk o leaf chain a x n) m=walk o leaf chain a x (n+m)
 |0=>rfl
 |m+1=>by rw [walk,qKU o leaf chain a x n m,←Nat.add_assoc,walk,Nat.add_assoc]
theorem place_length(a b c:Nat):(place a b c).length=6:=rfl
theorem nibs_snoc(s:List UInt8)(k:Nat)(h:k<s.length):nibs (s.take (k+1))=nibs (s.take k)++ [(s.getD k 0).toNat/16,(s.getD k 0).toNat%16]:=by
 unfold nibs
 rw [jO h,List.flatMap_append,jB,jC h];simp
theorem left_snoc(s:List UInt8)(k:Nat)(h:k<s.length):left (s.take (k+1))=left (s.take k)+(30-(s.getD k 0).toNat/16-(s.getD k 0).toNat%16):=by
 unfold left
 rw [jO h,jM,List.sum_append,jB,jC h];simp
theorem qJw(s:List UInt8):(nibs s).length=2*s.length:=by
 unfold nibs
 induction s with
 |nil=>rfl
 |cons a l ih=>rw [List.flatMap_cons,jA,ih];simp;omega
theorem left_le(s:List UInt8):left s≤30*s.length:=by
 unfold left
 induction s with
 |nil=>simp
 |cons a l ih=>rw [jR,List.sum_cons,jD];omega
theorem digs_length(s:List UInt8):(digs s).length=2*s.length+3:=by unfold digs;rw [jA,qJw];rfl
theorem digs_le(s:List UInt8)(h:s.length≤16)(i:Nat):(digs s).getD i 0≤15:=by
  have hl:=left_le s
  have: ∀x∈digs s,x≤15:=λx hx=>by
    unfold digs nibs at hx
    rcases List.mem_append.1 hx with hx|hx
    · obtain ⟨b,_,hb⟩:=List.mem_flatMap.1 hx
      have:=b.toNat_lt
      simp only [zH,j7,or_false] at hb
      omega
    · simp only [zH,j7,or_false] at hx
      omega
  by_cases hi:i<(digs s).length
  · rw [jB,jC hi];exact this _ (jc _)
  · rw [jB,ji (by omega)];decide
theorem signs_succ(seed:List UInt8)(leaf:Nat)(ds:List Nat)(k:Nat):signs seed leaf ds (k+1)=signs seed leaf ds k++ [walk (opn seed) leaf k 0 (secret seed leaf k) (ds.getD k 0)]:=by simp [signs,zB]
theorem ends_succ(op:List UInt8)(leaf:Nat)(ds:List Nat)(sig:List (List UInt8))(k:Nat):ends op leaf ds sig (k+1)=ends op leaf ds sig k++ [walk op leaf k (ds.getD k 0) (sig.getD k []) (15-ds.getD k 0)]:=by simp [ends,zB]
theorem tops_succ(seed:List UInt8)(leaf:Nat)(k:Nat):tops seed leaf (k+1)=tops seed leaf k++ [walk (opn seed) leaf k 0 (secret seed leaf k) 15]:=by simp [tops,zB]
theorem qM9(seed:List UInt8)(leaf:Nat)(ds:List Nat)(k i:Nat)(h:i<k):(signs seed leaf ds k).getD i []=walk (opn seed) leaf i 0 (secret seed leaf i) (ds.getD i 0):=by
 unfold signs
 rw [jB,jN,jv h];rfl
theorem tops_small(seed:List UInt8)(leaf:Nat)(k:Nat): ∀s∈tops seed leaf k,s.length≤16:=λs hs=>by
 simp only [tops,zd] at hs
 obtain ⟨i,_,rfl⟩:=hs
 rw [qMm _ _ _ _ _ (secret_length _ _ _)];exact jJ _
theorem signs_16(seed:List UInt8)(leaf:Nat)(ds:List Nat)(k:Nat): ∀s∈signs seed leaf ds k,s.length=16:=λs hs=>by
 simp only [signs,zd] at hs
 obtain ⟨i,_,rfl⟩:=hs
 rw [qMm _ _ _ _ _ (secret_length _ _ _)]
theorem ends_small(op:List UInt8)(leaf:Nat)(ds:List Nat)(sig:List (List UInt8))(k:Nat)(hg: ∀s∈sig,s.length≤16): ∀s∈ends op leaf ds sig k,s.length≤1048576:=λs hs=>by
 simp only [ends,zd] at hs
 obtain ⟨i,_,rfl⟩:=hs
 refine walk_small _ _ _ _ _ ?_ _
 by_cases h0:i<sig.length
 · rw [jB,jC h0];exact jd (hg _ (jc _)) (by decide)
 · rw [jB,ji (by omega)];decide
theorem recovers(seed:List UInt8)(leaf:Nat)(ds:List Nat)(hd: ∀i,ds.getD i 0≤15)(k:Nat):ends (opn seed) leaf ds (signs seed leaf ds k) k=tops seed leaf k:=by
 unfold ends tops
 apply List.map_congr_left
 intro i hi
 rw [List.mem_range] at hi
 rw [qM9 _ _ _ _ _ hi]
 have h:=qKU (opn seed) leaf i 0 (secret seed leaf i) (ds.getD i 0) (15-ds.getD i 0)
 rw [jn] at h
 have:=hd i
 rw [h,show ds.getD i 0+(15-ds.getD i 0)=15 by omega]
theorem qT3: ∀b:Fin 256,(UInt8.ofNat b.val&&&15).toNat=b.val%16∧(UInt8.ofNat (b.val/2^min 4 8)).toNat=b.val/16:=by decide+kernel
theorem lo_eq(b:UInt8):(b&&&15).toNat=b.toNat%16∧(UInt8.ofNat (b.toNat/2^min 4 8)).toNat=b.toNat/16:=by
 have h:=qT3 ⟨b.toNat,b.toNat_lt⟩
 simp only [UInt8.ofNat_toNat] at h
 exact h
end Wo
attribute [local irreducible] Sha.tagB Sha.tagged Wo.walk Wo.signs Wo.tops Wo.ends Wo.digs Wo.nibs Wo.left
theorem Wo.walk0(o:List UInt8)(leaf chain a:Nat)(x:List UInt8):Wo.walk o leaf chain a x 0=x:=by unfold Wo.walk;rfl
theorem Wo.walkS(o:List UInt8)(leaf chain a:Nat)(x:List UInt8)(n:Nat):Wo.step o leaf chain (a+n) (Wo.walk o leaf chain a x n)=Wo.walk o leaf chain a x (n+1):=by rw [Wo.walk]
theorem Wo.tops0(a:List UInt8)(b:Nat):Wo.tops a b 0= []:=by unfold Wo.tops;rfl
theorem Wo.signs0(a:List UInt8)(b:Nat)(d:List Nat):Wo.signs a b d 0= []:=by unfold Wo.signs;rfl
theorem Wo.ends0(a:List UInt8)(b:Nat)(d:List Nat)(s:List (List UInt8)):Wo.ends a b d s 0= []:=by unfold Wo.ends;rfl
theorem Wo.nibs0:Wo.nibs []= []:=by unfold Wo.nibs;rfl
theorem Wo.left0:Wo.left []=0:=by unfold Wo.left;rfl
theorem qQj{a b c:List UInt8}(h1:a.length≤1048576)(h2:b.length≤1048576)(h3:c.length≤1048576): [a,b,c].flatten.length≤3145728:=by simp;omega
theorem qHW(F:Hp)(leaf chain stp:Nat)(h1:leaf<4611686018427387904)(h2:chain<4611686018427387904)(h3:stp<4611686018427387904):
    Ct prog 171 [I leaf,I chain,I stp] [F] (λ_:Unit=>Str (Wo.place leaf chain stp)) (λ_=>True) (λ_=> [F]):=by
  refine Ct.walk func171 rfl ntmps171 rfl (λw0 hw0=>?_)
  refine J.g λK1 hK1=>J.b V<|J.c hK1<|J.G 0 1 2 ?_
  refine J.g λK2 hK2=>J.b V<|J.f ((qCc V V V ⟨by decide,by omega⟩).as (v':=I ((leaf/2^24:Nat):Int)) (congrArg I (by simp))) rfl<|J.f (qAr rfl rfl u3_ u5_) rfl<|J.b rfl<|J.f ((qCc rfl rfl rfl ⟨by decide,by omega⟩).as (v':=I ((leaf/2^16:Nat):Int)) (congrArg I (by simp))) rfl<|J.f (qAr rfl rfl u3_ u5_) rfl<|J.b rfl<|J.f ((qCc rfl rfl rfl ⟨by decide,by omega⟩).as (v':=I ((leaf/2^8:Nat):Int)) (congrArg I (by simp))) rfl<|J.f (qAr rfl rfl u3_ u5_) rfl<|J.b rfl<|J.f (qAr rfl rfl u3_ u5_) rfl<|J.b rfl<|J.f (qAr rfl rfl u3_ u5_) rfl<|J.b rfl<|J.f (qAr rfl rfl u3_ u5_) rfl<|J.q (qAJ (l:= [.tmp 9,.tmp 12,.tmp 15,.tmp 17,.tmp 19,.tmp 21]) (xs:= [[B8 (UInt8.ofNat (leaf/2^24))],[B8 (UInt8.ofNat (leaf/2^16))],[B8 (UInt8.ofNat (leaf/2^8))],[B8 (UInt8.ofNat leaf)],[B8 (UInt8.ofNat chain)],[B8 (UInt8.ofNat stp)]]) rfl rfl rfl rfl qBm el5 rfl (by decide) (by decide) (by simp)) rfl λg22 _=>J.f (qCU rfl rfl qBm u5_ u9_ (m:=blk g22 [B8 (UInt8.ofNat (leaf/2^24)),B8 (UInt8.ofNat (leaf/2^16)),B8 (UInt8.ofNat (leaf/2^8)),B8 (UInt8.ofNat leaf),B8 (UInt8.ofNat chain),B8 (UInt8.ofNat stp)] 5) (by simp) (slB (Wo.place leaf chain stp) rfl)) rfl<|J.b rfl<|J.c hK2<|J.A 6 ?_
  exact J.D<|J.Z hw0 V () V trivial [0] V (by decide)
theorem qHI(F:Hp)(hK:KF F)(seed:List UInt8)(hs:seed.length≤1048576):Ct prog 70 [Str seed] [F] (λ_:Unit=>Str (Wo.opn seed)) (λ_=>True) (λ_=> [F]):=by
 refine Ct.walk func70 rfl ntmps70 rfl (λw0 hw0=>?_)
 refine J.g λK1 hK1=>J.b V<|J.c hK1<|J.A 0 ?_
 refine J.g λK2 hK2=>J.b V<|J.q (qAJ (l:= [.tmp 3]) (xs:= [[Str (seed)]]) V V V V qAh el9 V (by decide) (by decide) (by simp)) rfl λg4 _=>J.q (qAB rfl rfl ent44 (Ct.use0 (λF' hF=>qA7 F' (hK.mono (hF _ (by simp))) 3 (some ⟨g4,0,none⟩) 1 1 [seed] ((slS [seed] rfl).mono (hF (blk g4 (([seed]:List (List UInt8)).map λs=>Str s) 9) (by simp))) (by simp [Wo.place_length];omega) (by decide)))) rfl λg5 _=>J.b rfl<|J.c hK2<|J.A 2 ?_
 exact J.D<|J.Z hw0 V () V trivial [0] V (by decide)
theorem qJb(F:Hp)(hK:KF F)(o:List UInt8)(leaf chain:Nat)(ho:o.length≤1048576)(h1:leaf<4611686018427387904)(h2:chain<4611686018427387904)(x:List UInt8)(hx:x.length≤1048576)(from' to':Int)(a n:Nat)(ha:(a:Int)=max from' 0)(ha2:a<4611686018427387904)(hn:(n:Int)=max (min to' 15-a) 0):
    Ct prog 125 [Str o,I leaf,I chain,I from',I to',Str x] [F] (λ_:Unit=>Str (Wo.walk o leaf chain a x n)) (λ_=>True) (λ_=> [F]):=by
  refine Ct.walk func125 rfl ntmps125 rfl (λw0 hw0=>?_)
  refine J.g λK1 hK1=>J.b V<|J.c hK1<|J.b5 0 1 2 3 4 5 ?_
  refine J.k λK2 hK2=>J.g λK3 hK3=>J.b V<|J.f ((qGw V V V).nat (a+0) (by omega)) V<|J.b V<|J.c hK3<|J.b5 0 1 2 4 5 13 ?_
  refine J.a1<|J.c1 (λk:Nat=> [(0,Str o),(1,I leaf),(2,I chain),(4,I to'),(5,Str (Wo.walk o leaf chain a x k)),(13,I ((a+k:Nat):Int))]) (λ_=> [F]) (λk=>k≤n) (λk=>n-k) 0 (jF _) ⟨V,V,V,V,by rw [Wo.walk0];rfl,rfl,trivial⟩ (λ_ h=>h) ?_
  intro k hk I0 hI0
  have hw:=Wo.walk_small o leaf chain a x hx k
  refine J.k λK4 hK4=>J.g λK5 hK5=>J.j 2 V<|J.f (qDq V V V) V<|J.f (qAT V V V) V<|J.c hK5<|J.c5 0 1 2 4 5 13 19 ?_
  refine J.a4 V (λh19=>?_) (λh19=>?_)
  ·
    refine J.W hK4<|J.b5 0 1 2 4 5 13 ?_
    refine J.k λK6 hK6=>J.a1<|J.H<|J.j 4 V<|J.q (qAB V V ent171 (qHW F leaf chain (a+k) h1 h2 (by omega))) V λg26 _=>J.b V<|J.q (qAJ (l:= [.tmp 22,.tmp 26,.tmp 27]) (xs:= [[Str (o)],[Str (Wo.place leaf chain (a+k))],[Str ((Wo.walk o leaf chain a x k))]]) V V V V qAh el9 V (by decide) (by decide) (by simp)) rfl λg28 _=>J.q (qAB rfl rfl ent44 (Ct.use0 (λF' hF=>qA7 F' (hK.mono (hF _ (by simp))) 2 (some ⟨g28,0,none⟩) 3 3 [o,Wo.place leaf chain (a+k),(Wo.walk o leaf chain a x k)] ((slS [o,Wo.place leaf chain (a+k),(Wo.walk o leaf chain a x k)] rfl).mono (hF (blk g28 (([o,Wo.place leaf chain (a+k),(Wo.walk o leaf chain a x k)]:List (List UInt8)).map λs=>Str s) 9) (by simp))) (by have:=qQj ho (show(Wo.place leaf chain (a+k)).length≤1048576 by rw [Wo.place_length];decide) hw;omega) (by decide)))) rfl λg29 _=>J.b rfl<|J.a8<|J.b0<|J.u (J.M hK6 ?_)
    refine J.b5 0 1 2 4 5 13 ?_
    exact J.c9 [0] [F] V (by decide)<|J.H<|J.b V<|J.f ((qAQ V V V (by omega)).nat (a+(k+1)) (by omega)) V<|J.b V<|J.a8<|J.u<|J.a9 (k+1) (λx (hx:x≤n∧n-x<n-k)=>hI0 x hx.1 hx.2) ⟨by omega,by omega⟩ ⟨V,V,V,V,by rw [←Wo.walkS];rfl,rfl,trivial⟩ (λ_ h=>h)
  refine J.b8<|J.a6<|J.a6<|J.b9 ?_
  refine J.u (J.M hK2 ?_)
  refine J.A 5 ?_
  refine J.k λK7 hK7=>?_
  have hkn:n=k:=by omega
  subst hkn
  refine J.H<|J.j 2 V<|J.c hK7<|J.A 12 ?_
  exact J.D<|J.Z hw0 V () V trivial [0] V (by decide)
theorem qGi(F:Hp)(hK:KF F)(seed:List UInt8)(leaf chain:Nat)(hs:seed.length≤1048576)(h1:leaf<4611686018427387904)(h2:chain<4611686018427387904):
    Ct prog 126 [Str seed,I leaf,I chain] [F] (λ_:Unit=>Str (Wo.secret seed leaf chain)) (λ_=>True) (λ_=> [F]):=by
  refine Ct.walk func126 rfl ntmps126 rfl (λw0 hw0=>?_)
  refine J.g λK1 hK1=>J.b V<|J.c hK1<|J.G 0 1 2 ?_
  refine J.g λK2 hK2=>J.j 3 V<|J.q (qAB V V ent171 (qHW F leaf chain 0 h1 h2 (by decide))) V λg10 _=>J.q (qAJ (l:= [.tmp 7,.tmp 10]) (xs:= [[Str (seed)],[Str (Wo.place leaf chain 0)]]) V V V V qAh el9 V (by decide) (by decide) (by simp)) rfl λg11 _=>J.q (qAB rfl rfl ent44 (Ct.use0 (λF' hF=>qA7 F' (hK.mono (hF _ (by simp))) 1 (some ⟨g11,0,none⟩) 2 2 [seed,Wo.place leaf chain 0] ((slS [seed,Wo.place leaf chain 0] rfl).mono (hF (blk g11 (([seed,Wo.place leaf chain 0]:List (List UInt8)).map λs=>Str s) 9) (by simp))) (by simp [Wo.place_length];omega) (by decide)))) rfl λg12 _=>J.b rfl<|J.c hK2<|J.A 6 ?_
  exact J.D<|J.Z hw0 V () V trivial [0] V (by decide)
theorem qGj(F:Hp)(hK:KF F)(o:List UInt8)(leaf:Nat)(ho:o.length≤1048576)(h1:leaf<4611686018427387904)(A:Option Addr)(n c:Nat)(e:List (List UInt8))(he:Sl F 1 A n c (qAH e))(hsm: ∀s∈e,s.length≤1048576)(hn:n≤1024):
    Ct prog 127 [Str o,I leaf,.slice A n c] [F] (λ_:Unit=>Str (Wo.publicOf o leaf e)) (λ_=>True) (λ_=> [F]):=by
  have hlen:e.length=n:=by have:=he.1;simpa [qAH] using this
  have hfl:=Mk.flat_small hsm
  rw [hlen] at hfl
  refine Ct.walk func127 rfl ntmps127 rfl (λw0 hw0=>?_)
  refine J.g λK1 hK1=>J.b V<|J.c hK1<|J.G 0 1 2 ?_
  refine J.g λK2 hK2=>J.j 2 V<|J.q (qAB V V ent171 (qHW F leaf 0 0 h1 (by decide) (by decide))) V λg9 _=>J.q (qAJ (l:= [.tmp 7,.tmp 9]) (xs:= [[Str (o)],[Str (Wo.place leaf 0 0)]]) V V V V qAh el9 V (by decide) (by decide) (by simp)) rfl λg10 _=>J.b rfl<|J.q (qAa (i:=1) (m2:=F) rfl rfl rfl qAh qAh el9 rfl (qCK (q:=True) (qAH [o,Wo.place leaf 0 0]) (n:=2) rfl (by simp [qAH]) rfl) (by simp) he (qC5 _) (by omega) (by omega)) rfl ?_
  rintro⟨A12,c12,m12⟩ h12
  try dsimp only at h12
  rw [←qB5] at h12
  refine J.q (qAB V V ent44 (Ct.use0 (λF' hF=>qA7 F' (hK.mono (hF _ (by simp))) 4 A12 (2+n) c12 ([o,Wo.place leaf 0 0]++e) (h12.sl.mono (hF _ (by simp))) (by simp only [zc,jA,jW,jw,Wo.place_length,jH];omega) (by omega)))) rfl λg13 _=>J.b rfl<|J.c hK2<|J.A 6 ?_
  exact J.D<|J.Z hw0 V () V trivial [0] V (by decide)
theorem qRR(F:Hp)(hK:KF F)(seed:List UInt8)(leaf:Nat)(hs:seed.length≤1048576)(h1:leaf<4611686018427387904):
    Ct prog 68 [Str seed,I leaf] [F] (λ_:Unit=>Str (Wo.pub seed leaf)) (λ_=>True) (λ_=> [F]):=by
  refine Ct.walk func68 rfl ntmps68 rfl (λw0 hw0=>?_)
  refine J.g λK1 hK1=>J.b V<|J.c hK1<|J.E 0 1 ?_
  refine J.g λK2 hK2=>J.b V<|J.q (qAB V V ent70 (qHI F hK seed hs)) V λg9 _=>J.b V<|J.c hK2<|J.G 0 1 5 ?_
  refine J.g λK3 hK3=>J.b V<|J.c hK3<|J.O 0 1 5 6 ?_
  refine J.k λK4 hK4=>J.k λK5 hK5=>J.d4 [0,1] [F,(λ_=>none)] V (by decide)<|J.H<|J.b V<|J.c hK5<|J.a0 0 1 5 6 10 ?_
  refine J.a1<|J.c1 (X:=Nat×Option Addr×Nat×Hp) (λx=> [(0,Str seed),(1,I leaf),(5,Str (Wo.opn seed)),(6,.slice x.2.1 x.1 x.2.2.1),(10,I x.1)]) (λx=> [F,x.2.2.2]) (λx=>x.1≤35∧Row x.2.2.2 9 1 x.2.1 x.1 x.2.2.1 (qAH (Wo.tops seed leaf x.1))) (λx=>35-x.1) (0,none,0,λ_=>none) (⟨jF _,by rw [Wo.tops0];exact qBc.nil⟩) ⟨rfl,rfl,rfl,rfl,rfl,trivial⟩ (λ_ h=>h) ?_
  rintro⟨k,A6,c6,m⟩ ⟨hk,hrow⟩ I0 hI0
  dsimp only at hk hrow⊢
  refine J.g λK6 hK6=>J.f (qAT V V V) V<|J.c hK6<|J.b5 0 1 5 6 10 11 ?_
  refine J.k λK7 hK7=>J.a4 V (λh11=>?_) (λh11=>?_)
  ·
    refine J.W hK7<|J.a0 0 1 5 6 10 ?_
    refine J.k λK8 hK8=>J.a1<|J.g λK9 hK9=>J.j 2 V<|J.c hK9<|J.b5 0 1 5 6 7 10 ?_
    refine J.H<|J.j 7 V<|J.q (qAB V V ent126 (Ct.use0 (λF' hF=>qGi F' (hK.mono (hF _ (by simp))) seed leaf k hs h1 (by omega)))) rfl λg20 _=>J.q (qAB rfl rfl ent125 (Ct.use0 (λF' hF=>qJb F' (hK.mono (hF _ (by simp))) (Wo.opn seed) leaf k (by rw [Wo.opn_length];decide) h1 (by omega) (Wo.secret seed leaf k) (by rw [Wo.secret_length];decide) 0 15 0 15 (by omega) (by omega) (by omega)))) rfl λg21 _=>J.q (qAJ (l:= [.tmp 21]) (xs:= [[Str ((Wo.walk (Wo.opn seed) leaf k 0 (Wo.secret seed leaf k) 15))]]) rfl rfl rfl rfl qAh el9 rfl (by decide) (by decide) (by simp)) rfl λg22 _=>J.q (qAa (i:=1) (m2:=blk g22 [Str (Wo.walk (Wo.opn seed) leaf k 0 (Wo.secret seed leaf k) 15)] 9) rfl rfl rfl qAh qAh el9 rfl hrow (by simp) (qAs (q:=True) (xs:=qAH [(Wo.walk (Wo.opn seed) leaf k 0 (Wo.secret seed leaf k) 15)]) rfl (by simp [qAH])).sl (qC5 _) (by omega) (by omega)) rfl ?_
    rintro⟨A23,c23,m23⟩ h23
    try dsimp only at h23
    rw [←qB5,←Wo.tops_succ] at h23
    refine J.c9 [0,1] [F,m23] V (by decide)<|J.b V<|J.a8<|J.b0<|J.u (J.M hK8 ?_)
    refine J.a0 0 1 5 6 10 ?_
    exact J.H<|J.f ((qAQ V V V (by omega)).nat (k+1) (by omega)) V<|J.b V<|J.a8<|J.u<|J.a9 (k+1,A23,c23,m23) (λx (hx:_∧35-x.1<35-k)=>hI0 x hx.1 hx.2) ⟨⟨by dsimp only;omega,h23⟩,by dsimp only;omega⟩ ⟨V,V,V,V,V,trivial⟩ (λ_ h=>h)
  refine J.b8<|J.a6<|J.a6<|J.b9 ?_
  refine J.u (J.M hK4 ?_)
  refine J.G 1 5 6 ?_
  refine J.k λK10 hK10=>?_
  have hk35:k=35:=by omega
  subst hk35
  refine J.H<|J.j 3 V<|J.q (qAB V V ent127 (Ct.use0 (λF' hF=>qGj F' (hK.mono (hF _ (by simp))) (Wo.opn seed) leaf (by rw [Wo.opn_length];decide) h1 A6 35 c6 (Wo.tops seed leaf 35) (hrow.sl.mono (hF _ (by simp))) (λs hs=>jd (Wo.tops_small seed leaf 35 s hs) (by decide)) (by decide)))) rfl λg28 _=>J.b rfl<|J.c hK10<|J.A 4 ?_
  exact J.D<|J.Z hw0 V () V trivial [0] V (by decide)
theorem qGH(F:Hp)(s:List UInt8)(hs:s.length=16):
    Ct prog 143 [Str s] [F] (λx:Option Addr×Nat×Hp=> .tuple #[.slice x.1 35 x.2.1,I 0]) (λx=>Row x.2.2 3 1 x.1 35 x.2.1 (qDT (Wo.digs s))) (λx=> [F,x.2.2]):=by
  have hll:=Wo.left_le s
  refine Ct.walk func143 rfl ntmps143 rfl (λw0 hw0=>?_)
  refine J.g λK1 hK1=>J.j 2 V<|J.c hK1<|J.A 0 ?_
  refine J.k λK2 hK2=>J.g λK3 hK3=>J.b V<|J.f (qAg u9_ V V) V<|J.f ((qAU V V V).no (by omega)) V<|J.c hK3<|J.E 0 12 ?_
  refine J.a5 ?_
  refine J.W hK2<|J.A 0 ?_
  refine J.g λK4 hK4=>J.b V<|J.c hK4<|J.E 0 4 ?_
  refine J.k λK5 hK5=>J.d4 [0,1] [F,(λ_=>none)] V (by decide)<|J.H<|J.b V<|J.c hK5<|J.G 0 4 5 ?_
  refine J.k λK6 hK6=>J.g λK7 hK7=>J.b V<|J.f (qAg u9_ V V) V<|J.b V<|J.c hK7<|J.a0 0 4 5 14 15 ?_
  refine J.a1<|J.c1 (X:=Nat×Option Addr×Nat×Hp) (λx=> [(0,Str s),(4,.slice x.2.1 (2*x.1) x.2.2.1),(5,I ((Wo.left (s.take x.1):Nat):Int)),(14,I s.length),(15,I x.1)]) (λx=> [F,x.2.2.2]) (λx=>x.1≤16∧Row x.2.2.2 3 1 x.2.1 (2*x.1) x.2.2.1 (qDT (Wo.nibs (s.take x.1)))) (λx=>16-x.1) (0,none,0,λ_=>none) (⟨jF _,by rw [zx,Wo.nibs0];exact qBc.nil⟩) ⟨rfl,rfl,by rw [zx,Wo.left0];rfl,rfl,rfl,trivial⟩ (λ_ h=>h) ?_
  rintro⟨k,A4,c4,m⟩ ⟨hk,hrow⟩ I0 hI0
  dsimp only at hk hrow⊢
  have hlk:=Wo.left_le (s.take k)
  rw [jE] at hlk
  refine J.g λK8 hK8=>J.f (qAT V V V) V<|J.c hK8<|J.b5 0 4 5 14 15 16 ?_
  refine J.k λK9 hK9=>J.a4 V (λh16=>?_) (λh16=>?_)
  ·
    refine J.W hK9<|J.a0 0 4 5 14 15 ?_
    refine J.k λK10 hK10=>J.a1<|J.g λK11 hK11=>J.j 2 V<|J.c hK11<|J.b5 0 4 5 6 14 15 ?_
    refine J.k λK12 hK12=>?_
    have hk16:k<16:=by omega
    have hb8:=(s.getD k 0).toNat_lt
    refine J.b7 [F,m] [] (.y 0 (.y 1 (.y 2 (.y 3 (.y 4 (.y 5 (.y 6 (.y 7 (.y 8 (.y 9 (.y 10 (.y 11 .nil)))))))))))) Tryz.wide (by decide+kernel) (by simp) ?_
    refine J.L ?_
    refine J.L ?_
    refine J.p V (qBK u9_ V V V (qAd 0 (by omega))) V V<|J.p V (qJq V V V) V V<|J.p V ((qBO V V u5_ u3_).as (v':=I (((s.getD k 0).toNat/16:Nat):Int)) (congrArg (λn:Nat=>I (n:Int)) (Wo.lo_eq (s.getD k 0)).2)) V V<|J.L ?_
    refine J.L ?_
    refine J.p V (qBK u9_ V V V (qAd 0 (by omega))) V V<|J.p V (qF2 (b:=15) V V V) V V<|J.p V ((qBO V V u5_ u3_).as (v':=I (((s.getD k 0).toNat%16:Nat):Int)) (congrArg (λn:Nat=>I (n:Int)) (Wo.lo_eq (s.getD k 0)).1)) V V<|J.p V (qD2 (l:= [.tmp 22,.tmp 27]) V V V underlying287 el3 zeroValue287 V V (by simp [Value.cells]) (r:= [(s.getD k 0).toNat/16,(s.getD k 0).toNat%16].map λx:Nat=>I (x:Int)) rfl) rfl rfl<|J.L ?_
    refine J.b3<|J.u (J.M hK12 ?_)
    refine J.c5 0 4 5 14 15 28 29 ?_
    refine J.a1<|J.c1 (X:=Nat×Option Addr×Nat×Hp) (λx=> [(0,Str s),(4,.slice x.2.1 (2*k+x.1) x.2.2.1),(5,I ((Wo.left (s.take k)+(([(s.getD k 0).toNat/16,(s.getD k 0).toNat%16].take x.1).map (15- ·)).sum:Nat):Int)),(14,I s.length),(15,I k),(28,.agg ([(s.getD k 0).toNat/16,(s.getD k 0).toNat%16].map λx:Nat=>I (x:Int)).toArray),(29,I x.1)]) (λx=> [F,x.2.2.2]) (λx=>x.1≤2∧Row x.2.2.2 3 1 x.2.1 (2*k+x.1) x.2.2.1 (qDT ((Wo.nibs (s.take k))++ [(s.getD k 0).toNat/16,(s.getD k 0).toNat%16].take x.1))) (λx=>2-x.1) (0,A4,c4,m) (⟨jF _,by rw [zx,jS];exact hrow⟩) ⟨rfl,rfl,rfl,rfl,rfl,rfl,rfl,trivial⟩ (λ_ h=>h) ?_
    clear hrow
    rintro⟨j,A4,c4,m⟩ ⟨hj,hrow⟩ I2 hI2
    dsimp only at hj hrow⊢
    refine J.g λK13 hK13=>J.f (qAT V V V) V<|J.c hK13<|J.d6 0 4 5 14 15 28 29 30 ?_
    refine J.k λK14 hK14=>J.a4 V (λh30=>?_) (λh30=>?_)
    ·
      refine J.W hK14<|J.c5 0 4 5 14 15 28 29 ?_
      refine J.k λK15 hK15=>J.a1<|J.k λK16 hK16=>?_
      have hj2:j<2:=by omega
      have hsj:(([(s.getD k 0).toNat/16,(s.getD k 0).toNat%16].take (j+1)).map (15- ·)).sum=(([(s.getD k 0).toNat/16,(s.getD k 0).toNat%16].take j).map (15- ·)).sum+(15-([(s.getD k 0).toNat/16,(s.getD k 0).toNat%16].getD j 0)):=by match j,hj2 with|0,_=>simp|1,_=>simp
      have hdl:([(s.getD k 0).toNat/16,(s.getD k 0).toNat%16].getD j 0)≤15:=by match j,hj2 with|0,_=>(show(s.getD k 0).toNat/16≤15;omega)|1,_=>(show(s.getD k 0).toNat%16≤15;omega)
      have hsl:(([(s.getD k 0).toNat/16,(s.getD k 0).toNat%16].take j).map (15- ·)).sum≤15*j:=by match j,hj2 with|0,_=>simp|1,_=>simp
      refine J.H<|J.f (qHd (i:=j) (v:=I ((([(s.getD k 0).toNat/16,(s.getD k 0).toNat%16].getD j 0):Nat):Int)) V V V underlying287 z3_ b3_ (by omega) (by rw [Nat.mul_one];match j,hj2 with|0,_=>rfl|1,_=>rfl)) rfl<|J.b rfl<|J.c hK16<|J.d6 0 4 5 8 14 15 28 29 ?_
      refine J.g λK17 hK17=>J.j 2 V<|J.q (qAJ (l:= [.tmp 33]) (xs:= [[I ((([(s.getD k 0).toNat/16,(s.getD k 0).toNat%16].getD j 0):Nat):Int)]]) V V V V qOr el3 V (by decide) (by decide) (by simp)) rfl λg34 _=>J.q (qAa (i:=1) (m2:=blk g34 (([([(s.getD k 0).toNat/16,(s.getD k 0).toNat%16].getD j 0)]:List Nat).map λx:Nat=>I (x:Int)) 3) rfl rfl rfl qOr qOr el3 rfl hrow (by simp) (slN [([(s.getD k 0).toNat/16,(s.getD k 0).toNat%16].getD j 0)] rfl) (qKu _) (by omega) (by omega)) rfl ?_
      rintro⟨A35,c35,m35⟩ h35
      try dsimp only at h35
      rw [←qIr] at h35
      refine J.b V<|J.c hK17<|J.d6 0 4 5 8 14 15 28 29 ?_
      refine J.c9 [0,1] [F,m35] V (by decide)<|J.H<|J.j 2 V<|J.f ((qAn V V V (by omega)).as (v':=I ((15-([(s.getD k 0).toNat/16,(s.getD k 0).toNat%16].getD j 0):Nat):Int)) (congrArg I (by omega))) V<|J.f ((qAQ V V V (by omega)).as (v':=I ((Wo.left (s.take k)+(([(s.getD k 0).toNat/16,(s.getD k 0).toNat%16].take (j+1)).map (15- ·)).sum:Nat):Int)) (congrArg I (by rw [hsj];omega))) rfl<|J.b rfl<|J.a8<|J.b0<|J.u (J.M hK15 ?_)
      refine J.c5 0 4 5 14 15 28 29 ?_
      exact J.H<|J.f ((qAQ V V V (by omega)).nat (j+1) (by omega)) V<|J.b V<|J.a8<|J.u<|J.a9 (j+1,A35,c35,m35) (λx (hx:_∧2-x.1<2-j)=>hI2 x hx.1 hx.2) ⟨⟨by dsimp only;omega,by dsimp only;rw [show [(s.getD k 0).toNat/16,(s.getD k 0).toNat%16].take (j+1)= [(s.getD k 0).toNat/16,(s.getD k 0).toNat%16].take j++ [([(s.getD k 0).toNat/16,(s.getD k 0).toNat%16].getD j 0)] by match j,hj2 with|0,_=>rfl|1,_=>rfl,←jT];exact h35⟩,by dsimp only;omega⟩ ⟨rfl,rfl,rfl,rfl,rfl,rfl,rfl,trivial⟩ (λ_ h=>h)
    refine J.b8<|J.a6<|J.a6<|J.b9 ?_
    refine J.b0<|J.u (J.M hK10 ?_)
    refine J.a0 0 4 5 14 15 ?_
    refine J.H<|J.f ((qAQ V V V (by omega)).nat (k+1) (by omega)) V<|J.b V<|J.a8<|J.u ?_
    have hj2:j=2:=by omega
    subst hj2
    have e1:=Wo.nibs_snoc s k (by omega)
    have e2:=Wo.left_snoc s k (by omega)
    have hb8:=(s.getD k 0).toNat_lt
    have e3:(([(s.getD k 0).toNat/16,(s.getD k 0).toNat%16].take 2).map (15- ·)).sum=(15-(s.getD k 0).toNat/16)+((15-(s.getD k 0).toNat%16)+0):=rfl
    exact J.a9 (k+1,A4,c4,m) (λx (hx:_∧16-x.1<16-k)=>hI0 x hx.1 hx.2) ⟨⟨by dsimp only;omega,by dsimp only;rw [e1];exact hrow⟩,by dsimp only;omega⟩ ⟨rfl,by rw [show 2*(k+1)=2*k+2 by omega];rfl,by rw [e2];exact congrArg (λn:Nat=>some (I (n:Int))) (by rw [e3];omega),rfl,rfl,trivial⟩ (λ_ h=>h)
  refine J.b8<|J.a6<|J.a6<|J.b9 ?_
  refine J.u (J.M hK6 ?_)
  refine J.E 4 5 ?_
  refine J.k λK18 hK18=>J.k λK19 hK19=>?_
  have hk16:k=16:=by omega
  subst hk16
  rw [jV (by omega)] at hrow
  refine J.H<|J.b V<|J.c hK19<|J.G 4 5 9 ?_
  refine J.a1<|J.c1 (X:=Nat×Option Addr×Nat×Hp) (λx=> [(4,.slice x.2.1 (32+x.1) x.2.2.1),(5,I ((Wo.left s:Nat):Int)),(9,I (2-(x.1:Int)))]) (λx=> [F,x.2.2.2]) (λx=>x.1≤3∧Row x.2.2.2 3 1 x.2.1 (32+x.1) x.2.2.1 (qDT (Wo.nibs s++ [Wo.left s/256,Wo.left s/16%16,Wo.left s%16].take x.1))) (λx=>3-x.1) (0,A4,c4,m) (⟨jF _,by rw [zx,jS];exact hrow⟩) ⟨rfl,by rw [jV (by omega)];rfl,rfl,trivial⟩ (λ_ h=>h) ?_
  clear hrow hlk
  rintro⟨t,A4,c4,m⟩ ⟨ht,hrow⟩ I4 hI4
  dsimp only at ht hrow⊢
  refine J.k λK20 hK20=>J.g λK21 hK21=>J.b V<|J.f (qA9 V V V) V<|J.c hK21<|J.O 4 5 9 43 ?_
  refine J.a4 V (λh43=>?_) (λh43=>?_)
  ·
    refine J.W hK20<|J.G 4 5 9 ?_
    refine J.k λK22 hK22=>J.a1 ?_
    have ht2:t<3:=by omega
    refine J.H<|J.j 2 V<|J.f ((qAb V V).nat (2-t) (by omega)) V<|J.f ((qB6 V V V (by omega)).nat (4*(2-t)) (by omega)) V<|J.f ((qCc V V V (by omega)).as (v':=I ((Wo.left s/2^(4*(2-t)):Nat):Int)) (congrArg I (by simp))) rfl<|J.f ((qPd 4 rfl rfl rfl (by decide) (by decide)).as (v':=I (([Wo.left s/256,Wo.left s/16%16,Wo.left s%16].getD t 0:Nat):Int)) (congrArg I (by match t,ht2 with|0,_=>(show((Wo.left s/2^(4*(2-0)):Nat):Int)%2^4=((Wo.left s/256:Nat):Int);omega)|1,_=>(show((Wo.left s/2^(4*(2-1)):Nat):Int)%2^4=((Wo.left s/16%16:Nat):Int);omega)|2,_=>(show((Wo.left s/2^(4*(2-2)):Nat):Int)%2^4=((Wo.left s%16:Nat):Int);omega)))) rfl<|J.q (qAJ (l:= [.tmp 51]) (xs:= [[I ((([Wo.left s/256,Wo.left s/16%16,Wo.left s%16].getD t 0):Nat):Int)]]) rfl rfl rfl rfl qOr el3 rfl (by decide) (by decide) (by simp)) rfl λg52 _=>J.q (qAa (i:=1) (m2:=blk g52 (([([Wo.left s/256,Wo.left s/16%16,Wo.left s%16].getD t 0)]:List Nat).map λx:Nat=>I (x:Int)) 3) rfl rfl rfl qOr qOr el3 rfl hrow (by simp) (slN [([Wo.left s/256,Wo.left s/16%16,Wo.left s%16].getD t 0)] rfl) (qKu _) (by omega) (by omega)) rfl ?_
    rintro⟨A53,c53,m53⟩ h53
    try dsimp only at h53
    rw [←qIr] at h53
    refine J.b V<|J.a8<|J.b0<|J.u (J.M hK22 ?_)
    refine J.G 4 5 9 ?_
    exact J.c9 [0,1] [F,m53] V (by decide)<|J.H<|J.b V<|J.f ((qAn V V V (by omega)).as (v':=I (2-((t+1:Nat):Int))) (congrArg I (by omega))) V<|J.b V<|J.a8<|J.u<|J.a9 (t+1,A53,c53,m53) (λx (hx:_∧3-x.1<3-t)=>hI4 x hx.1 hx.2) ⟨⟨by dsimp only;omega,by dsimp only;rw [show [Wo.left s/256,Wo.left s/16%16,Wo.left s%16].take (t+1)= [Wo.left s/256,Wo.left s/16%16,Wo.left s%16].take t++ [[Wo.left s/256,Wo.left s/16%16,Wo.left s%16].getD t 0] by match t,ht2 with|0,_=>rfl|1,_=>rfl|2,_=>rfl,←jT];exact h53⟩,by dsimp only;omega⟩ ⟨rfl,rfl,rfl,trivial⟩ (λ_ h=>h)
  refine J.b8<|J.a6<|J.a6<|J.b9 ?_
  refine J.u (J.M hK18 ?_)
  refine J.A 4 ?_
  refine J.k λK23 hK23=>?_
  have ht3:t=3:=by omega
  subst ht3
  refine J.H<|J.j 3 V<|J.c hK23<|J.E 2 3 ?_
  exact J.D<|J.b4 hw0 (λ_ _ h=>h) (qDe V V V) (qAj (A4,c4,m) V (by unfold Wo.digs;exact hrow) [0,1] V (by decide))
theorem qRi(F:Hp)(hK:KF F)(seed:List UInt8)(leaf:Nat)(d:List UInt8)(hs:seed.length≤1048576)(h1:leaf<4611686018427387904)(hd:d.length=16):
    Ct prog 90 [Str seed,I leaf,Str d] [F] (λx:Option Addr×Nat×Hp=> .tuple #[.slice x.1 35 x.2.1,I 0]) (λx=>Row x.2.2 9 1 x.1 35 x.2.1 (qAH (Wo.signs seed leaf (Wo.digs d) 35))) (λx=> [F,x.2.2]):=by
  have hdl:(Wo.digs d).length=35:=by rw [Wo.digs_length,hd]
  have hd15:=Wo.digs_le d (by omega)
  refine Ct.walk func90 rfl ntmps90 rfl (λw0 hw0=>?_)
  refine J.g λK1 hK1=>J.j 2 V<|J.c hK1<|J.G 0 1 2 ?_
  refine J.g λK2 hK2=>J.b V<|J.q (qAB V V ent143 (Ct.use (λF' hF=>qGH F' d hd))) V ?_
  rintro⟨A16,c16,m16⟩ h16
  try dsimp only at h16
  refine J.b V<|J.f (qAk V V V) V<|J.f (qAk V V V) V<|J.j 2 V<|J.c hK2<|J.O 0 1 8 9 ?_
  refine J.k λK3 hK3=>J.g λK4 hK4=>J.b V<|J.f ((qAU V V V).no (by decide)) V<|J.c hK4<|J.a0 0 1 8 9 20 ?_
  refine J.a5 ?_
  refine J.W hK3<|J.G 0 1 8 ?_
  refine J.g λK5 hK5=>J.b V<|J.q (qAB V V ent70 (Ct.use0 (λF' hF=>qHI F' (hK.mono (hF _ (by simp))) seed hs))) rfl λg23 _=>J.b rfl<|J.c hK5<|J.O 0 1 8 10 ?_
  refine J.k λK6 hK6=>J.d4 [0,1,2] [F,m16,(λ_=>none)] V (by decide)<|J.H<|J.b V<|J.c hK6<|J.a0 0 1 8 10 11 ?_
  refine J.k λK7 hK7=>J.g λK8 hK8=>J.b V<|J.f (qAY qOr V V) V<|J.b V<|J.c hK8<|J.c5 0 1 10 11 24 25 26 ?_
  refine J.a1<|J.c1 (X:=Nat×Option Addr×Nat×Hp) (λx=> [(0,Str seed),(1,I leaf),(10,Str (Wo.opn seed)),(11,.slice x.2.1 x.1 x.2.2.1),(24,.slice A16 35 c16),(25,I ((35:Nat):Int)),(26,I x.1)]) (λx=> [F,m16,x.2.2.2]) (λx=>x.1≤35∧Row x.2.2.2 9 1 x.2.1 x.1 x.2.2.1 (qAH (Wo.signs seed leaf (Wo.digs d) x.1))) (λx=>35-x.1) (0,none,0,λ_=>none) (⟨jF _,by rw [Wo.signs0];exact qBc.nil⟩) ⟨rfl,rfl,rfl,rfl,rfl,rfl,rfl,trivial⟩ (λ_ h=>h) ?_
  rintro⟨k,A6,c6,m⟩ ⟨hk,hrow⟩ I0 hI0
  dsimp only at hk hrow⊢
  have hdk:=hd15 k
  refine J.g λK9 hK9=>J.f (qAT V V V) V<|J.c hK9<|J.d6 0 1 10 11 24 25 26 27 ?_
  refine J.k λK10 hK10=>J.a4 V (λh27=>?_) (λh27=>?_)
  ·
    refine J.W hK10<|J.c5 0 1 10 11 24 25 26 ?_
    refine J.k λK11 hK11=>J.a1<|J.g λK12 hK12=>J.b V<|J.f (qAF V V V qOr z3_ h16.sl (by omega)) V<|J.f (qAL V V b3_ (m:=m16) (by simp) (h16.sl.elem (qIq (k:=k) (by omega)))) rfl<|J.j 2 rfl<|J.c hK12<|J.e4 0 1 10 11 12 13 24 25 26 ?_
    refine J.H<|J.j 8 V<|J.q (qAB V V ent126 (Ct.use0 (λF' hF=>qGi F' (hK.mono (hF _ (by simp))) seed leaf k hs h1 (by omega)))) rfl λg39 _=>J.q (qAB rfl rfl ent125 (Ct.use0 (λF' hF=>qJb F' (hK.mono (hF _ (by simp))) (Wo.opn seed) leaf k (by rw [Wo.opn_length];decide) h1 (by omega) (Wo.secret seed leaf k) (by rw [Wo.secret_length];decide) 0 ((Wo.digs d).getD k 0) 0 ((Wo.digs d).getD k 0) (by omega) (by omega) (by omega)))) rfl λg40 _=>J.q (qAJ (l:= [.tmp 40]) (xs:= [[Str ((Wo.walk (Wo.opn seed) leaf k 0 (Wo.secret seed leaf k) ((Wo.digs d).getD k 0)))]]) rfl rfl rfl rfl qAh el9 rfl (by decide) (by decide) (by simp)) rfl λg41 _=>J.q (qAa (i:=2) (m2:=blk g41 [Str (Wo.walk (Wo.opn seed) leaf k 0 (Wo.secret seed leaf k) ((Wo.digs d).getD k 0))] 9) rfl rfl rfl qAh qAh el9 rfl hrow (by simp) (qAs (q:=True) (xs:=qAH [(Wo.walk (Wo.opn seed) leaf k 0 (Wo.secret seed leaf k) ((Wo.digs d).getD k 0))]) rfl (by simp [qAH])).sl (qC5 _) (by omega) (by omega)) rfl ?_
    rintro⟨A42,c42,m42⟩ h42
    try dsimp only at h42
    rw [←qB5,←Wo.signs_succ] at h42
    refine J.c9 [0,1,2] [F,m16,m42] V (by decide)<|J.b V<|J.a8<|J.b0<|J.u (J.M hK11 ?_)
    refine J.c5 0 1 10 11 24 25 26 ?_
    exact J.H<|J.f ((qAQ V V V (by omega)).nat (k+1) (by omega)) V<|J.b V<|J.a8<|J.u<|J.a9 (k+1,A42,c42,m42) (λx (hx:_∧35-x.1<35-k)=>hI0 x hx.1 hx.2) ⟨⟨by dsimp only;omega,h42⟩,by dsimp only;omega⟩ ⟨V,V,V,V,V,V,V,trivial⟩ (λ_ h=>h)
  refine J.b8<|J.a6<|J.a6<|J.b9 ?_
  refine J.u (J.M hK7 ?_)
  refine J.A 11 ?_
  refine J.k λK13 hK13=>?_
  have hk35:k=35:=by omega
  subst hk35
  refine J.H<|J.j 3 V<|J.c hK13<|J.E 6 7 ?_
  exact J.D<|J.b4 hw0 (λ_ _ h=>h) (qDe V V V) (qAj (A6,c6,m) V hrow [0,2] V (by decide))
theorem qMh(F:Hp)(A:Option Addr)(n c:Nat)(ls:List (List UInt8))(hl:Sl F 1 A n c (qAH ls))(h16: ∀s∈ls,s.length=16)(hn:n=35):
    Ct prog 169 [.slice A n c] [F] (λ_:Unit=> .bool true) (λ_=>True) (λ_=> [F]):=by
  have hlen:ls.length=n:=by have:=hl.1;simpa [qAH] using this
  refine Ct.walk func169 rfl ntmps169 rfl (λw0 hw0=>?_)
  refine J.g λK1 hK1=>J.b V<|J.c hK1<|J.A 0 ?_
  refine J.k λK2 hK2=>J.g λK3 hK3=>J.b V<|J.f (qAY qAh V V) V<|J.b V<|J.c hK3<|J.O 0 5 6 7 ?_
  refine J.a1<|J.c1 (λk:Nat=> [(0,.slice A n c),(5,.slice A n c),(6,I n),(7,I k)]) (λ_=> [F]) (λk=>k≤n) (λk=>n-k) 0 (jF _) ⟨V,V,V,V,trivial⟩ (λ_ h=>h) ?_
  intro k hk I0 hI0
  refine J.g λK4 hK4=>J.f (qAT V V V) V<|J.c hK4<|J.a0 0 5 6 7 8 ?_
  refine J.k λK5 hK5=>J.a4 V (λh8=>?_) (λh8=>?_)
  ·
    refine J.W hK5<|J.O 0 5 6 7 ?_
    refine J.k λK6 hK6=>J.a1<|J.g λK7 hK7=>J.f (qAF V V V qAh z9_ hl (by omega)) V<|J.f (qAL V V b9_ (m:=F) (by simp) (hl.elem (qAZ (qAd [] (show k<ls.length by omega))))) rfl<|J.b rfl<|J.c hK7<|J.a0 0 4 5 6 7 ?_
    refine J.g λK8 hK8=>J.b V<|J.f (qAg u9_ V V) V<|J.f ((qAU V V V).no (by have:=h16 _ (jI (qAd [] (show k<ls.length by omega)));omega)) V<|J.c hK8<|J.a0 0 5 6 7 13 ?_
    refine J.a5 ?_
    refine J.c0<|J.b0<|J.u (J.M hK6 ?_)
    refine J.O 0 5 6 7 ?_
    exact J.H<|J.f ((qAQ V V V (by omega)).nat (k+1) (by omega)) V<|J.b V<|J.a8<|J.u<|J.a9 (k+1) (λx (hx:x≤n∧n-x<n-k)=>hI0 x hx.1 hx.2) ⟨by omega,by omega⟩ ⟨V,V,V,V,trivial⟩ (λ_ h=>h)
  refine J.b8<|J.a6<|J.a6<|J.b9 ?_
  refine J.u (J.M hK2 ?_)
  refine J.A 0 ?_
  refine J.g λK9 hK9=>J.b V<|J.f (qAY qAh V V) V<|J.f ((qAS V V V).yes (by omega)) V<|J.b V<|J.c hK9<|J.A 2 ?_
  exact J.D<|J.Z hw0 V () V trivial [0] V (by decide)
theorem qLw(F:Hp)(hK:KF F)(o:List UInt8)(leaf:Nat)(d:List UInt8)(A:Option Addr)(c:Nat)(sig:List (List UInt8))(hl:Sl F 1 A 35 c (qAH sig))(ho:o.length≤1048576)(h1:leaf<4611686018427387904)(hd:d.length=16)(hsg: ∀s∈sig,s.length=16):
    Ct prog 123 [Str o,I leaf,Str d,.slice A 35 c] [F] (λ_:Unit=> .tuple #[Str (Wo.publicOf o leaf (Wo.ends o leaf (Wo.digs d) sig 35)),I 0]) (λ_=>True) (λ_=> [F]):=by
  have hdl:(Wo.digs d).length=35:=by rw [Wo.digs_length,hd]
  have hd15:=Wo.digs_le d (by omega)
  have hlen:sig.length=35:=by have:=hl.1;simpa [qAH] using this
  refine Ct.walk func123 rfl ntmps123 rfl (λw0 hw0=>?_)
  refine J.g λK1 hK1=>J.j 2 V<|J.c hK1<|J.O 0 1 2 3 ?_
  refine J.g λK2 hK2=>J.b V<|J.q (qAB V V ent143 (Ct.use (λF' hF=>qGH F' d hd))) V ?_
  rintro⟨A17,c17,m17⟩ h17
  try dsimp only at h17
  refine J.b V<|J.f (qAk V V V) V<|J.f (qAk V V V) V<|J.j 2 V<|J.c hK2<|J.a0 0 1 3 10 11 ?_
  refine J.k λK3 hK3=>J.a1<|J.g λK4 hK4=>J.b V<|J.f ((qAU V V V).no (by decide)) V<|J.b V<|J.c hK4<|J.b5 0 1 3 10 11 20 ?_
  refine J.a5 ?_
  refine J.g λK5 hK5=>J.b V<|J.q (qAB V V ent169 (Ct.use0 (λF' hF=>qMh F' A 35 c sig (hl.mono (hF _ (by simp))) hsg rfl))) rfl λg26 _=>J.f ((qAw rfl rfl).as (v':= .bool false) rfl) rfl<|J.b rfl<|J.c hK5<|J.a0 0 1 3 10 24 ?_
  refine J.a5 ?_
  refine J.c0<|J.b0<|J.u (J.M hK3 ?_)
  refine J.O 0 1 3 10 ?_
  refine J.k λK6 hK6=>J.d4 [0,1,2] [F,m17,(λ_=>none)] V (by decide)<|J.H<|J.b V<|J.c hK6<|J.a0 0 1 3 10 12 ?_
  refine J.k λK7 hK7=>J.g λK8 hK8=>J.b V<|J.f (qAY qOr V V) V<|J.b V<|J.c hK8<|J.c5 0 1 3 12 28 29 30 ?_
  refine J.a1<|J.c1 (X:=Nat×Option Addr×Nat×Hp) (λx=> [(0,Str o),(1,I leaf),(3,.slice A 35 c),(12,.slice x.2.1 x.1 x.2.2.1),(28,.slice A17 35 c17),(29,I ((35:Nat):Int)),(30,I x.1)]) (λx=> [F,m17,x.2.2.2]) (λx=>x.1≤35∧Row x.2.2.2 9 1 x.2.1 x.1 x.2.2.1 (qAH (Wo.ends o leaf (Wo.digs d) sig x.1))) (λx=>35-x.1) (0,none,0,λ_=>none) (⟨jF _,by rw [Wo.ends0];exact qBc.nil⟩) ⟨rfl,rfl,rfl,rfl,rfl,rfl,rfl,trivial⟩ (λ_ h=>h) ?_
  rintro⟨k,A6,c6,m⟩ ⟨hk,hrow⟩ I0 hI0
  dsimp only at hk hrow⊢
  have hdk:=hd15 k
  refine J.g λK9 hK9=>J.f (qAT V V V) V<|J.c hK9<|J.d6 0 1 3 12 28 29 30 31 ?_
  refine J.k λK10 hK10=>J.a4 V (λh31=>?_) (λh31=>?_)
  ·
    refine J.W hK10<|J.c5 0 1 3 12 28 29 30 ?_
    refine J.k λK11 hK11=>J.a1<|J.g λK12 hK12=>J.b V<|J.f (qAF V V V qOr z3_ h17.sl (by omega)) V<|J.f (qAL V V b3_ (m:=m17) (by simp) (h17.sl.elem (qIq (k:=k) (by omega)))) rfl<|J.j 2 rfl<|J.c hK12<|J.e4 0 1 3 12 13 14 28 29 30 ?_
    refine J.H<|J.j 7 V<|J.f (qAF V V V qAh z9_ hl (by omega)) V<|J.f (qAL V V b9_ (m:=F) (by simp) (hl.elem (qAZ (qAd [] (show k<sig.length by omega))))) rfl<|J.q (qAB rfl rfl ent125 (Ct.use0 (λF' hF=>qJb F' (hK.mono (hF _ (by simp))) o leaf k ho h1 (by omega) (sig.getD k []) (by have:=hsg _ (jI (qAd [] (show k<sig.length by omega)));omega) ((((Wo.digs d).getD k 0):Nat):Int) 15 ((Wo.digs d).getD k 0) (15-((Wo.digs d).getD k 0)) (by omega) (by omega) (by omega)))) rfl λg44 _=>J.q (qAJ (l:= [.tmp 44]) (xs:= [[Str ((Wo.walk o leaf k ((Wo.digs d).getD k 0) (sig.getD k []) (15-((Wo.digs d).getD k 0))))]]) rfl rfl rfl rfl qAh el9 rfl (by decide) (by decide) (by simp)) rfl λg45 _=>J.q (qAa (i:=2) (m2:=blk g45 [Str (Wo.walk o leaf k ((Wo.digs d).getD k 0) (sig.getD k []) (15-((Wo.digs d).getD k 0)))] 9) rfl rfl rfl qAh qAh el9 rfl hrow (by simp) (qAs (q:=True) (xs:=qAH [(Wo.walk o leaf k ((Wo.digs d).getD k 0) (sig.getD k []) (15-((Wo.digs d).getD k 0)))]) rfl (by simp [qAH])).sl (qC5 _) (by omega) (by omega)) rfl ?_
    rintro⟨A46,c46,m46⟩ h46
    try dsimp only at h46
    rw [←qB5,←Wo.ends_succ] at h46
    refine J.c9 [0,1,2] [F,m17,m46] V (by decide)<|J.b V<|J.a8<|J.b0<|J.u (J.M hK11 ?_)
    refine J.c5 0 1 3 12 28 29 30 ?_
    exact J.H<|J.f ((qAQ V V V (by omega)).nat (k+1) (by omega)) V<|J.b V<|J.a8<|J.u<|J.a9 (k+1,A46,c46,m46) (λx (hx:_∧35-x.1<35-k)=>hI0 x hx.1 hx.2) ⟨⟨by dsimp only;omega,h46⟩,by dsimp only;omega⟩ ⟨V,V,V,V,V,V,V,trivial⟩ (λ_ h=>h)
  refine J.b8<|J.a6<|J.a6<|J.b9 ?_
  refine J.u (J.M hK7 ?_)
  refine J.G 0 1 12 ?_
  refine J.k λK13 hK13=>?_
  have hk35:k=35:=by omega
  subst hk35
  refine J.H<|J.j 3 V<|J.q (qAB V V ent127 (Ct.use0 (λF' hF=>qGj F' (hK.mono (hF _ (by simp))) o leaf ho h1 A6 35 c6 (Wo.ends o leaf (Wo.digs d) sig 35) (hrow.sl.mono (hF _ (by simp))) (Wo.ends_small o leaf (Wo.digs d) sig 35 (λs hs=>Nat.le_of_eq (hsg s hs))) (by decide)))) rfl λg51 _=>J.j 2 rfl<|J.c hK13<|J.E 8 9 ?_
  exact J.D<|J.b4 hw0 (λ_ _ h=>h) (qDe V V V) (qAj () V trivial [0] V (by decide))
end Go.Proofs.YtfldiegfenndjaaGreatDoor
namespace Go.Proofs.YtfldiegfenndjaaGreatDoor
open Go Go.Fw Go.Proofs.Tryz
set_option maxRecDepth 100000
set_option maxHeartbeats 1000000
theorem ent68:qAE prog 68:=qAE.of func68 rfl (by kernel_rfl)
theorem ent89:qAE prog 89:=qAE.of func89 rfl (by kernel_rfl)
theorem ent90:qAE prog 90:=qAE.of func90 rfl (by kernel_rfl)
theorem ent91:qAE prog 91:=qAE.of func91 rfl (by kernel_rfl)
theorem ent123:qAE prog 123:=qAE.of func123 rfl (by kernel_rfl)
namespace Xm
def leaves(seed:List UInt8)(k:Nat):List (List UInt8):=(List.range k).map λi=>Wo.pub seed i
def root(seed:List UInt8)(h:Nat):List UInt8:=Mk.root (leaves seed (2^h)) h
def four(n:Nat):List UInt8:= [UInt8.ofNat (n/2^24),UInt8.ofNat (n/2^16),UInt8.ofNat (n/2^8),UInt8.ofNat n]
def digest(o:List UInt8)(i:Nat)(m:List UInt8):List UInt8:=Sha.tagged 6 [o,four i,m]
theorem leaves_succ(seed:List UInt8)(k:Nat):leaves seed (k+1)=leaves seed k++ [Wo.pub seed k]:=by simp [leaves,zB]
theorem leaves_length(seed:List UInt8)(k:Nat):(leaves seed k).length=k:=by simp [leaves]
theorem leaves_get(seed:List UInt8)(k i:Nat)(h:i<k):(leaves seed k).getD i []=Wo.pub seed i:=by
 unfold leaves
 rw [jB,jN,jv h];rfl
theorem pub_length(seed:List UInt8)(i:Nat):(Wo.pub seed i).length=16:=Sha.tagged_length _ _
theorem leaves_small(seed:List UInt8)(k:Nat): ∀s∈leaves seed k,s.length≤1048576:=λs hs=>by
 simp only [leaves,zd] at hs
 obtain ⟨i,_,rfl⟩:=hs
 rw [pub_length];decide
theorem digest_length(o:List UInt8)(i:Nat)(m:List UInt8):(digest o i m).length=16:=Sha.tagged_length _ _
theorem four_length(n:Nat):(four n).length=4:=rfl
theorem pow_le(h:Nat)(h6:h≤6):2^h≤64:=jd (jg (by decide) h6) (by decide)
end Xm
attribute [local irreducible] Sha.tagged Wo.pub Wo.publicOf Wo.signs Wo.ends Wo.digs Wo.walk Wo.opn Mk.root Mk.path Mk.climb
theorem Xm.leaves0(seed:List UInt8):Xm.leaves seed 0= []:=rfl
theorem Wo.recPub(seed:List UInt8)(leaf:Nat)(d:List UInt8)(hd:d.length≤16):Wo.publicOf (Wo.opn seed) leaf (Wo.ends (Wo.opn seed) leaf (Wo.digs d) (Wo.signs seed leaf (Wo.digs d) 35) 35)=Wo.pub seed leaf:=by
 rw [Wo.recovers seed leaf (Wo.digs d) (Wo.digs_le d hd) 35];unfold Wo.pub;rfl
def qBF(seed o r:List UInt8)(h:Int)(A:Option Addr)(n c:Nat):List Value:= [Str seed,Str o,Str r,I h,.slice A n c]
def qTG(mm:Hp)(g:Nat)(seed:List UInt8)(h:Nat):Prop:= ∃A c mr,mm=U [blk g (qBF seed (Wo.opn seed) (Xm.root seed h) h A (2^h) c) 171,mr]∧Dj (blk g (qBF seed (Wo.opn seed) (Xm.root seed h) h A (2^h) c) 171) mr∧Row mr 9 1 A (2^h) c (qAH (Xm.leaves seed (2^h)))
theorem qTG.see{mm:Hp}{g:Nat}{seed:List UInt8}{h:Nat}(hk:qTG mm g seed h): ∃A c,qAP mm ⟨g,0,none⟩ (qBF seed (Wo.opn seed) (Xm.root seed h) h A (2^h) c)∧Sl mm 1 A (2^h) c (qAH (Xm.leaves seed (2^h))):=by
 obtain ⟨A,c,mr,rfl,hd,hr⟩:=hk
 exact⟨A,c,qAP.blk0.mono (qQ0 _ _),hr.sl.mono (qN0 hd)⟩
theorem qRQ(F:Hp)(hK:KF F)(seed:List UInt8)(h:Nat)(hs:seed.length≤1048576)(h6:h≤6):
    Ct prog 33 [Str seed,I h] [F] (λx:Nat×Hp=> .tuple #[Ptr x.1,I 0]) (λx=>qTG x.2 x.1 seed h) (λx=> [x.2,F]):=by
  have hp64:=Xm.pow_le h h6
  have hp0:=zA h
  refine Ct.walk func33 rfl ntmps33 rfl (λw0 hw0=>?_)
  refine J.g λK1 hK1=>J.j 2 V<|J.c hK1<|J.E 0 1 ?_
  refine J.k λK2 hK2=>J.g λK3 hK3=>J.b V<|J.f ((qAT V V V).no (by omega)) V<|J.j 2 V<|J.T ((qA5 V V V).no (by omega)) V<|J.b V<|J.c hK3<|J.G 0 1 15 ?_
  refine J.a5 ?_
  refine J.W hK2<|J.E 0 1 ?_
  refine J.g λK4 hK4=>J.b V<|J.f (qAK (places:= [(0,1),(1,3),(4,1)]) (r:=qBF seed [] [] 0 none 0 0) V V V qGY zeroValue171 (λ_=>by kernel_rfl) V) V<|J.q (qAi V V V) V λg18 _=>J.b V<|J.c hK4<|J.G 0 1 6 ?_
  refine J.k λK5 hK5=>J.k λK6 hK6=>J.d4 [0,1,2] [F,blk g18 (qBF seed [] [] 0 none 0 0) 171,(λ_=>none)] V (by decide)<|J.H<|J.b V<|J.f ((qHa V V V ⟨by omega,by have:=Int.pow_pos (n:=2) (m:=h) (by decide);omega,by rw [Int.one_mul];exact Int.ofNat_le.2 (show 2^h≤9223372036854775807 by omega)⟩).as (v':=I ((2^h:Nat):Int)) (congrArg I (by simp))) rfl<|J.b rfl<|J.c hK6<|J.a0 0 1 6 20 21 ?_
  refine J.a1<|J.c1 (X:=Nat×Option Addr×Nat×Hp) (λx=> [(0,Str seed),(1,I h),(6,Ptr g18),(20,I ((2^h:Nat):Int)),(21,I x.1)]) (λx=> [F,blk g18 (qBF seed [] [] 0 x.2.1 x.1 x.2.2.1) 171,x.2.2.2]) (λx=>x.1≤2^h∧Row x.2.2.2 9 1 x.2.1 x.1 x.2.2.1 (qAH (Xm.leaves seed x.1))) (λx=>2^h-x.1) (0,none,0,λ_=>none) (⟨jF _,by rw [Xm.leaves0];exact qBc.nil⟩) ⟨rfl,rfl,rfl,rfl,rfl,trivial⟩ (λ_ h=>h) ?_
  rintro⟨k,A6,c6,m⟩ ⟨hk,hrow⟩ I0 hI0
  dsimp only at hk hrow⊢
  refine J.g λK7 hK7=>J.f (qAT V V V) V<|J.c hK7<|J.b5 0 1 6 20 21 22 ?_
  refine J.k λK8 hK8=>J.a4 V (λh22=>?_) (λh22=>?_)
  ·
    refine J.W hK8<|J.a0 0 1 6 20 21 ?_
    refine J.k λK9 hK9=>J.a1<|J.g λK10 hK10=>J.j 2 V<|J.c hK10<|J.b5 0 1 6 7 20 21 ?_
    refine J.b7 [blk g18 (qBF seed [] [] 0 A6 k c6) 171] [12] (.y 0 (.y 1 (.y 2 (.y 3 (.y 4 (.y 5 (.y 6 (.e 7 (.e 8 (.e 9 (.y 10 (.y 11 (.e 12 .nil))))))))))))) Tryz.wide (by decide+kernel) (by simp) ?_
    refine J.L ?_
    refine J.L ?_
    refine J.p V (qAC V V) V V<|J.p V (qAA V V qGY V qCA V) V V<|J.p V (qAD 0 V V V qCR V) V V<|J.L ?_
    refine J.L ?_
    refine J.b2 V (qAB V V ent68 (Ct.use0 (λF' hF=>qRR F' (hK.mono (hF _ (by simp))) seed k hs (by omega)))) rfl (by simp) λg31 _=>J.b2 rfl (qAJ (l:= [.tmp 31]) (xs:= [[Str (Wo.pub seed k)]]) rfl rfl rfl rfl qAh el9 rfl (by decide) (by decide) (by simp)) rfl (by simp) λg32 _=>J.b2 rfl (qAa (i:=2) (m2:=blk g32 [Str (Wo.pub seed k)] 9) rfl rfl rfl qAh qAh el9 rfl hrow (by simp) (qAs (q:=True) (xs:=qAH [(Wo.pub seed k)]) rfl (by simp [qAH])).sl (qC5 _) (by omega) (by omega)) rfl (by simp) ?_
    rintro⟨A33,c33,m33⟩ h33
    try dsimp only at h33
    rw [←qB5,←Xm.leaves_succ] at h33
    refine J.p V (qAC V V) V V<|J.p V (qAA V V qGY V qCA V) V V<|J.d2 V (qAV (i:=1) V V V V V qCA V (by simp [qBF])) rfl rfl rfl λ_ _=>J.b3<|J.b0<|J.u (J.M hK9 ?_)
    refine J.a0 0 1 6 20 21 ?_
    exact J.c9 [0,1,2] [F,blk g18 (qBF seed [] [] 0 A33 (k+1) c33) 171,m33] V (by decide)<|J.H<|J.f ((qAQ V V V (by omega)).nat (k+1) (by omega)) V<|J.b V<|J.a8<|J.u<|J.a9 (k+1,A33,c33,m33) (λx (hx:_∧2^h-x.1<2^h-k)=>hI0 x hx.1 hx.2) ⟨⟨by dsimp only;omega,h33⟩,by dsimp only;omega⟩ ⟨V,V,V,V,V,trivial⟩ (λ_ h=>h)
  refine J.b8<|J.a6<|J.a6<|J.b9 ?_
  refine J.u (J.M hK5 ?_)
  refine J.G 0 1 6 ?_
  refine J.k λK11 hK11=>?_
  have hkn:k=2^h:=by omega
  subst hkn
  refine J.H<|J.b V<|J.f (qAC V V) V<|J.a2 4 qGY qCA V V V V V<|J.c2 1 qCR V V V V V<|J.q (qAB V V ent69 (Ct.use0 (λF' hF=>qRx F' (hK.mono (hF _ (by simp))) A6 (2^h) c6 (Xm.leaves seed (2^h)) (hrow.sl.mono (hF _ (by simp))) h h6 rfl (Xm.leaves_small _ _)))) rfl λg42 _=>J.j 2 rfl<|J.f (qAk rfl rfl rfl) rfl<|J.j 2 rfl<|J.c hK11<|J.O 0 1 6 8 ?_
  refine J.g λK12 hK12=>J.j 2 V<|J.q (qAB V V ent70 (Ct.use0 (λF' hF=>qHI F' (hK.mono (hF _ (by simp))) seed hs))) rfl λg47 _=>J.j 2 rfl<|J.f (qAK (places:= [(0,1),(1,1),(2,1)]) (r:= [Str (Wo.opn seed),Str (Xm.root seed h),I h]) rfl rfl rfl qMZ zeroValue54 (λ_=>by kernel_rfl) rfl) rfl<|J.f (qAC rfl rfl) rfl<|J.a2 1 qGY qMY rfl rfl rfl rfl rfl<|J.b1 (qAV (i:=1) rfl rfl rfl rfl rfl qMY rfl (by simp [qBF])) rfl rfl λ_ _=>J.c hK12<|J.A 6 ?_
  refine J.k λK13 hK13=>J.c9 [1,2,0] [blk g18 (qBF seed (Wo.opn seed) (Xm.root seed h) h A6 (2^h) c6) 171,m,F] V (by decide)<|J.H<|J.j 3 V<|J.c hK13<|J.E 4 5 ?_
  exact J.D<|J.b4 hw0 (λ_ _ h=>h) (qDe V V V) (qDp (g18,U [blk g18 (qBF seed (Wo.opn seed) (Xm.root seed h) h A6 (2^h) c6) 171,m]) V (λhd=>⟨A6,c6,m,V,hd,hrow⟩) [0,1,2] V V (by decide))
theorem qIC(F:Hp)(g:Nat)(seed o r:List UInt8)(h:Int)(A:Option Addr)(n c:Nat)(hc:qAP F ⟨g,0,none⟩ (qBF seed o r h A n c)):
    Ct prog 89 [Ptr g] [F] (λ_:Unit=>I n) (λ_=>True) (λ_=> [F]):=by
  refine Ct.walk func89 rfl ntmps89 rfl (λw0 hw0=>?_)
  refine J.g λK1 hK1=>J.b V<|J.c hK1<|J.A 0 ?_
  refine J.k λK2 hK2=>J.g λK3 hK3=>J.b V<|J.f ((qA1 underlying105 V V V).as (v':= .bool false) V) V<|J.c hK3<|J.E 0 4 ?_
  refine J.a5 ?_
  refine J.W hK2<|J.A 0 ?_
  refine J.g λK4 hK4=>J.b V<|J.f (qAC V V) V<|J.a2 4 qGY qCA V V V V V<|J.f (qAL V V qCR (m:=F) (by simp) (hc.at (i:=4) rfl)) rfl<|J.f (qAY qAh rfl rfl) rfl<|J.b rfl<|J.c hK4<|J.A 2 ?_
  exact J.D<|J.Z hw0 V () V trivial [0] V (by decide)
theorem qLb(F:Hp)(g:Nat)(seed o r:List UInt8)(h:Int)(A:Option Addr)(n c:Nat)(hc:qAP F ⟨g,0,none⟩ (qBF seed o r h A n c)):
    Ct prog 35 [Ptr g] [F] (λ_:Unit=> .agg #[Str o,Str r,I h]) (λ_=>True) (λ_=> [F]):=by
  refine Ct.walk func35 rfl ntmps35 rfl (λw0 hw0=>?_)
  refine J.g λK1 hK1=>J.q (qAO V zeroValue54 V) V λg2 _=>J.c hK1<|J.E 0 2 ?_
  refine J.k λK2 hK2=>J.g λK3 hK3=>J.b V<|J.f ((qA1 underlying105 V V V).as (v':= .bool false) V) V<|J.c hK3<|J.G 0 2 4 ?_
  refine J.a5 ?_
  refine J.W hK2<|J.E 0 2 ?_
  refine J.g λK4 hK4=>J.b V<|J.f (qAC V V) V<|J.a2 1 qGY qMY V V V V V<|J.f (qAl V V isAgg54 qMY (m:=F) (by simp) (hc.sub 1 3) rfl) rfl<|J.b1 (qAG (l:= [Str [],Str [],I 0]) (i:=1) (vs:= [Str o,Str r,I h]) rfl rfl rfl rfl rfl qMY rfl rfl) rfl rfl λ_ _=>J.c hK4<|J.A 2 ?_
  exact J.D<|J.b4 hw0 (λ_ _ h=>h) (rv1 V (RV.blkA 1 V V isAgg54 qMY)) (qAj () V trivial [0] V (by decide))
theorem qGh(F:Hp)(hK:KF F)(o:List UInt8)(i:Nat)(mg:List UInt8)(ho:o.length≤1048576)(hi:i<4611686018427387904)(hm:mg.length≤1048576):
    Ct prog 91 [Str o,I i,Str mg] [F] (λ_:Unit=>Str (Xm.digest o i mg)) (λ_=>True) (λ_=> [F]):=by
  refine Ct.walk func91 rfl ntmps91 rfl (λw0 hw0=>?_)
  refine J.g λK1 hK1=>J.b V<|J.c hK1<|J.G 0 1 2 ?_
  refine J.g λK2 hK2=>J.b V<|J.f ((qCc V V V ⟨by decide,by omega⟩).as (v':=I ((i/2^24:Nat):Int)) (congrArg I (by simp))) rfl<|J.f (qAr rfl rfl u3_ u5_) rfl<|J.b rfl<|J.f ((qCc rfl rfl rfl ⟨by decide,by omega⟩).as (v':=I ((i/2^16:Nat):Int)) (congrArg I (by simp))) rfl<|J.f (qAr rfl rfl u3_ u5_) rfl<|J.b rfl<|J.f ((qCc rfl rfl rfl ⟨by decide,by omega⟩).as (v':=I ((i/2^8:Nat):Int)) (congrArg I (by simp))) rfl<|J.f (qAr rfl rfl u3_ u5_) rfl<|J.b rfl<|J.f (qAr rfl rfl u3_ u5_) rfl<|J.q (qAJ (l:= [.tmp 10,.tmp 13,.tmp 16,.tmp 18]) (xs:= [[B8 (UInt8.ofNat (i/2^24))],[B8 (UInt8.ofNat (i/2^16))],[B8 (UInt8.ofNat (i/2^8))],[B8 (UInt8.ofNat i)]]) rfl rfl rfl rfl qBm el5 rfl (by decide) (by decide) (by simp)) rfl λg19 _=>J.f (qCU rfl rfl qBm u5_ u9_ (m:=blk g19 [B8 (UInt8.ofNat (i/2^24)),B8 (UInt8.ofNat (i/2^16)),B8 (UInt8.ofNat (i/2^8)),B8 (UInt8.ofNat i)] 5) (by simp) (slB (Xm.four i) rfl)) rfl<|J.b rfl<|J.c hK2<|J.G 0 2 7 ?_
  refine J.g λK3 hK3=>J.j 3 V<|J.q (qAJ (l:= [.tmp 21,.tmp 22,.tmp 23]) (xs:= [[Str (o)],[Str (Xm.four i)],[Str (mg)]]) V V V V qAh el9 V (by decide) (by decide) (by simp)) rfl λg24 _=>J.q (qAB rfl rfl ent44 (Ct.use0 (λF' hF=>qA7 F' (hK.mono (hF _ (by simp))) 6 (some ⟨g24,0,none⟩) 3 3 [o,Xm.four i,mg] ((slS [o,Xm.four i,mg] rfl).mono (hF (blk g24 (([o,Xm.four i,mg]:List (List UInt8)).map λs=>Str s) 9) (by simp))) (by have:=qQj ho (show(Xm.four i).length≤1048576 by rw [Xm.four_length];decide) hm;omega) (by decide)))) rfl λg25 _=>J.b rfl<|J.c hK3<|J.A 6 ?_
  exact J.D<|J.Z hw0 V () V trivial [0] V (by decide)
theorem qO0(F:Hp)(hK:KF F)(g:Nat)(seed:List UInt8)(h:Nat)(A:Option Addr)(c:Nat)(hc:qAP F ⟨g,0,none⟩ (qBF seed (Wo.opn seed) (Xm.root seed h) h A (2^h) c))(hsl:Sl F 1 A (2^h) c (qAH (Xm.leaves seed (2^h))))(hs:seed.length≤1048576)(h6:h≤6)(mg:List UInt8)(hm:mg.length≤1048576)(i:Nat)(hi:i<2^h):
    Ct prog 45 [Ptr g,I i,Str mg] [F] (λx:(Option Addr×Nat×Hp)×(Option Addr×Nat×Hp)=> .tuple #[.agg #[I i,.slice x.1.1 35 x.1.2.1,.slice x.2.1 h x.2.2.1],I 0]) (λx=>Row x.1.2.2 9 1 x.1.1 35 x.1.2.1 (qAH (Wo.signs seed i (Wo.digs (Xm.digest (Wo.opn seed) i mg)) 35))∧Row x.2.2.2 9 1 x.2.1 h x.2.2.1 (qAH (Mk.path (Xm.leaves seed (2^h)) i h))) (λx=> [F,x.1.2.2,x.2.2.2]):=by
  have hp64:=Xm.pow_le h h6
  have hdl:=Xm.digest_length (Wo.opn seed) i mg
  refine Ct.walk func45 rfl ntmps45 rfl (λw0 hw0=>?_)
  refine J.g λK1 hK1=>J.q (qAO V qLK V) V λg6 _=>J.b V<|J.c hK1<|J.O 0 1 2 6 ?_
  refine J.k λK2 hK2=>J.a1<|J.g λK3 hK3=>J.b V<|J.f ((qA1 underlying105 V V V).as (v':= .bool false) V) V<|J.b V<|J.c hK3<|J.a0 0 1 2 6 11 ?_
  refine J.a5 ?_
  refine J.g λK4 hK4=>J.j 2 V<|J.q (qAB V V ent89 (Ct.use0 (λF' hF=>qIC F' g seed (Wo.opn seed) (Xm.root seed h) h A (2^h) c (hc.mono (hF F (by simp)))))) rfl λg18 _=>J.f ((qA9 rfl rfl rfl).no (by omega)) rfl<|J.b rfl<|J.c hK4<|J.a0 0 1 2 6 15 ?_
  refine J.a5 ?_
  refine J.g λK5 hK5=>J.b V<|J.f ((qAT V V V).no (by omega)) V<|J.b V<|J.c hK5<|J.a0 0 1 2 6 21 ?_
  refine J.a5 ?_
  refine J.c0<|J.b0<|J.u (J.M hK2 ?_)
  refine J.O 0 1 2 6 ?_
  refine J.k λK6 hK6=>J.b7 [F] [] (.y 0 (.y 1 (.y 2 (.y 3 (.y 4 (.y 5 (.y 6 (.y 7 (.y 8 (.y 9 (.y 10 (.y 11 (.e 12 (.e 13 (.y 14 (.y 15 (.y 16 (.y 17 (.y 18 .nil))))))))))))))))))) Tryz.wide (by decide+kernel) (by simp) ?_
  refine J.L ?_
  refine J.p V (qAC V V) V V<|J.p V (qAA V V qGY V z9_ V) V V<|J.p V (qAL V V b9_ (m:=F) (by simp) (hc.at (i:=0) rfl)) rfl rfl<|J.L ?_
  refine J.L ?_
  refine J.p V (qAC V V) V V<|J.p V (qAA V V qGY V qMY V) V V<|J.p V (qAA V V qMZ V z9_ V) V V<|J.p V (qAL V V b9_ (m:=F) (by simp) (hc.at (i:=1) rfl)) rfl rfl<|J.L ?_
  refine J.L ?_
  refine J.b2 V (qAB V V ent91 (Ct.use0 (λF' hF=>qGh F' (hK.mono (hF _ (by simp))) (Wo.opn seed) i mg (by rw [Wo.opn_length];decide) (by omega) hm))) rfl (by simp) λg38 _=>J.b2 rfl (qAB rfl rfl ent90 (Ct.use (λF' hF=>qRi F' (hK.mono (hF _ (by simp))) seed i (Xm.digest (Wo.opn seed) i mg) hs (by omega) hdl))) rfl (by simp) ?_
  rintro⟨A39,c39,m39⟩ h39
  try dsimp only at h39
  refine J.L ?_
  refine J.d3 (.slice A39 35 c39) ?_
  refine J.d3 (I 0) ?_
  refine J.c3 ?_
  refine J.c3 ?_
  refine J.b3<|J.u (J.M hK6 ?_)
  refine J.a0 0 1 6 8 9 ?_
  refine J.k λK7 hK7=>J.g λK8 hK8=>J.b V<|J.f ((qAU V V V).no (by decide)) V<|J.c hK8<|J.b5 0 1 6 8 9 43 ?_
  refine J.a5 ?_
  refine J.W hK7<|J.O 0 1 6 8 ?_
  refine J.g λK9 hK9=>J.b V<|J.f (qAC V V) V<|J.a2 4 qGY qCA V V V V V<|J.f (qAL V V qCR (m:=F) (by simp) (hc.at (i:=4) rfl)) rfl<|J.b rfl<|J.q (qAB rfl rfl ent92 (Ct.use (λF' hF=>qR9 F' (hK.mono (hF _ (by simp))) A (2^h) c (Xm.leaves seed (2^h)) (hsl.mono (hF F (by simp))) h h6 rfl (Xm.leaves_small _ _) i hi))) rfl ?_
  rintro⟨A52,c52,m52⟩ h52
  try dsimp only at h52
  refine J.j 5 V<|J.c hK9<|J.a0 1 6 8 9 10 ?_
  refine J.g λK10 hK10=>J.j 3 V<|J.f (qAK (places:= [(0,1),(1,1),(2,1)]) (r:= [I i,.slice A39 35 c39,.slice A52 h c52]) V V V qLe qLK (λ_=>by kernel_rfl) V) V<|J.b V<|J.b1 (qAG (l:= [I 0,.slice none 0 0,.slice none 0 0]) (i:=1) (vs:= [I i,.slice A39 35 c39,.slice A52 h c52]) V V V V V qE5 V V) V V λ_ _=>J.b V<|J.c hK10<|J.E 6 7 ?_
  exact J.D<|J.b4 hw0 (λ_ _ h=>h) (rv2 V (RV.blkA 1 V V isAgg50 qE5) V) (qAj ((A39,c39,m39),(A52,c52,m52)) V ⟨h39,h52⟩ [0,2,3] V (by decide))
theorem Wo.publicOf_length(o:List UInt8)(leaf:Nat)(e:List (List UInt8)):(Wo.publicOf o leaf e).length=16:=by unfold Wo.publicOf;exact Sha.tagged_length _ _
theorem qLa(F:Hp)(hK:KF F)(o r:List UInt8)(h:Nat)(mg:List UInt8)(i:Nat)(A1:Option Addr)(c1:Nat)(ch:List (List UInt8))(hch:Sl F 1 A1 35 c1 (qAH ch))(hsg: ∀s∈ch,s.length=16)(A2:Option Addr)(c2:Nat)(pt:List (List UInt8))(hpt:Sl F 1 A2 h c2 (qAH pt))(hps: ∀s∈pt,s.length≤1048576)
    (ho:o.length≤1048576) (hm:mg.length≤1048576) (h6:h≤6) (hi:i<2^h):
    Ct prog 66 [.agg #[Str o,Str r,I h],Str mg,.agg #[I i,.slice A1 35 c1,.slice A2 h c2]] [F] (λ_:Unit=> .bool (decide (Mk.climb (Wo.publicOf o i (Wo.ends o i (Wo.digs (Xm.digest o i mg)) ch 35)) i pt=r))) (λ_=>True) (λ_=> [F]):=by
  have hp64:=Xm.pow_le h h6
  have hdl:=Xm.digest_length o i mg
  refine Ct.walk func66 rfl ntmps66 rfl (λw0 hw0=>?_)
  refine J.g λK1 hK1=>J.q (qAi V V V) V λg3 _=>J.q (qAi V V V) V λg5 _=>J.b V<|J.c hK1<|J.G 1 3 5 ?_
  refine J.k λK2 hK2=>J.k λK3 hK3=>J.b7 [F,blk g3 [Str o,Str r,I h] 54,blk g5 [I i,.slice A1 35 c1,.slice A2 h c2] 50] [] (.y 0 (.y 1 (.y 2 (.y 3 (.y 4 (.y 5 (.y 6 (.y 7 (.y 8 (.y 9 (.y 10 (.y 11 (.y 12 (.y 13 (.y 14 (.y 15 (.y 16 (.y 17 (.y 18 (.y 19 (.y 20 (.y 21 (.y 22 (.y 23 (.y 24 (.y 25 (.y 26 (.y 27 (.y 28 .nil))))))))))))))))))))))))))))) Tryz.wide (by decide+kernel) (by simp) ?_
  refine J.p V (qAA V V qMZ V z3_ V) V V<|J.p V (qAD 1 V V V b3_ V) V V<|J.p V ((qAT V V V).no (by omega)) V V<|J.L ?_
  refine J.V V (qAA V V qMZ V z3_ V) V V<|J.V V (qAD 1 V V V b3_ V) V V<|J.V V ((qA5 V V V).no (by omega)) V V<|J.d5 ?_
  refine J.L ?_
  refine J.V V (qAA V V qLe V z3_ V) V V<|J.V V (qAD 2 V V V b3_ V) V V<|J.V V ((qAT V V V).no (by omega)) V V<|J.d5 ?_
  refine J.L ?_
  refine J.V V (qAA V V qLe V z3_ V) V V<|J.V V (qAD 2 V V V b3_ V) V V<|J.V V (qAA V V qMZ V z3_ V) V V<|J.V V (qAD 1 V V V b3_ V) V V<|J.V V ((qHa V V V ⟨by omega,by have:=Int.pow_pos (n:=2) (m:=h) (by decide);omega,by rw [Int.one_mul];exact Int.ofNat_le.2 (show 2^h≤9223372036854775807 by omega)⟩).as (v':=I ((2^h:Nat):Int)) (congrArg I (by simp))) rfl rfl<|J.V rfl ((qA9 rfl rfl rfl).no (by omega)) rfl rfl<|J.d5 ?_
  refine J.L ?_
  refine J.V V (qAA V V qLe V qCA V) V V<|J.V V (qAD 2 V V V qCR V) V V<|J.V V (qAY qAh V V) V V<|J.V V (qAA V V qMZ V z3_ V) V V<|J.V V (qAD 1 V V V b3_ V) V V<|J.V V ((qAU V V V).no (λh=>h V)) V V<|J.d5 ?_
  refine J.b3<|J.u (J.M hK3 ?_)
  refine J.O 1 3 5 37 ?_
  refine J.a5 ?_
  refine J.W hK2<|J.G 1 3 5 ?_
  refine J.k λK4 hK4=>J.b7 [F,blk g3 [Str o,Str r,I h] 54,blk g5 [I i,.slice A1 35 c1,.slice A2 h c2] 50] [] (.y 0 (.y 1 (.y 2 (.y 3 (.y 4 (.y 5 (.y 6 (.y 7 (.y 8 (.y 10 (.y 11 (.e 9 (.e 12 (.y 13 (.y 14 (.y 15 (.y 16 (.y 17 .nil)))))))))))))))))) Tryz.wide (by decide+kernel) (by simp) ?_
  refine J.p V (qAA V V qMZ V z9_ V) V V<|J.p V (qAD 1 V V V b9_ V) V V<|J.p V (qAA V V qLe V z3_ V) V V<|J.p V (qAD 2 V V V b3_ V) V V<|J.p V (qAA V V qMZ V z9_ V) V V<|J.p V (qAD 1 V V V b9_ V) V V<|J.p V (qAA V V qLe V z3_ V) V V<|J.p V (qAD 2 V V V b3_ V) V V<|J.L ?_
  refine J.p V (qAA V V qLe V qCA V) V V<|J.p V (qAD 2 V V V qCR V) V V<|J.b2 V (qAB V V ent91 (Ct.use0 (λF' hF=>qGh F' (hK.mono (hF _ (by simp))) o i mg ho (by omega) hm))) rfl (by simp) λg48 _=>J.b2 rfl (qAB rfl rfl ent123 (Ct.use0 (λF' hF=>qLw F' (hK.mono (hF _ (by simp))) o i (Xm.digest o i mg) A1 c1 ch (hch.mono (hF F (by simp))) ho (by omega) hdl hsg))) rfl (by simp) λg51 _=>J.L ?_
  refine J.d3 (Str (Wo.publicOf o i (Wo.ends o i (Wo.digs (Xm.digest o i mg)) ch 35))) ?_
  refine J.d3 (I 0) ?_
  refine J.c3 ?_
  refine J.c3 ?_
  refine J.b3<|J.u (J.M hK4 ?_)
  refine J.O 3 5 7 8 ?_
  refine J.k λK5 hK5=>J.b7 [F,blk g3 [Str o,Str r,I h] 54,blk g5 [I i,.slice A1 35 c1,.slice A2 h c2] 50] [] (.y 0 (.y 1 (.y 2 (.y 3 (.y 4 (.y 5 (.y 6 (.y 7 (.y 9 (.y 10 (.e 8 (.y 11 (.y 12 (.y 13 .nil)))))))))))))) Tryz.wide (by decide+kernel) (by simp) ?_
  refine J.L ?_
  refine J.p V ((qAS V V V).yes (by decide)) V V<|J.L ?_
  refine J.V V (qAb V V) V V<|J.V V (qAA V V qLe V z3_ V) V V<|J.V V (qAD 2 V V V b3_ V) V V<|J.V V (qAA V V qLe V qCA V) V V<|J.V V (qAD 2 V V V qCR V) V V<|J.V V (qAA V V qMZ V z9_ V) V V<|J.V V (qAD 1 V V V b9_ V) V V<|J.e2 V (qAB V V ent124 (Ct.use0 (λF' hF=>qQH F' (hK.mono (hF _ (by simp))) (Wo.publicOf o i (Wo.ends o i (Wo.digs (Xm.digest o i mg)) ch 35)) i A2 h c2 pt (hpt.mono (hF F (by simp))) (by rw [Wo.publicOf_length];decide) hps (by omega) (by omega)))) (Wan.is rfl rfl rfl rfl rfl) rfl rfl (by simp) ?_
  intro g62 _
  refine J.V V (qBb V V V) V V<|J.d1 ?_
  refine J.c3 ?_
  refine J.b3<|J.u (J.M hK5 ?_)
  refine J.A 6 ?_
  exact J.D<|J.Z hw0 V () V trivial [0] V (by decide)
end Go.Proofs.YtfldiegfenndjaaGreatDoor
namespace Go.Proofs.YtfldiegfenndjaaGreatDoor
open Go Go.Fw Go.Proofs.Tryz
set_option maxRecDepth 100000
set_option maxHeartbeats 1000000
theorem Mk.lvl_16(l:List (List UInt8))(hs: ∀s∈l,s.length=16): ∀j,∀s∈Mk.lvl l j,s.length=16
 |0,s,h=>hs s h
 |j+1,s,h=>by
  simp only [Mk.lvl,Mk.above,zd] at h
  obtain ⟨k,_,rfl⟩:=h
  exact Mk.node_length _ _
theorem Mk.path_16(l:List (List UInt8))(i h:Nat)(hs: ∀s∈l,s.length=16)(hl:l.length=2^h)(hi:i<2^h): ∀s∈Mk.path l i h,s.length=16:=λs hp=>by
 unfold Mk.path at hp
 simp only [zd,List.mem_range] at hp
 obtain ⟨j,hj,rfl⟩:=hp
 refine Mk.lvl_16 l hs j _ (Mk.getS_mem ?_)
 rw [Mk.lvl_length l h hl j (by omega),show h-j=(h-1-j)+1 by omega,zC,zU]
 refine Mk.xor_one _ _ ?_
 rw [Nat.div_lt_iff_lt_mul (zA j),Nat.mul_assoc,←Nat.pow_add,zU,←zC,show(h-1-j+j).succ=h by omega]
 exact hi
theorem Xm.leaves_16(seed:List UInt8)(k:Nat): ∀s∈Xm.leaves seed k,s.length=16:=λs hs=>by
 simp only [Xm.leaves,zd] at hs
 obtain ⟨i,_,rfl⟩:=hs
 exact Xm.pub_length _ _
theorem Wo.signs_len(seed:List UInt8)(i:Nat)(d:List Nat):(Wo.signs seed i d 35).length=35:=by simp [Wo.signs]
def qGR(m:Hp)(g:Nat)(seed:List UInt8)(h:Nat):Prop:= ∃A c,qAP m ⟨g,0,none⟩ (qBF seed (Wo.opn seed) (Xm.root seed h) h A (2^h) c)∧Sl m 1 A (2^h) c (qAH (Xm.leaves seed (2^h)))
theorem qGR.mono{m m':Hp}{g:Nat}{seed:List UInt8}{h:Nat}(hk:qGR m g seed h)(hl:Le m m'):qGR m' g seed h:=by
 obtain ⟨A,c,h1,h2⟩:=hk
 exact⟨A,c,h1.mono hl,h2.mono hl⟩
def sgC(seed:List UInt8)(i:Nat)(mg:List UInt8):List (List UInt8):=Wo.signs seed i (Wo.digs (Xm.digest (Wo.opn seed) i mg)) 35
def sgP(seed:List UInt8)(h i:Nat):List (List UInt8):=Mk.path (Xm.leaves seed (2^h)) i h
theorem qNB(seed:List UInt8)(i:Nat)(mg:List UInt8):(sgC seed i mg).length=35:=Wo.signs_len _ _ _
theorem qTX(seed:List UInt8)(i:Nat)(mg:List UInt8): ∀s∈sgC seed i mg,s.length=16:=Wo.signs_16 _ _ _ _
theorem qNA(seed:List UInt8)(h i:Nat):(sgP seed h i).length=h:=Mk.path_length _ _ _
theorem qTW(seed:List UInt8){h i:Nat}(hi:i<2^h): ∀s∈sgP seed h i,s.length=16:=Mk.path_16 _ _ _ (Xm.leaves_16 _ _) (Xm.leaves_length _ _) hi
theorem qKP(F:Hp)(hK:KF F)(seed:List UInt8)(h:Nat)(hs:seed.length≤1048576)(h6:h≤6):
    Ct prog 33 [Str seed,I ((h:Nat):Int)] [F] (λx:Nat×Hp=> .tuple #[Ptr x.1,I 0]) (λx=>qGR x.2 x.1 seed h) (λx=> [F,x.2]):=λw0 w hw=>
  (qRQ F hK seed h hs h6 w0 w hw).mono λe w' ⟨x,he,hx,hs'⟩=>⟨x,he,hx.see,hs'.pick [1,0] (by decide)⟩
theorem qIB(F:Hp)(hK:KF F)(g:Nat)(seed:List UInt8)(h:Nat)(hk:qGR F g seed h)(hs:seed.length≤1048576)(h6:h≤6)(i:Nat)(hi:i<2^h)(mg:List UInt8)(hm:mg.length≤1048576):
    Ct prog 45 [Ptr g,I ((i:Nat):Int),Str mg] [F] (λx:(Option Addr×Nat×Hp)×(Option Addr×Nat×Hp)=> .tuple #[.agg #[I ((i:Nat):Int),.slice x.1.1 (sgC seed i mg).length x.1.2.1,.slice x.2.1 (sgP seed h i).length x.2.2.1],I 0])
      (λx=>Row x.1.2.2 9 1 x.1.1 (sgC seed i mg).length x.1.2.1 (qAH (sgC seed i mg))∧Row x.2.2.2 9 1 x.2.1 (sgP seed h i).length x.2.2.1 (qAH (sgP seed h i))) (λx=> [F,x.1.2.2,x.2.2.2]):=by
  obtain ⟨A,c,h1,h2⟩:=hk
  rw [qNB,qNA]
  exact qO0 F hK g seed h A c h1 h2 hs h6 mg hm i hi
theorem qO1(F:Hp)(g:Nat)(seed:List UInt8)(h:Nat)(hk:qGR F g seed h):Ct prog 35 [Ptr g] [F] (λ_:Unit=> .agg #[Str (Wo.opn seed),Str (Xm.root seed h),I ((h:Nat):Int)]) (λ_=>True) (λ_=> [F]):=by
 obtain ⟨A,c,h1,h2⟩:=hk
 exact qLb F g seed (Wo.opn seed) (Xm.root seed h) h A (2^h) c h1
theorem qDa(F:Hp)(g:Nat)(seed:List UInt8)(h:Nat)(hk:qGR F g seed h):Ct prog 89 [Ptr g] [F] (λ_:Unit=>I ((2^h:Nat):Int)) (λ_=>True) (λ_=> [F]):=by
 obtain ⟨A,c,h1,h2⟩:=hk
 exact qIC F g seed (Wo.opn seed) (Xm.root seed h) h A (2^h) c h1
theorem qKC(seed:List UInt8)(h i:Nat)(hi:i<2^h):Mk.climb (Wo.pub seed i) i (sgP seed h i)=Xm.root seed h:=by
 have:=Mk.climb_root (Xm.leaves seed (2^h)) h i (Xm.leaves_length _ _) hi
 rw [Xm.leaves_get seed _ i hi] at this
 exact this
end Go.Proofs.YtfldiegfenndjaaGreatDoor
