/- A part of the proof. -/
import Derived.Test.YtcgcjaflllmlpaaGreatDoorTopCkG15
set_option maxRecDepth 100000
set_option maxHeartbeats 1000000
set_option linter.unusedSimpArgs false
set_option linter.unusedVariables false
namespace Go.Proofs.YtcgcjaflllmlpaaGreatDoor
open Go Go.Fw Go.Proofs.Tryz
namespace Wo
def place(leaf chain step:Nat):xA:= [UInt8.ofNat (leaf/2^24),UInt8.ofNat (leaf/2^16),UInt8.ofNat (leaf/2^8),UInt8.ofNat leaf,UInt8.ofNat chain,UInt8.ofNat step]
def step(opn:xA)(leaf chain k:Nat)(x:xA):xA:=Sha.tagged 2 [opn,place leaf chain k,x]
def walk(opn:xA)(leaf chain a:Nat)(x:xA):Nat→xA
 |0=>x
 |n+1=>step opn leaf chain (a+n) (walk opn leaf chain a x n)
def secret(seed:xA)(leaf chain:Nat):xA:=Sha.tagged 1 [seed,place leaf chain 0]
def opn(seed:xA):xA:=Sha.tagged 3 [seed]
def nibs(s:xA):List Nat:=s.flatMap λb=> [b.toNat/16,b.toNat%16]
def left(s:xA):Nat:=(s.map λb=>30-b.toNat/16-b.toNat%16).sum
def digs(s:xA):List Nat:=nibs s++ [left s/256,left s/16%16,left s%16]
def signs(seed:xA)(leaf:Nat)(ds:List Nat)(k:Nat):List xA:=(List.range k).map λi=>walk (opn seed) leaf i 0 (secret seed leaf i) (ds.getD i 0)
def ends(op:xA)(leaf:Nat)(ds:List Nat)(sig:List xA)(k:Nat):List xA:=(List.range k).map λi=>walk op leaf i (ds.getD i 0) (sig.getD i []) (15-ds.getD i 0)
def publicOf(op:xA)(leaf:Nat)(e:List xA):xA:=Sha.tagged 4 ([op,place leaf 0 0]++e)
def tops(seed:xA)(leaf:Nat)(k:Nat):List xA:=(List.range k).map λi=>walk (opn seed) leaf i 0 (secret seed leaf i) 15
def pub(seed:xA)(leaf:Nat):xA:=publicOf (opn seed) leaf (tops seed leaf 35)
theorem qGi(a:xA)(b c d:Nat)(x:xA):(step a b c d x).length=16:=Sha.tagged_length _ _
theorem secret_length(a:xA)(b c:Nat):(secret a b c).length=16:=Sha.tagged_length _ _
theorem opn_length(a:xA):(opn a).length=16:=Sha.tagged_length _ _
theorem walk_small(o:xA)(leaf chain a:Nat)(x:xA)(h:x.length≤1048576): ∀n,(walk o leaf chain a x n).length≤1048576
 |0=>h
 |n+1=>by rw [walk,qGi];decide
theorem walk_16(o:xA)(leaf chain a:Nat)(x:xA)(h:x.length=16): ∀n,(walk o leaf chain a x n).length=16
 |0=>h
 |n+1=>qGi _ _ _ _ _
theorem walk_add(o:xA)(leaf chain a:Nat)(x:xA)(n:Nat): ∀m,walk o leaf chain (a+n) (walk o leaf chain a x n) m=walk o leaf chain a x (n+m)
 |0=>rfl
 |m+1=>by rw [walk,walk_add o leaf chain a x n m,←Nat.add_assoc,walk,Nat.add_assoc]
theorem place_length(a b c:Nat):(place a b c).length=6:=rfl
theorem nibs_snoc(s:xA)(k:Nat)(h:k<s.length):nibs (s.take (k+1))=nibs (s.take k)++ [(s.getD k 0).toNat/16,(s.getD k 0).toNat%16]:=by
 unfold nibs
 rw [jQ h,List.flatMap_append,jB,jC h];simp
theorem left_snoc(s:xA)(k:Nat)(h:k<s.length):left (s.take (k+1))=left (s.take k)+(30-(s.getD k 0).toNat/16-(s.getD k 0).toNat%16):=by
 unfold left
 rw [jQ h,jM,List.sum_append,jB,jC h];simp
theorem qMA(s:xA):(nibs s).length=2*s.length:=by
 unfold nibs
 induction s with
 |nil=>rfl
 |cons a l ih=>rw [List.flatMap_cons,jA,ih];simp;omega
theorem left_le(s:xA):left s≤30*s.length:=by
 unfold left
 induction s with
 |nil=>simp
 |cons a l ih=>rw [jd,List.sum_cons,jD];omega
theorem digs_length(s:xA):(digs s).length=2*s.length+3:=by unfold digs;rw [jA,qMA];rfl
theorem digs_le(s:xA)(h:s.length≤16)(i:Nat):(digs s).getD i 0≤15:=by
  have hl:=left_le s
  have: ∀x∈digs s,x≤15:=λx hx=>by
    unfold digs nibs at hx
    rcases List.mem_append.1 hx with hx|hx
    · obtain ⟨b,_,hb⟩:=List.mem_flatMap.1 hx
      have:=b.toNat_lt
      simp only [zd,jz,or_false] at hb
      omega
    · simp only [zd,jz,or_false] at hx
      omega
  by_cases hi:i<(digs s).length
  · rw [jB,jC hi];exact this _ (ja _)
  · rw [jB,ji xB];decide
theorem signs_succ(seed:xA)(leaf:Nat)(ds:List Nat)(k:Nat):signs seed leaf ds (k+1)=signs seed leaf ds k++ [walk (opn seed) leaf k 0 (secret seed leaf k) (ds.getD k 0)]:=by simp [signs,jx]
theorem ends_succ(op:xA)(leaf:Nat)(ds:List Nat)(sig:List xA)(k:Nat):ends op leaf ds sig (k+1)=ends op leaf ds sig k++ [walk op leaf k (ds.getD k 0) (sig.getD k []) (15-ds.getD k 0)]:=by simp [ends,jx]
theorem tops_succ(seed:xA)(leaf:Nat)(k:Nat):tops seed leaf (k+1)=tops seed leaf k++ [walk (opn seed) leaf k 0 (secret seed leaf k) 15]:=by simp [tops,jx]
theorem qQI(seed:xA)(leaf:Nat)(ds:List Nat)(k i:Nat)(h:i<k):(signs seed leaf ds k).getD i []=walk (opn seed) leaf i 0 (secret seed leaf i) (ds.getD i 0):=by
 unfold signs
 rw [jB,jN,zC h];rfl
theorem tops_small(seed:xA)(leaf:Nat)(k:Nat): ∀s∈tops seed leaf k,s.length≤16:=λs hs=>by
 simp only [tops,zc] at hs
 obtain ⟨i,_,rfl⟩:=hs
 rw [walk_16 _ _ _ _ _ (secret_length _ _ _)];exact jK _
theorem signs_16(seed:xA)(leaf:Nat)(ds:List Nat)(k:Nat): ∀s∈signs seed leaf ds k,s.length=16:=λs hs=>by
 simp only [signs,zc] at hs
 obtain ⟨i,_,rfl⟩:=hs
 rw [walk_16 _ _ _ _ _ (secret_length _ _ _)]
theorem ends_small(op:xA)(leaf:Nat)(ds:List Nat)(sig:List xA)(k:Nat)(hg: ∀s∈sig,s.length≤16): ∀s∈ends op leaf ds sig k,s.length≤1048576:=λs hs=>by
 simp only [ends,zc] at hs
 obtain ⟨i,_,rfl⟩:=hs
 refine walk_small _ _ _ _ _ ?_ _
 by_cases h0:i<sig.length
 · rw [jB,jC h0];exact jZ (hg _ (ja _)) xC
 · rw [jB,ji xB];decide
theorem recovers(seed:xA)(leaf:Nat)(ds:List Nat)(hd: ∀i,ds.getD i 0≤15)(k:Nat):ends (opn seed) leaf ds (signs seed leaf ds k) k=tops seed leaf k:=by
 unfold ends tops
 apply yL
 intro i hi
 rw [List.mem_range] at hi
 rw [qQI _ _ _ _ _ hi]
 have h:=walk_add (opn seed) leaf i 0 (secret seed leaf i) (ds.getD i 0) (15-ds.getD i 0)
 rw [jX] at h
 have:=hd i
 rw [h,show ds.getD i 0+(15-ds.getD i 0)=15 by omega]
theorem qZT: ∀b:Fin 256,(UInt8.ofNat b.val&&&15).toNat=b.val%16∧(UInt8.ofNat (b.val/2^min 4 8)).toNat=b.val/16:=by decide+kernel
theorem lo_eq(b:UInt8):(b&&&15).toNat=b.toNat%16∧(UInt8.ofNat (b.toNat/2^min 4 8)).toNat=b.toNat/16:=by
 have h:=qZT ⟨b.toNat,b.toNat_lt⟩
 simp only [UInt8.ofNat_toNat] at h
 exact h
end Wo
attribute [local irreducible] Sha.tagB Sha.tagged Wo.walk Wo.signs Wo.tops Wo.ends Wo.digs Wo.nibs Wo.left
theorem Wo.walk0(o:xA)(leaf chain a:Nat)(x:xA):Wo.walk o leaf chain a x 0=x:=by unfold Wo.walk;rfl
theorem Wo.walkS(o:xA)(leaf chain a:Nat)(x:xA)(n:Nat):Wo.step o leaf chain (a+n) (Wo.walk o leaf chain a x n)=Wo.walk o leaf chain a x (n+1):=by rw [Wo.walk]
theorem Wo.tops0(a:xA)(b:Nat):Wo.tops a b 0= []:=by unfold Wo.tops;rfl
theorem Wo.signs0(a:xA)(b:Nat)(d:List Nat):Wo.signs a b d 0= []:=by unfold Wo.signs;rfl
theorem Wo.ends0(a:xA)(b:Nat)(d:List Nat)(s:List xA):Wo.ends a b d s 0= []:=by unfold Wo.ends;rfl
theorem Wo.nibs0:Wo.nibs []= []:=by unfold Wo.nibs;rfl
theorem Wo.left0:Wo.left []=0:=by unfold Wo.left;rfl
theorem qVg{a b c:xA}(h1:a.length≤1048576)(h2:b.length≤1048576)(h3:c.length≤1048576): [a,b,c].flatten.length≤3145728:=by simp;omega
theorem qI3(F:Hp)(leaf chain stp:Nat)(h1:leaf<4611686018427387904)(h2:chain<4611686018427387904)(h3:stp<4611686018427387904):
    Cz prog 162 [I leaf,I chain,I stp] F (Str (Wo.place leaf chain stp)):=by
  refine Ct.walk func162 O ntmps162 O (λw0 hw0=>?_)
  exact J.g λ_ j1=>J.b O<|J.c j1<|J.g λ_ j2=>J.b O<|J.f ((qC3 O O O ⟨xC,xB⟩).as (v':=I (leaf/2^24:Nat)) (congrArg I xD)) O<|J.f (qAw O O u3_ u5_) O<|J.b O<|J.f ((qC3 O O O ⟨xC,xB⟩).as (v':=I (leaf/2^16:Nat)) (congrArg I xD)) O<|J.f (qAw O O u3_ u5_) O<|J.b O<|J.f ((qC3 O O O ⟨xC,xB⟩).as (v':=I (leaf/2^8:Nat)) (congrArg I xD)) O<|J.f (qAw O O u3_ u5_) O<|J.b O<|J.f (qAw O O u3_ u5_) O<|J.b O<|J.f (qAw O O u3_ u5_) O<|J.b O<|J.f (qAw O O u3_ u5_) O<|J.p (qAE (l:= [.tmp 9,.tmp 12,.tmp 15,.tmp 17,.tmp 19,.tmp 21]) (xs:= [[B8 (UInt8.ofNat (leaf/2^24))],[B8 (UInt8.ofNat (leaf/2^16))],[B8 (UInt8.ofNat (leaf/2^8))],[B8 (UInt8.ofNat leaf)],[B8 (UInt8.ofNat chain)],[B8 (UInt8.ofNat stp)]]) O O O O qBt el5 O xC xC xD) O λg22 _=>J.f (qBn O O qBt u5_ u9_ (m:=blk g22 [B8 (UInt8.ofNat (leaf/2^24)),B8 (UInt8.ofNat (leaf/2^16)),B8 (UInt8.ofNat (leaf/2^8)),B8 (UInt8.ofNat leaf),B8 (UInt8.ofNat chain),B8 (UInt8.ofNat stp)] 5) xD (slB (Wo.place leaf chain stp) O)) O<|J.b O<|J.c j2<|J.A<|J.E hw0 O () O trivial [0] O xC
theorem qIe(F:Hp)(hK:KF F)(seed:xA)(hs:seed.length≤1048576):Cz prog 49 [Str seed] F (Str (Wo.opn seed)):=by
 refine Ct.walk func49 O ntmps49 O (λw0 hw0=>?_)
 exact J.g λ_ j1=>J.b O<|J.c j1<|J.g λ_ j2=>J.b O<|J.p (qAE (l:= [.tmp 3]) (xs:= [[Str (seed)]]) O O O O qAk el9 O xC xC xD) O λg4 _=>J.p (qAa O O (λF' hF=>qA6 F' (hK.mono (Fa hF)) 3 (some ⟨g4,0,none⟩) 1 1 [seed] ((slS [seed] O).mono (hF (blk g4 (([seed]:List xA).map λs=>Str s) 9) xD)) (by simp [Wo.place_length];omega) xC)) O λg5 _=>J.b O<|J.c j2<|J.A<|J.E hw0 O () O trivial [0] O xC
theorem qLb(F:Hp)(hK:KF F)(o:xA)(leaf chain:Nat)(ho:o.length≤1048576)(h1:leaf<4611686018427387904)(h2:chain<4611686018427387904)(x:xA)(hx:x.length≤1048576)(from' to':Int)(a n:Nat)(ha:(a:Int)=max from' 0)(ha2:a<4611686018427387904)(hn:(n:Int)=max (min to' 15-a) 0):
    Cz prog 104 [Str o,I leaf,I chain,I from',I to',Str x] F (Str (Wo.walk o leaf chain a x n)):=by
  refine Ct.walk func104 O ntmps104 O (λw0 hw0=>?_)
  refine J.g λ_ j1=>J.b O<|J.c j1<|J.q λ_ j2=>J.g λ_ j3=>J.b O<|J.f ((qIB O O O).nat (a+0) xB) O<|J.b O<|J.c j3<|J.V<|J.b6 (λk:Nat=> [(0,Str o),(1,I leaf),(2,I chain),(4,I to'),(5,Str (Wo.walk o leaf chain a x k)),(13,I (a+k:Nat))]) (λ_=> [F]) (λk=>k≤n) (λk=>n-k) 0 (jG _) ⟨O,O,O,O,by rw [Wo.walk0];rfl,O,trivial⟩ (λ_ h=>h) ?_
  intro k hk I0 hI0
  have hw:=Wo.walk_small o leaf chain a x hx k
  refine J.q λ_ j4=>J.g λ_ j5=>J.k 2 O<|J.f (qFr O O O) O<|J.f (qAS O O O) O<|J.c j5<|J.a0 O (λh19=>?_) (λh19=>?_)
  ·
    refine J.T j4<|J.q λ_ j6=>J.V<|J.H<|J.k 4 O<|J.p (qAK O O ent (qI3 F leaf chain (a+k) h1 h2 xB)) O λg26 _=>J.b O<|J.p (qAE (l:= [.tmp 22,.tmp 26,.tmp 27]) (xs:= [[Str (o)],[Str (Wo.place leaf chain (a+k))],[Str ((Wo.walk o leaf chain a x k))]]) O O O O qAk el9 O xC xC xD) O λg28 _=>J.p (qAa O O (λF' hF=>qA6 F' (hK.mono (Fa hF)) 2 (some ⟨g28,0,none⟩) 3 3 [o,Wo.place leaf chain (a+k),(Wo.walk o leaf chain a x k)] ((slS [o,Wo.place leaf chain (a+k),(Wo.walk o leaf chain a x k)] O).mono (hF (blk g28 (([o,Wo.place leaf chain (a+k),(Wo.walk o leaf chain a x k)]:List xA).map λs=>Str s) 9) xD)) (by have:=qVg ho (show(Wo.place leaf chain (a+k)).length≤1048576 by rw [Wo.place_length];decide) hw;omega) xC)) O λg29 _=>J.b O<|J.a4<|J.a3<|J.u (J.G j6 ?_)
    exact J.c5 [0] [F] O xC<|J.H<|J.b O<|J.f ((qAQ O O O xB).nat (a+(k+1)) xB) O<|J.b O<|J.a4<|J.u<|J.a5 (k+1) (λx (hx:x≤n∧n-x<n-k)=>hI0 x hx.1 hx.2) ⟨xB,xB⟩ ⟨O,O,O,O,by rw [←Wo.walkS];rfl,O,trivial⟩ (λ_ h=>h)
  refine J.b3<|J.a1<|J.a1<|J.b4 ?_
  refine J.u (J.G j2 ?_)
  refine J.q λ_ j7=>?_
  have hkn:n=k:=xB
  subst hkn
  exact J.H<|J.k 2 O<|J.c j7<|J.A<|J.E hw0 O () O trivial [0] O xC
theorem qHs(F:Hp)(hK:KF F)(seed:xA)(leaf chain:Nat)(hs:seed.length≤1048576)(h1:leaf<4611686018427387904)(h2:chain<4611686018427387904):
    Cz prog 105 [Str seed,I leaf,I chain] F (Str (Wo.secret seed leaf chain)):=by
  refine Ct.walk func105 O ntmps105 O (λw0 hw0=>?_)
  exact J.g λ_ j1=>J.b O<|J.c j1<|J.g λ_ j2=>J.k 3 O<|J.p (qAK O O ent (qI3 F leaf chain 0 h1 h2 xC)) O λg10 _=>J.p (qAE (l:= [.tmp 7,.tmp 10]) (xs:= [[Str (seed)],[Str (Wo.place leaf chain 0)]]) O O O O qAk el9 O xC xC xD) O λg11 _=>J.p (qAa O O (λF' hF=>qA6 F' (hK.mono (Fa hF)) 1 (some ⟨g11,0,none⟩) 2 2 [seed,Wo.place leaf chain 0] ((slS [seed,Wo.place leaf chain 0] O).mono (hF (blk g11 (([seed,Wo.place leaf chain 0]:List xA).map λs=>Str s) 9) xD)) (by simp [Wo.place_length];omega) xC)) O λg12 _=>J.b O<|J.c j2<|J.A<|J.E hw0 O () O trivial [0] O xC
theorem qHt(F:Hp)(hK:KF F)(o:xA)(leaf:Nat)(ho:o.length≤1048576)(h1:leaf<4611686018427387904)(A:Option Addr)(n c:Nat)(e:List xA)(he:Sl F 1 A n c (qAG e))(hsm: ∀s∈e,s.length≤1048576)(hn:n≤1024):
    Cz prog 106 [Str o,I leaf,.slice A n c] F (Str (Wo.publicOf o leaf e)):=by
  have hlen:e.length=n:=by have:=he.1;simpa [qAG] using this
  have hfl:=Mk.flat_small hsm
  rw [hlen] at hfl
  refine Ct.walk func106 O ntmps106 O (λw0 hw0=>?_)
  refine J.g λ_ j1=>J.b O<|J.c j1<|J.g λ_ j2=>J.k 2 O<|J.p (qAK O O ent (qI3 F leaf 0 0 h1 xC xC)) O λg9 _=>J.p (qAE (l:= [.tmp 7,.tmp 9]) (xs:= [[Str (o)],[Str (Wo.place leaf 0 0)]]) O O O O qAk el9 O xC xC xD) O λg10 _=>J.b O<|J.p (qAU (i:=1) (m2:=F) O O O qAk qAk el9 O (qA7 (q:=True) (qAG [o,Wo.place leaf 0 0]) (n:=2) O (by simp [qAG]) O) xD he (qCy _) xB xB) O ?_
  rintro⟨A12,c12,m12⟩ h12
  try dsimp only at h12
  rw [←qCO] at h12
  exact J.p (qAa O O (λF' hF=>qA6 F' (hK.mono (Fa hF)) 4 A12 (2+n) c12 ([o,Wo.place leaf 0 0]++e) (h12.sl.mono (Fa hF)) (by simp only [zM,jA,jc,js,Wo.place_length,jE];omega) xB)) O λg13 _=>J.b O<|J.c j2<|J.A<|J.E hw0 O () O trivial [0] O xC
theorem qWP(F:Hp)(hK:KF F)(seed:xA)(leaf:Nat)(hs:seed.length≤1048576)(h1:leaf<4611686018427387904):
    Cz prog 47 [Str seed,I leaf] F (Str (Wo.pub seed leaf)):=by
  refine Ct.walk func47 O ntmps47 O (λw0 hw0=>?_)
  refine J.g λ_ j1=>J.b O<|J.c j1<|J.g λ_ j2=>J.b O<|J.p (qAK O O ent (qIe F hK seed hs)) O λg9 _=>J.b O<|J.c j2<|J.g λ_ j3=>J.b O<|J.c j3<|J.q λ_ j4=>J.q λ_ j5=>J.d0 [0,1] [F,(λ_=>none)] O xC<|J.H<|J.b O<|J.c j5<|J.V<|J.b6 (X:=Nat×Option Addr×Nat×Hp) (λx=> [(0,Str seed),(1,I leaf),(5,Str (Wo.opn seed)),(6,.slice x.2.1 x.1 x.2.2.1),(10,I x.1)]) (λx=> [F,x.2.2.2]) (λx=>x.1≤35∧Row x.2.2.2 9 1 x.2.1 x.1 x.2.2.1 (qAG (Wo.tops seed leaf x.1))) (λx=>35-x.1) (0,none,0,λ_=>none) (⟨jG _,by rw [Wo.tops0];exact qBh.nil⟩) ⟨O,O,O,O,O,trivial⟩ (λ_ h=>h) ?_
  rintro⟨k,A6,c6,m⟩ ⟨hk,hrow⟩ I0 hI0
  dsimp only at hk hrow⊢
  refine J.g λ_ j6=>J.f (qAS O O O) O<|J.c j6<|J.q λ_ j7=>J.a0 O (λh11=>?_) (λh11=>?_)
  ·
    refine J.T j7<|J.q λ_ j8=>J.V<|J.g λ_ j9=>J.k 2 O<|J.c j9<|J.H<|J.k 7 O<|J.p (qAa O O (λF' hF=>qHs F' (hK.mono (Fa hF)) seed leaf k hs h1 xB)) O λg20 _=>J.p (qAa O O (λF' hF=>qLb F' (hK.mono (Fa hF)) (Wo.opn seed) leaf k (by rw [Wo.opn_length];decide) h1 xB (Wo.secret seed leaf k) (by rw [Wo.secret_length];decide) 0 15 0 15 xB xB xB)) O λg21 _=>J.p (qAE (l:= [.tmp 21]) (xs:= [[Str ((Wo.walk (Wo.opn seed) leaf k 0 (Wo.secret seed leaf k) 15))]]) O O O O qAk el9 O xC xC xD) O λg22 _=>J.p (qAU (i:=1) (m2:=blk g22 [Str (Wo.walk (Wo.opn seed) leaf k 0 (Wo.secret seed leaf k) 15)] 9) O O O qAk qAk el9 O hrow xD (qAl (q:=True) (xs:=qAG [(Wo.walk (Wo.opn seed) leaf k 0 (Wo.secret seed leaf k) 15)]) O (by simp [qAG])).sl (qCy _) xB xB) O ?_
    rintro⟨A23,c23,m23⟩ h23
    try dsimp only at h23
    rw [←qCO,←Wo.tops_succ] at h23
    refine J.c5 [0,1] [F,m23] O xC<|J.b O<|J.a4<|J.a3<|J.u (J.G j8 ?_)
    exact J.H<|J.f ((qAQ O O O xB).nat (k+1) xB) O<|J.b O<|J.a4<|J.u<|J.a5 (k+1,A23,c23,m23) (λx (hx:_∧35-x.1<35-k)=>hI0 x hx.1 hx.2) ⟨⟨by dsimp only;omega,h23⟩,by dsimp only;omega⟩ ⟨O,O,O,O,O,trivial⟩ (λ_ h=>h)
  refine J.b3<|J.a1<|J.a1<|J.b4 ?_
  refine J.u (J.G j4 ?_)
  refine J.q λ_ j10=>?_
  have hk35:k=35:=xB
  subst hk35
  exact J.H<|J.k 3 O<|J.p (qAa O O (λF' hF=>qHt F' (hK.mono (Fa hF)) (Wo.opn seed) leaf (by rw [Wo.opn_length];decide) h1 A6 35 c6 (Wo.tops seed leaf 35) (hrow.sl.mono (Fa hF)) (λs hs=>jZ (Wo.tops_small seed leaf 35 s hs) xC) xC)) O λg28 _=>J.b O<|J.c j10<|J.A<|J.E hw0 O () O trivial [0] O xC
theorem qHS(F:Hp)(s:xA)(hs:s.length=16):
    Ct prog 147 [Str s] [F] (λx:Option Addr×Nat×Hp=> .tuple #[.slice x.1 35 x.2.1,I 0]) (λx=>Row x.2.2 3 1 x.1 35 x.2.1 (qBP (Wo.digs s))) (λx=> [F,x.2.2]):=by
  have hll:=Wo.left_le s
  refine Ct.walk func147 O ntmps147 O (λw0 hw0=>?_)
  refine J.g λ_ j1=>J.k 2 O<|J.c j1<|J.q λ_ j2=>J.g λ_ j3=>J.b O<|J.f (qAs u9_ O O) O<|J.f ((qAe O O O).no xB) O<|J.c j3<|J.a2 ?_
  refine J.T j2<|J.g λ_ j4=>J.b O<|J.c j4<|J.q λ_ j5=>J.d0 [0,1] [F,(λ_=>none)] O xC<|J.H<|J.b O<|J.c j5<|J.q λ_ j6=>J.g λ_ j7=>J.b O<|J.f (qAs u9_ O O) O<|J.b O<|J.c j7<|J.V<|J.b6 (X:=Nat×Option Addr×Nat×Hp) (λx=> [(0,Str s),(4,.slice x.2.1 (2*x.1) x.2.2.1),(5,I (Wo.left (s.take x.1):Nat)),(14,I s.length),(15,I x.1)]) (λx=> [F,x.2.2.2]) (λx=>x.1≤16∧Row x.2.2.2 3 1 x.2.1 (2*x.1) x.2.2.1 (qBP (Wo.nibs (s.take x.1)))) (λx=>16-x.1) (0,none,0,λ_=>none) (⟨jG _,by rw [zg,Wo.nibs0];exact qBh.nil⟩) ⟨O,O,by rw [zg,Wo.left0];rfl,O,O,trivial⟩ (λ_ h=>h) ?_
  rintro⟨k,A4,c4,m⟩ ⟨hk,hrow⟩ I0 hI0
  dsimp only at hk hrow⊢
  have hlk:=Wo.left_le (s.take k)
  rw [jF] at hlk
  refine J.g λ_ j8=>J.f (qAS O O O) O<|J.c j8<|J.q λ_ j9=>J.a0 O (λh16=>?_) (λh16=>?_)
  ·
    refine J.T j9<|J.q λ_ j10=>J.V<|J.g λ_ j11=>J.k 2 O<|J.c j11<|J.q λ_ j12=>?_
    have hk16:k<16:=xB
    have hb8:=(s.getD k 0).toNat_lt
    refine J.b1 [F,m] [] (.y 0 (.y 1 (.y 2 (.y 3 (.y 4 (.y 5 (.y 6 (.y 7 (.y 8 (.y 9 (.y 10 (.y 11 .nil)))))))))))) Tryz.wide xF xD ?_
    refine J.L ?_
    refine J.L ?_
    refine J.j O (qBb u9_ O O O (qAi 0 xB)) O O<|J.j O (qQ5 O O O) O O<|J.j O ((qBy O O u5_ u3_).as (v':=I ((s.getD k 0).toNat/16:Nat)) (congrArg (λn:Nat=>I (n:Int)) (Wo.lo_eq (s.getD k 0)).2)) O O<|J.L ?_
    refine J.L ?_
    refine J.j O (qBb u9_ O O O (qAi 0 xB)) O O<|J.j O (qXb (b:=15) O O O) O O<|J.j O ((qBy O O u5_ u3_).as (v':=I ((s.getD k 0).toNat%16:Nat)) (congrArg (λn:Nat=>I (n:Int)) (Wo.lo_eq (s.getD k 0)).1)) O O<|J.j O (qEi (l:= [.tmp 22,.tmp 27]) O O O underlying288 el3 zeroValue288 O O (by simp [Value.cells]) (r:= [(s.getD k 0).toNat/16,(s.getD k 0).toNat%16].map λx:Nat=>I (x:Int)) O) O O<|J.L ?_
    refine J.a9<|J.u (J.G j12 ?_)
    refine J.V<|J.b6 (X:=Nat×Option Addr×Nat×Hp) (λx=> [(0,Str s),(4,.slice x.2.1 (2*k+x.1) x.2.2.1),(5,I (Wo.left (s.take k)+(([(s.getD k 0).toNat/16,(s.getD k 0).toNat%16].take x.1).map (15- ·)).sum:Nat)),(14,I s.length),(15,I k),(28,.agg ([(s.getD k 0).toNat/16,(s.getD k 0).toNat%16].map λx:Nat=>I (x:Int)).toArray),(29,I x.1)]) (λx=> [F,x.2.2.2]) (λx=>x.1≤2∧Row x.2.2.2 3 1 x.2.1 (2*k+x.1) x.2.2.1 (qBP ((Wo.nibs (s.take k))++ [(s.getD k 0).toNat/16,(s.getD k 0).toNat%16].take x.1))) (λx=>2-x.1) (0,A4,c4,m) (⟨jG _,by rw [zg,jR];exact hrow⟩) ⟨O,O,O,O,O,O,O,trivial⟩ (λ_ h=>h) ?_
    clear hrow
    rintro⟨j,A4,c4,m⟩ ⟨hj,hrow⟩ I2 hI2
    dsimp only at hj hrow⊢
    refine J.g λ_ j13=>J.f (qAS O O O) O<|J.c j13<|J.q λ_ j14=>J.a0 O (λh30=>?_) (λh30=>?_)
    ·
      refine J.T j14<|J.q λ_ j15=>J.V<|J.q λ_ j16=>?_
      have hj2:j<2:=xB
      have hsj:(([(s.getD k 0).toNat/16,(s.getD k 0).toNat%16].take (j+1)).map (15- ·)).sum=(([(s.getD k 0).toNat/16,(s.getD k 0).toNat%16].take j).map (15- ·)).sum+(15-([(s.getD k 0).toNat/16,(s.getD k 0).toNat%16].getD j 0)):=by match j,hj2 with|0,_=>simp|1,_=>simp
      have hdl:([(s.getD k 0).toNat/16,(s.getD k 0).toNat%16].getD j 0)≤15:=by match j,hj2 with|0,_=>(show(s.getD k 0).toNat/16≤15;omega)|1,_=>(show(s.getD k 0).toNat%16≤15;omega)
      have hsl:(([(s.getD k 0).toNat/16,(s.getD k 0).toNat%16].take j).map (15- ·)).sum≤15*j:=by match j,hj2 with|0,_=>simp|1,_=>simp
      refine J.H<|J.f (qJB (i:=j) (v:=I (([(s.getD k 0).toNat/16,(s.getD k 0).toNat%16].getD j 0):Nat)) O O O underlying288 z3_ b3_ xB (by rw [Nat.mul_one];match j,hj2 with|0,_=>rfl|1,_=>rfl)) O<|J.b O<|J.c j16<|J.g λ_ j17=>J.k 2 O<|J.p (qAE (l:= [.tmp 33]) (xs:= [[I (([(s.getD k 0).toNat/16,(s.getD k 0).toNat%16].getD j 0):Nat)]]) O O O O qDM el3 O xC xC xD) O λg34 _=>J.p (qAU (i:=1) (m2:=blk g34 (([([(s.getD k 0).toNat/16,(s.getD k 0).toNat%16].getD j 0)]:List Nat).map λx:Nat=>I (x:Int)) 3) O O O qDM qDM el3 O hrow xD (slN [([(s.getD k 0).toNat/16,(s.getD k 0).toNat%16].getD j 0)] O) (qNV _) xB xB) O ?_
      rintro⟨A35,c35,m35⟩ h35
      try dsimp only at h35
      rw [←qKf] at h35
      refine J.b O<|J.c j17<|J.c5 [0,1] [F,m35] O xC<|J.H<|J.k 2 O<|J.f ((qA3 O O O xB).as (v':=I (15-([(s.getD k 0).toNat/16,(s.getD k 0).toNat%16].getD j 0):Nat)) (congrArg I xB)) O<|J.f ((qAQ O O O xB).as (v':=I (Wo.left (s.take k)+(([(s.getD k 0).toNat/16,(s.getD k 0).toNat%16].take (j+1)).map (15- ·)).sum:Nat)) (congrArg I (by rw [hsj];omega))) O<|J.b O<|J.a4<|J.a3<|J.u (J.G j15 ?_)
      exact J.H<|J.f ((qAQ O O O xB).nat (j+1) xB) O<|J.b O<|J.a4<|J.u<|J.a5 (j+1,A35,c35,m35) (λx (hx:_∧2-x.1<2-j)=>hI2 x hx.1 hx.2) ⟨⟨by dsimp only;omega,by dsimp only;rw [show [(s.getD k 0).toNat/16,(s.getD k 0).toNat%16].take (j+1)= [(s.getD k 0).toNat/16,(s.getD k 0).toNat%16].take j++ [([(s.getD k 0).toNat/16,(s.getD k 0).toNat%16].getD j 0)] by match j,hj2 with|0,_=>rfl|1,_=>rfl,←jW];exact h35⟩,by dsimp only;omega⟩ ⟨O,O,O,O,O,O,O,trivial⟩ (λ_ h=>h)
    refine J.b3<|J.a1<|J.a1<|J.b4 ?_
    refine J.a3<|J.u (J.G j10 ?_)
    refine J.H<|J.f ((qAQ O O O xB).nat (k+1) xB) O<|J.b O<|J.a4<|J.u ?_
    have hj2:j=2:=xB
    subst hj2
    have e1:=Wo.nibs_snoc s k xB
    have e2:=Wo.left_snoc s k xB
    have hb8:=(s.getD k 0).toNat_lt
    have e3:(([(s.getD k 0).toNat/16,(s.getD k 0).toNat%16].take 2).map (15- ·)).sum=(15-(s.getD k 0).toNat/16)+((15-(s.getD k 0).toNat%16)+0):=rfl
    exact J.a5 (k+1,A4,c4,m) (λx (hx:_∧16-x.1<16-k)=>hI0 x hx.1 hx.2) ⟨⟨by dsimp only;omega,by dsimp only;rw [e1];exact hrow⟩,by dsimp only;omega⟩ ⟨O,by rw [show 2*(k+1)=2*k+2 by omega];rfl,by rw [e2];exact congrArg (λn:Nat=>some (I (n:Int))) (by rw [e3];omega),O,O,trivial⟩ (λ_ h=>h)
  refine J.b3<|J.a1<|J.a1<|J.b4 ?_
  refine J.u (J.G j6 ?_)
  refine J.q λ_ j18=>J.q λ_ j19=>?_
  have hk16:k=16:=xB
  subst hk16
  rw [jf xB] at hrow
  refine J.H<|J.b O<|J.c j19<|J.V<|J.b6 (X:=Nat×Option Addr×Nat×Hp) (λx=> [(4,.slice x.2.1 (32+x.1) x.2.2.1),(5,I (Wo.left s:Nat)),(9,I (2-(x.1:Int)))]) (λx=> [F,x.2.2.2]) (λx=>x.1≤3∧Row x.2.2.2 3 1 x.2.1 (32+x.1) x.2.2.1 (qBP (Wo.nibs s++ [Wo.left s/256,Wo.left s/16%16,Wo.left s%16].take x.1))) (λx=>3-x.1) (0,A4,c4,m) (⟨jG _,by rw [zg,jR];exact hrow⟩) ⟨O,by rw [jf xB];rfl,O,trivial⟩ (λ_ h=>h) ?_
  clear hrow hlk
  rintro⟨t,A4,c4,m⟩ ⟨ht,hrow⟩ I4 hI4
  dsimp only at ht hrow⊢
  refine J.q λ_ j20=>J.g λ_ j21=>J.b O<|J.f (qBL O O O) O<|J.c j21<|J.a0 O (λh43=>?_) (λh43=>?_)
  ·
    refine J.T j20<|J.q λ_ j22=>J.V ?_
    have ht2:t<3:=xB
    refine J.H<|J.k 2 O<|J.f ((qA2 O O).nat (2-t) xB) O<|J.f ((qDe O O O xB).nat (4*(2-t)) xB) O<|J.f ((qC3 O O O xB).as (v':=I (Wo.left s/2^(4*(2-t)):Nat)) (congrArg I xD)) O<|J.f ((qNR 4 O O O xC xC).as (v':=I ([Wo.left s/256,Wo.left s/16%16,Wo.left s%16].getD t 0:Nat)) (congrArg I (by match t,ht2 with|0,_=>(show((Wo.left s/2^(4*(2-0)):Nat):Int)%2^4=((Wo.left s/256:Nat):Int);omega)|1,_=>(show((Wo.left s/2^(4*(2-1)):Nat):Int)%2^4=((Wo.left s/16%16:Nat):Int);omega)|2,_=>(show((Wo.left s/2^(4*(2-2)):Nat):Int)%2^4=((Wo.left s%16:Nat):Int);omega)))) O<|J.p (qAE (l:= [.tmp 51]) (xs:= [[I (([Wo.left s/256,Wo.left s/16%16,Wo.left s%16].getD t 0):Nat)]]) O O O O qDM el3 O xC xC xD) O λg52 _=>J.p (qAU (i:=1) (m2:=blk g52 (([([Wo.left s/256,Wo.left s/16%16,Wo.left s%16].getD t 0)]:List Nat).map λx:Nat=>I (x:Int)) 3) O O O qDM qDM el3 O hrow xD (slN [([Wo.left s/256,Wo.left s/16%16,Wo.left s%16].getD t 0)] O) (qNV _) xB xB) O ?_
    rintro⟨A53,c53,m53⟩ h53
    try dsimp only at h53
    rw [←qKf] at h53
    refine J.b O<|J.a4<|J.a3<|J.u (J.G j22 ?_)
    exact J.c5 [0,1] [F,m53] O xC<|J.H<|J.b O<|J.f ((qA3 O O O xB).as (v':=I (2-((t+1:Nat):Int))) (congrArg I xB)) O<|J.b O<|J.a4<|J.u<|J.a5 (t+1,A53,c53,m53) (λx (hx:_∧3-x.1<3-t)=>hI4 x hx.1 hx.2) ⟨⟨by dsimp only;omega,by dsimp only;rw [show [Wo.left s/256,Wo.left s/16%16,Wo.left s%16].take (t+1)= [Wo.left s/256,Wo.left s/16%16,Wo.left s%16].take t++ [[Wo.left s/256,Wo.left s/16%16,Wo.left s%16].getD t 0] by match t,ht2 with|0,_=>rfl|1,_=>rfl|2,_=>rfl,←jW];exact h53⟩,by dsimp only;omega⟩ ⟨O,O,O,trivial⟩ (λ_ h=>h)
  refine J.b3<|J.a1<|J.a1<|J.b4 ?_
  refine J.u (J.G j18 ?_)
  refine J.q λ_ j23=>?_
  have ht3:t=3:=xB
  subst ht3
  exact J.H<|J.k 3 O<|J.c j23<|J.A<|J.b0 hw0 (λ_ _ h=>h) (qCK O O O) (qAn (A4,c4,m) O (by unfold Wo.digs;exact hrow) [0,1] O xC)
theorem qWr(F:Hp)(hK:KF F)(seed:xA)(leaf:Nat)(d:xA)(hs:seed.length≤1048576)(h1:leaf<4611686018427387904)(hd:d.length=16):
    Ct prog 80 [Str seed,I leaf,Str d] [F] (λx:Option Addr×Nat×Hp=> .tuple #[.slice x.1 35 x.2.1,I 0]) (λx=>Row x.2.2 9 1 x.1 35 x.2.1 (qAG (Wo.signs seed leaf (Wo.digs d) 35))) (λx=> [F,x.2.2]):=by
  have hdl:(Wo.digs d).length=35:=by rw [Wo.digs_length,hd]
  have hd15:=Wo.digs_le d xB
  refine Ct.walk func80 O ntmps80 O (λw0 hw0=>?_)
  refine J.g λ_ j1=>J.k 2 O<|J.c j1<|J.g λ_ j2=>J.b O<|J.p (qBr O O (λF' hF=>qHS F' d hd)) O ?_
  rintro⟨A16,c16,m16⟩ h16
  try dsimp only at h16
  refine J.b O<|J.f (qAb O O O) O<|J.f (qAb O O O) O<|J.k 2 O<|J.c j2<|J.q λ_ j3=>J.g λ_ j4=>J.b O<|J.f ((qAe O O O).no xC) O<|J.c j4<|J.a2 ?_
  refine J.T j3<|J.g λ_ j5=>J.b O<|J.p (qAa O O (λF' hF=>qIe F' (hK.mono (Fa hF)) seed hs)) O λg23 _=>J.b O<|J.c j5<|J.q λ_ j6=>J.d0 [0,1,2] [F,m16,(λ_=>none)] O xC<|J.H<|J.b O<|J.c j6<|J.q λ_ j7=>J.g λ_ j8=>J.b O<|J.f (qAR qDM O O) O<|J.b O<|J.c j8<|J.V<|J.b6 (X:=Nat×Option Addr×Nat×Hp) (λx=> [(0,Str seed),(1,I leaf),(10,Str (Wo.opn seed)),(11,.slice x.2.1 x.1 x.2.2.1),(24,.slice A16 35 c16),(25,I (35:Nat)),(26,I x.1)]) (λx=> [F,m16,x.2.2.2]) (λx=>x.1≤35∧Row x.2.2.2 9 1 x.2.1 x.1 x.2.2.1 (qAG (Wo.signs seed leaf (Wo.digs d) x.1))) (λx=>35-x.1) (0,none,0,λ_=>none) (⟨jG _,by rw [Wo.signs0];exact qBh.nil⟩) ⟨O,O,O,O,O,O,O,trivial⟩ (λ_ h=>h) ?_
  rintro⟨k,A6,c6,m⟩ ⟨hk,hrow⟩ I0 hI0
  dsimp only at hk hrow⊢
  have hdk:=hd15 k
  refine J.g λ_ j9=>J.f (qAS O O O) O<|J.c j9<|J.q λ_ j10=>J.a0 O (λh27=>?_) (λh27=>?_)
  ·
    refine J.T j10<|J.q λ_ j11=>J.V<|J.g λ_ j12=>J.b O<|J.f (qAF O O O qDM z3_ h16.sl xB) O<|J.f (qAI O O b3_ (m:=m16) xD (h16.sl.elem (qCQ (k:=k) xB))) O<|J.k 2 O<|J.c j12<|J.H<|J.k 8 O<|J.p (qAa O O (λF' hF=>qHs F' (hK.mono (Fa hF)) seed leaf k hs h1 xB)) O λg39 _=>J.p (qAa O O (λF' hF=>qLb F' (hK.mono (Fa hF)) (Wo.opn seed) leaf k (by rw [Wo.opn_length];decide) h1 xB (Wo.secret seed leaf k) (by rw [Wo.secret_length];decide) 0 ((Wo.digs d).getD k 0) 0 ((Wo.digs d).getD k 0) xB xB xB)) O λg40 _=>J.p (qAE (l:= [.tmp 40]) (xs:= [[Str ((Wo.walk (Wo.opn seed) leaf k 0 (Wo.secret seed leaf k) ((Wo.digs d).getD k 0)))]]) O O O O qAk el9 O xC xC xD) O λg41 _=>J.p (qAU (i:=2) (m2:=blk g41 [Str (Wo.walk (Wo.opn seed) leaf k 0 (Wo.secret seed leaf k) ((Wo.digs d).getD k 0))] 9) O O O qAk qAk el9 O hrow xD (qAl (q:=True) (xs:=qAG [(Wo.walk (Wo.opn seed) leaf k 0 (Wo.secret seed leaf k) ((Wo.digs d).getD k 0))]) O (by simp [qAG])).sl (qCy _) xB xB) O ?_
    rintro⟨A42,c42,m42⟩ h42
    try dsimp only at h42
    rw [←qCO,←Wo.signs_succ] at h42
    refine J.c5 [0,1,2] [F,m16,m42] O xC<|J.b O<|J.a4<|J.a3<|J.u (J.G j11 ?_)
    exact J.H<|J.f ((qAQ O O O xB).nat (k+1) xB) O<|J.b O<|J.a4<|J.u<|J.a5 (k+1,A42,c42,m42) (λx (hx:_∧35-x.1<35-k)=>hI0 x hx.1 hx.2) ⟨⟨by dsimp only;omega,h42⟩,by dsimp only;omega⟩ ⟨O,O,O,O,O,O,O,trivial⟩ (λ_ h=>h)
  refine J.b3<|J.a1<|J.a1<|J.b4 ?_
  refine J.u (J.G j7 ?_)
  refine J.q λ_ j13=>?_
  have hk35:k=35:=xB
  subst hk35
  exact J.H<|J.k 3 O<|J.c j13<|J.A<|J.b0 hw0 (λ_ _ h=>h) (qCK O O O) (qAn (A6,c6,m) O hrow [0,2] O xC)
theorem qPj(F:Hp)(A:Option Addr)(n c:Nat)(ls:List xA)(hl:Sl F 1 A n c (qAG ls))(h16: ∀s∈ls,s.length=16)(hn:n=35):
    Cz prog 210 [.slice A n c] F (.bool true):=by
  have hlen:ls.length=n:=by have:=hl.1;simpa [qAG] using this
  refine Ct.walk func210 O ntmps210 O (λw0 hw0=>?_)
  refine J.g λ_ j1=>J.b O<|J.c j1<|J.q λ_ j2=>J.g λ_ j3=>J.b O<|J.f (qAR qAk O O) O<|J.b O<|J.c j3<|J.V<|J.b6 (λk:Nat=> [(0,.slice A n c),(5,.slice A n c),(6,I n),(7,I k)]) (λ_=> [F]) (λk=>k≤n) (λk=>n-k) 0 (jG _) ⟨O,O,O,O,trivial⟩ (λ_ h=>h) ?_
  intro k hk I0 hI0
  refine J.g λ_ j4=>J.f (qAS O O O) O<|J.c j4<|J.q λ_ j5=>J.a0 O (λh8=>?_) (λh8=>?_)
  ·
    refine J.T j5<|J.q λ_ j6=>J.V<|J.g λ_ j7=>J.f (qAF O O O qAk z9_ hl xB) O<|J.f (qAI O O b9_ (m:=F) xD (hl.elem (qAY (qAi [] (show k<ls.length by omega))))) O<|J.b O<|J.c j7<|J.g λ_ j8=>J.b O<|J.f (qAs u9_ O O) O<|J.f ((qAe O O O).no (by have:=h16 _ (jL (qAi [] (show k<ls.length by omega)));omega)) O<|J.c j8<|J.a2 ?_
    refine J.b5<|J.a3<|J.u (J.G j6 ?_)
    exact J.H<|J.f ((qAQ O O O xB).nat (k+1) xB) O<|J.b O<|J.a4<|J.u<|J.a5 (k+1) (λx (hx:x≤n∧n-x<n-k)=>hI0 x hx.1 hx.2) ⟨xB,xB⟩ ⟨O,O,O,O,trivial⟩ (λ_ h=>h)
  refine J.b3<|J.a1<|J.a1<|J.b4 ?_
  refine J.u (J.G j2 ?_)
  exact J.g λ_ j9=>J.b O<|J.f (qAR qAk O O) O<|J.f ((qAX O O O).yes xB) O<|J.b O<|J.c j9<|J.A<|J.E hw0 O () O trivial [0] O xC
theorem qOn(F:Hp)(hK:KF F)(o:xA)(leaf:Nat)(d:xA)(A:Option Addr)(c:Nat)(sig:List xA)(hl:Sl F 1 A 35 c (qAG sig))(ho:o.length≤1048576)(h1:leaf<4611686018427387904)(hd:d.length=16)(hsg: ∀s∈sig,s.length=16):
    Cz prog 181 [Str o,I leaf,Str d,.slice A 35 c] F (.tuple #[Str (Wo.publicOf o leaf (Wo.ends o leaf (Wo.digs d) sig 35)),I 0]):=by
  have hdl:(Wo.digs d).length=35:=by rw [Wo.digs_length,hd]
  have hd15:=Wo.digs_le d xB
  have hlen:sig.length=35:=by have:=hl.1;simpa [qAG] using this
  refine Ct.walk func181 O ntmps181 O (λw0 hw0=>?_)
  refine J.g λ_ j1=>J.k 2 O<|J.c j1<|J.g λ_ j2=>J.b O<|J.p (qBr O O (λF' hF=>qHS F' d hd)) O ?_
  rintro⟨A17,c17,m17⟩ h17
  try dsimp only at h17
  refine J.b O<|J.f (qAb O O O) O<|J.f (qAb O O O) O<|J.k 2 O<|J.c j2<|J.q λ_ j3=>J.V<|J.g λ_ j4=>J.b O<|J.f ((qAe O O O).no xC) O<|J.b O<|J.c j4<|J.a2 ?_
  refine J.g λ_ j5=>J.b O<|J.p (qAa O O (λF' hF=>qPj F' A 35 c sig (hl.mono (Fa hF)) hsg O)) O λg26 _=>J.f ((qAt O O).as (v':= .bool false) O) O<|J.b O<|J.c j5<|J.a2 ?_
  refine J.b5<|J.a3<|J.u (J.G j3 ?_)
  refine J.q λ_ j6=>J.d0 [0,1,2] [F,m17,(λ_=>none)] O xC<|J.H<|J.b O<|J.c j6<|J.q λ_ j7=>J.g λ_ j8=>J.b O<|J.f (qAR qDM O O) O<|J.b O<|J.c j8<|J.V<|J.b6 (X:=Nat×Option Addr×Nat×Hp) (λx=> [(0,Str o),(1,I leaf),(3,.slice A 35 c),(12,.slice x.2.1 x.1 x.2.2.1),(28,.slice A17 35 c17),(29,I (35:Nat)),(30,I x.1)]) (λx=> [F,m17,x.2.2.2]) (λx=>x.1≤35∧Row x.2.2.2 9 1 x.2.1 x.1 x.2.2.1 (qAG (Wo.ends o leaf (Wo.digs d) sig x.1))) (λx=>35-x.1) (0,none,0,λ_=>none) (⟨jG _,by rw [Wo.ends0];exact qBh.nil⟩) ⟨O,O,O,O,O,O,O,trivial⟩ (λ_ h=>h) ?_
  rintro⟨k,A6,c6,m⟩ ⟨hk,hrow⟩ I0 hI0
  dsimp only at hk hrow⊢
  have hdk:=hd15 k
  refine J.g λ_ j9=>J.f (qAS O O O) O<|J.c j9<|J.q λ_ j10=>J.a0 O (λh31=>?_) (λh31=>?_)
  ·
    refine J.T j10<|J.q λ_ j11=>J.V<|J.g λ_ j12=>J.b O<|J.f (qAF O O O qDM z3_ h17.sl xB) O<|J.f (qAI O O b3_ (m:=m17) xD (h17.sl.elem (qCQ (k:=k) xB))) O<|J.k 2 O<|J.c j12<|J.H<|J.k 7 O<|J.f (qAF O O O qAk z9_ hl xB) O<|J.f (qAI O O b9_ (m:=F) xD (hl.elem (qAY (qAi [] (show k<sig.length by omega))))) O<|J.p (qAa O O (λF' hF=>qLb F' (hK.mono (Fa hF)) o leaf k ho h1 xB (sig.getD k []) (by have:=hsg _ (jL (qAi [] (show k<sig.length by omega)));omega) ((((Wo.digs d).getD k 0):Nat):Int) 15 ((Wo.digs d).getD k 0) (15-((Wo.digs d).getD k 0)) xB xB xB)) O λg44 _=>J.p (qAE (l:= [.tmp 44]) (xs:= [[Str ((Wo.walk o leaf k ((Wo.digs d).getD k 0) (sig.getD k []) (15-((Wo.digs d).getD k 0))))]]) O O O O qAk el9 O xC xC xD) O λg45 _=>J.p (qAU (i:=2) (m2:=blk g45 [Str (Wo.walk o leaf k ((Wo.digs d).getD k 0) (sig.getD k []) (15-((Wo.digs d).getD k 0)))] 9) O O O qAk qAk el9 O hrow xD (qAl (q:=True) (xs:=qAG [(Wo.walk o leaf k ((Wo.digs d).getD k 0) (sig.getD k []) (15-((Wo.digs d).getD k 0)))]) O (by simp [qAG])).sl (qCy _) xB xB) O ?_
    rintro⟨A46,c46,m46⟩ h46
    try dsimp only at h46
    rw [←qCO,←Wo.ends_succ] at h46
    refine J.c5 [0,1,2] [F,m17,m46] O xC<|J.b O<|J.a4<|J.a3<|J.u (J.G j11 ?_)
    exact J.H<|J.f ((qAQ O O O xB).nat (k+1) xB) O<|J.b O<|J.a4<|J.u<|J.a5 (k+1,A46,c46,m46) (λx (hx:_∧35-x.1<35-k)=>hI0 x hx.1 hx.2) ⟨⟨by dsimp only;omega,h46⟩,by dsimp only;omega⟩ ⟨O,O,O,O,O,O,O,trivial⟩ (λ_ h=>h)
  refine J.b3<|J.a1<|J.a1<|J.b4 ?_
  refine J.u (J.G j7 ?_)
  refine J.q λ_ j13=>?_
  have hk35:k=35:=xB
  subst hk35
  exact J.H<|J.k 3 O<|J.p (qAa O O (λF' hF=>qHt F' (hK.mono (Fa hF)) o leaf ho h1 A6 35 c6 (Wo.ends o leaf (Wo.digs d) sig 35) (hrow.sl.mono (Fa hF)) (Wo.ends_small o leaf (Wo.digs d) sig 35 (λs hs=>Nat.le_of_eq (hsg s hs))) xC)) O λg51 _=>J.k 2 O<|J.c j13<|J.A<|J.b0 hw0 (λ_ _ h=>h) (qCK O O O) (qAn () O trivial [0] O xC)
end Go.Proofs.YtcgcjaflllmlpaaGreatDoor
namespace Go.Proofs.YtcgcjaflllmlpaaGreatDoor
attribute [local irreducible] SN.tagN Sha.tagged
namespace SM
open SN (qAy qAr forceL qA8)
noncomputable def runP{α:Type}(u o0 o1 o2 o3 o4 LC:Nat)(n:Nat):Nat→Nat→Nat→Nat→Nat→(Nat→Nat→Nat→Nat→α)→α:=
 Nat.rec (λ_ A B C D g=>g A B C D) (λ_ ih k A B C D g=>stepP u o0 o1 o2 o3 o4 (LC+k*256*u) A B C D λA B C D=>ih (k+1) A B C D g) n
theorem qQS{α:Type}(u o0 o1 o2 o3 o4 LC n k A B C D:Nat)(g:Nat→Nat→Nat→Nat→α):runP u o0 o1 o2 o3 o4 LC (n+1) k A B C D g=stepP u o0 o1 o2 o3 o4 (LC+k*256*u) A B C D λA B C D=>runP u o0 o1 o2 o3 o4 LC n (k+1) A B C D g:=rfl
attribute [local irreducible] qBH Sha.word Sha.shr stepP runP outs
noncomputable def lcN(N:Nat):Nat:=qBH N λz=>z/35*16777216+z%35*65536
theorem qGw{leaf:Nat}(h:leaf<256)(chain k:Nat):Wo.place leaf chain k=plc leaf chain k:=by
 unfold Wo.place plc
 rw [show leaf/2^24=0 by omega,show leaf/2^16=0 by omega,show leaf/2^8=0 by omega];rfl
theorem lc_eq{N:Nat}(hN:N≤8960){k:Nat}(hk:k<256):lcN N+k*256*qBT N=pk N λz=>Sha.be32 (UInt8.ofNat (z/35)) (UInt8.ofNat (z%35)) (UInt8.ofNat k) 0:=by
 unfold lcN pk
 rw [qDL,qBC]
 refine qI5 λz hz=>?_
 rw [R3.be32_nat,UInt8.toNat_ofNat',UInt8.toNat_ofNat',UInt8.toNat_ofNat']
 have h1:z/35<256:=by omega
 have h2:z%35<35:=Nat.mod_lt _ (by decide)
 show z/35*16777216+z%35*65536+k*256=256*(256*(256*(z/35%2^8)+z%35%2^8)+k%2^8)+0
 rw [Nat.mod_eq_of_lt (show z/35<2^8 by omega),Nat.mod_eq_of_lt (show z%35<2^8 by omega),Nat.mod_eq_of_lt (show k<2^8 by omega)]
 generalize z/35=p
 generalize z%35=q
 omega
theorem qWx{α:Type}{N:Nat}(hN:N≤8960)(o:List UInt8)(ho:o.length=16)(n:Nat): ∀(k:Nat) (a b c d:Nat→UInt32) (g:Nat→Nat→Nat→Nat→α),k+n≤256→
    ∃a' b' c' d':Nat→UInt32,runP (qBT N) (oW o 0).toNat (oW o 1).toNat (oW o 2).toNat (oW o 3).toNat (oW o 4).toNat (lcN N) n k (pk N a) (pk N b) (pk N c) (pk N d) g=g (pk N a') (pk N b') (pk N c') (pk N d')∧
      ∀z,z<N→x16 (a' z) (b' z) (c' z) (d' z)=Wo.walk o (z/35) (z%35) k (x16 (a z) (b z) (c z) (d z)) n:=by
  induction n with
  |zero=>intro k a b c d g _;exact⟨a,b,c,d,by unfold runP;rfl,λz _=>rfl⟩
  |succ n ih=>
    intro k a b c d g hk
    rw [qQS]
    obtain ⟨a1,b1,c1,d1,h1,h2⟩:=qTV N o ho (λz=>z/35) (λz=>z%35) k a b c d _ (lc_eq hN (by omega)) (λA B C D=>runP (qBT N) (oW o 0).toNat (oW o 1).toNat (oW o 2).toNat (oW o 3).toNat (oW o 4).toNat (lcN N) n (k+1) A B C D g)
    obtain ⟨a2,b2,c2,d2,h3,h4⟩:=ih (k+1) a1 b1 c1 d1 g (by omega)
    refine⟨a2,b2,c2,d2,h1.trans h3,λz hz=>?_⟩
    rw [h4 z hz,h2 z hz,←qGw (by omega)]
    have:=Wo.walk_add o (z/35) (z%35) k (x16 (a z) (b z) (c z) (d z)) 1 n
    rw [Nat.add_comm 1 n] at this
    exact this
noncomputable def manyW{α:Type}(n:Nat)(ms:List (List Nat))(g:Nat→Nat→Nat→Nat→Nat→α):α:=qAy (qBT n) λu=>cols (ms.map λm=>w4s 16 (SN.padN m)) λws=>oneP u ws (g u)
theorem qUS{α:Type}(L:List (List UInt8))(h: ∀l∈L,l.length≤55)(g:Nat→Nat→Nat→Nat→Nat→α): ∃a b c d:Nat→UInt32,manyW L.length (L.map (List.map UInt8.toNat)) g=g (qBT L.length) (pk L.length a) (pk L.length b) (pk L.length c) (pk L.length d)∧
    ∀z (hz:z<L.length),x16 (a z) (b z) (c z) (d z)=(Sha.sum L[z]).take 16:=by
  obtain ⟨M,hM⟩: ∃M,M=L.map Sha.pad:=⟨_,rfl⟩
  have hlen:M.length=L.length:=by rw [hM,List.length_map]
  have e1:(L.map (List.map UInt8.toNat)).map (λm=>w4s 16 (SN.padN m))=M.map λb=>(Sha.firsts b 16).map UInt32.toNat:=by
    rw [hM,List.map_map,List.map_map]
    refine List.map_congr_left λl hl=>?_
    have h5:=h l hl
    show w4s 16 (SN.padN (l.map UInt8.toNat))=(Sha.firsts (Sha.pad l) 16).map UInt32.toNat
    rw [SN.padN_eq l (by omega),qVZ 16 _ (by rw [Sha.pad_length];omega)]
  refine⟨λz=>(Sha.mix Sha.init (M.getD z [])).a,λz=>(Sha.mix Sha.init (M.getD z [])).b,λz=>(Sha.mix Sha.init (M.getD z [])).c,λz=>(Sha.mix Sha.init (M.getD z [])).d,?_,λz hz=>?_⟩
  · unfold manyW
    rw [qAr,e1,qSD,qUx,←hlen,qRB]
  · have e2:M.getD z []=Sha.pad L[z]:=by
      rw [hM,List.getD_eq_getElem?_getD,List.getElem?_map,List.getElem?_eq_getElem hz];rfl
    have h5:=h L[z] (List.getElem_mem hz)
    rw [←qZC,e2]
    unfold Sha.sum
    rw [show(Sha.pad L[z]).length/64=1 by rw [Sha.pad_length];omega,Sha.mixes,Sha.mixes,Nat.mul_zero,List.drop_zero]
theorem qYT(a b c d:UInt32):byt a b c d=(x16 a b c d).map UInt8.toNat:=by
 unfold byt x16
 rw [b4,b4,b4,b4]
 simp only [List.map_append]
attribute [local irreducible] manyW
noncomputable def topsN(L:Nat)(seed o:List Nat):List (List Nat):=
 manyW (35*L) ((List.range (35*L)).map λz=>tagL 1 [seed,[0,0,0,z/35,z%35,0]]) λu A B C D=>
  forceL [((16*256+o.getD 0 0)*256+o.getD 1 0)*256+o.getD 2 0,((o.getD 3 0*256+o.getD 4 0)*256+o.getD 5 0)*256+o.getD 6 0,((o.getD 7 0*256+o.getD 8 0)*256+o.getD 9 0)*256+o.getD 10 0,((o.getD 11 0*256+o.getD 12 0)*256+o.getD 13 0)*256+o.getD 14 0,((o.getD 15 0*256+0)*256+0)*256+0,lcN (35*L)] λq=>
  runP u (q.getD 0 0) (q.getD 1 0) (q.getD 2 0) (q.getD 3 0) (q.getD 4 0) (q.getD 5 0) 15 0 A B C D λA B C D=>outs (35*L) A B C D
theorem qTL{L:Nat}(hL:L≤255)(seed:List UInt8)(hs:seed.length≤40):topsN L (seed.map UInt8.toNat) ((Wo.opn seed).map UInt8.toNat)=(List.range (35*L)).map λz=>(Wo.walk (Wo.opn seed) (z/35) (z%35) 0 (Wo.secret seed (z/35) (z%35)) 15).map UInt8.toNat:=by
 obtain ⟨o,ho⟩: ∃o,o=Wo.opn seed:=⟨_,rfl⟩
 have h16:o.length=16:=by rw [ho];exact Wo.opn_length seed
 rw [←ho]
 obtain ⟨S,hS⟩: ∃S,S=(List.range (35*L)).map λz=>Sha.tagB 1 [seed,plc (z/35) (z%35) 0]:=⟨_,rfl⟩
 have hlen:S.length=35*L:=by rw [hS,List.length_map,List.length_range]
 have hb: ∀z,(Sha.tagB 1 [seed,plc (z/35) (z%35) 0]).length≤55:=λz=>by
  rw [Sha.tagB_length]
  simp only [List.flatten_cons,List.flatten_nil,List.length_append,List.length_cons,List.length_nil]
  unfold plc
  simp only [List.length_cons,List.length_nil]
  omega
 have e1:(List.range (35*L)).map (λz=>tagL 1 [seed.map UInt8.toNat,[0,0,0,z/35,z%35,0]])=S.map (List.map UInt8.toNat):=by
  rw [hS,List.map_map]
  refine List.map_congr_left λz hz=>?_
  have hz2:=List.mem_range.1 hz
  have:=qWd 1 [seed,plc (z/35) (z%35) 0] (hb z)
  rw [Function.comp_apply,←this]
  have e2:(plc (z/35) (z%35) 0).map UInt8.toNat= [0,0,0,z/35,z%35,0]:=by
   unfold plc
   simp only [List.map_cons,List.map_nil]
   rw [UInt8.toNat_ofNat',UInt8.toNat_ofNat',Nat.mod_eq_of_lt (show z/35<2^8 by omega),Nat.mod_eq_of_lt (show z%35<2^8 by omega)];rfl
  rw [List.map_cons,List.map_cons,List.map_nil,e2];rfl
 have hw: ∀(p q r s:UInt8),((p.toNat*256+q.toNat)*256+r.toNat)*256+s.toNat=(Sha.be32 p q r s).toNat:=λp q r s=>by rw [R3.be32_nat];omega
 have hg: ∀i,(o.map UInt8.toNat).getD i 0=(o.getD i 0).toNat:=λi=>SN.getD_map o i
 unfold topsN
 rw [e1,←hlen]
 obtain ⟨a,b,c,d,h1,h2⟩:=qUS S (λl hl=>by
  rw [hS] at hl
  obtain ⟨z,_,rfl⟩:=List.mem_map.1 hl
  exact hb z) (λu A B C D=>
  forceL [((16*256+(o.map UInt8.toNat).getD 0 0)*256+(o.map UInt8.toNat).getD 1 0)*256+(o.map UInt8.toNat).getD 2 0,(((o.map UInt8.toNat).getD 3 0*256+(o.map UInt8.toNat).getD 4 0)*256+(o.map UInt8.toNat).getD 5 0)*256+(o.map UInt8.toNat).getD 6 0,(((o.map UInt8.toNat).getD 7 0*256+(o.map UInt8.toNat).getD 8 0)*256+(o.map UInt8.toNat).getD 9 0)*256+(o.map UInt8.toNat).getD 10 0,(((o.map UInt8.toNat).getD 11 0*256+(o.map UInt8.toNat).getD 12 0)*256+(o.map UInt8.toNat).getD 13 0)*256+(o.map UInt8.toNat).getD 14 0,(((o.map UInt8.toNat).getD 15 0*256+0)*256+0)*256+0,lcN S.length] λq=>
  runP u (q.getD 0 0) (q.getD 1 0) (q.getD 2 0) (q.getD 3 0) (q.getD 4 0) (q.getD 5 0) 15 0 A B C D λA B C D=>outs S.length A B C D)
 refine h1.trans ?_
 obtain ⟨a2,b2,c2,d2,h3,h4⟩:=qWx (N:=S.length) (by omega) o h16 15 0 a b c d (λA B C D=>outs S.length A B C D) (by decide)
 rw [qA8]
 have q0:((16*256+(o.map UInt8.toNat).getD 0 0)*256+(o.map UInt8.toNat).getD 1 0)*256+(o.map UInt8.toNat).getD 2 0=(oW o 0).toNat:=by rw [hg,hg,hg];have h:=hw 16 (o.getD 0 0) (o.getD 1 0) (o.getD 2 0);rw [show(16:UInt8).toNat=16 from rfl] at h;exact h
 have q1:(((o.map UInt8.toNat).getD 3 0*256+(o.map UInt8.toNat).getD 4 0)*256+(o.map UInt8.toNat).getD 5 0)*256+(o.map UInt8.toNat).getD 6 0=(oW o 1).toNat:=by rw [hg,hg,hg,hg];exact hw _ _ _ _
 have q2:(((o.map UInt8.toNat).getD 7 0*256+(o.map UInt8.toNat).getD 8 0)*256+(o.map UInt8.toNat).getD 9 0)*256+(o.map UInt8.toNat).getD 10 0=(oW o 2).toNat:=by rw [hg,hg,hg,hg];exact hw _ _ _ _
 have q3:(((o.map UInt8.toNat).getD 11 0*256+(o.map UInt8.toNat).getD 12 0)*256+(o.map UInt8.toNat).getD 13 0)*256+(o.map UInt8.toNat).getD 14 0=(oW o 3).toNat:=by rw [hg,hg,hg,hg];exact hw _ _ _ _
 have q4:(((o.map UInt8.toNat).getD 15 0*256+0)*256+0)*256+0=(oW o 4).toNat:=by rw [hg];have h:=hw (o.getD 15 0) 0 0 0;rw [show(0:UInt8).toNat=0 from rfl] at h;exact h
 rw [q0,q1,q2,q3,q4]
 simp only [List.getD_cons_zero,List.getD_cons_succ]
 rw [h3]
 rw [qXP]
 refine List.map_congr_left λz hz=>?_
 have hz2:=List.mem_range.1 hz
 rw [qYT,h4 z hz2,h2 z hz2]
 have e3:(Sha.sum S[z]).take 16=Wo.secret seed (z/35) (z%35):=by
  unfold Wo.secret Sha.tagged
  rw [qGw (by omega)]
  congr 2
  simp only [hS,List.getElem_map,List.getElem_range]
 rw [e3]
end SM
end Go.Proofs.YtcgcjaflllmlpaaGreatDoor
namespace Go.Proofs.YtcgcjaflllmlpaaGreatDoor
open Go Go.Fw Go.Proofs.Tryz
namespace Xm
def leaves(seed:xA)(k:Nat):List xA:=(List.range k).map λi=>Wo.pub seed i
def root(seed:xA)(h:Nat):xA:=Mk.root (leaves seed (2^h)) h
def four(n:Nat):xA:= [UInt8.ofNat (n/2^24),UInt8.ofNat (n/2^16),UInt8.ofNat (n/2^8),UInt8.ofNat n]
def digest(o:xA)(i:Nat)(m:xA):xA:=Sha.tagged 6 [o,four i,m]
theorem leaves_succ(seed:xA)(k:Nat):leaves seed (k+1)=leaves seed k++ [Wo.pub seed k]:=by simp [leaves,jx]
theorem leaves_length(seed:xA)(k:Nat):(leaves seed k).length=k:=by simp [leaves]
theorem leaves_get(seed:xA)(k i:Nat)(h:i<k):(leaves seed k).getD i []=Wo.pub seed i:=by
 unfold leaves
 rw [jB,jN,zC h];rfl
theorem pub_length(seed:xA)(i:Nat):(Wo.pub seed i).length=16:=Sha.tagged_length _ _
theorem leaves_small(seed:xA)(k:Nat): ∀s∈leaves seed k,s.length≤1048576:=λs hs=>by
 simp only [leaves,zc] at hs
 obtain ⟨i,_,rfl⟩:=hs
 rw [pub_length];decide
theorem digest_length(o:xA)(i:Nat)(m:xA):(digest o i m).length=16:=Sha.tagged_length _ _
theorem four_length(n:Nat):(four n).length=4:=rfl
theorem pow_le(h:Nat)(h6:h≤6):2^h≤64:=jZ (jh xC h6) xC
end Xm
attribute [local irreducible] Sha.tagged Wo.pub Wo.publicOf Wo.signs Wo.ends Wo.digs Wo.walk Wo.opn Mk.root Mk.path Mk.climb
theorem Xm.leaves0(seed:xA):Xm.leaves seed 0= []:=rfl
theorem Wo.recPub(seed:xA)(leaf:Nat)(d:xA)(hd:d.length≤16):Wo.publicOf (Wo.opn seed) leaf (Wo.ends (Wo.opn seed) leaf (Wo.digs d) (Wo.signs seed leaf (Wo.digs d) 35) 35)=Wo.pub seed leaf:=by
 rw [Wo.recovers seed leaf (Wo.digs d) (Wo.digs_le d hd) 35];unfold Wo.pub;rfl
def qBW(seed o r:xA)(h:Int)(A:Option Addr)(n c:Nat):List Value:= [Str seed,Str o,Str r,I h,.slice A n c]
def qYf(mm:Hp)(g:Nat)(seed:xA)(h:Nat):Prop:= ∃A c mr,mm=U [blk g (qBW seed (Wo.opn seed) (Xm.root seed h) h A (2^h) c) 129,mr]∧Dj (blk g (qBW seed (Wo.opn seed) (Xm.root seed h) h A (2^h) c) 129) mr∧Row mr 9 1 A (2^h) c (qAG (Xm.leaves seed (2^h)))
theorem qYf.see{mm:Hp}{g:Nat}{seed:xA}{h:Nat}(hk:qYf mm g seed h): ∃A c,qAM mm ⟨g,0,none⟩ (qBW seed (Wo.opn seed) (Xm.root seed h) h A (2^h) c)∧Sl mm 1 A (2^h) c (qAG (Xm.leaves seed (2^h))):=by
 obtain ⟨A,c,mr,rfl,hd,hr⟩:=hk
 exact⟨A,c,qAM.blk0.mono (qVy _ _),hr.sl.mono (qRV hd)⟩
theorem qWO(F:Hp)(hK:KF F)(seed:xA)(h:Nat)(hs:seed.length≤1048576)(h6:h≤6):
    Ct prog 18 [Str seed,I h] [F] (λx:Nat×Hp=> .tuple #[Ptr x.1,I 0]) (λx=>qYf x.2 x.1 seed h) (λx=> [x.2,F]):=by
  have hp64:=Xm.pow_le h h6
  have hp0:=zA h
  refine Ct.walk func18 O ntmps18 O (λw0 hw0=>?_)
  refine J.g λ_ j1=>J.k 2 O<|J.c j1 ?_
  refine J.q λ_ j2=>J.g λ_ j3=>J.b O<|J.f ((qAS O O O).no xB) O<|J.k 2 O<|J.D ((qAz O O O).no xB) O<|J.b O<|J.c j3 ?_
  refine J.a2 ?_
  refine J.T j2 ?_
  refine J.g λ_ j4=>J.b O<|J.f (qAH (places:= [(0,1),(1,3),(4,1)]) (r:=qBW seed [] [] 0 none 0 0) O O O qHf zeroValue129 (λ_=>xI) O) O<|J.p (qAZ O O O) O λg18 _=>J.b O<|J.c j4 ?_
  refine J.q λ_ j5=>J.q λ_ j6=>J.d0 [0,1,2] [F,blk g18 (qBW seed [] [] 0 none 0 0) 129,(λ_=>none)] O xC<|J.H<|J.b O<|J.f ((qI8 O O O ⟨xB,by have:=Int.pow_pos (n:=2) (m:=h) xC;omega,by rw [Int.one_mul];exact Int.ofNat_le.2 (show 2^h≤9223372036854775807 by omega)⟩).as (v':=I (2^h:Nat)) (congrArg I xD)) O<|J.b O<|J.c j6 ?_
  refine J.V<|J.b6 (X:=Nat×Option Addr×Nat×Hp) (λx=> [(0,Str seed),(1,I h),(6,Ptr g18),(20,I (2^h:Nat)),(21,I x.1)]) (λx=> [F,blk g18 (qBW seed [] [] 0 x.2.1 x.1 x.2.2.1) 129,x.2.2.2]) (λx=>x.1≤2^h∧Row x.2.2.2 9 1 x.2.1 x.1 x.2.2.1 (qAG (Xm.leaves seed x.1))) (λx=>2^h-x.1) (0,none,0,λ_=>none) (⟨jG _,by rw [Xm.leaves0];exact qBh.nil⟩) ⟨O,O,O,O,O,trivial⟩ (λ_ h=>h) ?_
  rintro⟨k,A6,c6,m⟩ ⟨hk,hrow⟩ I0 hI0
  dsimp only at hk hrow⊢
  refine J.g λ_ j7=>J.f (qAS O O O) O<|J.c j7 ?_
  refine J.q λ_ j8=>J.a0 O (λh22=>?_) (λh22=>?_)
  ·
    refine J.T j8 ?_
    refine J.q λ_ j9=>J.V<|J.g λ_ j10=>J.k 2 O<|J.c j10 ?_
    refine J.b1 [blk g18 (qBW seed [] [] 0 A6 k c6) 129] [12] (.y 0 (.y 1 (.y 2 (.y 3 (.y 4 (.y 5 (.y 6 (.e 7 (.e 8 (.e 9 (.y 10 (.y 11 (.e 12 .nil))))))))))))) Tryz.wide xF xD ?_
    refine J.L ?_
    refine J.L ?_
    refine J.j O (qAB O O) O O<|J.j O (qAA O O qHf O qB1 O) O O<|J.j O (qAC 0 O O O qCC O) O O<|J.L ?_
    refine J.L ?_
    refine J.Z O (qAa O O (λF' hF=>qWP F' (hK.mono (Fa hF)) seed k hs xB)) O xD λg31 _=>J.Z O (qAE (l:= [.tmp 31]) (xs:= [[Str (Wo.pub seed k)]]) O O O O qAk el9 O xC xC xD) O xD λg32 _=>J.Z O (qAU (i:=2) (m2:=blk g32 [Str (Wo.pub seed k)] 9) O O O qAk qAk el9 O hrow xD (qAl (q:=True) (xs:=qAG [(Wo.pub seed k)]) O (by simp [qAG])).sl (qCy _) xB xB) O xD ?_
    rintro⟨A33,c33,m33⟩ h33
    try dsimp only at h33
    rw [←qCO,←Xm.leaves_succ] at h33
    refine J.j O (qAB O O) O O<|J.j O (qAA O O qHf O qB1 O) O O<|J.c1 O (qAT (i:=1) O O O O O qB1 O (by simp [qBW])) O O O λ_ _=>J.a9<|J.a3<|J.u (J.G j9 ?_)
    exact J.c5 [0,1,2] [F,blk g18 (qBW seed [] [] 0 A33 (k+1) c33) 129,m33] O xC<|J.H<|J.f ((qAQ O O O xB).nat (k+1) xB) O<|J.b O<|J.a4<|J.u<|J.a5 (k+1,A33,c33,m33) (λx (hx:_∧2^h-x.1<2^h-k)=>hI0 x hx.1 hx.2) ⟨⟨by dsimp only;omega,h33⟩,by dsimp only;omega⟩ ⟨O,O,O,O,O,trivial⟩ (λ_ h=>h)
  refine J.b3<|J.a1<|J.a1<|J.b4 ?_
  refine J.u (J.G j5 ?_)
  refine J.q λ_ j11=>?_
  have hkn:k=2^h:=xB
  subst hkn
  refine J.H<|J.b O<|J.f (qAB O O) O<|J.M 4 qHf qB1 O O O O O<|J.a7 1 qCC O O O O O<|J.p (qAa O O (λF' hF=>qW1 F' (hK.mono (Fa hF)) A6 (2^h) c6 (Xm.leaves seed (2^h)) (hrow.sl.mono (Fa hF)) h h6 O (Xm.leaves_small _ _))) O λg42 _=>J.k 2 O<|J.f (qAb O O O) O<|J.k 2 O<|J.c j11 ?_
  refine J.g λ_ j12=>J.k 2 O<|J.p (qAa O O (λF' hF=>qIe F' (hK.mono (Fa hF)) seed hs)) O λg47 _=>J.k 2 O<|J.f (qAH (places:= [(0,1),(1,1),(2,1)]) (r:= [Str (Wo.opn seed),Str (Xm.root seed h),I h]) O O O qLQ qZr (λ_=>xI) O) O<|J.f (qAB O O) O<|J.M 1 qHf qEA O O O O O<|J.a6 (qAT (i:=1) O O O O O qEA O (by simp [qBW])) O O λ_ _=>J.c j12 ?_
  refine J.q λ_ j13=>J.c5 [1,2,0] [blk g18 (qBW seed (Wo.opn seed) (Xm.root seed h) h A6 (2^h) c6) 129,m,F] O xC<|J.H<|J.k 3 O<|J.c j13 ?_
  exact J.A<|J.b0 hw0 (λ_ _ h=>h) (qCK O O O) (qCX (g18,U [blk g18 (qBW seed (Wo.opn seed) (Xm.root seed h) h A6 (2^h) c6) 129,m]) O (λhd=>⟨A6,c6,m,O,hd,hrow⟩) [0,1,2] O O xC)
theorem qPg(F:Hp)(g:Nat)(seed o r:xA)(h:Int)(A:Option Addr)(n c:Nat)(hc:qAM F ⟨g,0,none⟩ (qBW seed o r h A n c)):
    Cz prog 79 [Ptr g] F (I n):=by
  refine Ct.walk func79 O ntmps79 O (λw0 hw0=>?_)
  refine J.g λ_ j1=>J.b O<|J.c j1 ?_
  refine J.q λ_ j2=>J.g λ_ j3=>J.b O<|J.f ((qA4 underlying77 O O O).as (v':= .bool false) O) O<|J.c j3 ?_
  refine J.a2 ?_
  refine J.T j2 ?_
  refine J.g λ_ j4=>J.b O<|J.f (qAB O O) O<|J.M 4 qHf qB1 O O O O O<|J.f (qAI O O qCC (m:=F) xD (hc.at (i:=4) O)) O<|J.f (qAR qAk O O) O<|J.b O<|J.c j4 ?_
  exact J.A<|J.E hw0 O () O trivial [0] O xC
theorem qOO(F:Hp)(g:Nat)(seed o r:xA)(h:Int)(A:Option Addr)(n c:Nat)(hc:qAM F ⟨g,0,none⟩ (qBW seed o r h A n c)):
    Cz prog 19 [Ptr g] F (.agg #[Str o,Str r,I h]):=by
  refine Ct.walk func19 O ntmps19 O (λw0 hw0=>?_)
  refine J.g λ_ j1=>J.p (qAJ O qZr O) O λg2 _=>J.c j1 ?_
  refine J.q λ_ j2=>J.g λ_ j3=>J.b O<|J.f ((qA4 underlying77 O O O).as (v':= .bool false) O) O<|J.c j3 ?_
  refine J.a2 ?_
  refine J.T j2 ?_
  refine J.g λ_ j4=>J.b O<|J.f (qAB O O) O<|J.M 1 qHf qEA O O O O O<|J.f (qAV O O qLS qEA (m:=F) xD (hc.sub 1 3) O) O<|J.a6 (qAD (l:= [Str [],Str [],I 0]) (i:=1) (vs:= [Str o,Str r,I h]) O O O O O qEA O O) O O λ_ _=>J.c j4 ?_
  exact J.A<|J.b0 hw0 (λ_ _ h=>h) (rv1 O (RV.blkA 1 O O qLS qEA)) (qAn () O trivial [0] O xC)
theorem qHr(F:Hp)(hK:KF F)(o:xA)(i:Nat)(mg:xA)(ho:o.length≤1048576)(hi:i<4611686018427387904)(hm:mg.length≤1048576):
    Cz prog 81 [Str o,I i,Str mg] F (Str (Xm.digest o i mg)):=by
  refine Ct.walk func81 O ntmps81 O (λw0 hw0=>?_)
  refine J.g λ_ j1=>J.b O<|J.c j1 ?_
  refine J.g λ_ j2=>J.b O<|J.f ((qC3 O O O ⟨xC,xB⟩).as (v':=I (i/2^24:Nat)) (congrArg I xD)) O<|J.f (qAw O O u3_ u5_) O<|J.b O<|J.f ((qC3 O O O ⟨xC,xB⟩).as (v':=I (i/2^16:Nat)) (congrArg I xD)) O<|J.f (qAw O O u3_ u5_) O<|J.b O<|J.f ((qC3 O O O ⟨xC,xB⟩).as (v':=I (i/2^8:Nat)) (congrArg I xD)) O<|J.f (qAw O O u3_ u5_) O<|J.b O<|J.f (qAw O O u3_ u5_) O<|J.p (qAE (l:= [.tmp 10,.tmp 13,.tmp 16,.tmp 18]) (xs:= [[B8 (UInt8.ofNat (i/2^24))],[B8 (UInt8.ofNat (i/2^16))],[B8 (UInt8.ofNat (i/2^8))],[B8 (UInt8.ofNat i)]]) O O O O qBt el5 O xC xC xD) O λg19 _=>J.f (qBn O O qBt u5_ u9_ (m:=blk g19 [B8 (UInt8.ofNat (i/2^24)),B8 (UInt8.ofNat (i/2^16)),B8 (UInt8.ofNat (i/2^8)),B8 (UInt8.ofNat i)] 5) xD (slB (Xm.four i) O)) O<|J.b O<|J.c j2 ?_
  refine J.g λ_ j3=>J.k 3 O<|J.p (qAE (l:= [.tmp 21,.tmp 22,.tmp 23]) (xs:= [[Str (o)],[Str (Xm.four i)],[Str (mg)]]) O O O O qAk el9 O xC xC xD) O λg24 _=>J.p (qAa O O (λF' hF=>qA6 F' (hK.mono (Fa hF)) 6 (some ⟨g24,0,none⟩) 3 3 [o,Xm.four i,mg] ((slS [o,Xm.four i,mg] O).mono (hF (blk g24 (([o,Xm.four i,mg]:List xA).map λs=>Str s) 9) xD)) (by have:=qVg ho (show(Xm.four i).length≤1048576 by rw [Xm.four_length];decide) hm;omega) xC)) O λg25 _=>J.b O<|J.c j3 ?_
  exact J.A<|J.E hw0 O () O trivial [0] O xC
theorem qS5(F:Hp)(hK:KF F)(g:Nat)(seed:xA)(h:Nat)(A:Option Addr)(c:Nat)(hc:qAM F ⟨g,0,none⟩ (qBW seed (Wo.opn seed) (Xm.root seed h) h A (2^h) c))(hsl:Sl F 1 A (2^h) c (qAG (Xm.leaves seed (2^h))))(hs:seed.length≤1048576)(h6:h≤6)(mg:xA)(hm:mg.length≤1048576)(i:Nat)(hi:i<2^h):
    Ct prog 34 [Ptr g,I i,Str mg] [F] (λx:(Option Addr×Nat×Hp)×(Option Addr×Nat×Hp)=> .tuple #[.agg #[I i,.slice x.1.1 35 x.1.2.1,.slice x.2.1 h x.2.2.1],I 0]) (λx=>Row x.1.2.2 9 1 x.1.1 35 x.1.2.1 (qAG (Wo.signs seed i (Wo.digs (Xm.digest (Wo.opn seed) i mg)) 35))∧Row x.2.2.2 9 1 x.2.1 h x.2.2.1 (qAG (Mk.path (Xm.leaves seed (2^h)) i h))) (λx=> [F,x.1.2.2,x.2.2.2]):=by
  have hp64:=Xm.pow_le h h6
  have hdl:=Xm.digest_length (Wo.opn seed) i mg
  refine Ct.walk func34 O ntmps34 O (λw0 hw0=>?_)
  refine J.g λ_ j1=>J.p (qAJ O zeroValue68 O) O λg6 _=>J.b O<|J.c j1 ?_
  refine J.q λ_ j2=>J.V<|J.g λ_ j3=>J.b O<|J.f ((qA4 underlying77 O O O).as (v':= .bool false) O) O<|J.b O<|J.c j3 ?_
  refine J.a2 ?_
  refine J.g λ_ j4=>J.k 2 O<|J.p (qAa O O (λF' hF=>qPg F' g seed (Wo.opn seed) (Xm.root seed h) h A (2^h) c (hc.mono (Fa hF)))) O λg18 _=>J.f ((qBL O O O).no xB) O<|J.b O<|J.c j4 ?_
  refine J.a2 ?_
  refine J.g λ_ j5=>J.b O<|J.f ((qAS O O O).no xB) O<|J.b O<|J.c j5 ?_
  refine J.a2 ?_
  refine J.b5<|J.a3<|J.u (J.G j2 ?_)
  refine J.q λ_ j6=>J.b1 [F] [] (.y 0 (.y 1 (.y 2 (.y 3 (.y 4 (.y 5 (.y 6 (.y 7 (.y 8 (.y 9 (.y 10 (.y 11 (.e 12 (.e 13 (.y 14 (.y 15 (.y 16 (.y 17 (.y 18 .nil))))))))))))))))))) Tryz.wide xF xD ?_
  refine J.L ?_
  refine J.j O (qAB O O) O O<|J.j O (qAA O O qHf O z9_ O) O O<|J.j O (qAI O O b9_ (m:=F) xD (hc.at (i:=0) O)) O O<|J.L ?_
  refine J.L ?_
  refine J.j O (qAB O O) O O<|J.j O (qAA O O qHf O qEA O) O O<|J.j O (qAA O O qLQ O z9_ O) O O<|J.j O (qAI O O b9_ (m:=F) xD (hc.at (i:=1) O)) O O<|J.L ?_
  refine J.L ?_
  refine J.Z O (qAa O O (λF' hF=>qHr F' (hK.mono (Fa hF)) (Wo.opn seed) i mg (by rw [Wo.opn_length];decide) xB hm)) O xD λg38 _=>J.Z O (qBr O O (λF' hF=>qWr F' (hK.mono (Fa hF)) seed i (Xm.digest (Wo.opn seed) i mg) hs xB hdl)) O xD ?_
  rintro⟨A39,c39,m39⟩ h39
  try dsimp only at h39
  refine J.L ?_
  refine J.c2 (.slice A39 35 c39) ?_
  refine J.c2 (I 0) ?_
  refine J.b7 ?_
  refine J.b7 ?_
  refine J.a9<|J.u (J.G j6 ?_)
  refine J.q λ_ j7=>J.g λ_ j8=>J.b O<|J.f ((qAe O O O).no xC) O<|J.c j8 ?_
  refine J.a2 ?_
  refine J.T j7 ?_
  refine J.g λ_ j9=>J.b O<|J.f (qAB O O) O<|J.M 4 qHf qB1 O O O O O<|J.f (qAI O O qCC (m:=F) xD (hc.at (i:=4) O)) O<|J.b O<|J.p (qBr O O (λF' hF=>qXO F' (hK.mono (Fa hF)) A (2^h) c (Xm.leaves seed (2^h)) (hsl.mono (Fa hF)) h h6 O (Xm.leaves_small _ _) i hi)) O ?_
  rintro⟨A52,c52,m52⟩ h52
  try dsimp only at h52
  refine J.k 5 O<|J.c j9 ?_
  refine J.g λ_ j10=>J.k 3 O<|J.f (qAH (places:= [(0,1),(1,1),(2,1)]) (r:= [I i,.slice A39 35 c39,.slice A52 h c52]) O O O qJx zeroValue68 (λ_=>xI) O) O<|J.b O<|J.a6 (qAD (l:= [I 0,.slice none 0 0,.slice none 0 0]) (i:=1) (vs:= [I i,.slice A39 35 c39,.slice A52 h c52]) O O O O O qLO O O) O O λ_ _=>J.b O<|J.c j10 ?_
  exact J.A<|J.b0 hw0 (λ_ _ h=>h) (rv2 O (RV.blkA 1 O O isAgg68 qLO) O) (qAn ((A39,c39,m39),(A52,c52,m52)) O ⟨h39,h52⟩ [0,2,3] O xC)
theorem Wo.publicOf_length(o:xA)(leaf:Nat)(e:List xA):(Wo.publicOf o leaf e).length=16:=by unfold Wo.publicOf;exact Sha.tagged_length _ _
theorem qHq(F:Hp)(hK:KF F)(o r:xA)(h:Nat)(mg:xA)(i:Nat)(A1:Option Addr)(c1:Nat)(ch:List xA)(hch:Sl F 1 A1 35 c1 (qAG ch))(hsg: ∀s∈ch,s.length=16)(A2:Option Addr)(c2:Nat)(pt:List xA)(hpt:Sl F 1 A2 h c2 (qAG pt))(hps: ∀s∈pt,s.length≤1048576)
    (ho:o.length≤1048576) (hm:mg.length≤1048576) (h6:h≤6) (hi:i<2^h):
    Cz prog 132 [.agg #[Str o,Str r,I h],Str mg,.agg #[I i,.slice A1 35 c1,.slice A2 h c2]] F (.bool (decide (Mk.climb (Wo.publicOf o i (Wo.ends o i (Wo.digs (Xm.digest o i mg)) ch 35)) i pt=r))):=by
  have hp64:=Xm.pow_le h h6
  have hdl:=Xm.digest_length o i mg
  refine Ct.walk func132 O ntmps132 O (λw0 hw0=>?_)
  refine J.g λ_ j1=>J.p (qAZ O O O) O λg3 _=>J.p (qAZ O O O) O λg5 _=>J.b O<|J.c j1 ?_
  refine J.q λ_ j2=>J.q λ_ j3=>J.b1 [F,blk g3 [Str o,Str r,I h] 59,blk g5 [I i,.slice A1 35 c1,.slice A2 h c2] 68] [] (.y 0 (.y 1 (.y 2 (.y 3 (.y 4 (.y 5 (.y 6 (.y 7 (.y 8 (.y 9 (.y 10 (.y 11 (.y 12 (.y 13 (.y 14 (.y 15 (.y 16 (.y 17 (.y 18 (.y 19 (.y 20 (.y 21 (.y 22 (.y 23 (.y 24 (.y 25 (.y 26 (.y 27 (.y 28 .nil))))))))))))))))))))))))))))) Tryz.wide xF xD ?_
  refine J.j O (qAA O O qLQ O z3_ O) O O<|J.j O (qAC 1 O O O b3_ O) O O<|J.j O ((qAS O O O).no xB) O O<|J.L ?_
  refine J.c0 O (qAA O O qLQ O z3_ O) O O<|J.c0 O (qAC 1 O O O b3_ O) O O<|J.c0 O ((qAz O O O).no xB) O O<|J.e2 ?_
  refine J.L ?_
  refine J.c0 O (qAA O O qJx O z3_ O) O O<|J.c0 O (qAC 2 O O O b3_ O) O O<|J.c0 O ((qAS O O O).no xB) O O<|J.e2 ?_
  refine J.L ?_
  refine J.c0 O (qAA O O qJx O z3_ O) O O<|J.c0 O (qAC 2 O O O b3_ O) O O<|J.c0 O (qAA O O qLQ O z3_ O) O O<|J.c0 O (qAC 1 O O O b3_ O) O O<|J.c0 O ((qI8 O O O ⟨xB,by have:=Int.pow_pos (n:=2) (m:=h) xC;omega,by rw [Int.one_mul];exact Int.ofNat_le.2 (show 2^h≤9223372036854775807 by omega)⟩).as (v':=I (2^h:Nat)) (congrArg I xD)) O O<|J.c0 O ((qBL O O O).no xB) O O<|J.e2 ?_
  refine J.L ?_
  refine J.c0 O (qAA O O qJx O qB1 O) O O<|J.c0 O (qAC 2 O O O qCC O) O O<|J.c0 O (qAR qAk O O) O O<|J.c0 O (qAA O O qLQ O z3_ O) O O<|J.c0 O (qAC 1 O O O b3_ O) O O<|J.c0 O ((qAe O O O).no (λh=>h O)) O O<|J.e2 ?_
  refine J.a9<|J.u (J.G j3 ?_)
  refine J.a2 ?_
  refine J.T j2 ?_
  refine J.q λ_ j4=>J.b1 [F,blk g3 [Str o,Str r,I h] 59,blk g5 [I i,.slice A1 35 c1,.slice A2 h c2] 68] [] (.y 0 (.y 1 (.y 2 (.y 3 (.y 4 (.y 5 (.y 6 (.y 7 (.y 8 (.y 10 (.y 11 (.e 9 (.e 12 (.y 13 (.y 14 (.y 15 (.y 16 (.y 17 .nil)))))))))))))))))) Tryz.wide xF xD ?_
  refine J.j O (qAA O O qLQ O z9_ O) O O<|J.j O (qAC 1 O O O b9_ O) O O<|J.j O (qAA O O qJx O z3_ O) O O<|J.j O (qAC 2 O O O b3_ O) O O<|J.j O (qAA O O qLQ O z9_ O) O O<|J.j O (qAC 1 O O O b9_ O) O O<|J.j O (qAA O O qJx O z3_ O) O O<|J.j O (qAC 2 O O O b3_ O) O O<|J.L ?_
  refine J.j O (qAA O O qJx O qB1 O) O O<|J.j O (qAC 2 O O O qCC O) O O<|J.Z O (qAa O O (λF' hF=>qHr F' (hK.mono (Fa hF)) o i mg ho xB hm)) O xD λg48 _=>J.Z O (qAa O O (λF' hF=>qOn F' (hK.mono (Fa hF)) o i (Xm.digest o i mg) A1 c1 ch (hch.mono (Fa hF)) ho xB hdl hsg)) O xD λg51 _=>J.L ?_
  refine J.c2 (Str (Wo.publicOf o i (Wo.ends o i (Wo.digs (Xm.digest o i mg)) ch 35))) ?_
  refine J.c2 (I 0) ?_
  refine J.b7 ?_
  refine J.b7 ?_
  refine J.a9<|J.u (J.G j4 ?_)
  refine J.q λ_ j5=>J.b1 [F,blk g3 [Str o,Str r,I h] 59,blk g5 [I i,.slice A1 35 c1,.slice A2 h c2] 68] [] (.y 0 (.y 1 (.y 2 (.y 3 (.y 4 (.y 5 (.y 6 (.y 7 (.y 9 (.y 10 (.e 8 (.y 11 (.y 12 (.y 13 .nil)))))))))))))) Tryz.wide xF xD ?_
  refine J.L ?_
  refine J.j O ((qAX O O O).yes xC) O O<|J.L ?_
  refine J.c0 O (qA2 O O) O O<|J.c0 O (qAA O O qJx O z3_ O) O O<|J.c0 O (qAC 2 O O O b3_ O) O O<|J.c0 O (qAA O O qJx O qB1 O) O O<|J.c0 O (qAC 2 O O O qCC O) O O<|J.c0 O (qAA O O qLQ O z9_ O) O O<|J.c0 O (qAC 1 O O O b9_ O) O O<|J.e5 O (qAa O O (λF' hF=>qUz F' (hK.mono (Fa hF)) (Wo.publicOf o i (Wo.ends o i (Wo.digs (Xm.digest o i mg)) ch 35)) i A2 h c2 pt (hpt.mono (Fa hF)) (by rw [Wo.publicOf_length];decide) hps xB xB)) (Wan.is O O O O O) O O xD ?_
  intro g62 _
  refine J.c0 O (qBA O O O) O O<|J.d7 ?_
  refine J.b7 ?_
  refine J.a9<|J.u (J.G j5 ?_)
  exact J.A<|J.E hw0 O () O trivial [0] O xC
end Go.Proofs.YtcgcjaflllmlpaaGreatDoor
namespace Go.Proofs.YtcgcjaflllmlpaaGreatDoor
attribute [local irreducible] SN.tagN Sha.tagged SM.topsN
namespace SM
open SN (qAy qAr forceL qA8)
noncomputable def forceLL{α:Type}(l:List (List Nat)):(List (List Nat)→α)→α:=List.rec (λg=>g []) (λa _ ih g=>forceL a λx=>ih λr=>g (x::r)) l
theorem qIP{α:Type}: ∀(l:List (List Nat)) (g:List (List Nat)→α),forceLL l g=g l
 | [],_=>rfl
 |a::l,g=>by
  show forceL a (λx=>forceLL l λr=>g (x::r))=g (a::l)
  rw [qA8,qIP l]
noncomputable def aboveN(l:List (List Nat)):List (List Nat):=(List.range (l.length/2)).map λk=>SN.tagN 5 [l.getD (2*k) [],l.getD (2*k+1) []]
noncomputable def lvlN(l:List (List Nat)):Nat→List (List Nat)
 |0=>l
 |j+1=>aboveN (lvlN l j)
def natL(l:List (List UInt8)):List (List Nat):=l.map (List.map UInt8.toNat)
theorem qJM(l:List (List UInt8))(i:Nat):(natL l).getD i []=(l.getD i []).map UInt8.toNat:=by
 unfold natL
 rw [List.getD_eq_getElem?_getD,List.getD_eq_getElem?_getD,List.getElem?_map]
 cases l[i]?<;>rfl
theorem qKm{l:List (List UInt8)}(h: ∀x∈l,x.length=16)(i:Nat):(l.getD i []).length≤16:=by
 rw [List.getD_eq_getElem?_getD]
 by_cases hi:i<l.length
 · rw [List.getElem?_eq_getElem hi];exact Nat.le_of_eq (h _ (List.getElem_mem hi))
 · rw [List.getElem?_eq_none (by omega)];exact Nat.zero_le _
theorem qSq(l:List (List UInt8))(h: ∀x∈l,x.length=16):aboveN (natL l)=natL (Mk.above l):=by
 unfold aboveN Mk.above
 rw [show(natL l).length=l.length from List.length_map _]
 show _=List.map _ (List.map _ _)
 rw [List.map_map]
 refine List.map_congr_left λk _=>?_
 rw [qJM,qJM]
 have h1:=qKm h (2*k)
 have h2:=qKm h (2*k+1)
 exact SN.tagN_eq 5 [l.getD (2*k) [],l.getD (2*k+1) []] (by simp only [List.flatten_cons,List.flatten_nil,List.append_nil,List.length_append,List.length_cons,List.length_nil];omega)
theorem qVP(l:List (List UInt8)): ∀x∈Mk.above l,x.length=16:=λx hx=>by
 obtain ⟨k,_,rfl⟩:=List.mem_map.1 hx
 exact Sha.tagged_length _ _
theorem qRP(l:List (List UInt8))(h: ∀x∈l,x.length=16): ∀j,lvlN (natL l) j=natL (Mk.lvl l j)∧ ∀x∈Mk.lvl l j,x.length=16
 |0=>⟨rfl,h⟩
 |j+1=>by
  obtain ⟨h1,h2⟩:=qRP l h j
  exact⟨by rw [lvlN,h1,qSq _ h2,Mk.lvl],qVP _⟩
noncomputable def leavesN(L:Nat)(seed:List Nat):List (List Nat):=forceL (SN.tagN 3 [seed]) λo=>forceLL (topsN L seed o) λtops=>
 (List.range L).map λleaf=>SN.tagN 4 (o:: [0,0,0,leaf,0,0]::(tops.drop (35*leaf)).take 35)
noncomputable def rootN(h:Nat)(seed:List Nat):List Nat:=(lvlN (leavesN (2^h) seed) h).getD 0 []
theorem qQa{β:Type}(f:Nat→β)(L leaf:Nat)(h:leaf<L):(((List.range (35*L)).map f).drop (35*leaf)).take 35=(List.range 35).map λi=>f (35*leaf+i):=by
 apply List.ext_getElem?
 intro i
 rw [List.getElem?_take,List.getElem?_map]
 by_cases hi:i<35
 · rw [if_pos hi,List.getElem?_drop,List.getElem?_map,List.getElem?_range (by omega),List.getElem?_range hi];rfl
 · rw [if_neg hi,List.getElem?_eq_none (by rw [List.length_range];omega)];rfl
theorem leavesN_eq(L:Nat)(hp:L≤64)(seed:List UInt8)(hs:seed.length≤40):leavesN L (seed.map UInt8.toNat)=natL (Xm.leaves seed L):=by
 have ho:SN.tagN 3 [seed.map UInt8.toNat]=(Wo.opn seed).map UInt8.toNat:=SN.tagN_eq 3 [seed] (by simp only [List.flatten_cons,List.flatten_nil,List.append_nil,List.length_cons,List.length_nil];omega)
 unfold leavesN
 rw [qA8,qIP,ho,qTL (by omega) seed hs]
 have e:((List.range (L)).map λleaf=>SN.tagN 4 ((Wo.opn seed).map UInt8.toNat:: [0,0,0,leaf,0,0]::(((List.range (35*L)).map λz=>(Wo.walk (Wo.opn seed) (z/35) (z%35) 0 (Wo.secret seed (z/35) (z%35)) 15).map UInt8.toNat).drop (35*leaf)).take 35))=natL (Xm.leaves seed (L)):=by
  unfold natL Xm.leaves
  rw [List.map_map]
  refine List.map_congr_left λleaf hl=>?_
  have hl2:=List.mem_range.1 hl
  rw [qQa _ _ _ hl2]
  have e1:((List.range 35).map λi=>(Wo.walk (Wo.opn seed) ((35*leaf+i)/35) ((35*leaf+i)%35) 0 (Wo.secret seed ((35*leaf+i)/35) ((35*leaf+i)%35)) 15).map UInt8.toNat)=natL (Wo.tops seed leaf 35):=by
   unfold natL Wo.tops
   rw [List.map_map]
   refine List.map_congr_left λi hi=>?_
   have hi2:=List.mem_range.1 hi
   rw [show(35*leaf+i)/35=leaf by omega,show(35*leaf+i)%35=i by omega];rfl
  rw [e1]
  have e2:(Wo.place leaf 0 0).map UInt8.toNat= [0,0,0,leaf,0,0]:=by
   rw [qGw (by omega)]
   unfold plc
   simp only [List.map_cons,List.map_nil]
   rw [UInt8.toNat_ofNat',Nat.mod_eq_of_lt (show leaf<2^8 by omega)];rfl
  have h16: ∀x∈Wo.tops seed leaf 35,x.length=16:=λx hx=>by
   obtain ⟨i,_,rfl⟩:=List.mem_map.1 hx
   exact Wo.walk_16 _ _ _ _ _ (Wo.secret_length _ _ _) 15
  have hfl:(Wo.tops seed leaf 35).flatten.length≤100000:=by
   have: ∀l:List (List UInt8),(∀x∈l,x.length=16)→l.flatten.length=16*l.length:=λl hl=>by
    induction l with
    |nil=>rfl
    |cons a l ih=>rw [List.flatten_cons,List.length_append,ih (λx hx=>hl x (.tail _ hx)),hl a (.head _),List.length_cons];omega
   rw [this _ h16]
   unfold Wo.tops
   rw [List.length_map,List.length_range];decide
  have ht:=SN.tagN_eq 4 ([Wo.opn seed,Wo.place leaf 0 0]++Wo.tops seed leaf 35) (by
   have h35:(Wo.tops seed leaf 35).length=35:=by unfold Wo.tops;rw [List.length_map,List.length_range]
   rw [List.flatten_append,List.length_append,List.length_append,h35]
   simp only [List.flatten_cons,List.flatten_nil,List.append_nil,List.length_append,List.length_cons,List.length_nil,Wo.opn_length]
   unfold Wo.place
   simp only [List.length_cons,List.length_nil]
   omega)
  rw [Function.comp_apply]
  show _=(Wo.pub seed leaf).map UInt8.toNat
  unfold Wo.pub Wo.publicOf
  rw [←ht,List.map_append,List.map_cons,List.map_cons,List.map_nil,e2]
  rfl
 exact e
theorem rootN_eq(h:Nat)(h6:h≤6)(seed:List UInt8)(hs:seed.length≤40):rootN h (seed.map UInt8.toNat)=(Xm.root seed h).map UInt8.toNat:=by
 unfold rootN
 rw [leavesN_eq (2^h) (Xm.pow_le h h6) seed hs,(qRP _ (λx hx=>by
  obtain ⟨k,_,rfl⟩:=List.mem_map.1 hx
  exact Sha.tagged_length _ _) h).1,qJM]
 rfl
end SM
end Go.Proofs.YtcgcjaflllmlpaaGreatDoor
namespace Go.Proofs.YtcgcjaflllmlpaaGreatDoor
attribute [local irreducible] SN.tagN Sha.tagged
theorem qPB:SM.natL (Xm.leaves [97,117,100,105,116,111,114,97] 4)= [[231,8,164,122,234,57,121,228,189,73,3,251,107,179,0,61],[203,62,250,140,57,218,216,163,107,203,193,53,104,74,112,135],[64,243,149,4,237,171,250,26,169,213,237,102,127,193,221,63],[112,121,42,219,189,106,24,216,174,48,72,122,28,150,237,133]]:=by
 rw [←SM.leavesN_eq 4 (by decide) [97,117,100,105,116,111,114,97] (by decide)]
 decide+kernel
theorem qIy:(Xm.root [97,117,100,105,116,111,114,97] 2).map UInt8.toNat= [22,164,247,0,48,253,180,71,220,85,164,252,188,160,204,90]:=by
 rw [←SM.rootN_eq 2 (by decide) [97,117,100,105,116,111,114,97] (by decide)]
 unfold SM.rootN
 rw [SM.leavesN_eq 4 (by decide) [97,117,100,105,116,111,114,97] (by decide),show Xm.leaves [97,117,100,105,116,111,114,97] (2^2)=Xm.leaves [97,117,100,105,116,111,114,97] 4 from rfl,qPB]
 decide+kernel
end Go.Proofs.YtcgcjaflllmlpaaGreatDoor
namespace Go.Proofs.YtcgcjaflllmlpaaGreatDoor
attribute [local irreducible] SN.tagN Sha.tagged
theorem qPA:SM.natL (Xm.leaves [97,117,100,105,116,111,114,98] 4)= [[4,48,214,253,150,8,107,224,242,74,125,178,104,78,45,89],[181,103,124,109,204,137,245,219,91,20,4,13,32,168,103,207],[235,233,220,176,229,253,9,44,130,126,235,213,232,222,94,9],[125,204,114,40,58,53,49,141,222,80,123,192,3,168,24,249]]:=by
 rw [←SM.leavesN_eq 4 (by decide) [97,117,100,105,116,111,114,98] (by decide)]
 decide+kernel
theorem qIx:(Xm.root [97,117,100,105,116,111,114,98] 2).map UInt8.toNat= [101,12,161,181,223,198,74,60,112,220,105,68,168,64,74,68]:=by
 rw [←SM.rootN_eq 2 (by decide) [97,117,100,105,116,111,114,98] (by decide)]
 unfold SM.rootN
 rw [SM.leavesN_eq 4 (by decide) [97,117,100,105,116,111,114,98] (by decide),show Xm.leaves [97,117,100,105,116,111,114,98] (2^2)=Xm.leaves [97,117,100,105,116,111,114,98] 4 from rfl,qPA]
 decide+kernel
end Go.Proofs.YtcgcjaflllmlpaaGreatDoor
namespace Go.Proofs.YtcgcjaflllmlpaaGreatDoor
attribute [local irreducible] SN.tagN Sha.tagged
theorem qO9:SM.natL (Xm.leaves [97,117,100,105,116,111,114,99] 4)= [[2,45,57,30,201,111,61,146,173,198,83,130,3,77,41,86],[83,5,230,27,232,63,134,247,227,242,193,29,117,61,159,141],[52,28,142,41,175,164,164,183,55,52,143,43,168,202,32,241],[221,7,194,248,148,204,187,159,23,180,89,107,186,193,136,235]]:=by
 rw [←SM.leavesN_eq 4 (by decide) [97,117,100,105,116,111,114,99] (by decide)]
 decide+kernel
theorem qIw:(Xm.root [97,117,100,105,116,111,114,99] 2).map UInt8.toNat= [146,83,211,224,30,128,154,79,165,236,208,225,73,13,246,50]:=by
 rw [←SM.rootN_eq 2 (by decide) [97,117,100,105,116,111,114,99] (by decide)]
 unfold SM.rootN
 rw [SM.leavesN_eq 4 (by decide) [97,117,100,105,116,111,114,99] (by decide),show Xm.leaves [97,117,100,105,116,111,114,99] (2^2)=Xm.leaves [97,117,100,105,116,111,114,99] 4 from rfl,qO9]
 decide+kernel
end Go.Proofs.YtcgcjaflllmlpaaGreatDoor
namespace Go.Proofs.YtcgcjaflllmlpaaGreatDoor
attribute [local irreducible] SN.tagN Sha.tagged
theorem qUT:SM.natL (Xm.leaves [111,119,110,101,114] 1)= [[63,174,31,251,89,211,89,43,101,35,182,34,6,185,58,236]]:=by
 rw [←SM.leavesN_eq 1 (by decide) [111,119,110,101,114] (by decide)]
 decide+kernel
theorem qY3:(Xm.root [111,119,110,101,114] 0).map UInt8.toNat= [63,174,31,251,89,211,89,43,101,35,182,34,6,185,58,236]:=by
 rw [←SM.rootN_eq 0 (by decide) [111,119,110,101,114] (by decide)]
 unfold SM.rootN
 rw [SM.leavesN_eq 1 (by decide) [111,119,110,101,114] (by decide),show Xm.leaves [111,119,110,101,114] (2^0)=Xm.leaves [111,119,110,101,114] 1 from rfl,qUT]
 decide+kernel
end Go.Proofs.YtcgcjaflllmlpaaGreatDoor