/- A part of the proof. -/
import Derived.Test.YtcgcjaflllmlpaaGreatDoorTopCfG15
import Derived.Test.YtcgcjaflllmlpaaGreatDoorTopCfG11
import Derived.Test.YtcgcjaflllmlpaaGreatDoorTopCfG8
set_option linter.unusedSimpArgs false
set_option linter.unusedVariables false
namespace Go.Proofs.YtcgcjaflllmlpaaGreatDoor
open Go Go.Fw Go.Proofs.Tryz
set_option maxRecDepth 100000
set_option maxHeartbeats 1000000
attribute [local irreducible] Mk.node
namespace Mk
theorem qH0(s:List UInt8): ∀(p:List (List UInt8)) (x:List UInt8) (i:Nat),climb x i (p++ [s])=if i/2^p.length%2=0 then node (climb x i p) s else node s (climb x i p)
 | [],x,i=>by simp [climb]
 |a::p,x,i=>by
  rw [zu,climb,climb,qH0 s p,jD,jr,zp,←zx]
theorem qKk(l:List (List UInt8))(h i:Nat)(hl:l.length=2^h)(hi:i<2^h): ∀j,j≤h→climb (l.getD i []) i (path l i j)=(lvl l j).getD (i/2^j) []
  |0,_=>by simp [path,climb,lvl]
  |j+1,hj=>by
    have hlen:=lvl_length l h hl j (by omega)
    have h1:i/2^j<2^(h-j):=by rw [z7 (jz j),←Nat.pow_add,show h-j+j=h by omega];exact hi
    have h2:=qJd (show 0<h-j by omega)
    rw [path_succ,qH0,qKk l h i hl hi j (by omega),path_length,jr,←zx]
    generalize i/2^j=q at*
    rw [show lvl l (j+1)=above (lvl l j) from rfl,jB (l:=above (lvl l j)),qSA,hlen,if_pos (show q/2<2^(h-j)/2 by omega),qVY]
    split
    · rename_i e
      rw [show 2*(q/2)=q by omega];rfl
    · rename_i e
      rw [show 2*(q/2)=q-1 by omega,show q-1+1=q by omega];rfl
theorem climb_root(l:List (List UInt8))(h i:Nat)(hl:l.length=2^h)(hi:i<2^h):climb (l.getD i []) i (path l i h)=root l h:=by
 rw [qKk l h i hl hi h (jK _),zL hi];rfl
theorem flat_small{ls:List (List UInt8)}{w:Nat}(h: ∀s∈ls,s.length≤w):ls.flatten.length≤w*ls.length:=by
 induction ls with
 |nil=>simp
 |cons a l ih=>
  have:=ih (λs hs=>h s (.tail _ hs))
  have h2:=h a (.head _)
  rw [ja,jA,jD,Nat.mul_add];omega
end Mk
namespace Sha
end Sha
attribute [local irreducible] Sha.tagB Mk.root Mk.path
end Go.Proofs.YtcgcjaflllmlpaaGreatDoor
namespace Go.Proofs.YtcgcjaflllmlpaaGreatDoor
open Go Go.Fw Go.Proofs.Tryz
set_option maxRecDepth 100000
set_option maxHeartbeats 1000000
namespace Wo
def place(leaf chain step:Nat):List UInt8:= [UInt8.ofNat (leaf/2^24),UInt8.ofNat (leaf/2^16),UInt8.ofNat (leaf/2^8),UInt8.ofNat leaf,UInt8.ofNat chain,UInt8.ofNat step]
def step(opn:List UInt8)(leaf chain k:Nat)(x:List UInt8):List UInt8:=Sha.tagged 2 [opn,place leaf chain k,x]
def walk(opn:List UInt8)(leaf chain a:Nat)(x:List UInt8):Nat→List UInt8
 |0=>x
 |n+1=>step opn leaf chain (a+n) (walk opn leaf chain a x n)
def secret(seed:List UInt8)(leaf chain:Nat):List UInt8:=Sha.tagged 1 [seed,place leaf chain 0]
def opn(seed:List UInt8):List UInt8:=Sha.tagged 3 [seed]
def nibs(s:List UInt8):List Nat:=s.flatMap λb=> [b.toNat/16,b.toNat%16]
def left(s:List UInt8):Nat:=(s.map λb=>30-b.toNat/16-b.toNat%16).sum
def digs(s:List UInt8):List Nat:=nibs s++ [left s/256,left s/16%16,left s%16]
def signs(seed:List UInt8)(leaf:Nat)(ds:List Nat)(k:Nat):List (List UInt8):=(List.range k).map λi=>walk (opn seed) leaf i 0 (secret seed leaf i) (ds.getD i 0)
def ends(op:List UInt8)(leaf:Nat)(ds:List Nat)(sig:List (List UInt8))(k:Nat):List (List UInt8):=(List.range k).map λi=>walk op leaf i (ds.getD i 0) (sig.getD i []) (15-ds.getD i 0)
def publicOf(op:List UInt8)(leaf:Nat)(e:List (List UInt8)):List UInt8:=Sha.tagged 4 ([op,place leaf 0 0]++e)
def tops(seed:List UInt8)(leaf:Nat)(k:Nat):List (List UInt8):=(List.range k).map λi=>walk (opn seed) leaf i 0 (secret seed leaf i) 15
def pub(seed:List UInt8)(leaf:Nat):List UInt8:=publicOf (opn seed) leaf (tops seed leaf 35)
theorem qGK(a:List UInt8)(b c d:Nat)(x:List UInt8):(step a b c d x).length=16:=Sha.tagged_length _ _
theorem secret_length(a:List UInt8)(b c:Nat):(secret a b c).length=16:=Sha.tagged_length _ _
theorem opn_length(a:List UInt8):(opn a).length=16:=Sha.tagged_length _ _
theorem walk_small(o:List UInt8)(leaf chain a:Nat)(x:List UInt8)(h:x.length≤1048576): ∀n,(walk o leaf chain a x n).length≤1048576
 |0=>h
 |n+1=>by rw [walk,qGK];decide
theorem walk_16(o:List UInt8)(leaf chain a:Nat)(x:List UInt8)(h:x.length=16): ∀n,(walk o leaf chain a x n).length=16
 |0=>h
 |n+1=>qGK _ _ _ _ _
theorem walk_add(o:List UInt8)(leaf chain a:Nat)(x:List UInt8)(n:Nat): ∀m,walk o leaf chain (a+n) (walk o leaf chain a x n) m=walk o leaf chain a x (n+m)
 |0=>rfl
 |m+1=>by rw [walk,walk_add o leaf chain a x n m,←Nat.add_assoc,walk,Nat.add_assoc]
theorem place_length(a b c:Nat):(place a b c).length=6:=rfl
theorem nibs_snoc(s:List UInt8)(k:Nat)(h:k<s.length):nibs (s.take (k+1))=nibs (s.take k)++ [(s.getD k 0).toNat/16,(s.getD k 0).toNat%16]:=by
 unfold nibs
 rw [jP h,List.flatMap_append,jB,jC h];simp
theorem left_snoc(s:List UInt8)(k:Nat)(h:k<s.length):left (s.take (k+1))=left (s.take k)+(30-(s.getD k 0).toNat/16-(s.getD k 0).toNat%16):=by
 unfold left
 rw [jP h,jM,List.sum_append,jB,jC h];simp
theorem qLl(s:List UInt8):(nibs s).length=2*s.length:=by
 unfold nibs
 induction s with
 |nil=>rfl
 |cons a l ih=>rw [List.flatMap_cons,jA,ih];simp;omega
theorem left_le(s:List UInt8):left s≤30*s.length:=by
 unfold left
 induction s with
 |nil=>simp
 |cons a l ih=>rw [jZ,List.sum_cons,jD];omega
theorem digs_length(s:List UInt8):(digs s).length=2*s.length+3:=by unfold digs;rw [jA,qLl];rfl
theorem digs_le(s:List UInt8)(h:s.length≤16)(i:Nat):(digs s).getD i 0≤15:=by
  have hl:=left_le s
  have: ∀x∈digs s,x≤15:=λx hx=>by
    unfold digs nibs at hx
    rcases List.mem_append.1 hx with hx|hx
    · obtain ⟨b,_,hb⟩:=List.mem_flatMap.1 hx
      have:=b.toNat_lt
      simp only [zd,zC,or_false] at hb
      omega
    · simp only [zd,zC,or_false] at hx
      omega
  by_cases hi:i<(digs s).length
  · rw [jB,jC hi];exact this _ (jX _)
  · rw [jB,jg (by omega)];decide
theorem signs_succ(seed:List UInt8)(leaf:Nat)(ds:List Nat)(k:Nat):signs seed leaf ds (k+1)=signs seed leaf ds k++ [walk (opn seed) leaf k 0 (secret seed leaf k) (ds.getD k 0)]:=by simp [signs,jw]
theorem ends_succ(op:List UInt8)(leaf:Nat)(ds:List Nat)(sig:List (List UInt8))(k:Nat):ends op leaf ds sig (k+1)=ends op leaf ds sig k++ [walk op leaf k (ds.getD k 0) (sig.getD k []) (15-ds.getD k 0)]:=by simp [ends,jw]
theorem tops_succ(seed:List UInt8)(leaf:Nat)(k:Nat):tops seed leaf (k+1)=tops seed leaf k++ [walk (opn seed) leaf k 0 (secret seed leaf k) 15]:=by simp [tops,jw]
theorem qPh(seed:List UInt8)(leaf:Nat)(ds:List Nat)(k i:Nat)(h:i<k):(signs seed leaf ds k).getD i []=walk (opn seed) leaf i 0 (secret seed leaf i) (ds.getD i 0):=by
 unfold signs
 rw [jB,jO,jv h];rfl
theorem tops_small(seed:List UInt8)(leaf:Nat)(k:Nat): ∀s∈tops seed leaf k,s.length≤16:=λs hs=>by
 simp only [tops,zc] at hs
 obtain ⟨i,_,rfl⟩:=hs
 rw [walk_16 _ _ _ _ _ (secret_length _ _ _)];exact jK _
theorem signs_16(seed:List UInt8)(leaf:Nat)(ds:List Nat)(k:Nat): ∀s∈signs seed leaf ds k,s.length=16:=λs hs=>by
 simp only [signs,zc] at hs
 obtain ⟨i,_,rfl⟩:=hs
 rw [walk_16 _ _ _ _ _ (secret_length _ _ _)]
theorem ends_small(op:List UInt8)(leaf:Nat)(ds:List Nat)(sig:List (List UInt8))(k:Nat)(hg: ∀s∈sig,s.length≤16): ∀s∈ends op leaf ds sig k,s.length≤1048576:=λs hs=>by
 simp only [ends,zc] at hs
 obtain ⟨i,_,rfl⟩:=hs
 refine walk_small _ _ _ _ _ ?_ _
 by_cases h0:i<sig.length
 · rw [jB,jC h0];exact jb (hg _ (jX _)) (by decide)
 · rw [jB,jg (by omega)];decide
theorem recovers(seed:List UInt8)(leaf:Nat)(ds:List Nat)(hd: ∀i,ds.getD i 0≤15)(k:Nat):ends (opn seed) leaf ds (signs seed leaf ds k) k=tops seed leaf k:=by
 unfold ends tops
 apply yI
 intro i hi
 rw [List.mem_range] at hi
 rw [qPh _ _ _ _ _ hi]
 have h:=walk_add (opn seed) leaf i 0 (secret seed leaf i) (ds.getD i 0) (15-ds.getD i 0)
 rw [jj] at h
 have:=hd i
 rw [h,show ds.getD i 0+(15-ds.getD i 0)=15 by omega]
theorem qYZ: ∀b:Fin 256,(UInt8.ofNat b.val&&&15).toNat=b.val%16∧(UInt8.ofNat (b.val/2^min 4 8)).toNat=b.val/16:=by decide+kernel
theorem lo_eq(b:UInt8):(b&&&15).toNat=b.toNat%16∧(UInt8.ofNat (b.toNat/2^min 4 8)).toNat=b.toNat/16:=by
 have h:=qYZ ⟨b.toNat,b.toNat_lt⟩
 simp only [UInt8.ofNat_toNat] at h
 exact h
end Wo
attribute [local irreducible] Sha.tagB Sha.tagged Wo.walk Wo.signs Wo.tops Wo.ends Wo.digs Wo.nibs Wo.left
theorem Wo.walk0(o:List UInt8)(leaf chain a:Nat)(x:List UInt8):Wo.walk o leaf chain a x 0=x:=by unfold Wo.walk;rfl
theorem Wo.walkS(o:List UInt8)(leaf chain a:Nat)(x:List UInt8)(n:Nat):Wo.step o leaf chain (a+n) (Wo.walk o leaf chain a x n)=Wo.walk o leaf chain a x (n+1):=by rw [Wo.walk]
theorem Wo.tops0(a:List UInt8)(b:Nat):Wo.tops a b 0= []:=by unfold Wo.tops;rfl
theorem Wo.signs0(a:List UInt8)(b:Nat)(d:List Nat):Wo.signs a b d 0= []:=by unfold Wo.signs;rfl
theorem Wo.ends0(a:List UInt8)(b:Nat)(d:List Nat)(s:List (List UInt8)):Wo.ends a b d s 0= []:=by unfold Wo.ends;rfl
theorem Wo.nibs0:Wo.nibs []= []:=by unfold Wo.nibs;rfl
theorem Wo.left0:Wo.left []=0:=by unfold Wo.left;rfl
theorem qU0{a b c:List UInt8}(h1:a.length≤1048576)(h2:b.length≤1048576)(h3:c.length≤1048576): [a,b,c].flatten.length≤3145728:=by simp;omega
theorem qIb(F:Hp)(leaf chain stp:Nat)(h1:leaf<4611686018427387904)(h2:chain<4611686018427387904)(h3:stp<4611686018427387904):
    Cz prog 162 [I leaf,I chain,I stp] F (Str (Wo.place leaf chain stp)):=by
  refine Ct.walk func162 rfl ntmps162 rfl (λw0 hw0=>?_)
  exact J.f λ_ j1=>J.b O<|J.c j1<|J.f λ_ j2=>J.b O<|J.g ((qCp O O O ⟨by decide,by omega⟩).as (v':=I ((leaf/2^24:Nat):Int)) (congrArg I (by simp))) rfl<|J.g (qAv rfl rfl u3_ u5_) rfl<|J.b rfl<|J.g ((qCp rfl rfl rfl ⟨by decide,by omega⟩).as (v':=I ((leaf/2^16:Nat):Int)) (congrArg I (by simp))) rfl<|J.g (qAv rfl rfl u3_ u5_) rfl<|J.b rfl<|J.g ((qCp rfl rfl rfl ⟨by decide,by omega⟩).as (v':=I ((leaf/2^8:Nat):Int)) (congrArg I (by simp))) rfl<|J.g (qAv rfl rfl u3_ u5_) rfl<|J.b rfl<|J.g (qAv rfl rfl u3_ u5_) rfl<|J.b rfl<|J.g (qAv rfl rfl u3_ u5_) rfl<|J.b rfl<|J.g (qAv rfl rfl u3_ u5_) rfl<|J.p (qAG (l:= [.tmp 9,.tmp 12,.tmp 15,.tmp 17,.tmp 19,.tmp 21]) (xs:= [[B8 (UInt8.ofNat (leaf/2^24))],[B8 (UInt8.ofNat (leaf/2^16))],[B8 (UInt8.ofNat (leaf/2^8))],[B8 (UInt8.ofNat leaf)],[B8 (UInt8.ofNat chain)],[B8 (UInt8.ofNat stp)]]) rfl rfl rfl rfl qBl el5 rfl (by decide) (by decide) (by simp)) rfl λg22 _=>J.g (qBi rfl rfl qBl u5_ u9_ (m:=blk g22 [B8 (UInt8.ofNat (leaf/2^24)),B8 (UInt8.ofNat (leaf/2^16)),B8 (UInt8.ofNat (leaf/2^8)),B8 (UInt8.ofNat leaf),B8 (UInt8.ofNat chain),B8 (UInt8.ofNat stp)] 5) (by simp) (slB (Wo.place leaf chain stp) rfl)) rfl<|J.b rfl<|J.c j2<|J.A<|J.E hw0 rfl () rfl trivial [0] rfl (by decide)
theorem qIB(F:Hp)(hK:KF F)(seed:List UInt8)(hs:seed.length≤1048576):Cz prog 49 [Str seed] F (Str (Wo.opn seed)):=by
 refine Ct.walk func49 rfl ntmps49 rfl (λw0 hw0=>?_)
 exact J.f λ_ j1=>J.b O<|J.c j1<|J.f λ_ j2=>J.b O<|J.p (qAG (l:= [.tmp 3]) (xs:= [[Str (seed)]]) O O O O qAk el9 O (by decide) (by decide) (by simp)) rfl λg4 _=>J.p (qAB rfl rfl ent46 (Ct.use0 (λF' hF=>qA3 F' (hK.mono (Fa hF)) 3 (some ⟨g4,0,none⟩) 1 1 [seed] ((slS [seed] rfl).mono (hF (blk g4 (([seed]:List (List UInt8)).map λs=>Str s) 9) (by simp))) (by simp [Wo.place_length];omega) (by decide)))) rfl λg5 _=>J.b rfl<|J.c j2<|J.A<|J.E hw0 rfl () rfl trivial [0] rfl (by decide)
theorem qLC(F:Hp)(hK:KF F)(o:List UInt8)(leaf chain:Nat)(ho:o.length≤1048576)(h1:leaf<4611686018427387904)(h2:chain<4611686018427387904)(x:List UInt8)(hx:x.length≤1048576)(from' to':Int)(a n:Nat)(ha:(a:Int)=max from' 0)(ha2:a<4611686018427387904)(hn:(n:Int)=max (min to' 15-a) 0):
    Cz prog 104 [Str o,I leaf,I chain,I from',I to',Str x] F (Str (Wo.walk o leaf chain a x n)):=by
  refine Ct.walk func104 rfl ntmps104 rfl (λw0 hw0=>?_)
  refine J.f λ_ j1=>J.b O<|J.c j1<|J.k λ_ j2=>J.f λ_ j3=>J.b O<|J.g ((qHi O O O).nat (a+0) (by omega)) O<|J.b O<|J.c j3<|J.O<|J.b4 (λk:Nat=> [(0,Str o),(1,I leaf),(2,I chain),(4,I to'),(5,Str (Wo.walk o leaf chain a x k)),(13,I ((a+k:Nat):Int))]) (λ_=> [F]) (λk=>k≤n) (λk=>n-k) 0 (jG _) ⟨O,O,O,O,by rw [Wo.walk0];rfl,rfl,trivial⟩ (λ_ h=>h) ?_
  intro k hk I0 hI0
  have hw:=Wo.walk_small o leaf chain a x hx k
  refine J.k λ_ j4=>J.f λ_ j5=>J.q 2 O<|J.g (qFT O O O) O<|J.g (qAT O O O) O<|J.c j5<|J.W O (λh19=>?_) (λh19=>?_)
  ·
    refine J.M j4<|J.k λ_ j6=>J.O<|J.H<|J.q 4 O<|J.p (qAB O O ent162 (qIb F leaf chain (a+k) h1 h2 (by omega))) O λg26 _=>J.b O<|J.p (qAG (l:= [.tmp 22,.tmp 26,.tmp 27]) (xs:= [[Str (o)],[Str (Wo.place leaf chain (a+k))],[Str ((Wo.walk o leaf chain a x k))]]) O O O O qAk el9 O (by decide) (by decide) (by simp)) rfl λg28 _=>J.p (qAB rfl rfl ent46 (Ct.use0 (λF' hF=>qA3 F' (hK.mono (Fa hF)) 2 (some ⟨g28,0,none⟩) 3 3 [o,Wo.place leaf chain (a+k),(Wo.walk o leaf chain a x k)] ((slS [o,Wo.place leaf chain (a+k),(Wo.walk o leaf chain a x k)] rfl).mono (hF (blk g28 (([o,Wo.place leaf chain (a+k),(Wo.walk o leaf chain a x k)]:List (List UInt8)).map λs=>Str s) 9) (by simp))) (by have:=qU0 ho (show(Wo.place leaf chain (a+k)).length≤1048576 by rw [Wo.place_length];decide) hw;omega) (by decide)))) rfl λg29 _=>J.b rfl<|J.a3<|J.a2<|J.u (J.D j6 ?_)
    exact J.c1 [0] [F] O (by decide)<|J.H<|J.b O<|J.g ((qAS O O O (by omega)).nat (a+(k+1)) (by omega)) O<|J.b O<|J.a3<|J.u<|J.a4 (k+1) (λx (hx:x≤n∧n-x<n-k)=>hI0 x hx.1 hx.2) ⟨by omega,by omega⟩ ⟨O,O,O,O,by rw [←Wo.walkS];rfl,rfl,trivial⟩ (λ_ h=>h)
  refine J.b2<|J.a0<|J.a0<|J.b3 ?_
  refine J.u (J.D j2 ?_)
  refine J.k λ_ j7=>?_
  have hkn:n=k:=by omega
  subst hkn
  exact J.H<|J.q 2 O<|J.c j7<|J.A<|J.E hw0 O () O trivial [0] O (by decide)
theorem qHQ(F:Hp)(hK:KF F)(seed:List UInt8)(leaf chain:Nat)(hs:seed.length≤1048576)(h1:leaf<4611686018427387904)(h2:chain<4611686018427387904):
    Cz prog 105 [Str seed,I leaf,I chain] F (Str (Wo.secret seed leaf chain)):=by
  refine Ct.walk func105 rfl ntmps105 rfl (λw0 hw0=>?_)
  exact J.f λ_ j1=>J.b O<|J.c j1<|J.f λ_ j2=>J.q 3 O<|J.p (qAB O O ent162 (qIb F leaf chain 0 h1 h2 (by decide))) O λg10 _=>J.p (qAG (l:= [.tmp 7,.tmp 10]) (xs:= [[Str (seed)],[Str (Wo.place leaf chain 0)]]) O O O O qAk el9 O (by decide) (by decide) (by simp)) rfl λg11 _=>J.p (qAB rfl rfl ent46 (Ct.use0 (λF' hF=>qA3 F' (hK.mono (Fa hF)) 1 (some ⟨g11,0,none⟩) 2 2 [seed,Wo.place leaf chain 0] ((slS [seed,Wo.place leaf chain 0] rfl).mono (hF (blk g11 (([seed,Wo.place leaf chain 0]:List (List UInt8)).map λs=>Str s) 9) (by simp))) (by simp [Wo.place_length];omega) (by decide)))) rfl λg12 _=>J.b rfl<|J.c j2<|J.A<|J.E hw0 rfl () rfl trivial [0] rfl (by decide)
theorem qHR(F:Hp)(hK:KF F)(o:List UInt8)(leaf:Nat)(ho:o.length≤1048576)(h1:leaf<4611686018427387904)(A:Option Addr)(n c:Nat)(e:List (List UInt8))(he:Sl F 1 A n c (qAI e))(hsm: ∀s∈e,s.length≤1048576)(hn:n≤1024):
    Cz prog 106 [Str o,I leaf,.slice A n c] F (Str (Wo.publicOf o leaf e)):=by
  have hlen:e.length=n:=by have:=he.1;simpa [qAI] using this
  have hfl:=Mk.flat_small hsm
  rw [hlen] at hfl
  refine Ct.walk func106 rfl ntmps106 rfl (λw0 hw0=>?_)
  refine J.f λ_ j1=>J.b O<|J.c j1<|J.f λ_ j2=>J.q 2 O<|J.p (qAB O O ent162 (qIb F leaf 0 0 h1 (by decide) (by decide))) O λg9 _=>J.p (qAG (l:= [.tmp 7,.tmp 9]) (xs:= [[Str (o)],[Str (Wo.place leaf 0 0)]]) O O O O qAk el9 O (by decide) (by decide) (by simp)) rfl λg10 _=>J.b rfl<|J.p (qAV (i:=1) (m2:=F) rfl rfl rfl qAk qAk el9 rfl (qBD (q:=True) (qAI [o,Wo.place leaf 0 0]) (n:=2) rfl (by simp [qAI]) rfl) (by simp) he (qCR _) (by omega) (by omega)) rfl ?_
  rintro⟨A12,c12,m12⟩ h12
  try dsimp only at h12
  rw [←qCB] at h12
  exact J.p (qAB O O ent46 (Ct.use0 (λF' hF=>qA3 F' (hK.mono (Fa hF)) 4 A12 (2+n) c12 ([o,Wo.place leaf 0 0]++e) (h12.sl.mono (Fa hF)) (by simp only [zM,jA,ja,jx,Wo.place_length,jE];omega) (by omega)))) rfl λg13 _=>J.b rfl<|J.c j2<|J.A<|J.E hw0 rfl () rfl trivial [0] rfl (by decide)
theorem qVb(F:Hp)(hK:KF F)(seed:List UInt8)(leaf:Nat)(hs:seed.length≤1048576)(h1:leaf<4611686018427387904):
    Cz prog 47 [Str seed,I leaf] F (Str (Wo.pub seed leaf)):=by
  refine Ct.walk func47 rfl ntmps47 rfl (λw0 hw0=>?_)
  refine J.f λ_ j1=>J.b O<|J.c j1<|J.f λ_ j2=>J.b O<|J.p (qAB O O ent49 (qIB F hK seed hs)) O λg9 _=>J.b O<|J.c j2<|J.f λ_ j3=>J.b O<|J.c j3<|J.k λ_ j4=>J.k λ_ j5=>J.c7 [0,1] [F,(λ_=>none)] O (by decide)<|J.H<|J.b O<|J.c j5<|J.O<|J.b4 (X:=Nat×Option Addr×Nat×Hp) (λx=> [(0,Str seed),(1,I leaf),(5,Str (Wo.opn seed)),(6,.slice x.2.1 x.1 x.2.2.1),(10,I x.1)]) (λx=> [F,x.2.2.2]) (λx=>x.1≤35∧Row x.2.2.2 9 1 x.2.1 x.1 x.2.2.1 (qAI (Wo.tops seed leaf x.1))) (λx=>35-x.1) (0,none,0,λ_=>none) (⟨jG _,by rw [Wo.tops0];exact qBb.nil⟩) ⟨rfl,rfl,rfl,rfl,rfl,trivial⟩ (λ_ h=>h) ?_
  rintro⟨k,A6,c6,m⟩ ⟨hk,hrow⟩ I0 hI0
  dsimp only at hk hrow⊢
  refine J.f λ_ j6=>J.g (qAT O O O) O<|J.c j6<|J.k λ_ j7=>J.W O (λh11=>?_) (λh11=>?_)
  ·
    refine J.M j7<|J.k λ_ j8=>J.O<|J.f λ_ j9=>J.q 2 O<|J.c j9<|J.H<|J.q 7 O<|J.p (qAB O O ent105 (Ct.use0 (λF' hF=>qHQ F' (hK.mono (Fa hF)) seed leaf k hs h1 (by omega)))) O λg20 _=>J.p (qAB O O ent104 (Ct.use0 (λF' hF=>qLC F' (hK.mono (Fa hF)) (Wo.opn seed) leaf k (by rw [Wo.opn_length];decide) h1 (by omega) (Wo.secret seed leaf k) (by rw [Wo.secret_length];decide) 0 15 0 15 (by omega) (by omega) (by omega)))) rfl λg21 _=>J.p (qAG (l:= [.tmp 21]) (xs:= [[Str ((Wo.walk (Wo.opn seed) leaf k 0 (Wo.secret seed leaf k) 15))]]) rfl rfl rfl rfl qAk el9 rfl (by decide) (by decide) (by simp)) rfl λg22 _=>J.p (qAV (i:=1) (m2:=blk g22 [Str (Wo.walk (Wo.opn seed) leaf k 0 (Wo.secret seed leaf k) 15)] 9) rfl rfl rfl qAk qAk el9 rfl hrow (by simp) (qAl (q:=True) (xs:=qAI [(Wo.walk (Wo.opn seed) leaf k 0 (Wo.secret seed leaf k) 15)]) rfl (by simp [qAI])).sl (qCR _) (by omega) (by omega)) rfl ?_
    rintro⟨A23,c23,m23⟩ h23
    try dsimp only at h23
    rw [←qCB,←Wo.tops_succ] at h23
    refine J.c1 [0,1] [F,m23] O (by decide)<|J.b O<|J.a3<|J.a2<|J.u (J.D j8 ?_)
    exact J.H<|J.g ((qAS O O O (by omega)).nat (k+1) (by omega)) O<|J.b O<|J.a3<|J.u<|J.a4 (k+1,A23,c23,m23) (λx (hx:_∧35-x.1<35-k)=>hI0 x hx.1 hx.2) ⟨⟨by dsimp only;omega,h23⟩,by dsimp only;omega⟩ ⟨O,O,O,O,O,trivial⟩ (λ_ h=>h)
  refine J.b2<|J.a0<|J.a0<|J.b3 ?_
  refine J.u (J.D j4 ?_)
  refine J.k λ_ j10=>?_
  have hk35:k=35:=by omega
  subst hk35
  exact J.H<|J.q 3 O<|J.p (qAB O O ent106 (Ct.use0 (λF' hF=>qHR F' (hK.mono (Fa hF)) (Wo.opn seed) leaf (by rw [Wo.opn_length];decide) h1 A6 35 c6 (Wo.tops seed leaf 35) (hrow.sl.mono (Fa hF)) (λs hs=>jb (Wo.tops_small seed leaf 35 s hs) (by decide)) (by decide)))) rfl λg28 _=>J.b rfl<|J.c j10<|J.A<|J.E hw0 rfl () rfl trivial [0] rfl (by decide)
theorem qGx(F:Hp)(s:List UInt8)(hs:s.length=16):
    Ct prog 147 [Str s] [F] (λx:Option Addr×Nat×Hp=> .tuple #[.slice x.1 35 x.2.1,I 0]) (λx=>Row x.2.2 3 1 x.1 35 x.2.1 (qBJ (Wo.digs s))) (λx=> [F,x.2.2]):=by
  have hll:=Wo.left_le s
  refine Ct.walk func147 rfl ntmps147 rfl (λw0 hw0=>?_)
  refine J.f λ_ j1=>J.q 2 O<|J.c j1<|J.k λ_ j2=>J.f λ_ j3=>J.b O<|J.g (qAt u9_ O O) O<|J.g ((qAe O O O).no (by omega)) O<|J.c j3<|J.a1 ?_
  refine J.M j2<|J.f λ_ j4=>J.b O<|J.c j4<|J.k λ_ j5=>J.c7 [0,1] [F,(λ_=>none)] O (by decide)<|J.H<|J.b O<|J.c j5<|J.k λ_ j6=>J.f λ_ j7=>J.b O<|J.g (qAt u9_ O O) O<|J.b O<|J.c j7<|J.O<|J.b4 (X:=Nat×Option Addr×Nat×Hp) (λx=> [(0,Str s),(4,.slice x.2.1 (2*x.1) x.2.2.1),(5,I ((Wo.left (s.take x.1):Nat):Int)),(14,I s.length),(15,I x.1)]) (λx=> [F,x.2.2.2]) (λx=>x.1≤16∧Row x.2.2.2 3 1 x.2.1 (2*x.1) x.2.2.1 (qBJ (Wo.nibs (s.take x.1)))) (λx=>16-x.1) (0,none,0,λ_=>none) (⟨jG _,by rw [zg,Wo.nibs0];exact qBb.nil⟩) ⟨rfl,rfl,by rw [zg,Wo.left0];rfl,rfl,rfl,trivial⟩ (λ_ h=>h) ?_
  rintro⟨k,A4,c4,m⟩ ⟨hk,hrow⟩ I0 hI0
  dsimp only at hk hrow⊢
  have hlk:=Wo.left_le (s.take k)
  rw [jF] at hlk
  refine J.f λ_ j8=>J.g (qAT O O O) O<|J.c j8<|J.k λ_ j9=>J.W O (λh16=>?_) (λh16=>?_)
  ·
    refine J.M j9<|J.k λ_ j10=>J.O<|J.f λ_ j11=>J.q 2 O<|J.c j11<|J.k λ_ j12=>?_
    have hk16:k<16:=by omega
    have hb8:=(s.getD k 0).toNat_lt
    refine J.b0 [F,m] [] (.y 0 (.y 1 (.y 2 (.y 3 (.y 4 (.y 5 (.y 6 (.y 7 (.y 8 (.y 9 (.y 10 (.y 11 .nil)))))))))))) Tryz.wide (by decide+kernel) (by simp) ?_
    refine J.L ?_
    refine J.L ?_
    refine J.j O (qBf u9_ O O O (qAj 0 (by omega))) O O<|J.j O (qLY O O O) O O<|J.j O ((qCj O O u5_ u3_).as (v':=I (((s.getD k 0).toNat/16:Nat):Int)) (congrArg (λn:Nat=>I (n:Int)) (Wo.lo_eq (s.getD k 0)).2)) O O<|J.L ?_
    refine J.L ?_
    refine J.j O (qBf u9_ O O O (qAj 0 (by omega))) O O<|J.j O (qQb (b:=15) O O O) O O<|J.j O ((qCj O O u5_ u3_).as (v':=I (((s.getD k 0).toNat%16:Nat):Int)) (congrArg (λn:Nat=>I (n:Int)) (Wo.lo_eq (s.getD k 0)).1)) O O<|J.j O (qEJ (l:= [.tmp 22,.tmp 27]) O O O underlying288 el3 zeroValue288 O O (by simp [Value.cells]) (r:= [(s.getD k 0).toNat/16,(s.getD k 0).toNat%16].map λx:Nat=>I (x:Int)) rfl) rfl rfl<|J.L ?_
    refine J.a8<|J.u (J.D j12 ?_)
    refine J.O<|J.b4 (X:=Nat×Option Addr×Nat×Hp) (λx=> [(0,Str s),(4,.slice x.2.1 (2*k+x.1) x.2.2.1),(5,I ((Wo.left (s.take k)+(([(s.getD k 0).toNat/16,(s.getD k 0).toNat%16].take x.1).map (15- ·)).sum:Nat):Int)),(14,I s.length),(15,I k),(28,.agg ([(s.getD k 0).toNat/16,(s.getD k 0).toNat%16].map λx:Nat=>I (x:Int)).toArray),(29,I x.1)]) (λx=> [F,x.2.2.2]) (λx=>x.1≤2∧Row x.2.2.2 3 1 x.2.1 (2*k+x.1) x.2.2.1 (qBJ ((Wo.nibs (s.take k))++ [(s.getD k 0).toNat/16,(s.getD k 0).toNat%16].take x.1))) (λx=>2-x.1) (0,A4,c4,m) (⟨jG _,by rw [zg,jQ];exact hrow⟩) ⟨rfl,rfl,rfl,rfl,rfl,rfl,rfl,trivial⟩ (λ_ h=>h) ?_
    clear hrow
    rintro⟨j,A4,c4,m⟩ ⟨hj,hrow⟩ I2 hI2
    dsimp only at hj hrow⊢
    refine J.f λ_ j13=>J.g (qAT O O O) O<|J.c j13<|J.k λ_ j14=>J.W O (λh30=>?_) (λh30=>?_)
    ·
      refine J.M j14<|J.k λ_ j15=>J.O<|J.k λ_ j16=>?_
      have hj2:j<2:=by omega
      have hsj:(([(s.getD k 0).toNat/16,(s.getD k 0).toNat%16].take (j+1)).map (15- ·)).sum=(([(s.getD k 0).toNat/16,(s.getD k 0).toNat%16].take j).map (15- ·)).sum+(15-([(s.getD k 0).toNat/16,(s.getD k 0).toNat%16].getD j 0)):=by match j,hj2 with|0,_=>simp|1,_=>simp
      have hdl:([(s.getD k 0).toNat/16,(s.getD k 0).toNat%16].getD j 0)≤15:=by match j,hj2 with|0,_=>(show(s.getD k 0).toNat/16≤15;omega)|1,_=>(show(s.getD k 0).toNat%16≤15;omega)
      have hsl:(([(s.getD k 0).toNat/16,(s.getD k 0).toNat%16].take j).map (15- ·)).sum≤15*j:=by match j,hj2 with|0,_=>simp|1,_=>simp
      refine J.H<|J.g (qIl (i:=j) (v:=I ((([(s.getD k 0).toNat/16,(s.getD k 0).toNat%16].getD j 0):Nat):Int)) O O O underlying288 z3_ b3_ (by omega) (by rw [Nat.mul_one];match j,hj2 with|0,_=>rfl|1,_=>rfl)) rfl<|J.b rfl<|J.c j16<|J.f λ_ j17=>J.q 2 rfl<|J.p (qAG (l:= [.tmp 33]) (xs:= [[I ((([(s.getD k 0).toNat/16,(s.getD k 0).toNat%16].getD j 0):Nat):Int)]]) rfl rfl rfl rfl qC7 el3 rfl (by decide) (by decide) (by simp)) rfl λg34 _=>J.p (qAV (i:=1) (m2:=blk g34 (([([(s.getD k 0).toNat/16,(s.getD k 0).toNat%16].getD j 0)]:List Nat).map λx:Nat=>I (x:Int)) 3) rfl rfl rfl qC7 qC7 el3 rfl hrow (by simp) (slN [([(s.getD k 0).toNat/16,(s.getD k 0).toNat%16].getD j 0)] rfl) (qM7 _) (by omega) (by omega)) rfl ?_
      rintro⟨A35,c35,m35⟩ h35
      try dsimp only at h35
      rw [←qKI] at h35
      refine J.b O<|J.c j17<|J.c1 [0,1] [F,m35] O (by decide)<|J.H<|J.q 2 O<|J.g ((qA4 O O O (by omega)).as (v':=I ((15-([(s.getD k 0).toNat/16,(s.getD k 0).toNat%16].getD j 0):Nat):Int)) (congrArg I (by omega))) O<|J.g ((qAS O O O (by omega)).as (v':=I ((Wo.left (s.take k)+(([(s.getD k 0).toNat/16,(s.getD k 0).toNat%16].take (j+1)).map (15- ·)).sum:Nat):Int)) (congrArg I (by rw [hsj];omega))) rfl<|J.b rfl<|J.a3<|J.a2<|J.u (J.D j15 ?_)
      exact J.H<|J.g ((qAS O O O (by omega)).nat (j+1) (by omega)) O<|J.b O<|J.a3<|J.u<|J.a4 (j+1,A35,c35,m35) (λx (hx:_∧2-x.1<2-j)=>hI2 x hx.1 hx.2) ⟨⟨by dsimp only;omega,by dsimp only;rw [show [(s.getD k 0).toNat/16,(s.getD k 0).toNat%16].take (j+1)= [(s.getD k 0).toNat/16,(s.getD k 0).toNat%16].take j++ [([(s.getD k 0).toNat/16,(s.getD k 0).toNat%16].getD j 0)] by match j,hj2 with|0,_=>rfl|1,_=>rfl,←jV];exact h35⟩,by dsimp only;omega⟩ ⟨rfl,rfl,rfl,rfl,rfl,rfl,rfl,trivial⟩ (λ_ h=>h)
    refine J.b2<|J.a0<|J.a0<|J.b3 ?_
    refine J.a2<|J.u (J.D j10 ?_)
    refine J.H<|J.g ((qAS O O O (by omega)).nat (k+1) (by omega)) O<|J.b O<|J.a3<|J.u ?_
    have hj2:j=2:=by omega
    subst hj2
    have e1:=Wo.nibs_snoc s k (by omega)
    have e2:=Wo.left_snoc s k (by omega)
    have hb8:=(s.getD k 0).toNat_lt
    have e3:(([(s.getD k 0).toNat/16,(s.getD k 0).toNat%16].take 2).map (15- ·)).sum=(15-(s.getD k 0).toNat/16)+((15-(s.getD k 0).toNat%16)+0):=rfl
    exact J.a4 (k+1,A4,c4,m) (λx (hx:_∧16-x.1<16-k)=>hI0 x hx.1 hx.2) ⟨⟨by dsimp only;omega,by dsimp only;rw [e1];exact hrow⟩,by dsimp only;omega⟩ ⟨rfl,by rw [show 2*(k+1)=2*k+2 by omega];rfl,by rw [e2];exact congrArg (λn:Nat=>some (I (n:Int))) (by rw [e3];omega),rfl,rfl,trivial⟩ (λ_ h=>h)
  refine J.b2<|J.a0<|J.a0<|J.b3 ?_
  refine J.u (J.D j6 ?_)
  refine J.k λ_ j18=>J.k λ_ j19=>?_
  have hk16:k=16:=by omega
  subst hk16
  rw [jc (by omega)] at hrow
  refine J.H<|J.b O<|J.c j19<|J.O<|J.b4 (X:=Nat×Option Addr×Nat×Hp) (λx=> [(4,.slice x.2.1 (32+x.1) x.2.2.1),(5,I ((Wo.left s:Nat):Int)),(9,I (2-(x.1:Int)))]) (λx=> [F,x.2.2.2]) (λx=>x.1≤3∧Row x.2.2.2 3 1 x.2.1 (32+x.1) x.2.2.1 (qBJ (Wo.nibs s++ [Wo.left s/256,Wo.left s/16%16,Wo.left s%16].take x.1))) (λx=>3-x.1) (0,A4,c4,m) (⟨jG _,by rw [zg,jQ];exact hrow⟩) ⟨rfl,by rw [jc (by omega)];rfl,rfl,trivial⟩ (λ_ h=>h) ?_
  clear hrow hlk
  rintro⟨t,A4,c4,m⟩ ⟨ht,hrow⟩ I4 hI4
  dsimp only at ht hrow⊢
  refine J.k λ_ j20=>J.f λ_ j21=>J.b O<|J.g (qBA O O O) O<|J.c j21<|J.W O (λh43=>?_) (λh43=>?_)
  ·
    refine J.M j20<|J.k λ_ j22=>J.O ?_
    have ht2:t<3:=by omega
    refine J.H<|J.q 2 O<|J.g ((qA0 O O).nat (2-t) (by omega)) O<|J.g ((qDO O O O (by omega)).nat (4*(2-t)) (by omega)) O<|J.g ((qCp O O O (by omega)).as (v':=I ((Wo.left s/2^(4*(2-t)):Nat):Int)) (congrArg I (by simp))) rfl<|J.g ((qM3 4 rfl rfl rfl (by decide) (by decide)).as (v':=I (([Wo.left s/256,Wo.left s/16%16,Wo.left s%16].getD t 0:Nat):Int)) (congrArg I (by match t,ht2 with|0,_=>(show((Wo.left s/2^(4*(2-0)):Nat):Int)%2^4=((Wo.left s/256:Nat):Int);omega)|1,_=>(show((Wo.left s/2^(4*(2-1)):Nat):Int)%2^4=((Wo.left s/16%16:Nat):Int);omega)|2,_=>(show((Wo.left s/2^(4*(2-2)):Nat):Int)%2^4=((Wo.left s%16:Nat):Int);omega)))) rfl<|J.p (qAG (l:= [.tmp 51]) (xs:= [[I ((([Wo.left s/256,Wo.left s/16%16,Wo.left s%16].getD t 0):Nat):Int)]]) rfl rfl rfl rfl qC7 el3 rfl (by decide) (by decide) (by simp)) rfl λg52 _=>J.p (qAV (i:=1) (m2:=blk g52 (([([Wo.left s/256,Wo.left s/16%16,Wo.left s%16].getD t 0)]:List Nat).map λx:Nat=>I (x:Int)) 3) rfl rfl rfl qC7 qC7 el3 rfl hrow (by simp) (slN [([Wo.left s/256,Wo.left s/16%16,Wo.left s%16].getD t 0)] rfl) (qM7 _) (by omega) (by omega)) rfl ?_
    rintro⟨A53,c53,m53⟩ h53
    try dsimp only at h53
    rw [←qKI] at h53
    refine J.b O<|J.a3<|J.a2<|J.u (J.D j22 ?_)
    exact J.c1 [0,1] [F,m53] O (by decide)<|J.H<|J.b O<|J.g ((qA4 O O O (by omega)).as (v':=I (2-((t+1:Nat):Int))) (congrArg I (by omega))) O<|J.b O<|J.a3<|J.u<|J.a4 (t+1,A53,c53,m53) (λx (hx:_∧3-x.1<3-t)=>hI4 x hx.1 hx.2) ⟨⟨by dsimp only;omega,by dsimp only;rw [show [Wo.left s/256,Wo.left s/16%16,Wo.left s%16].take (t+1)= [Wo.left s/256,Wo.left s/16%16,Wo.left s%16].take t++ [[Wo.left s/256,Wo.left s/16%16,Wo.left s%16].getD t 0] by match t,ht2 with|0,_=>rfl|1,_=>rfl|2,_=>rfl,←jV];exact h53⟩,by dsimp only;omega⟩ ⟨rfl,rfl,rfl,trivial⟩ (λ_ h=>h)
  refine J.b2<|J.a0<|J.a0<|J.b3 ?_
  refine J.u (J.D j18 ?_)
  refine J.k λ_ j23=>?_
  have ht3:t=3:=by omega
  subst ht3
  exact J.H<|J.q 3 O<|J.c j23<|J.A<|J.a9 hw0 (λ_ _ h=>h) (qCG O O O) (qAq (A4,c4,m) O (by unfold Wo.digs;exact hrow) [0,1] O (by decide))
theorem qV0(F:Hp)(hK:KF F)(seed:List UInt8)(leaf:Nat)(d:List UInt8)(hs:seed.length≤1048576)(h1:leaf<4611686018427387904)(hd:d.length=16):
    Ct prog 80 [Str seed,I leaf,Str d] [F] (λx:Option Addr×Nat×Hp=> .tuple #[.slice x.1 35 x.2.1,I 0]) (λx=>Row x.2.2 9 1 x.1 35 x.2.1 (qAI (Wo.signs seed leaf (Wo.digs d) 35))) (λx=> [F,x.2.2]):=by
  have hdl:(Wo.digs d).length=35:=by rw [Wo.digs_length,hd]
  have hd15:=Wo.digs_le d (by omega)
  refine Ct.walk func80 rfl ntmps80 rfl (λw0 hw0=>?_)
  refine J.f λ_ j1=>J.q 2 O<|J.c j1<|J.f λ_ j2=>J.b O<|J.p (qAB O O ent147 (Ct.use (λF' hF=>qGx F' d hd))) O ?_
  rintro⟨A16,c16,m16⟩ h16
  try dsimp only at h16
  refine J.b O<|J.g (qAh O O O) O<|J.g (qAh O O O) O<|J.q 2 O<|J.c j2<|J.k λ_ j3=>J.f λ_ j4=>J.b O<|J.g ((qAe O O O).no (by decide)) O<|J.c j4<|J.a1 ?_
  refine J.M j3<|J.f λ_ j5=>J.b O<|J.p (qAB O O ent49 (Ct.use0 (λF' hF=>qIB F' (hK.mono (Fa hF)) seed hs))) O λg23 _=>J.b O<|J.c j5<|J.k λ_ j6=>J.c7 [0,1,2] [F,m16,(λ_=>none)] O (by decide)<|J.H<|J.b O<|J.c j6<|J.k λ_ j7=>J.f λ_ j8=>J.b O<|J.g (qAU qC7 O O) O<|J.b O<|J.c j8<|J.O<|J.b4 (X:=Nat×Option Addr×Nat×Hp) (λx=> [(0,Str seed),(1,I leaf),(10,Str (Wo.opn seed)),(11,.slice x.2.1 x.1 x.2.2.1),(24,.slice A16 35 c16),(25,I ((35:Nat):Int)),(26,I x.1)]) (λx=> [F,m16,x.2.2.2]) (λx=>x.1≤35∧Row x.2.2.2 9 1 x.2.1 x.1 x.2.2.1 (qAI (Wo.signs seed leaf (Wo.digs d) x.1))) (λx=>35-x.1) (0,none,0,λ_=>none) (⟨jG _,by rw [Wo.signs0];exact qBb.nil⟩) ⟨rfl,rfl,rfl,rfl,rfl,rfl,rfl,trivial⟩ (λ_ h=>h) ?_
  rintro⟨k,A6,c6,m⟩ ⟨hk,hrow⟩ I0 hI0
  dsimp only at hk hrow⊢
  have hdk:=hd15 k
  refine J.f λ_ j9=>J.g (qAT O O O) O<|J.c j9<|J.k λ_ j10=>J.W O (λh27=>?_) (λh27=>?_)
  ·
    refine J.M j10<|J.k λ_ j11=>J.O<|J.f λ_ j12=>J.b O<|J.g (qAH O O O qC7 z3_ h16.sl (by omega)) O<|J.g (qAJ O O b3_ (m:=m16) (by simp) (h16.sl.elem (qCD (k:=k) (by omega)))) rfl<|J.q 2 rfl<|J.c j12<|J.H<|J.q 8 rfl<|J.p (qAB rfl rfl ent105 (Ct.use0 (λF' hF=>qHQ F' (hK.mono (Fa hF)) seed leaf k hs h1 (by omega)))) rfl λg39 _=>J.p (qAB rfl rfl ent104 (Ct.use0 (λF' hF=>qLC F' (hK.mono (Fa hF)) (Wo.opn seed) leaf k (by rw [Wo.opn_length];decide) h1 (by omega) (Wo.secret seed leaf k) (by rw [Wo.secret_length];decide) 0 ((Wo.digs d).getD k 0) 0 ((Wo.digs d).getD k 0) (by omega) (by omega) (by omega)))) rfl λg40 _=>J.p (qAG (l:= [.tmp 40]) (xs:= [[Str ((Wo.walk (Wo.opn seed) leaf k 0 (Wo.secret seed leaf k) ((Wo.digs d).getD k 0)))]]) rfl rfl rfl rfl qAk el9 rfl (by decide) (by decide) (by simp)) rfl λg41 _=>J.p (qAV (i:=2) (m2:=blk g41 [Str (Wo.walk (Wo.opn seed) leaf k 0 (Wo.secret seed leaf k) ((Wo.digs d).getD k 0))] 9) rfl rfl rfl qAk qAk el9 rfl hrow (by simp) (qAl (q:=True) (xs:=qAI [(Wo.walk (Wo.opn seed) leaf k 0 (Wo.secret seed leaf k) ((Wo.digs d).getD k 0))]) rfl (by simp [qAI])).sl (qCR _) (by omega) (by omega)) rfl ?_
    rintro⟨A42,c42,m42⟩ h42
    try dsimp only at h42
    rw [←qCB,←Wo.signs_succ] at h42
    refine J.c1 [0,1,2] [F,m16,m42] O (by decide)<|J.b O<|J.a3<|J.a2<|J.u (J.D j11 ?_)
    exact J.H<|J.g ((qAS O O O (by omega)).nat (k+1) (by omega)) O<|J.b O<|J.a3<|J.u<|J.a4 (k+1,A42,c42,m42) (λx (hx:_∧35-x.1<35-k)=>hI0 x hx.1 hx.2) ⟨⟨by dsimp only;omega,h42⟩,by dsimp only;omega⟩ ⟨O,O,O,O,O,O,O,trivial⟩ (λ_ h=>h)
  refine J.b2<|J.a0<|J.a0<|J.b3 ?_
  refine J.u (J.D j7 ?_)
  refine J.k λ_ j13=>?_
  have hk35:k=35:=by omega
  subst hk35
  exact J.H<|J.q 3 O<|J.c j13<|J.A<|J.a9 hw0 (λ_ _ h=>h) (qCG O O O) (qAq (A6,c6,m) O hrow [0,2] O (by decide))
theorem qO8(F:Hp)(A:Option Addr)(n c:Nat)(ls:List (List UInt8))(hl:Sl F 1 A n c (qAI ls))(h16: ∀s∈ls,s.length=16)(hn:n=35):
    Cz prog 210 [.slice A n c] F (.bool true):=by
  have hlen:ls.length=n:=by have:=hl.1;simpa [qAI] using this
  refine Ct.walk func210 rfl ntmps210 rfl (λw0 hw0=>?_)
  refine J.f λ_ j1=>J.b O<|J.c j1<|J.k λ_ j2=>J.f λ_ j3=>J.b O<|J.g (qAU qAk O O) O<|J.b O<|J.c j3<|J.O<|J.b4 (λk:Nat=> [(0,.slice A n c),(5,.slice A n c),(6,I n),(7,I k)]) (λ_=> [F]) (λk=>k≤n) (λk=>n-k) 0 (jG _) ⟨O,O,O,O,trivial⟩ (λ_ h=>h) ?_
  intro k hk I0 hI0
  refine J.f λ_ j4=>J.g (qAT O O O) O<|J.c j4<|J.k λ_ j5=>J.W O (λh8=>?_) (λh8=>?_)
  ·
    refine J.M j5<|J.k λ_ j6=>J.O<|J.f λ_ j7=>J.g (qAH O O O qAk z9_ hl (by omega)) O<|J.g (qAJ O O b9_ (m:=F) (by simp) (hl.elem (qAa (qAj [] (show k<ls.length by omega))))) rfl<|J.b rfl<|J.c j7<|J.f λ_ j8=>J.b rfl<|J.g (qAt u9_ rfl rfl) rfl<|J.g ((qAe rfl rfl rfl).no (by have:=h16 _ (jL (qAj [] (show k<ls.length by omega)));omega)) rfl<|J.c j8<|J.a1 ?_
    refine J.b5<|J.a2<|J.u (J.D j6 ?_)
    exact J.H<|J.g ((qAS O O O (by omega)).nat (k+1) (by omega)) O<|J.b O<|J.a3<|J.u<|J.a4 (k+1) (λx (hx:x≤n∧n-x<n-k)=>hI0 x hx.1 hx.2) ⟨by omega,by omega⟩ ⟨O,O,O,O,trivial⟩ (λ_ h=>h)
  refine J.b2<|J.a0<|J.a0<|J.b3 ?_
  refine J.u (J.D j2 ?_)
  exact J.f λ_ j9=>J.b O<|J.g (qAU qAk O O) O<|J.g ((qAg O O O).yes (by omega)) O<|J.b O<|J.c j9<|J.A<|J.E hw0 O () O trivial [0] O (by decide)
theorem qOD(F:Hp)(hK:KF F)(o:List UInt8)(leaf:Nat)(d:List UInt8)(A:Option Addr)(c:Nat)(sig:List (List UInt8))(hl:Sl F 1 A 35 c (qAI sig))(ho:o.length≤1048576)(h1:leaf<4611686018427387904)(hd:d.length=16)(hsg: ∀s∈sig,s.length=16):
    Cz prog 181 [Str o,I leaf,Str d,.slice A 35 c] F (.tuple #[Str (Wo.publicOf o leaf (Wo.ends o leaf (Wo.digs d) sig 35)),I 0]):=by
  have hdl:(Wo.digs d).length=35:=by rw [Wo.digs_length,hd]
  have hd15:=Wo.digs_le d (by omega)
  have hlen:sig.length=35:=by have:=hl.1;simpa [qAI] using this
  refine Ct.walk func181 rfl ntmps181 rfl (λw0 hw0=>?_)
  refine J.f λ_ j1=>J.q 2 O<|J.c j1<|J.f λ_ j2=>J.b O<|J.p (qAB O O ent147 (Ct.use (λF' hF=>qGx F' d hd))) O ?_
  rintro⟨A17,c17,m17⟩ h17
  try dsimp only at h17
  refine J.b O<|J.g (qAh O O O) O<|J.g (qAh O O O) O<|J.q 2 O<|J.c j2<|J.k λ_ j3=>J.O<|J.f λ_ j4=>J.b O<|J.g ((qAe O O O).no (by decide)) O<|J.b O<|J.c j4<|J.a1 ?_
  refine J.f λ_ j5=>J.b O<|J.p (qAB O O ent210 (Ct.use0 (λF' hF=>qO8 F' A 35 c sig (hl.mono (Fa hF)) hsg O))) O λg26 _=>J.g ((qAy O O).as (v':= .bool false) O) O<|J.b O<|J.c j5<|J.a1 ?_
  refine J.b5<|J.a2<|J.u (J.D j3 ?_)
  refine J.k λ_ j6=>J.c7 [0,1,2] [F,m17,(λ_=>none)] O (by decide)<|J.H<|J.b O<|J.c j6<|J.k λ_ j7=>J.f λ_ j8=>J.b O<|J.g (qAU qC7 O O) O<|J.b O<|J.c j8<|J.O<|J.b4 (X:=Nat×Option Addr×Nat×Hp) (λx=> [(0,Str o),(1,I leaf),(3,.slice A 35 c),(12,.slice x.2.1 x.1 x.2.2.1),(28,.slice A17 35 c17),(29,I ((35:Nat):Int)),(30,I x.1)]) (λx=> [F,m17,x.2.2.2]) (λx=>x.1≤35∧Row x.2.2.2 9 1 x.2.1 x.1 x.2.2.1 (qAI (Wo.ends o leaf (Wo.digs d) sig x.1))) (λx=>35-x.1) (0,none,0,λ_=>none) (⟨jG _,by rw [Wo.ends0];exact qBb.nil⟩) ⟨rfl,rfl,rfl,rfl,rfl,rfl,rfl,trivial⟩ (λ_ h=>h) ?_
  rintro⟨k,A6,c6,m⟩ ⟨hk,hrow⟩ I0 hI0
  dsimp only at hk hrow⊢
  have hdk:=hd15 k
  refine J.f λ_ j9=>J.g (qAT O O O) O<|J.c j9<|J.k λ_ j10=>J.W O (λh31=>?_) (λh31=>?_)
  ·
    refine J.M j10<|J.k λ_ j11=>J.O<|J.f λ_ j12=>J.b O<|J.g (qAH O O O qC7 z3_ h17.sl (by omega)) O<|J.g (qAJ O O b3_ (m:=m17) (by simp) (h17.sl.elem (qCD (k:=k) (by omega)))) rfl<|J.q 2 rfl<|J.c j12<|J.H<|J.q 7 rfl<|J.g (qAH rfl rfl rfl qAk z9_ hl (by omega)) rfl<|J.g (qAJ rfl rfl b9_ (m:=F) (by simp) (hl.elem (qAa (qAj [] (show k<sig.length by omega))))) rfl<|J.p (qAB rfl rfl ent104 (Ct.use0 (λF' hF=>qLC F' (hK.mono (Fa hF)) o leaf k ho h1 (by omega) (sig.getD k []) (by have:=hsg _ (jL (qAj [] (show k<sig.length by omega)));omega) ((((Wo.digs d).getD k 0):Nat):Int) 15 ((Wo.digs d).getD k 0) (15-((Wo.digs d).getD k 0)) (by omega) (by omega) (by omega)))) rfl λg44 _=>J.p (qAG (l:= [.tmp 44]) (xs:= [[Str ((Wo.walk o leaf k ((Wo.digs d).getD k 0) (sig.getD k []) (15-((Wo.digs d).getD k 0))))]]) rfl rfl rfl rfl qAk el9 rfl (by decide) (by decide) (by simp)) rfl λg45 _=>J.p (qAV (i:=2) (m2:=blk g45 [Str (Wo.walk o leaf k ((Wo.digs d).getD k 0) (sig.getD k []) (15-((Wo.digs d).getD k 0)))] 9) rfl rfl rfl qAk qAk el9 rfl hrow (by simp) (qAl (q:=True) (xs:=qAI [(Wo.walk o leaf k ((Wo.digs d).getD k 0) (sig.getD k []) (15-((Wo.digs d).getD k 0)))]) rfl (by simp [qAI])).sl (qCR _) (by omega) (by omega)) rfl ?_
    rintro⟨A46,c46,m46⟩ h46
    try dsimp only at h46
    rw [←qCB,←Wo.ends_succ] at h46
    refine J.c1 [0,1,2] [F,m17,m46] O (by decide)<|J.b O<|J.a3<|J.a2<|J.u (J.D j11 ?_)
    exact J.H<|J.g ((qAS O O O (by omega)).nat (k+1) (by omega)) O<|J.b O<|J.a3<|J.u<|J.a4 (k+1,A46,c46,m46) (λx (hx:_∧35-x.1<35-k)=>hI0 x hx.1 hx.2) ⟨⟨by dsimp only;omega,h46⟩,by dsimp only;omega⟩ ⟨O,O,O,O,O,O,O,trivial⟩ (λ_ h=>h)
  refine J.b2<|J.a0<|J.a0<|J.b3 ?_
  refine J.u (J.D j7 ?_)
  refine J.k λ_ j13=>?_
  have hk35:k=35:=by omega
  subst hk35
  exact J.H<|J.q 3 O<|J.p (qAB O O ent106 (Ct.use0 (λF' hF=>qHR F' (hK.mono (Fa hF)) o leaf ho h1 A6 35 c6 (Wo.ends o leaf (Wo.digs d) sig 35) (hrow.sl.mono (Fa hF)) (Wo.ends_small o leaf (Wo.digs d) sig 35 (λs hs=>Nat.le_of_eq (hsg s hs))) (by decide)))) O λg51 _=>J.q 2 O<|J.c j13<|J.A<|J.a9 hw0 (λ_ _ h=>h) (qCG O O O) (qAq () O trivial [0] O (by decide))
end Go.Proofs.YtcgcjaflllmlpaaGreatDoor
namespace Go.Proofs.YtcgcjaflllmlpaaGreatDoor
set_option maxRecDepth 100000
set_option maxHeartbeats 1000000
attribute [local irreducible] SN.tagN Sha.tagged
namespace SM
open SN (qAx qAr forceL qA7)
noncomputable def runP{α:Type}(u o0 o1 o2 o3 o4 LC:Nat)(n:Nat):Nat→Nat→Nat→Nat→Nat→(Nat→Nat→Nat→Nat→α)→α:=
 Nat.rec (λ_ A B C D g=>g A B C D) (λ_ ih k A B C D g=>stepP u o0 o1 o2 o3 o4 (LC+k*256*u) A B C D λA B C D=>ih (k+1) A B C D g) n
theorem qPr{α:Type}(u o0 o1 o2 o3 o4 LC n k A B C D:Nat)(g:Nat→Nat→Nat→Nat→α):runP u o0 o1 o2 o3 o4 LC (n+1) k A B C D g=stepP u o0 o1 o2 o3 o4 (LC+k*256*u) A B C D λA B C D=>runP u o0 o1 o2 o3 o4 LC n (k+1) A B C D g:=rfl
attribute [local irreducible] qBF Sha.word Sha.shr stepP runP outs
noncomputable def lcN(N:Nat):Nat:=qBF N λz=>z/35*16777216+z%35*65536
theorem qGV{leaf:Nat}(h:leaf<256)(chain k:Nat):Wo.place leaf chain k=plc leaf chain k:=by
 unfold Wo.place plc
 rw [show leaf/2^24=0 by omega,show leaf/2^16=0 by omega,show leaf/2^8=0 by omega];rfl
theorem lc_eq{N:Nat}(hN:N≤8960){k:Nat}(hk:k<256):lcN N+k*256*qBP N=pk N λz=>Sha.be32 (UInt8.ofNat (z/35)) (UInt8.ofNat (z%35)) (UInt8.ofNat k) 0:=by
 unfold lcN pk
 rw [qC6,qA8]
 refine qIf λz hz=>?_
 rw [R3.be32_nat,UInt8.toNat_ofNat',UInt8.toNat_ofNat',UInt8.toNat_ofNat']
 have h1:z/35<256:=by omega
 have h2:z%35<35:=Nat.mod_lt _ (by decide)
 show z/35*16777216+z%35*65536+k*256=256*(256*(256*(z/35%2^8)+z%35%2^8)+k%2^8)+0
 rw [Nat.mod_eq_of_lt (show z/35<2^8 by omega),Nat.mod_eq_of_lt (show z%35<2^8 by omega),Nat.mod_eq_of_lt (show k<2^8 by omega)]
 generalize z/35=p
 generalize z%35=q
 omega
theorem qV6{α:Type}{N:Nat}(hN:N≤8960)(o:List UInt8)(ho:o.length=16)(n:Nat): ∀(k:Nat) (a b c d:Nat→UInt32) (g:Nat→Nat→Nat→Nat→α),k+n≤256→
    ∃a' b' c' d':Nat→UInt32,runP (qBP N) (oW o 0).toNat (oW o 1).toNat (oW o 2).toNat (oW o 3).toNat (oW o 4).toNat (lcN N) n k (pk N a) (pk N b) (pk N c) (pk N d) g=g (pk N a') (pk N b') (pk N c') (pk N d')∧
      ∀z,z<N→x16 (a' z) (b' z) (c' z) (d' z)=Wo.walk o (z/35) (z%35) k (x16 (a z) (b z) (c z) (d z)) n:=by
  induction n with
  |zero=>intro k a b c d g _;exact⟨a,b,c,d,by unfold runP;rfl,λz _=>rfl⟩
  |succ n ih=>
    intro k a b c d g hk
    rw [qPr]
    obtain ⟨a1,b1,c1,d1,h1,h2⟩:=qSq N o ho (λz=>z/35) (λz=>z%35) k a b c d _ (lc_eq hN (by omega)) (λA B C D=>runP (qBP N) (oW o 0).toNat (oW o 1).toNat (oW o 2).toNat (oW o 3).toNat (oW o 4).toNat (lcN N) n (k+1) A B C D g)
    obtain ⟨a2,b2,c2,d2,h3,h4⟩:=ih (k+1) a1 b1 c1 d1 g (by omega)
    refine⟨a2,b2,c2,d2,h1.trans h3,λz hz=>?_⟩
    rw [h4 z hz,h2 z hz,←qGV (by omega)]
    have:=Wo.walk_add o (z/35) (z%35) k (x16 (a z) (b z) (c z) (d z)) 1 n
    rw [Nat.add_comm 1 n] at this
    exact this
noncomputable def manyW{α:Type}(n:Nat)(ms:List (List Nat))(g:Nat→Nat→Nat→Nat→Nat→α):α:=qAx (qBP n) λu=>cols (ms.map λm=>w4s 16 (SN.padN m)) λws=>oneP u ws (g u)
theorem qTp{α:Type}(L:List (List UInt8))(h: ∀l∈L,l.length≤55)(g:Nat→Nat→Nat→Nat→Nat→α): ∃a b c d:Nat→UInt32,manyW L.length (L.map (List.map UInt8.toNat)) g=g (qBP L.length) (pk L.length a) (pk L.length b) (pk L.length c) (pk L.length d)∧
    ∀z (hz:z<L.length),x16 (a z) (b z) (c z) (d z)=(Sha.sum L[z]).take 16:=by
  obtain ⟨M,hM⟩: ∃M,M=L.map Sha.pad:=⟨_,rfl⟩
  have hlen:M.length=L.length:=by rw [hM,List.length_map]
  have e1:(L.map (List.map UInt8.toNat)).map (λm=>w4s 16 (SN.padN m))=M.map λb=>(Sha.firsts b 16).map UInt32.toNat:=by
    rw [hM,List.map_map,List.map_map]
    refine List.map_congr_left λl hl=>?_
    have h5:=h l hl
    show w4s 16 (SN.padN (l.map UInt8.toNat))=(Sha.firsts (Sha.pad l) 16).map UInt32.toNat
    rw [SN.padN_eq l (by omega),qUu 16 _ (by rw [Sha.pad_length];omega)]
  refine⟨λz=>(Sha.mix Sha.init (M.getD z [])).a,λz=>(Sha.mix Sha.init (M.getD z [])).b,λz=>(Sha.mix Sha.init (M.getD z [])).c,λz=>(Sha.mix Sha.init (M.getD z [])).d,?_,λz hz=>?_⟩
  · unfold manyW
    rw [qAr,e1,qRa,qUI,←hlen,qQd]
  · have e2:M.getD z []=Sha.pad L[z]:=by
      rw [hM,List.getD_eq_getElem?_getD,List.getElem?_map,List.getElem?_eq_getElem hz];rfl
    have h5:=h L[z] (List.getElem_mem hz)
    rw [←qYJ,e2]
    unfold Sha.sum
    rw [show(Sha.pad L[z]).length/64=1 by rw [Sha.pad_length];omega,Sha.mixes,Sha.mixes,Nat.mul_zero,List.drop_zero]
theorem qXe(a b c d:UInt32):byt a b c d=(x16 a b c d).map UInt8.toNat:=by
 unfold byt x16
 rw [b4,b4,b4,b4]
 simp only [List.map_append]
attribute [local irreducible] manyW
noncomputable def topsN(L:Nat)(seed o:List Nat):List (List Nat):=
 manyW (35*L) ((List.range (35*L)).map λz=>tagL 1 [seed,[0,0,0,z/35,z%35,0]]) λu A B C D=>
  forceL [((16*256+o.getD 0 0)*256+o.getD 1 0)*256+o.getD 2 0,((o.getD 3 0*256+o.getD 4 0)*256+o.getD 5 0)*256+o.getD 6 0,((o.getD 7 0*256+o.getD 8 0)*256+o.getD 9 0)*256+o.getD 10 0,((o.getD 11 0*256+o.getD 12 0)*256+o.getD 13 0)*256+o.getD 14 0,((o.getD 15 0*256+0)*256+0)*256+0,lcN (35*L)] λq=>
  runP u (q.getD 0 0) (q.getD 1 0) (q.getD 2 0) (q.getD 3 0) (q.getD 4 0) (q.getD 5 0) 15 0 A B C D λA B C D=>outs (35*L) A B C D
theorem qSg{L:Nat}(hL:L≤255)(seed:List UInt8)(hs:seed.length≤40):topsN L (seed.map UInt8.toNat) ((Wo.opn seed).map UInt8.toNat)=(List.range (35*L)).map λz=>(Wo.walk (Wo.opn seed) (z/35) (z%35) 0 (Wo.secret seed (z/35) (z%35)) 15).map UInt8.toNat:=by
 obtain ⟨o,ho⟩: ∃o,o=Wo.opn seed:=⟨_,rfl⟩
 have h16:o.length=16:=by rw [ho];exact Wo.opn_length seed
 rw [←ho]
 obtain ⟨S,hS⟩: ∃S,S=(List.range (35*L)).map λz=>Sha.tagB 1 [seed,plc (z/35) (z%35) 0]:=⟨_,rfl⟩
 have hlen:S.length=35*L:=by rw [hS,List.length_map,List.length_range]
 have hb: ∀z,(Sha.tagB 1 [seed,plc (z/35) (z%35) 0]).length≤55:=λz=>by
  rw [Sha.tagB_length]
  simp only [List.flatten_cons,List.flatten_nil,List.length_append,List.length_cons,List.length_nil]
  unfold plc
  simp only [List.length_cons,List.length_nil]
  omega
 have e1:(List.range (35*L)).map (λz=>tagL 1 [seed.map UInt8.toNat,[0,0,0,z/35,z%35,0]])=S.map (List.map UInt8.toNat):=by
  rw [hS,List.map_map]
  refine List.map_congr_left λz hz=>?_
  have hz2:=List.mem_range.1 hz
  have:=qVm 1 [seed,plc (z/35) (z%35) 0] (hb z)
  rw [Function.comp_apply,←this]
  have e2:(plc (z/35) (z%35) 0).map UInt8.toNat= [0,0,0,z/35,z%35,0]:=by
   unfold plc
   simp only [List.map_cons,List.map_nil]
   rw [UInt8.toNat_ofNat',UInt8.toNat_ofNat',Nat.mod_eq_of_lt (show z/35<2^8 by omega),Nat.mod_eq_of_lt (show z%35<2^8 by omega)];rfl
  rw [List.map_cons,List.map_cons,List.map_nil,e2];rfl
 have hw: ∀(p q r s:UInt8),((p.toNat*256+q.toNat)*256+r.toNat)*256+s.toNat=(Sha.be32 p q r s).toNat:=λp q r s=>by rw [R3.be32_nat];omega
 have hg: ∀i,(o.map UInt8.toNat).getD i 0=(o.getD i 0).toNat:=λi=>SN.getD_map o i
 unfold topsN
 rw [e1,←hlen]
 obtain ⟨a,b,c,d,h1,h2⟩:=qTp S (λl hl=>by
  rw [hS] at hl
  obtain ⟨z,_,rfl⟩:=List.mem_map.1 hl
  exact hb z) (λu A B C D=>
  forceL [((16*256+(o.map UInt8.toNat).getD 0 0)*256+(o.map UInt8.toNat).getD 1 0)*256+(o.map UInt8.toNat).getD 2 0,(((o.map UInt8.toNat).getD 3 0*256+(o.map UInt8.toNat).getD 4 0)*256+(o.map UInt8.toNat).getD 5 0)*256+(o.map UInt8.toNat).getD 6 0,(((o.map UInt8.toNat).getD 7 0*256+(o.map UInt8.toNat).getD 8 0)*256+(o.map UInt8.toNat).getD 9 0)*256+(o.map UInt8.toNat).getD 10 0,(((o.map UInt8.toNat).getD 11 0*256+(o.map UInt8.toNat).getD 12 0)*256+(o.map UInt8.toNat).getD 13 0)*256+(o.map UInt8.toNat).getD 14 0,(((o.map UInt8.toNat).getD 15 0*256+0)*256+0)*256+0,lcN S.length] λq=>
  runP u (q.getD 0 0) (q.getD 1 0) (q.getD 2 0) (q.getD 3 0) (q.getD 4 0) (q.getD 5 0) 15 0 A B C D λA B C D=>outs S.length A B C D)
 refine h1.trans ?_
 obtain ⟨a2,b2,c2,d2,h3,h4⟩:=qV6 (N:=S.length) (by omega) o h16 15 0 a b c d (λA B C D=>outs S.length A B C D) (by decide)
 rw [qA7]
 have q0:((16*256+(o.map UInt8.toNat).getD 0 0)*256+(o.map UInt8.toNat).getD 1 0)*256+(o.map UInt8.toNat).getD 2 0=(oW o 0).toNat:=by rw [hg,hg,hg];have h:=hw 16 (o.getD 0 0) (o.getD 1 0) (o.getD 2 0);rw [show(16:UInt8).toNat=16 from rfl] at h;exact h
 have q1:(((o.map UInt8.toNat).getD 3 0*256+(o.map UInt8.toNat).getD 4 0)*256+(o.map UInt8.toNat).getD 5 0)*256+(o.map UInt8.toNat).getD 6 0=(oW o 1).toNat:=by rw [hg,hg,hg,hg];exact hw _ _ _ _
 have q2:(((o.map UInt8.toNat).getD 7 0*256+(o.map UInt8.toNat).getD 8 0)*256+(o.map UInt8.toNat).getD 9 0)*256+(o.map UInt8.toNat).getD 10 0=(oW o 2).toNat:=by rw [hg,hg,hg,hg];exact hw _ _ _ _
 have q3:(((o.map UInt8.toNat).getD 11 0*256+(o.map UInt8.toNat).getD 12 0)*256+(o.map UInt8.toNat).getD 13 0)*256+(o.map UInt8.toNat).getD 14 0=(oW o 3).toNat:=by rw [hg,hg,hg,hg];exact hw _ _ _ _
 have q4:(((o.map UInt8.toNat).getD 15 0*256+0)*256+0)*256+0=(oW o 4).toNat:=by rw [hg];have h:=hw (o.getD 15 0) 0 0 0;rw [show(0:UInt8).toNat=0 from rfl] at h;exact h
 rw [q0,q1,q2,q3,q4]
 simp only [List.getD_cons_zero,List.getD_cons_succ]
 rw [h3]
 rw [qWZ]
 refine List.map_congr_left λz hz=>?_
 have hz2:=List.mem_range.1 hz
 rw [qXe,h4 z hz2,h2 z hz2]
 have e3:(Sha.sum S[z]).take 16=Wo.secret seed (z/35) (z%35):=by
  unfold Wo.secret Sha.tagged
  rw [qGV (by omega)]
  congr 2
  simp only [hS,List.getElem_map,List.getElem_range]
 rw [e3]
end SM
end Go.Proofs.YtcgcjaflllmlpaaGreatDoor
namespace Go.Proofs.YtcgcjaflllmlpaaGreatDoor
open Go Go.Fw Go.Proofs.Tryz
set_option maxRecDepth 100000
set_option maxHeartbeats 1000000
namespace Sha
structure Strm where
 seed:List UInt8
 count:UInt64
 left:List UInt8
def Strm.cells(s:Strm):List Value:= [Str s.seed,W64 s.count,Str s.left]
def Strm.new(seed:List UInt8):Strm:=⟨seed,0,[]⟩
def Strm.Ok(s:Strm):Prop:=s.left= []∨8≤s.left.length
def Strm.fill(s:Strm):Strm:=if s.left= [] then⟨s.seed,s.count+1,sum (s.seed++numB s.count 4)⟩ else s
def val:List UInt8→Nat→UInt64
 |_,0=>0
 |l,k+1=>UInt64.ofNat ((val l k).toNat*2^min 8 64)|||(l.getD k 0).toUInt64
def Strm.num(s:Strm):UInt64:=val s.fill.left 8
def Strm.next(s:Strm):Strm:=⟨s.fill.seed,s.fill.count,s.fill.left.drop 8⟩
def stop(n:UInt64):UInt64:=18446744073709551615-18446744073709551615%n
def draw(e:UInt64):Nat→Strm→Option (UInt64×Strm)
 |0,_=>none
 |f+1,s=>if s.num.toNat<e.toNat then some (s.num,s.next) else draw e f s.next
theorem Strm.fill_len{s:Strm}(h:s.Ok):8≤s.fill.left.length:=by
  unfold Strm.fill
  split
  · dsimp only;rw [sum_length];decide
  · rcases h with h|h
    · contradiction
    · exact h
theorem Strm.fill_seed(s:Strm):s.fill.seed=s.seed:=by unfold Strm.fill;split<;>rfl
def Strm.Ok8(s:Strm):Prop:=s.left.length%8=0
theorem Strm.Ok8.ok{s:Strm}(h:s.Ok8):s.Ok:=by
 unfold Strm.Ok8 at h
 unfold Strm.Ok
 cases hl:s.left with
 |nil=>exact .inl rfl
 |cons a l=>rw [hl] at h;simp only [jD] at h⊢;right;omega
theorem Strm.Ok8.next{s:Strm}(h:s.Ok8):s.next.Ok8:=by
 unfold Strm.Ok8 Strm.next Strm.fill at*
 dsimp only
 rw [jI]
 split
 · dsimp only;rw [sum_length]
 · omega
theorem Strm.next_seed(s:Strm):s.next.seed=s.seed:=s.fill_seed
theorem qRV{e:UInt64}: ∀{f:Nat} {s:Strm} {k:UInt64} {s':Strm},draw e f s=some (k,s')→s.Ok8→s'.Ok8∧s'.seed=s.seed
  |0,_,_,_,h,_=>by simp [draw] at h
  |f+1,s,k,s',h,ho=>by
    unfold draw at h
    split at h
    · simp only [zN,ze] at h
      obtain ⟨_,rfl⟩:=h
      exact⟨ho.next,s.next_seed⟩
    · have:=qRV h ho.next
      exact⟨this.1,this.2.trans s.next_seed⟩
end Sha
theorem ent145:qAD prog 145:=qAD.of func145 rfl (by kernel_rfl)
theorem ent189:qAD prog 189:=qAD.of func189 rfl (by kernel_rfl)
theorem ent146:qAD prog 146:=qAD.of func146 rfl (by kernel_rfl)
attribute [local irreducible] Sha.val Sha.Strm.fill
theorem qKG(F:Hp)(seed:List UInt8):
    Ct prog 145 [Str seed] [F] (λg:Nat=>Ptr g) (λ_=>True) (λg=> [F,blk g (Sha.Strm.new seed).cells 286]):=by
  refine Ct.walk func145 rfl ntmps145 rfl (λw0 hw0=>?_)
  exact J.f λ_ j1=>J.b O<|J.c j1<|J.f λ_ j2=>J.b O<|J.g (qAK (places:= [(0,1),(1,1),(2,1)]) (r:=(Sha.Strm.new seed).cells) O O O qHC zeroValue286 (λ_=>by kernel_rfl) O) O<|J.p (qAd O O O) O λg5 _=>J.b O<|J.c j2<|J.A<|J.E hw0 O g5 O trivial [0,1] O (by decide)
theorem qWr(F:Hp)(hK:KF F)(g:Nat)(s:Sha.Strm)(ho:s.Ok)(hs:s.seed.length≤1048576):
    Ct prog 189 [Ptr g] [blk g s.cells 286,F] (λ_:Unit=>W64 s.num) (λ_=>True) (λ_=> [blk g s.next.cells 286,F]):=by
  have hfl:=s.fill_len ho
  refine Ct.walk func189 rfl ntmps189 rfl (λw0 hw0=>?_)
  refine J.f λ_ j1=>J.b O<|J.c j1<|J.d4 (λ_:Unit=> [(0,Ptr g)]) (λ_=> [blk g s.fill.cells 286,F]) (λ_=>True) (λ_ j2=>?_) ?_
  ·
    refine J.f λ_ j3=>J.b O<|J.g (qAC O O) O<|J.T 2 qHC z9_ O O O O O<|J.a5 0 b9_ O O O O O<|J.g (qBS O O O) O<|J.c j3<|J.W O (λh9=>?_) (λh9=>?_)
    ·
      refine J.k λ_ j4=>J.b0 [blk g s.cells 286,F] [15] (.y 0 (.y 1 (.y 2 (.y 3 (.y 4 (.y 5 (.y 6 (.y 7 (.y 8 (.e 9 (.y 10 (.e 11 (.e 12 (.y 13 (.y 14 (.e 15 .nil)))))))))))))))) Tryz.wide (by decide+kernel) (by simp) ?_
      refine J.L ?_
      refine J.L ?_
      refine J.j O (qAC O O) O O<|J.j O (qAA O O qHC O z9_ O) O O<|J.j O (qAE 0 O O O b9_ O) O O<|J.L ?_
      refine J.j O (qAC O O) O O<|J.j O (qAA O O qHC O qD9 O) O O<|J.j O (qAE 0 O O O qEz O) O O<|J.f2 (λx=> [blk g s.cells 286,F]++ [x.2.2]) O (qAB O O ent102 (Ct.use (λF' _=>qEp F' s.count 4 (by decide)))) O O O (λ_ _ h=>je _ h) (by simp) ?_
      rintro⟨A19,c19,m19⟩ h19
      try dsimp only at h19
      refine J.j O (qBi O O qBl u5_ u9_ (m:=m19) (by simp) h19.sl) rfl rfl<|J.Z rfl (qAG (l:= [.tmp 14,.tmp 20]) (xs:= [[Str s.seed],[Str (Sha.numB s.count 4)]]) rfl rfl rfl rfl qAk el9 rfl (by decide) (by decide) (by simp)) rfl (by simp) λg21 _=>J.Z rfl (qAB rfl rfl ent103 (Ct.use0 (λF' hF=>qUz F' (hK.mono (Fa hF)) (some ⟨g21,0,none⟩) 2 2 [s.seed,(Sha.numB s.count 4)] (((qAl (q:=True) (xs:=qAI [s.seed,(Sha.numB s.count 4)]) rfl (by simp [qAI])).sl (m:=blk g21 [Str s.seed,Str (Sha.numB s.count 4)] 9)).mono (Fa hF)) (by simp [Sha.numB_length];omega) (by decide)))) rfl (by simp) λg22 _=>J.j rfl (qAC rfl rfl) rfl rfl<|J.j rfl (qAA rfl rfl qHC rfl z9_ rfl) rfl rfl<|J.c2 rfl (qAW (i:=0) rfl rfl rfl rfl rfl z9_ rfl (by show 2+1≤3;decide)) rfl rfl rfl λ_ _=>J.a8<|J.u (J.D j4 ?_)
      refine J.H<|J.b O<|J.g (qAC O O) O<|J.T 1 qHC qD9 O O O O O<|J.a5 0 qEz O O O O O<|J.g (qM6 (b:=1) O O O) O<|J.g (qAC O O) O<|J.T 1 qHC qD9 O O O O O<|J.a6 (qAW (i:=0) O O O O O qD9 O (by show 1+1≤3;decide)) O O λ_ _=>J.a3<|J.u ?_
      have hf:s.fill.cells= [Str s.seed,W64 (s.count+1),Str (Sha.sum [s.seed,(Sha.numB s.count 4)].flatten)]:=by
        unfold Sha.Strm.fill Sha.Strm.cells
        rw [if_pos h9]
        simp
      exact J.a4 () j2 trivial ⟨O,trivial⟩ (λ_ h=>by rw [hf];exact h.pick [0,1] (by decide))
    refine J.b5<|J.u ?_
    have hf:s.fill=s:=by unfold Sha.Strm.fill;rw [if_neg h9]
    exact J.a4 () j2 trivial ⟨O,trivial⟩ (λ_ h=>by rw [hf];exact h)
  rintro _ _
  refine J.f λ_ j5=>J.b O<|J.c j5<|J.k λ_ j6=>J.f λ_ j7=>J.b O<|J.c j7<|J.O<|J.b4 (λk:Nat=> [(0,Ptr g),(3,W64 (Sha.val s.fill.left k)),(32,I k)]) (λ_=> [blk g s.fill.cells 286,F]) (λk=>k≤8) (λk=>8-k) 0 (jG _) ⟨O,by unfold Sha.val;rfl,O,trivial⟩ (λ_ h=>h) ?_
  intro k hk I0 hI0
  refine J.f λ_ j8=>J.g (qAT O O O) O<|J.c j8<|J.k λ_ j9=>J.W O (λh33=>?_) (λh33=>?_)
  ·
    refine J.M j9<|J.k λ_ j10=>J.O<|J.f λ_ j11=>J.q 2 O<|J.c j11 ?_
    have hk8:k<8:=by omega
    refine J.H<|J.b O<|J.g (qMy O O O) O<|J.b O<|J.g (qAC O O) O<|J.T 2 qHC z9_ O O O O O<|J.a5 0 b9_ O O O O O<|J.b O<|J.g (qBf u9_ O O O (getB (b:=s.fill.left) (j:=k) (by omega))) O<|J.g (qFU O O u5_ qEU) O<|J.g (qQY O O O) O<|J.b O<|J.a3<|J.a2<|J.u (J.D j10 ?_)
    exact J.H<|J.g (qAS O O O (by omega)) O<|J.b O<|J.a3<|J.u<|J.a4 (k+1) (λx (hx:x≤8∧8-x<8-k)=>hI0 x hx.1 hx.2) ⟨by omega,by omega⟩ ⟨O,by rw [Sha.val];rfl,rfl,trivial⟩ (λ_ h=>h)
  refine J.b2<|J.a0<|J.a0<|J.b3 ?_
  refine J.u (J.D j6 ?_)
  refine J.k λ_ j12=>?_
  have hk8:k=8:=by omega
  subst hk8
  exact J.H<|J.q 2 O<|J.g (qAC O O) O<|J.T 2 qHC z9_ O O O O O<|J.a5 0 b9_ O O O O O<|J.g ((qA9 u9_ O O O O ⟨hfl,jK _⟩).as (v':=Str s.next.left) (by rw [jo];rfl)) rfl<|J.g (qAC rfl rfl) rfl<|J.T 2 qHC z9_ rfl rfl rfl rfl rfl<|J.a6 (qAW (i:=0) rfl rfl rfl rfl rfl z9_ rfl (by show 2+1≤3;decide)) rfl rfl λ_ _=>J.c j12<|J.f λ_ j13=>J.q 2 rfl<|J.c j13<|J.A<|J.E hw0 rfl () rfl trivial [0,1] (by simp only [Sha.Strm.next,Sha.Strm.cells];rfl) (by decide)
theorem qN4(F:Hp)(hK:KF F)(g:Nat)(s:Sha.Strm)(ho0:s.Ok8)(hs:s.seed.length≤1048576)(n:UInt64)(hn:2≤n.toNat)(fuel:Nat)(k:UInt64)(s':Sha.Strm)(hd:Sha.draw (Sha.stop n) fuel s=some (k,s')):
    Ct prog 146 [Ptr g,W64 n] [blk g s.cells 286,F] (λ_:Unit=>W64 (k%n)) (λ_=>True) (λ_=> [blk g s'.cells 286,F]):=by
  have hn0:n≠0:=λe=>by rw [e] at hn;exact absurd hn (by decide)
  refine Ct.walk func146 rfl ntmps146 rfl (λw0 hw0=>?_)
  refine J.f λ_ j1=>J.b O<|J.c j1<|J.k λ_ j2=>J.f λ_ j3=>J.b O<|J.g ((qA6 underlying237 O O O).as (v':= .bool false) O) O<|J.q 2 O<|J.G ((qAT O O O).no (by omega)) O<|J.b O<|J.c j3<|J.a1 ?_
  refine J.M j2<|J.f λ_ j4=>J.b O<|J.g (qMz (a:=18446744073709551615) O O O hn0) O<|J.g (qMx (a:=18446744073709551615) O O O) O<|J.b O<|J.c j4<|J.O<|J.b4 (X:=Nat×Sha.Strm) (λ_=> [(0,Ptr g),(1,W64 n),(5,W64 (Sha.stop n))]) (λx=> [blk g x.2.cells 286,F]) (λx=>Sha.draw (Sha.stop n) x.1 x.2=some (k,s')∧x.2.Ok8∧x.2.seed=s.seed) (λx=>x.1) (fuel,s) (⟨hd,ho0,O⟩) ⟨O,O,O,trivial⟩ (λ_ h=>h) ?_
  rintro⟨f,st⟩ ⟨hdr,ho,hsd⟩ I0 hI0
  dsimp only at hdr ho hsd⊢
  obtain ⟨f,rfl⟩: ∃f',f=f'+1:=by cases f with
    |zero=>simp [Sha.draw] at hdr
    |succ f=>exact⟨f,rfl⟩
  unfold Sha.draw at hdr
  refine J.O<|J.f λ_ j5=>J.b O<|J.p (qAB O O ent189 (qWr F hK g st ho.ok (by rw [hsd];exact hs))) rfl λg17 _=>J.b rfl<|J.c j5<|J.f λ_ j6=>J.q 2 rfl<|J.g (qAT rfl rfl rfl) rfl<|J.c j6<|J.W rfl (λh20=>?_) (λh20=>?_)
  ·
    refine J.f λ_ j7=>J.q 2 O<|J.g (qMz O O O hn0) O<|J.b O<|J.c j7<|J.A<|J.a7<|J.V<|J.a7 ?_
    rw [if_pos (by omega)] at hdr
    simp only [zN,ze] at hdr
    obtain ⟨hk1,hk2⟩:=hdr
    exact J.E hw0 O () (by rw [←hk1]) trivial [0,1] (by rw [←hk2];rfl) (by decide)
  refine J.b5<|J.a2<|J.u ?_
  rw [if_neg (by omega)] at hdr
  exact J.a4 (f,st.next) (λx (hx:_∧x.1<f+1)=>hI0 x hx.1 hx.2) ⟨⟨hdr,ho.next,st.next_seed.trans hsd⟩,Nat.lt_succ_self f⟩ ⟨O,O,O,trivial⟩ (λ_ h=>h)
theorem qMD(F:Hp)(g:Nat)(s:Sha.Strm)(n:UInt64)(hn:n.toNat<2):
    Ct prog 146 [Ptr g,W64 n] [blk g s.cells 286,F] (λ_:Unit=>W64 0) (λ_=>True) (λ_=> [blk g s.cells 286,F]):=by
  refine Ct.walk func146 rfl ntmps146 rfl (λw0 hw0=>?_)
  refine J.f λ_ j1=>J.b O<|J.c j1<|J.k λ_ j2=>J.f λ_ j3=>J.b O<|J.g ((qA6 underlying237 O O O).as (v':= .bool false) O) O<|J.q 2 O<|J.G ((qAT O O O).yes (by omega)) O<|J.b O<|J.c j3<|J.c4 ?_
  exact J.f λ_ j4=>J.b O<|J.c j4<|J.A<|J.V<|J.E hw0 O () O trivial [0,1] O (by decide)
end Go.Proofs.YtcgcjaflllmlpaaGreatDoor
