/- A part of the proof. -/
import Derived.Test.YtllnfioplpipiaaGreatDoorTopOrG8
import Derived.Test.YtllnfioplpipiaaGreatDoorTopOrG11
import Derived.Test.YtllnfioplpipiaaGreatDoorTopOrG21
set_option linter.unusedSimpArgs false
set_option linter.unusedVariables false
namespace Go.Proofs.YtllnfioplpipiaaGreatDoor
open Go Go.Fw Go.Proofs.Tryz
set_option maxRecDepth 100000
set_option maxHeartbeats 1000000
namespace Mk
def node(a b:List UInt8):List UInt8:=Sha.tagged 5 [a,b]
def above(l:List (List UInt8)):List (List UInt8):=(List.range (l.length/2)).map λk=>node (l.getD (2*k) []) (l.getD (2*k+1) [])
def lvl(l:List (List UInt8)):Nat→List (List UInt8)
 |0=>l
 |j+1=>above (lvl l j)
def root(l:List (List UInt8))(h:Nat):List UInt8:=(lvl l h).getD 0 []
def path(l:List (List UInt8))(i h:Nat):List (List UInt8):=(List.range h).map λj=>(lvl l j).getD ((i/2^j)^^^1) []
def climb:List UInt8→Nat→List (List UInt8)→List UInt8
 |x,_,[]=>x
 |x,i,s::r=>climb (if i%2=0 then node x s else node s x) (i/2) r
def Right(n:Nat):Prop:=n=1∨n=2∨n=4∨n=8∨n=16∨n=32∨n=64
instance (n:Nat):Decidable (Right n):=by unfold Right;infer_instance
theorem qM7: ∀n:Fin 65,(1≤n.val∧n.val&&&(n.val-1)=0)↔Right n.val:=by decide+kernel
theorem right_of(n:Nat):(1≤n∧n≤64∧n&&&(n-1)=0)↔Right n:=by
  by_cases h:n<65
  · have:=qM7 ⟨n,h⟩
    dsimp only at this
    rw [←this]
    constructor
    · intro ⟨a,_,c⟩;exact⟨a,c⟩
    · intro ⟨a,c⟩;exact⟨a,by omega,c⟩
  · constructor
    · intro ⟨_,b,_⟩;omega
    · intro hr;unfold Right at hr;omega
theorem right_pow(h:Nat)(h6:h≤6):Right (2^h):=by
 have: ∀h:Fin 7,Right (2^h.val):=by decide+kernel
 exact this ⟨h,by omega⟩
theorem node_length(a b:List UInt8):(node a b).length=16:=Sha.tagged_length _ _
theorem qJE(l:List (List UInt8)):(above l).length=l.length/2:=by simp [above]
theorem qKI(l:List (List UInt8)): ∀s∈above l,s.length=16:=λs hs=>by
 simp only [above,List.mem_map] at hs
 obtain ⟨k,_,rfl⟩:=hs
 exact node_length _ _
theorem lvl_succ_length(l:List (List UInt8))(j:Nat):(lvl l (j+1)).length=(lvl l j).length/2:=qJE _
theorem lvl_length(l:List (List UInt8))(h:Nat)(hl:l.length=2^h): ∀j,j≤h→(lvl l j).length=2^(h-j)
 |0,_=>hl
 |j+1,hj=>by
  rw [lvl_succ_length,lvl_length l h hl j (by omega),show h-j=(h-(j+1))+1 by omega,Nat.pow_succ]
  omega
theorem lvl_small(l:List (List UInt8))(hs: ∀s∈l,s.length≤1048576): ∀j,∀s∈lvl l j,s.length≤1048576
 |0=>hs
 |j+1=>λs h=>by rw [qKI _ s h];decide
theorem xor_one(m k:Nat)(h:m<2*k):m^^^1<2*k:=by
 have e1:(m^^^1)/2=m/2:=by rw [Nat.xor_div_two];simp
 omega
theorem path_succ(l:List (List UInt8))(i h:Nat):path l i (h+1)=path l i h++ [(lvl l h).getD ((i/2^h)^^^1) []]:=by simp [path,List.range_succ]
theorem path_length(l:List (List UInt8))(i h:Nat):(path l i h).length=h:=by simp [path]
theorem above_succ(l:List (List UInt8))(k:Nat):((List.range (k+1)).map λk=>node (l.getD (2*k) []) (l.getD (2*k+1) []))=((List.range k).map λk=>node (l.getD (2*k) []) (l.getD (2*k+1) []))++ [node (l.getD (2*k) []) (l.getD (2*k+1) [])]:=by simp [List.range_succ]
theorem getS{l:List (List UInt8)}{j:Nat}(h:j<l.length):l[j]?=some (l.getD j []):=by rw [List.getD_eq_getElem?_getD,List.getElem?_eq_getElem h];rfl
theorem getS_mem{l:List (List UInt8)}{j:Nat}(h:j<l.length):l.getD j []∈l:=List.mem_of_getElem? (getS h)
end Mk
theorem ent160:qAD prog 160:=qAD.of func160 rfl (by kernel_rfl)
theorem ent99:qAD prog 99:=qAD.of func99 rfl (by kernel_rfl)
theorem ent100:qAD prog 100:=qAD.of func100 rfl (by kernel_rfl)
theorem ent38:qAD prog 38:=qAD.of func38 rfl (by kernel_rfl)
theorem ent166:qAD prog 166:=qAD.of func166 rfl (by kernel_rfl)
theorem ent163:qAD prog 163:=qAD.of func163 rfl (by kernel_rfl)
theorem qH8(a:List (List UInt8)):(qAG a).all (λx=>x.all Value.oneCell')=true:=by simp [qAG,Value.oneCell']
attribute [local irreducible] Mk.node
theorem qJp(F:Hp)(hK:KF F)(a b:List UInt8)(ha:a.length≤1048576)(hb:b.length≤1048576):
    Ct prog 160 [Str a,Str b] [F] (λ_:Unit=>Str (Mk.node a b)) (λ_=>True) (λ_=> [F]):=by
  refine Ct.walk func160 rfl ntmps160 rfl (λw0 hw0=>?_)
  change J _ [(0,_),(1,_)] _ _ _
  refine J.g λK1 hK1=>J.b O<|J.c hK1<|J.E 0 1 ?_
  refine J.g λK2 hK2=>J.p 2 O<|J.k (qAF (l:= [.tmp 5,.tmp 6]) (xs:= [[Str a],[Str b]]) O O O O qAe el9 O (by decide) (by decide) (by simp)) rfl λg7 _=>?_
  change J _ _ _ [F,blk g7 [Str a,Str b] 9] _
  refine J.k (qAA O O ent75 (Ct.use0 (λF' hF=>qAv F' (hK.mono (hF _ (by simp))) 5 (some ⟨g7,0,none⟩) 2 2 [a,b] (((qAk (q:=True) (xs:=qAG [a,b]) rfl (by simp [qAG])).sl (m:=blk g7 [Str a,Str b] 9)).mono (hF _ (by simp))) (by simp;omega) (by decide)))) rfl λg8 _=>J.b rfl<|J.c hK2<|J.u 4 ?_
  exact J.D<|J.M hw0 O () (by unfold Mk.node;rfl) trivial [0] O (by decide)
theorem qKe(F:Hp)(n:Nat)(hn:n<9223372036854775808):Ct prog 99 [I n] [F] (λ_:Unit=> .bool (decide (Mk.Right n))) (λ_=>True) (λ_=> [F]):=by
 have hR:=Mk.right_of n
 refine Ct.walk func99 rfl ntmps99 rfl (λw0 hw0=>?_)
 change J _ [(0,_)] _ _ _
 refine J.g λK1 hK1=>J.b O<|J.c hK1<|J.u 0 ?_
 refine J.g λK2 hK2=>J.b O<|J.f (qBN O O O) O<|J.b O<|J.c4 (d:=5) O (λh5=>?_) (λh5=>?_)
 ·
  refine J.b O<|J.Z (qB5 O O O) O<|J.p 2 O<|J.c4 (d:=9) O (λh9=>?_) (λh9=>?_)
  ·
   refine J.p 2 O<|J.Z ((qAw O O O (by omega)).nat (n-1) (by omega)) O<|J.Z (qJm (a:=n) (b:=n-1) O O O (by omega)) O<|J.Z (qAY O O O) O<|J.p 2 O<|J.c hK2<|J.u 2 ?_
   exact J.D<|J.M hw0 O () (congrArg Value.bool (decide_eq_decide.2 (by rw [←hR];omega))) trivial [0] rfl (by decide)
  refine J.p 7 O<|J.c hK2<|J.u 2 ?_
  exact J.D<|J.M hw0 O () (congrArg Value.bool (decide_eq_false (by rw [←hR];omega)).symm) trivial [0] rfl (by decide)
 refine J.p 11 O<|J.c hK2<|J.u 2 ?_
 exact J.D<|J.M hw0 O () (congrArg Value.bool (decide_eq_false (by rw [←hR];omega)).symm) trivial [0] rfl (by decide)
theorem qLS(F:Hp)(hK:KF F)(A:Option Addr)(n c:Nat)(ls:List (List UInt8))(hl:Sl F 1 A n c (qAG ls))(hsm: ∀s∈ls,s.length≤1048576)(hn:n≤1048576):
    Ct prog 100 [.slice A n c] [F] (λx:Option Addr×Nat×Hp=> .slice x.1 (n/2) x.2.1) (λx=>Row x.2.2 9 1 x.1 (n/2) x.2.1 (qAG (Mk.above ls))) (λx=> [F,x.2.2]):=by
  have hlen:ls.length=n:=by have:=hl.1;simpa [qAG] using this
  refine Ct.walk func100 rfl ntmps100 rfl (λw0 hw0=>?_)
  change J _ [(0,_)] _ _ _
  refine J.g λK1 hK1=>J.b O<|J.c hK1<|J.u 0 ?_
  refine J.g λK2 hK2=>J.b O<|J.c hK2<|J.E 0 3 ?_
  refine J.j λK3 hK3=>J.j λK4 hK4=>J.d5 [0,1] [F,(λ_=>none)] O (by decide)<|J.L<|J.b O<|J.c hK4<|J.G 0 3 4 ?_
  refine J.V<|J.b6 (X:=Nat×Option Addr×Nat×Hp) (λx=> [(0,.slice A n c),(3,.slice x.2.1 x.1 x.2.2.1),(4,I ((2*x.1:Nat):Int))]) (λx=> [F,x.2.2.2]) (λx=>2*x.1≤n∧Row x.2.2.2 9 1 x.2.1 x.1 x.2.2.1 (qAG ((List.range x.1).map λk=>Mk.node (ls.getD (2*k) []) (ls.getD (2*k+1) [])))) (λx=>n-x.1) (0,none,0,λ_=>none) (⟨Nat.zero_le _,qBU.nil⟩) ⟨O,O,O,trivial⟩ (λ_ h=>h) ?_
  rintro⟨k,A1,c1,m⟩ ⟨hk,hrow⟩ I0 hI0
  dsimp only at hk hrow⊢
  refine J.j λK5 hK5=>J.g λK6 hK6=>J.b O<|J.f ((qAO O O O (by omega))) O<|J.b O<|J.f (qAP qAe O O) O<|J.f (qAT O O O) O<|J.c hK6<|J.O 0 3 4 9 ?_
  refine J.a2 O (λh9=>?_) (λh9=>?_)
  ·
    refine J.W hK5<|J.G 0 3 4 ?_
    refine J.j λK7 hK7=>J.V<|J.c1 [F] [] (.y 0 (.y 1 (.y 2 (.y 3 (.y 4 (.y 5 (.y 6 (.y 7 (.y 8 (.y 9 (.e 10 (.e 11 (.e 12 (.y 13 .nil)))))))))))))) Tryz.wide (by decide+kernel) (by simp) ?_
    iterate 3 refine J.T ?_
    refine J.q O (qAH (i:=2*k) O O O qAe z9_ hl (by omega)) O O<|J.q O (qAJ O O b9_ (m:=F) (by simp) (hl.elem (qAQ (Mk.getS (l:=ls) (j:=2*k) (by omega))))) rfl rfl<|J.T ?_
    refine J.T ?_
    refine J.q O ((qAO O O O (by omega)).nat (2*k+1) (by omega)) O O<|J.q O (qAH (i:=2*k+1) O O O qAe z9_ hl (by omega)) O O<|J.q O (qAJ O O b9_ (m:=F) (by simp) (hl.elem (qAQ (Mk.getS (l:=ls) (j:=2*k+1) (by omega))))) rfl rfl<|J.a9 rfl (qAA rfl rfl ent160 (Ct.use0 (λF' hF=>qJp F' (hK.mono (hF _ (by simp))) (ls.getD (2*k) []) (ls.getD (2*k+1) []) (hsm _ (Mk.getS_mem (by omega))) (hsm _ (Mk.getS_mem (by omega)))))) rfl (by simp) λg22 _=>J.a9 rfl (qAF (l:= [.tmp 22]) (xs:= [[Str (Mk.node (ls.getD (2*k) []) (ls.getD (2*k+1) []))]]) rfl rfl rfl rfl qAe el9 rfl (by decide) (by decide) (by simp)) rfl (by simp) λg23 _=>?_
    change J _ _ _ [F,m,blk g23 [Str (Mk.node (ls.getD (2*k) []) (ls.getD (2*k+1) []))] 9] _
    refine J.a9 O (qAW (i:=1) (m2:=blk g23 [Str (Mk.node (ls.getD (2*k) []) (ls.getD (2*k+1) []))] 9) (ys:=qAG [Mk.node (ls.getD (2*k) []) (ls.getD (2*k+1) [])]) O O O qAe qAe el9 O hrow (by simp) (qAk (q:=True) (xs:=qAG [Mk.node (ls.getD (2*k) []) (ls.getD (2*k+1) [])]) rfl (by simp [qAG])).sl (qH8 _) (by omega) (by omega)) rfl (by simp) ?_
    rintro⟨A24,c24,m24⟩ h24
    try dsimp only at h24
    change J _ ((24,.slice A24 (k+1) c24)::_) _ [_,m24,_] _
    rw [←qBm,←Mk.above_succ ls k] at h24
    refine J.c6 ?_
    refine J.b9<|J.a6<|J.A (J.H hK7 ?_)
    refine J.G 0 3 4 ?_
    refine J.c8 [0,1] [F,m24] O (by decide)<|J.L<|J.b O<|J.f ((qAO O O O (by omega)).nat (2*(k+1)) (by omega)) O<|J.b O<|J.a7<|J.A<|J.a8 (k+1,A24,c24,m24) (λx (hx:_∧n-x.1<n-k)=>hI0 x hx.1 hx.2) ⟨⟨by dsimp only;omega,h24⟩,by dsimp only;omega⟩ ⟨O,O,O,trivial⟩ (λ_ h=>h)
  refine J.b4<|J.a1<|J.a1<|J.b5 ?_
  refine J.A (J.H hK3 ?_)
  refine J.u 3 ?_
  refine J.g λK8 hK8=>J.p 2 O<|J.c hK8<|J.u 2 ?_
  refine J.D ?_
  have hk2:k=n/2:=by omega
  subst hk2
  exact J.M hw0 O (A1,c1,m) O (by rw [←hlen] at hrow;unfold Mk.above;rw [←hlen];exact hrow) [0,1] rfl (by decide)
theorem qSH(F:Hp)(hK:KF F)(A:Option Addr)(n c:Nat)(ls:List (List UInt8))(hl:Sl F 1 A n c (qAG ls))(h:Nat)(h6:h≤6)(hn:n=2^h)(hsm: ∀s∈ls,s.length≤1048576):
    Ct prog 38 [.slice A n c] [F] (λ_:Unit=> .tuple #[Str (Mk.root ls h),I 0]) (λ_=>True) (λ_=> [F]):=by
  have hlen:ls.length=n:=by have:=hl.1;simpa [qAG] using this
  have hR:Mk.Right n:=by rw [hn];exact Mk.right_pow h h6
  have hn64:n≤64:=by unfold Mk.Right at hR;omega
  have hlv: ∀j,j≤h→(Mk.lvl ls j).length=2^(h-j):=Mk.lvl_length ls h (by omega)
  have hle: ∀j,2^(h-j)≤64:=λj=>Nat.le_trans (Nat.pow_le_pow_right (by decide) (show h-j≤6 by omega)) (by decide)
  refine Ct.walk func38 rfl ntmps38 rfl (λw0 hw0=>?_)
  change J _ [(0,_)] _ _ _
  refine J.g λK1 hK1=>J.p 2 O<|J.c hK1<|J.u 0 ?_
  refine J.j λK2 hK2=>J.g λK3 hK3=>J.b O<|J.f (qAP qAe O O) O<|J.k (qAA O O ent99 (qKe F n (by omega))) O λg6 _=>J.f ((qFR O O).as (v':= .bool false) (by simp [hR])) rfl<|J.d5 [0,1] [F,(λ_=>none)] rfl (by decide)<|J.c hK3<|J.E 0 7 ?_
  refine J.a5 ?_
  refine J.W hK2<|J.u 0 ?_
  refine J.j λK4 hK4=>J.V<|J.b6 (X:=Nat×Option Addr×Nat×Hp) (λx=> [(0,.slice x.2.1 (Mk.lvl ls x.1).length x.2.2.1)]) (λx=> [F,x.2.2.2]) (λx=>x.1≤h∧ ∃mm∈ [F,x.2.2.2],Sl mm 1 x.2.1 (Mk.lvl ls x.1).length x.2.2.1 (qAG (Mk.lvl ls x.1))) (λx=>h-x.1) (0,A,c,λ_=>none) (⟨Nat.zero_le _,F,.head _,by rw [show(Mk.lvl ls (0,A,c,(λ_=>none:Hp)).1).length=n from hlen];exact hl⟩) ⟨by rw [←hlen];rfl,trivial⟩ (λ_ h=>h) ?_
  rintro⟨j,A1,c1,m⟩ ⟨hj,mm,hmm,hsl⟩ I0 hI0
  dsimp only at hj hmm hsl⊢
  have hj2:=hlv j hj
  have hj3:=hle j
  have hpos:0<(Mk.lvl ls j).length:=by rw [hj2];exact Nat.two_pow_pos _
  have hmm2:mm=F∨mm=m:=by simpa using hmm
  refine J.j λK5 hK5=>J.g λK6 hK6=>J.b O<|J.f (qAP qAe O O) O<|J.f (qAz O O O) O<|J.c hK6<|J.E 0 10 ?_
  refine J.a2 O (λh10=>?_) (λh10=>?_)
  ·
    refine J.W hK5<|J.u 0 ?_
    refine J.V ?_
    have hjh:j<h:=by
      rcases Nat.lt_or_ge j h with hlt|hge
      · exact hlt
      · rw [hj2,show h-j=0 by omega] at h10;simp at h10
    refine J.L<|J.b O<|J.k (qAA O O ent100 (Ct.use (λF' hF=>qLS F' (hK.mono (hF _ (by simp))) A1 (Mk.lvl ls j).length c1 (Mk.lvl ls j) (hsl.mono (hF _ (by rcases hmm2 with rfl|rfl<;>simp))) (Mk.lvl_small ls hsm j) (by omega)))) rfl ?_
    rintro⟨A12,c12,m12⟩ h12
    try dsimp only at h12
    change J _ ((12,.slice A12 ((Mk.lvl ls j).length/2) c12)::_) _ [F,m,m12] _
    refine J.c8 [0,2] [F,m12] O (by decide)<|J.b O<|J.a7<|J.a6<|J.A<|J.a8 (j+1,A12,c12,m12) (λx (hx:_∧h-x.1<h-j)=>hI0 x hx.1 hx.2) ⟨⟨by dsimp only;omega,m12,by simp,by rw [Mk.lvl_succ_length];exact h12.sl⟩,by dsimp only;omega⟩ ⟨by rw [Mk.lvl_succ_length];rfl,trivial⟩ (λ_ h=>h)
  refine J.b4<|J.a1<|J.a1<|J.b5 ?_
  refine J.A (J.H hK4 ?_)
  refine J.u 0 ?_
  refine J.j λK7 hK7=>?_
  have hjh:j=h:=by
    rcases Nat.lt_or_ge j h with hlt|hge
    · have:=Nat.one_lt_two_pow_iff.2 (show h-j≠0 by omega)
      omega
    · omega
  refine J.L<|J.b O<|J.f (qAH (m:=mm) (i:=0) O O O qAe z9_ hsl hpos) O<|J.f (qAJ O O b9_ hmm (hsl.elem (qAQ (Mk.getS (l:=Mk.lvl ls j) (j:=0) hpos)))) O<|J.p 2 O<|J.c hK7<|J.E 2 3 ?_
  exact J.D<|J.b2 hw0 (λ_ _ h=>h) (qB2 O O O) (qAn () (by rw [hjh];rfl) trivial [0] rfl (by decide))
theorem qSZ(F:Hp)(hK:KF F)(A:Option Addr)(n c:Nat)(ls:List (List UInt8))(hl:Sl F 1 A n c (qAG ls))(h:Nat)(h6:h≤6)(hn:n=2^h)(hsm: ∀s∈ls,s.length≤1048576)(i:Nat)(hi:i<n):
    Ct prog 166 [.slice A n c,I i] [F] (λx:Option Addr×Nat×Hp=> .tuple #[.slice x.1 h x.2.1,I 0]) (λx=>Row x.2.2 9 1 x.1 h x.2.1 (qAG (Mk.path ls i h))) (λx=> [F,x.2.2]):=by
  have hlen:ls.length=n:=by have:=hl.1;simpa [qAG] using this
  have hR:Mk.Right n:=by rw [hn];exact Mk.right_pow h h6
  have hn64:n≤64:=by unfold Mk.Right at hR;omega
  have hlv: ∀j,j≤h→(Mk.lvl ls j).length=2^(h-j):=Mk.lvl_length ls h (by omega)
  have hle: ∀j,2^(h-j)≤64:=λj=>Nat.le_trans (Nat.pow_le_pow_right (by decide) (show h-j≤6 by omega)) (by decide)
  refine Ct.walk func166 rfl ntmps166 rfl (λw0 hw0=>?_)
  change J _ [(0,_),(1,_)] _ _ _
  refine J.g λK1 hK1=>J.p 2 O<|J.c hK1<|J.E 0 1 ?_
  refine J.j λK2 hK2=>J.V<|J.g λK3 hK3=>J.b O<|J.f (qAP qAe O O) O<|J.k (qAA O O ent99 (qKe F n (by omega))) O λg10 _=>J.f ((qFR O O).as (v':= .bool false) (by simp [hR])) rfl<|J.b rfl<|J.c hK3<|J.G 0 1 7 ?_
  refine J.a5 ?_
  refine J.g λK4 hK4=>J.b O<|J.f ((qAT O O O).no (by omega)) O<|J.p 3 O<|J.Z (qAP qAe O O) O<|J.Z ((qBN O O O).no (by omega)) O<|J.p 2 O<|J.c hK4<|J.G 0 1 12 ?_
  refine J.a5 ?_
  refine J.b7<|J.a6<|J.A (J.H hK2 ?_)
  refine J.E 0 1 ?_
  refine J.j λK5 hK5=>J.d5 [0,1] [F,(λ_=>none)] O (by decide)<|J.d5 [0,1,2] [F,(λ_=>none),(λ_=>none)] O (by decide)<|J.L<|J.b O<|J.c hK5<|J.G 0 1 6 ?_
  refine J.j λK6 hK6=>J.V<|J.b6 (X:=Nat×Option Addr×Nat×Hp×Option Addr×Nat×Hp) (λx=> [(0,.slice x.2.1 (Mk.lvl ls x.1).length x.2.2.1),(1,I ((i/2^x.1:Nat):Int)),(6,.slice x.2.2.2.2.1 x.1 x.2.2.2.2.2.1)]) (λx=> [F,x.2.2.2.2.2.2,x.2.2.2.1]) (λx=>x.1≤h∧(∃mm∈ [F,x.2.2.2.1],Sl mm 1 x.2.1 (Mk.lvl ls x.1).length x.2.2.1 (qAG (Mk.lvl ls x.1)))∧Row x.2.2.2.2.2.2 9 1 x.2.2.2.2.1 x.1 x.2.2.2.2.2.1 (qAG (Mk.path ls i x.1))) (λx=>h-x.1) (0,A,c,(λ_=>none),none,0,λ_=>none) (⟨Nat.zero_le _,⟨F,.head _,by rw [show(Mk.lvl ls (0,A,c,(λ_=>none:Hp)).1).length=n from hlen];exact hl⟩,qBU.nil⟩) ⟨by rw [←hlen];rfl,by rw [Nat.pow_zero,Nat.div_one];rfl,rfl,trivial⟩ (λ_ h=>h) ?_
  rintro⟨j,A1,c1,m,A2,c2,m2⟩ ⟨hj,⟨mm,hmm,hsl⟩,hrow⟩ I0 hI0
  dsimp only at hj hmm hsl hrow⊢
  have hj2:=hlv j hj
  have hj3:=hle j
  have hpos:0<(Mk.lvl ls j).length:=by rw [hj2];exact Nat.two_pow_pos _
  have hmm2:mm=F∨mm=m:=by simpa using hmm
  have hmF:mm∈ [F,m2,m]:=by rcases hmm2 with rfl|rfl<;>simp
  refine J.j λK7 hK7=>J.g λK8 hK8=>J.b O<|J.f (qAP qAe O O) O<|J.f (qAz O O O) O<|J.c hK8<|J.O 0 1 6 23 ?_
  refine J.a2 O (λh23=>?_) (λh23=>?_)
  ·
    refine J.W hK7<|J.G 0 1 6 ?_
    refine J.j λK9 hK9=>J.V ?_
    have hjh:j<h:=by
      rcases Nat.lt_or_ge j h with hlt|hge
      · exact hlt
      · rw [hj2,show h-j=0 by omega] at h23;simp at h23
    have hij:i/2^j<2^(h-j):=by
      rw [Nat.div_lt_iff_lt_mul (Nat.two_pow_pos j),←Nat.pow_add,show h-j+j=h by omega,←hn];exact hi
    have hx1:i/2^j^^^1<(Mk.lvl ls j).length:=by
      rw [hj2,show h-j=(h-j-1)+1 by omega,Nat.pow_succ,Nat.mul_comm]
      refine Mk.xor_one _ _ ?_
      rw [show h-j=(h-j-1)+1 by omega,Nat.pow_succ,Nat.mul_comm] at hij;exact hij
    refine J.L<|J.p 3 O<|J.f (qSd (a:=i/2^j) (b:=1) O O O ⟨Nat.lt_of_le_of_lt (Nat.div_le_self _ _) (show i<9223372036854775808 by omega),by decide⟩) O<|J.f (qAH (m:=mm) (i:=i/2^j^^^1) O O O qAe z9_ hsl hx1) O<|J.f (qAJ O O b9_ hmF (hsl.elem (qAQ (Mk.getS (l:=Mk.lvl ls j) (j:=i/2^j^^^1) hx1)))) O<|J.k (qAF (l:= [.tmp 33]) (xs:= [[Str ((Mk.lvl ls j).getD ((i/2^j)^^^1) [])]]) O O O O qAe el9 O (by decide) (by decide) (by simp)) rfl λg34 _=>?_
    change J _ _ _ [F,m2,m,blk g34 [Str ((Mk.lvl ls j).getD ((i/2^j)^^^1) [])] 9] _
    refine J.k (qAW (i:=1) (m2:=blk g34 [Str ((Mk.lvl ls j).getD ((i/2^j)^^^1) [])] 9) (ys:=qAG [((Mk.lvl ls j).getD ((i/2^j)^^^1) [])]) O O O qAe qAe el9 O hrow (by simp) (qAk (q:=True) (xs:=qAG [((Mk.lvl ls j).getD ((i/2^j)^^^1) [])]) rfl (by simp [qAG])).sl (qH8 _) (by omega) (by omega)) rfl ?_
    rintro⟨A35,c35,m35⟩ h35
    try dsimp only at h35
    change J _ ((35,.slice A35 (j+1) c35)::_) _ [_,m35,_,_] _
    rw [←qBm,←Mk.path_succ] at h35
    refine J.b O<|J.a7<|J.a6<|J.A (J.H hK9 ?_)
    refine J.G 0 1 6 ?_
    refine J.L<|J.b O<|J.k (qAA O O ent100 (Ct.use (λF' hF=>qLS F' (hK.mono (hF _ (by simp))) A1 (Mk.lvl ls j).length c1 (Mk.lvl ls j) (hsl.mono (hF _ (by rcases hmm2 with rfl|rfl<;>simp))) (Mk.lvl_small ls hsm j) (by omega)))) rfl ?_
    rintro⟨A25,c25,m25⟩ h25
    try dsimp only at h25
    change J _ ((25,.slice A25 ((Mk.lvl ls j).length/2) c25)::_) _ [_,_,_,_,m25] _
    refine J.c8 [0,1,4] [F,m35,m25] O (by decide)<|J.b O<|J.f ((qGS O O O ⟨Int.natCast_nonneg _,by decide,Int.ofNat_le.2 (Nat.le_trans (Nat.div_le_self _ _) (show i≤9223372036854775807 by omega))⟩).as (v':=I ((i/2^(j+1):Nat):Int)) (congrArg I (by rw [Nat.pow_succ,←Nat.div_div_eq_div_mul];rfl))) rfl<|J.p 2 rfl<|J.a7<|J.A<|J.a8 (j+1,A25,c25,m25,A35,c35,m35) (λx (hx:_∧h-x.1<h-j)=>hI0 x hx.1 hx.2) ⟨⟨by dsimp only;omega,⟨m25,by simp,by rw [Mk.lvl_succ_length];exact h25.sl⟩,h35⟩,by dsimp only;omega⟩ ⟨by rw [Mk.lvl_succ_length];rfl,rfl,rfl,trivial⟩ (λ_ h=>h)
  refine J.b4<|J.a1<|J.a1<|J.b5 ?_
  refine J.A (J.H hK6 ?_)
  refine J.u 6 ?_
  refine J.j λK10 hK10=>?_
  have hjh:j=h:=by
    rcases Nat.lt_or_ge j h with hlt|hge
    · have:=Nat.one_lt_two_pow_iff.2 (show h-j≠0 by omega)
      omega
    · omega
  refine J.L<|J.p 3 O<|J.c hK10<|J.E 4 5 ?_
  exact J.D<|J.b2 hw0 (λ_ _ h=>h) (qB2 O O O) (qAn (A2,c2,m2) (by rw [hjh]) (by rw [hjh] at hrow;exact hrow) [0,1] rfl (by decide))
theorem qQp(F:Hp)(hK:KF F)(xx:List UInt8)(i:Nat)(A:Option Addr)(n c:Nat)(ls:List (List UInt8))(hl:Sl F 1 A n c (qAG ls))(hx:xx.length≤1048576)(hsm: ∀s∈ls,s.length≤1048576)(hi:i<9223372036854775808)(hn:n≤1048576):
    Ct prog 163 [Str xx,I i,.slice A n c] [F] (λ_:Unit=>Str (Mk.climb xx i ls)) (λ_=>True) (λ_=> [F]):=by
  have hlen:ls.length=n:=by have:=hl.1;simpa [qAG] using this
  refine Ct.walk func163 rfl ntmps163 rfl (λw0 hw0=>?_)
  change J _ [(0,_),(1,_),(2,_)] _ _ _
  refine J.g λK1 hK1=>J.b O<|J.c hK1<|J.G 0 1 2 ?_
  refine J.j λK2 hK2=>J.g λK3 hK3=>J.b O<|J.f (qAP qAe O O) O<|J.b O<|J.c hK3<|J.a0 0 1 9 10 11 ?_
  refine J.V<|J.b6 (X:=Nat×List UInt8×Nat) (λx=> [(0,Str x.2.1),(1,I x.2.2),(9,.slice A n c),(10,I n),(11,I x.1)]) (λ_=> [F]) (λx=>x.1≤n∧x.2.1.length≤1048576∧x.2.2≤i∧Mk.climb x.2.1 x.2.2 (ls.drop x.1)=Mk.climb xx i ls) (λx=>n-x.1) (0,xx,i) (⟨Nat.zero_le _,hx,Nat.le_refl _,O⟩) ⟨O,O,O,O,O,trivial⟩ (λ_ h=>h) ?_
  rintro⟨k,y,j⟩ ⟨hk,hy,hji,hc⟩ I0 hI0
  dsimp only at hk hy hji hc⊢
  refine J.g λK4 hK4=>J.f (qAT O O O) O<|J.c hK4<|J.b8 0 1 9 10 11 12 ?_
  refine J.j λK5 hK5=>J.a2 O (λh12=>?_) (λh12=>?_)
  ·
    refine J.W hK5<|J.a0 0 1 9 10 11 ?_
    refine J.j λK6 hK6=>J.V<|J.j λK7 hK7=>?_
    have hkn:k<n:=by omega
    obtain ⟨s,hs⟩: ∃s,ls[k]?=some s:=⟨_,List.getElem?_eq_getElem (by omega)⟩
    have hdr:ls.drop k=s::ls.drop (k+1):=by
      obtain ⟨hk2,rfl⟩:=List.getElem?_eq_some_iff.1 hs
      exact List.drop_eq_getElem_cons hk2
    rw [hdr,Mk.climb] at hc
    refine J.L<|J.f (qAH (i:=k) O O O qAe z9_ hl (by omega)) O<|J.f (qAJ O O b9_ (m:=F) (by simp) (hl.elem (qAQ hs))) rfl<|J.b rfl<|J.c hK7<|J.b8 0 1 8 9 10 11 ?_
    refine J.j λK8 hK8=>J.g λK9 hK9=>J.b O<|J.f (qJm (a:=j) (b:=1) O O O (by omega)) O<|J.f (qAY O O O) O<|J.c hK9<|J.c2 0 1 8 9 10 11 17 ?_
    refine J.a2 O (λh17=>?_) (λh17=>?_)
    ·
      refine J.L<|J.p 2 O<|J.k (qAA O O ent160 (Ct.use0 (λF' hF=>qJp F' (hK.mono (hF _ (by simp))) y s hy (hsm _ (List.mem_of_getElem? hs))))) rfl λg20 _=>J.b rfl<|J.c hK8<|J.a0 0 1 9 10 11 ?_
      refine J.L<|J.b O<|J.f ((qCP (m:=1) O O O (by omega)).nat (j/2) (by omega)) O<|J.b O<|J.a7<|J.a6<|J.A (J.H hK6 ?_)
      refine J.a0 0 1 9 10 11 ?_
      refine J.L<|J.f (qAO O O O (by omega)) O<|J.b O<|J.a7<|J.A ?_
      rw [if_pos (by rw [Nat.and_one_is_mod] at h17;omega)] at hc
      refine J.a8 (k+1,Mk.node y s,j/2) (λx (hx:_∧n-x.1<n-k)=>hI0 x hx.1 hx.2) ⟨⟨by dsimp only;omega,by dsimp only;rw [Mk.node_length];decide,by dsimp only;omega,hc⟩,by dsimp only;omega⟩ ⟨rfl,rfl,rfl,rfl,rfl,trivial⟩ (λ_ h=>h)
    refine J.L<|J.p 2 O<|J.k (qAA O O ent160 (Ct.use0 (λF' hF=>qJp F' (hK.mono (hF _ (by simp))) s y (hsm _ (List.mem_of_getElem? hs)) hy))) rfl λg23 _=>J.b rfl<|J.c hK8<|J.a0 0 1 9 10 11 ?_
    refine J.L<|J.b O<|J.f ((qCP (m:=1) O O O (by omega)).nat (j/2) (by omega)) O<|J.b O<|J.a7<|J.a6<|J.A (J.H hK6 ?_)
    refine J.a0 0 1 9 10 11 ?_
    refine J.L<|J.f (qAO O O O (by omega)) O<|J.b O<|J.a7<|J.A ?_
    rw [if_neg (by rw [Nat.and_one_is_mod] at h17;omega)] at hc
    refine J.a8 (k+1,Mk.node s y,j/2) (λx (hx:_∧n-x.1<n-k)=>hI0 x hx.1 hx.2) ⟨⟨by dsimp only;omega,by dsimp only;rw [Mk.node_length];decide,by dsimp only;omega,hc⟩,by dsimp only;omega⟩ ⟨rfl,rfl,rfl,rfl,rfl,trivial⟩ (λ_ h=>h)
  refine J.b4<|J.a1<|J.a1<|J.b5 ?_
  refine J.A (J.H hK2 ?_)
  refine J.u 0 ?_
  refine J.j λK10 hK10=>?_
  rw [List.drop_of_length_le (by omega)] at hc
  refine J.L<|J.p 2 O<|J.c hK10<|J.u 6 ?_
  exact J.D<|J.M hw0 O () (by rw [←hc];rfl) trivial [0] rfl (by decide)
end Go.Proofs.YtllnfioplpipiaaGreatDoor
namespace Go.Proofs.YtllnfioplpipiaaGreatDoor
open Go Go.Fw Go.Proofs.Tryz
set_option maxRecDepth 100000
set_option maxHeartbeats 1000000
attribute [local irreducible] Mk.node
namespace Mk
theorem qRo(m:Nat):m^^^1=if m%2=0 then m+1 else m-1:=by
 have e1:(m^^^1)/2=m/2:=by rw [Nat.xor_div_two];simp
 have e2:(m^^^1)%2=(m%2)^^^1:=Nat.xor_mod_two_pow (n:=1)
 rcases Nat.mod_two_eq_zero_or_one m with h|h
 · rw [h,show(0:Nat)^^^1=1 from rfl] at e2;rw [if_pos h];omega
 · rw [h,show(1:Nat)^^^1=0 from rfl] at e2;rw [if_neg (by omega)];omega
theorem qOs(l:List (List UInt8))(k:Nat):(above l)[k]?=if k<l.length/2 then some (node (l.getD (2*k) []) (l.getD (2*k+1) [])) else none:=by
 unfold above
 rw [List.getElem?_map]
 by_cases h:k<l.length/2
 · rw [if_pos h,List.getElem?_range h];rfl
 · rw [if_neg h,List.getElem?_eq_none (by simpa using Nat.le_of_not_lt h)];rfl
theorem qH6{k:Nat}(h:0<k):2^k%2=0:=by
 rw [show k=(k-1)+1 by omega,Nat.pow_succ];omega
end Mk
attribute [local irreducible] Mk.root Mk.path
end Go.Proofs.YtllnfioplpipiaaGreatDoor
namespace Go.Proofs.YtllnfioplpipiaaGreatDoor
open Go Go.Fw Go.Proofs.Tryz
set_option maxRecDepth 100000
set_option maxHeartbeats 1000000
attribute [local irreducible] Mk.node
namespace Mk
theorem qGg(s:List UInt8): ∀(p:List (List UInt8)) (x:List UInt8) (i:Nat),climb x i (p++ [s])=if i/2^p.length%2=0 then node (climb x i p) s else node s (climb x i p)
 | [],x,i=>by simp [climb]
 |a::p,x,i=>by
  rw [List.cons_append,climb,climb,qGg s p,List.length_cons,Nat.pow_succ,Nat.mul_comm,←Nat.div_div_eq_div_mul]
theorem qI3(l:List (List UInt8))(h i:Nat)(hl:l.length=2^h)(hi:i<2^h): ∀j,j≤h→climb (l.getD i []) i (path l i j)=(lvl l j).getD (i/2^j) []
  |0,_=>by simp [path,climb,lvl]
  |j+1,hj=>by
    have hlen:=lvl_length l h hl j (by omega)
    have h1:i/2^j<2^(h-j):=by rw [Nat.div_lt_iff_lt_mul (Nat.two_pow_pos j),←Nat.pow_add,show h-j+j=h by omega];exact hi
    have h2:=qH6 (show 0<h-j by omega)
    rw [path_succ,qGg,qI3 l h i hl hi j (by omega),path_length,Nat.pow_succ,←Nat.div_div_eq_div_mul]
    generalize i/2^j=q at*
    rw [show lvl l (j+1)=above (lvl l j) from rfl,List.getD_eq_getElem?_getD (l:=above (lvl l j)),qOs,hlen,if_pos (show q/2<2^(h-j)/2 by omega),qRo]
    split
    · rename_i e
      rw [show 2*(q/2)=q by omega];rfl
    · rename_i e
      rw [show 2*(q/2)=q-1 by omega,show q-1+1=q by omega];rfl
theorem climb_root(l:List (List UInt8))(h i:Nat)(hl:l.length=2^h)(hi:i<2^h):climb (l.getD i []) i (path l i h)=root l h:=by
 rw [qI3 l h i hl hi h (Nat.le_refl _),Nat.div_eq_of_lt hi];rfl
theorem flat_small{ls:List (List UInt8)}{w:Nat}(h: ∀s∈ls,s.length≤w):ls.flatten.length≤w*ls.length:=by
 induction ls with
 |nil=>simp
 |cons a l ih=>
  have:=ih (λs hs=>h s (.tail _ hs))
  have h2:=h a (.head _)
  rw [List.flatten_cons,List.length_append,List.length_cons,Nat.mul_add];omega
end Mk
namespace Sha
end Sha
attribute [local irreducible] Sha.tagB Mk.root Mk.path
end Go.Proofs.YtllnfioplpipiaaGreatDoor
namespace Go.Proofs.YtllnfioplpipiaaGreatDoor
open Go Go.Fw Go.Proofs.Tryz
set_option maxRecDepth 100000
set_option maxHeartbeats 1000000
theorem ent25:qAD prog 25:=qAD.of func25 rfl (by kernel_rfl)
theorem ent76:qAD prog 76:=qAD.of func76 rfl (by kernel_rfl)
theorem ent103:qAD prog 103:=qAD.of func103 rfl (by kernel_rfl)
def qBS(v:Nat)(o r:List UInt8)(h:Int)(p:List UInt8):Int:=if v<1∨4294967295<v then 13 else if qA9 o r h=0∧p.length=16 then 0 else 10
def qA3(v:Nat)(o r:List UInt8)(h:Int)(p:List UInt8):List UInt8:=if qBS v o r h p=0 then Sha.numB (UInt64.ofNat v) 4++qBJ o r h++p else []
def enV(v:Nat)(o r:List UInt8)(h:Int)(p:List UInt8):Value:= .tuple #[Str (qA3 v o r h p),I (qBS v o r h p)]
theorem qOQ{v:Nat}{o r:List UInt8}{h:Int}{p:List UInt8}{e:Int}(he:qBS v o r h p=e)(h0:e≠0):Value.tuple #[Str [],I e]=enV v o r h p:=by
 unfold enV qA3
 rw [he,if_neg h0]
theorem qUd{v:Nat}{o r:List UInt8}{h:Int}{p:List UInt8}(hv:v<1∨4294967295<v):qBS v o r h p=13:=if_pos hv
theorem qNC{o r:List UInt8}{h:Int}(he: ¬qA9 o r h=0):qA9 o r h=10:=by
 unfold qA9 at he⊢
 split at he
 · omega
 · rename_i h1;rw [if_neg h1]
theorem en_10{v:Nat}{o r:List UInt8}{h:Int}{p:List UInt8}(h1: ¬v<1)(h2: ¬4294967295<v)(he: ¬qA9 o r h=0):qBS v o r h p=10:=by
 unfold qBS
 rw [if_neg (by omega),if_neg (λe=>he e.1)]
theorem qUb{v:Nat}{o r:List UInt8}{h:Int}{p:List UInt8}(h1: ¬v<1)(h2: ¬4294967295<v)(he:qA9 o r h=0):
    Value.tuple #[Str (if qBp (okF p 16) 10 0=0 then qJQ p 16 (Sha.numB (UInt64.ofNat v) 4++qBJ o r h) 0 else []),I (qBp (okF p 16) 10 0)]=enV v o r h p:=by
  unfold enV qA3
  by_cases h3:p.length=16
  · have e:qBS v o r h p=0:=by unfold qBS;rw [if_neg (by omega),if_pos ⟨he,h3⟩]
    rw [e,qJo h3,qB8,if_pos rfl,if_pos rfl,qFA h3]
  · have e:qBS v o r h p=10:=by unfold qBS;rw [if_neg (by omega),if_neg (λe=>h3 e.2)]
    have e2:qBp (okF p 16) 10 0=10:=by rw [okF_f h3];rfl
    rw [e,e2,if_neg (by decide),if_neg (by decide)]
theorem qGf(F:Hp)(v:Nat)(o r:List UInt8)(h:Int)(p:List UInt8)(hv:v<18446744073709551616)(ho:o.length≤1048576)(hr:r.length≤1048576)(hp:p.length≤1048576):
    Ct prog 76 [.agg #[N64 v,Str o,Str r,I h,Str p]] [F] (λ_:Unit=>enV v o r h p) (λ_=>True) (λ_=> [F]):=by
  refine Ct.walk func76 rfl ntmps76 rfl (λw0 hw0=>?_)
  change J _ [(0,_)] _ _ _
  refine J.g λK1 hK1=>J.k (qAi O O (l:= [N64 v,Str o,Str r,I h,Str p]) O) O λg1 _=>?_
  change J _ _ _ [F,blk g1 [N64 v,Str o,Str r,I h,Str p] 43] _
  refine J.p 2 O<|J.c hK1<|J.u 1 ?_
  refine J.j λK2 hK2=>J.g λK3 hK3=>J.a3 0 qKT qF9 O O O O O<|J.c7 1 qHt O O O O O<|J.f (qAT O O O) O<|J.b O<|J.c4 (d:=10) O (λh10=>?_) (λh10=>?_)
  ·
    refine J.p 4 O<|J.c hK3<|J.E 1 14 ?_
    refine J.d0 ?_
    refine J.g λK4 hK4=>J.p 2 O<|J.c hK4<|J.E 2 3 ?_
    exact J.D<|J.a4<|J.b2 hw0 (λ_ _ h=>h) (qB2 O O O) (qAn () (qOQ (qUd (by omega)) (by decide)) trivial [0] O (by decide))
  refine J.Z (qAB (j:=0) O O qKT O qF9 O) O<|J.Z (qAE 1 O O O qHt O) O<|J.Z (qAz O O O) O<|J.b O<|J.c hK3<|J.E 1 14 ?_
  refine J.a2 O (λh14=>?_) (λh14=>?_)
  ·
    refine J.g λK5 hK5=>J.p 2 O<|J.c hK5<|J.E 2 3 ?_
    exact J.D<|J.a4<|J.b2 hw0 (λ_ _ h=>h) (qB2 O O O) (qAn () (qOQ (qUd (by omega)) (by decide)) trivial [0] O (by decide))
  refine J.W hK2<|J.u 1 ?_
  refine J.g λK6 hK6=>J.a3 1 qKT qD3 O O O O O<|J.f (qFT 1 O O qMM qD3 (vs:= [Str o,Str r,I h]) O (qAL.blk 1 (λj u hj=>by match j with|0=>exact hj|1=>exact hj|2=>exact hj)) rfl) rfl<|J.k (qAA rfl rfl ent51 (Ct.use0 (λF' hF=>qDE F' o r h ho hr))) rfl λg18 _=>J.p 5 rfl<|J.c hK6<|J.G 1 4 5 ?_
  refine J.j λK7 hK7=>J.g λK8 hK8=>J.b O<|J.f (qAb O O O) O<|J.c hK8<|J.O 1 4 5 22 ?_
  refine J.a2 O (λh22=>?_) (λh22=>?_)
  ·
    refine J.g λK9 hK9=>J.p 3 O<|J.c hK9<|J.E 2 3 ?_
    exact J.D<|J.a4<|J.b2 hw0 (λ_ _ h=>h) (qB2 O O O) (qAn () (qOQ ((en_10 (by omega) (by omega) (by omega)).trans (qNC (by omega)).symm) (by omega)) trivial [0] O (by decide))
  refine J.W hK7<|J.E 1 4 ?_
  refine J.j λK10 hK10=>?_
  have hk0:qA9 o r h=0:=by omega
  have hkl:=qEB hk0
  refine J.L<|J.k (qAN O qJ8 O) O λg6 _=>?_
  change J _ _ _ [F,blk g1 [N64 v,Str o,Str r,I h,Str p] 43,blk g6 _ 133] _
  refine J.c hK10<|J.G 1 4 6 ?_
  refine J.j λK11 hK11=>J.c1 [blk g1 [N64 v,Str o,Str r,I h,Str p] 43] [] (.y 0 (.y 1 (.y 3 (.y 5 (.y 6 (.e 2 (.e 4 (.e 7 (.e 8 (.y 9 (.y 10 (.y 11 (.y 12 .nil))))))))))))) Tryz.wide (by decide+kernel) (by simp) ?_
  refine J.q O (qAB (j:=0) O O qKT O qF9 O) O O<|J.q O (qAE 0 O O O qHt O) O O<|J.T ?_
  refine J.q O (qAB (j:=4) O O qKT O z9_ O) O O<|J.q O (qAE 0 O O O b9_ O) O O<|J.a9 O (qAA O O ent108 (Ct.use1 2 (m':=λx:Hp=>x) (new:=λ_=> []) O (λF' _=>qNf F' (blk g6 [.pointer none,.slice none 0 0,I 0] 133) g6 [] 0 (qGq g6) (by decide) v hv 4 (by omega) (by omega)))) O (by simp) ?_
  rintro m26 hw26
  change J _ _ _ [_,_,m26] _
  rw [qQA (size:=4) hv (by omega),qB8,qCx (qQA (size:=4) hv (by omega)),List.nil_append] at hw26
  refine J.a9 O (qAA O O ent53 (Ct.use1 2 (m':=λx:Hp=>x) (new:=λ_=> []) O (λF' _=>qCk F' m26 g6 (Sha.numB (UInt64.ofNat v) 4) 0 hw26 (by rw [Sha.numB_length];omega) (qBJ o r h) (by omega) 33))) rfl (by simp) ?_
  rintro m28 hw28
  change J _ _ _ [_,_,m28] _
  rw [qFA hkl,qJo hkl,qB8] at hw28
  refine J.a9 O (qAA O O ent53 (Ct.use1 2 (m':=λx:Hp=>x) (new:=λ_=> []) O (λF' _=>qCk F' m28 g6 ((Sha.numB (UInt64.ofNat v) 4)++qBJ o r h) 0 hw28 (by rw [List.length_append,Sha.numB_length];omega) p (by omega) 16))) rfl (by simp) ?_
  rintro m31 hw31
  change J _ _ _ [_,_,m31] _
  refine J.a9 O (qAA O O ent54 (Ct.use1 2 (m':=λx:Hp=>x) (new:=λ_=> []) O (λF' _=>qDK F' m31 g6 (qJQ p 16 ((Sha.numB (UInt64.ofNat v) 4)++qBJ o r h) 0) (qBp (okF p 16) 10 0) hw31 (by have:=qDA p 16 ((Sha.numB (UInt64.ofNat v) 4)++qBJ o r h) 0;rw [List.length_append,Sha.numB_length] at this;omega)))) rfl (by simp) ?_
  rintro m32 hw32
  change J _ _ _ [_,_,m32] _
  refine J.d9 (Str (if qBp (okF p 16) 10 0=0 then qJQ p 16 ((Sha.numB (UInt64.ofNat v) 4)++qBJ o r h) 0 else [])) ?_
  refine J.d9 (I (qBp (okF p 16) 10 0)) ?_
  refine J.c6 ?_
  refine J.c6 ?_
  refine J.b9<|J.A (J.H hK11 ?_)
  refine J.E 2 3 ?_
  exact J.D<|J.b2 hw0 (λ_ _ h=>h) (qB2 O O O) (qAn () (qUb (by omega) (by omega) hk0) trivial [0] O (by decide))
def deE(s:List UInt8):Int:=if s.length<53 then 3 else if 53<s.length then 2 else if 6<(s.getD 36 0).toNat then 4 else if qEL (s.take 4)<1 then 13 else 0
def deN(s:List UInt8):Nat:=if deE s=0 then qEL (s.take 4) else 0
def qCA(v:Nat)(o r:List UInt8)(h:Int)(p:List UInt8):List UInt8:=if qBS v o r h p=0 then Sha.tagged 12 [qA3 v o r h p] else []
theorem qBn{v:Nat}{o r:List UInt8}{h:Int}{p:List UInt8}(he:qBS v o r h p=0):(qA3 v o r h p).length=53:=by
  unfold qA3
  rw [if_pos he]
  unfold qBS at he
  split at he
  · omega
  · split at he
    · rename_i h2
      rw [List.length_append,List.length_append,Sha.numB_length,qEB h2.1,h2.2]
    · omega
structure En where
 v:Nat
 o:List UInt8
 r:List UInt8
 h:Int
 p:List UInt8
 deriving DecidableEq
def En.cells(x:En):List Value:= [N64 x.v,Str x.o,Str x.r,I x.h,Str x.p]
def En.good(x:En):Prop:=x.v<18446744073709551616∧x.o.length≤1048576∧x.r.length≤1048576∧x.p.length≤1048576
def En.val(x:En):List UInt8:=qCA x.v x.o x.r x.h x.p
def En.next(x y:En):Int:=if x.v=18446744073709551615∨y.v≠x.v+1 then 13 else if x.val= []∨y.p≠x.val then 15 else 0
def En.chain:List En→Int
 | []=>0
 | [_]=>0
 |x::y::r=>if x.next y≠0 then x.next y else En.chain (y::r)
def En.hist:List En→Int
 | []=>20
 |x::r=>if x.v≠1 then 13 else if x.p≠qAh then 15 else En.chain (x::r)
theorem qDx(F:Hp)(hK:KF F)(v:Nat)(o r:List UInt8)(h:Int)(p:List UInt8)(hv:v<18446744073709551616)(ho:o.length≤1048576)(hr:r.length≤1048576)(hp:p.length≤1048576):
    Ct prog 25 [.agg #[N64 v,Str o,Str r,I h,Str p]] [F] (λ_:Unit=>Str (qCA v o r h p)) (λ_=>True) (λ_=> [F]):=by
  refine Ct.walk func25 rfl ntmps25 rfl (λw0 hw0=>?_)
  change J _ [(0,_)] _ _ _
  refine J.g λK1 hK1=>J.k (qAi O O (l:= [N64 v,Str o,Str r,I h,Str p]) O) O λg1 _=>?_
  change J _ _ _ [F,blk g1 [N64 v,Str o,Str r,I h,Str p] 43] _
  refine J.b O<|J.c hK1<|J.u 1 ?_
  refine J.g λK2 hK2=>J.c9 1 qFy qCR O O O O O<|J.k (qAA O O ent76 (Ct.use0 (λF' hF=>qGf F' v o r h p hv ho hr hp))) O λg7 _=>J.p 5 O<|J.c hK2<|J.E 3 4 ?_
  refine J.j λK3 hK3=>J.g λK4 hK4=>J.b O<|J.f (qAb O O O) O<|J.c hK4<|J.E 3 11 ?_
  refine J.a2 O (λh11=>?_) (λh11=>?_)
  ·
    refine J.g λK5 hK5=>J.b O<|J.c hK5<|J.u 2 ?_
    exact J.D<|J.a4<|J.M hw0 O () (by unfold qCA;rw [if_neg (by omega)]) trivial [0] rfl (by decide)
  refine J.W hK3<|J.u 3 ?_
  refine J.j λK6 hK6=>?_
  have he0:qBS v o r h p=0:=by omega
  refine J.L<|J.b O<|J.k (qAF (l:= [.tmp 12]) (xs:= [[Str (qA3 v o r h p)]]) O O O O qAe el9 O (by decide) (by decide) (by simp)) rfl λg13 _=>?_
  change J _ _ _ [F,blk g1 [N64 v,Str o,Str r,I h,Str p] 43,blk g13 [Str (qA3 v o r h p)] 9] _
  refine J.k (qAA O O ent75 (Ct.use0 (λF' hF=>qAv F' (hK.mono (hF _ (by simp))) 12 (some ⟨g13,0,none⟩) 1 1 [qA3 v o r h p] ((slS [qA3 v o r h p] rfl).mono (hF (blk g13 (([qA3 v o r h p]:List (List UInt8)).map λs=>Str s) 9) (by simp))) (by have:=qBn he0;simp [this]) (by decide)))) rfl λg14 _=>J.b rfl<|J.c hK6<|J.u 2 ?_
  exact J.D<|J.M hw0 O () (by unfold qCA;rw [if_pos he0]) trivial [0] rfl (by decide)
theorem qEw(F:Hp)(hK:KF F)(s:List UInt8)(hs:s.length≤1048576):
    Ct prog 24 [Str s] [F] (λ_:Unit=>Str (Sha.tagged 11 [s])) (λ_=>True) (λ_=> [F]):=by
  refine Ct.walk func24 rfl ntmps24 rfl (λw0 hw0=>?_)
  change J _ [(0,_)] _ _ _
  refine J.g λK1 hK1=>J.b O<|J.c hK1<|J.u 0 ?_
  refine J.g λK2 hK2=>J.b O<|J.k (qAF (l:= [.tmp 3]) (xs:= [[Str (s)]]) O O O O qAe el9 O (by decide) (by decide) (by simp)) rfl λg4 _=>?_
  change J _ _ _ [F,blk g4 [Str (s)] 9] _
  refine J.k (qAA O O ent75 (Ct.use0 (λF' hF=>qAv F' (hK.mono (hF _ (by simp))) 11 (some ⟨g4,0,none⟩) 1 1 [s] ((slS [s] rfl).mono (hF (blk g4 (([s]:List (List UInt8)).map λs=>Str s) 9) (by simp))) (by simp;omega) (by decide)))) rfl λg5 _=>J.b rfl<|J.c hK2<|J.u 2 ?_
  exact J.D<|J.M hw0 O () O trivial [0] O (by decide)
theorem qQm(F:Hp)(hK:KF F)(x y:En)(hx:x.good)(hy:y.good):
    Ct prog 103 [.agg x.cells.toArray,.agg y.cells.toArray] [F] (λ_:Unit=>I (x.next y)) (λ_=>True) (λ_=> [F]):=by
  obtain ⟨hx1,hx2,hx3,hx4⟩:=hx
  obtain ⟨hy1,hy2,hy3,hy4⟩:=hy
  have hxv:x.val=qCA x.v x.o x.r x.h x.p:=rfl
  refine Ct.walk func103 rfl ntmps103 rfl (λw0 hw0=>?_)
  change J _ [(0,_),(1,_)] _ _ _
  refine J.g λK1 hK1=>J.k (qAi O O (l:= [N64 x.v,Str x.o,Str x.r,I x.h,Str x.p]) O) O λg2 _=>?_
  change J _ _ _ [F,blk g2 [N64 x.v,Str x.o,Str x.r,I x.h,Str x.p] 43] _
  refine J.k (qAi O O (l:= [N64 y.v,Str y.o,Str y.r,I y.h,Str y.p]) O) O λg3 _=>?_
  change J _ _ _ [_,_,blk g3 [N64 y.v,Str y.o,Str y.r,I y.h,Str y.p] 43] _
  refine J.b O<|J.c hK1<|J.E 2 3 ?_
  refine J.j λK2 hK2=>J.g λK3 hK3=>J.c9 1 qFy qCR O O O O O<|J.k (qAA O O ent25 (Ct.use0 (λF' hF=>qDx F' (hK.mono (hF _ (by simp))) x.v x.o x.r x.h x.p hx1 hx2 hx3 hx4))) rfl λg7 _=>J.b rfl<|J.c hK3<|J.G 2 3 5 ?_
  refine J.V<|J.g λK4 hK4=>J.a3 0 qKT qF9 O O O O O<|J.c7 1 qHt O O O O O<|J.f (qAY O O O) O<|J.b O<|J.c4 (d:=12) O (λh12=>?_) (λh12=>?_)
  ·
    refine J.p 8 O<|J.c hK4<|J.G 3 5 8 ?_
    refine J.d0 ?_
    refine J.g λK5 hK5=>J.b O<|J.c hK5<|J.u 4 ?_
    exact J.D<|J.b1<|J.a4<|J.M hw0 O () (congrArg I (by unfold En.next;rw [if_pos (by omega)])) trivial [0] rfl (by decide)
  refine J.Z (qAB (j:=0) O O qKT O qF9 O) O<|J.Z (qAE 2 O O O qHt O) O<|J.Z (qAB (j:=0) O O qKT O qF9 O) O<|J.Z (qAE 1 O O O qHt O) O<|J.Z (qFU (b:=1) O O O (by omega)) O<|J.Z (qAb O O O) O<|J.p 2 O<|J.c hK4<|J.G 3 5 8 ?_
  refine J.a2 O (λh8=>?_) (λh8=>?_)
  ·
    refine J.g λK6 hK6=>J.b O<|J.c hK6<|J.u 4 ?_
    exact J.D<|J.b1<|J.a4<|J.M hw0 O () (congrArg I (by unfold En.next;rw [if_pos (by omega)])) trivial [0] rfl (by decide)
  refine J.g λK7 hK7=>J.b O<|J.f (qBQ O O O) O<|J.b O<|J.c4 (d:=23) O (λh23=>?_) (λh23=>?_)
  ·
    refine J.p 6 O<|J.c hK7<|J.u 20 ?_
    refine J.d0 ?_
    refine J.g λK8 hK8=>J.b O<|J.c hK8<|J.u 4 ?_
    exact J.D<|J.b1<|J.a4<|J.M hw0 O () (congrArg I (by unfold En.next;rw [if_neg (by omega),if_pos (.inl h23)])) trivial [0] rfl (by decide)
  refine J.Z (qAB (j:=4) O O qKT O z9_ O) O<|J.Z (qAE 2 O O O b9_ O) O<|J.b O<|J.Z (qGQ O O O) O<|J.p 2 O<|J.c hK7<|J.u 20 ?_
  refine J.a2 O (λh20=>?_) (λh20=>?_)
  ·
    refine J.g λK9 hK9=>J.b O<|J.c hK9<|J.u 4 ?_
    exact J.D<|J.b1<|J.a4<|J.M hw0 O () (congrArg I (by unfold En.next;rw [if_neg (by omega),if_pos (.inr h20)])) trivial [0] rfl (by decide)
  refine J.b7<|J.a6<|J.A (J.H hK2 ?_)
  refine J.c3 [] trivial<|J.g λK10 hK10=>J.b O<|J.c hK10<|J.u 4 ?_
  exact J.D<|J.M hw0 O () (congrArg I (by unfold En.next;rw [if_neg (by omega),if_neg (λe=>e.elim h23 h20)])) trivial [0] rfl (by decide)
def qD1:En:=⟨0,[],[],0,[]⟩
theorem qE2{l:List En}{j:Nat}(h:j<l.length):(l.map En.cells)[j]?=some (l.getD j qD1).cells:=by rw [List.getElem?_map,qAc qD1 h];rfl
theorem qDw{l:List En}(h:0<l.length):En.hist l=if(l.getD 0 qD1).v≠1 then 13 else if(l.getD 0 qD1).p≠qAh then 15 else En.chain l:=by
 cases l with
 |nil=>simp at h
 |cons x r=>rfl
theorem qGi{l:List En}{k:Nat}(h:k+1<l.length):En.chain (l.drop k)=if(l.getD k qD1).next (l.getD (k+1) qD1)≠0 then(l.getD k qD1).next (l.getD (k+1) qD1) else En.chain (l.drop (k+1)):=by
 rw [List.drop_eq_getElem_cons (show k<l.length by omega),List.drop_eq_getElem_cons h]
 rw [List.getD_eq_getElem?_getD,List.getD_eq_getElem?_getD,List.getElem?_eq_getElem (show k<l.length by omega),List.getElem?_eq_getElem h];rfl
theorem qOX{l:List En}{k:Nat}(h:k+1=l.length):En.chain (l.drop k)=0:=by
 rw [List.drop_eq_getElem_cons (show k<l.length by omega),List.drop_of_length_le (by omega)];rfl
theorem qIn{l:List En}{k:Nat}(hg: ∀x∈l,x.good)(h:k<l.length):(l.getD k qD1).good:=by
 rw [List.getD_eq_getElem?_getD,List.getElem?_eq_getElem h]
 exact hg _ (List.getElem_mem h)
theorem qCm(F:Hp)(hK:KF F)(l:List En)(hg: ∀x∈l,x.good)(g o c:Nat)(hl:Sl F 5 (some ⟨g,o,none⟩) l.length c (l.map En.cells))(hn:0<l.length)(hn2:l.length≤1073741824):
    Ct prog 71 [.slice (some ⟨g,o,none⟩) l.length c] [F] (λ_:Unit=>I (En.hist l)) (λ_=>True) (λ_=> [F]):=by
  refine Ct.walk func71 rfl ntmps71 rfl (λw0 hw0=>?_)
  change J _ [(0,_)] _ _ _
  refine J.g λK1 hK1=>J.b O<|J.c hK1<|J.u 0 ?_
  refine J.j λK2 hK2=>J.V<|J.g λK3 hK3=>J.b O<|J.f (qAP qFz O O) O<|J.f ((qAY O O O).no (by omega)) O<|J.b O<|J.c hK3<|J.E 0 5 ?_
  refine J.a5 ?_
  refine J.g λK4 hK4=>J.b O<|J.f (qAH (i:=0) O O O qFz qCR hl (hn)) O<|J.f ((qAB (j:=o+0*5+0) (off:=o+0*5) (g:=g) O O qKT O qF9 O)) O<|J.f (qAJ O O qHt (m:=F) (by simp) (v:=N64 (l.getD 0 qD1).v) (hl.cell (i:=0) (x:=(l.getD 0 qD1).cells) (qE2 hn) (k:=0) (v:=N64 (l.getD 0 qD1).v) rfl)) rfl<|J.f (qAb rfl rfl rfl) rfl<|J.b rfl<|J.c hK4<|J.E 0 9 ?_
  refine J.a2 O (λh9=>?_) (λh9=>?_)
  ·
    refine J.g λK5 hK5=>J.b O<|J.c hK5<|J.u 2 ?_
    exact J.D<|J.b1<|J.a4<|J.M hw0 O () (congrArg I (by rw [qDw hn,if_pos (by omega)])) trivial [0] rfl (by decide)
  refine J.j λK6 hK6=>J.c1 [F] [] (.y 0 (.y 1 (.y 2 (.y 3 (.e 4 (.y 5 (.y 6 .nil))))))) Tryz.wide (by decide+kernel) (by simp) ?_
  refine J.T ?_
  refine J.q O (qAH (i:=0) O O O qFz qCR hl (hn)) O O<|J.q O ((qAB (j:=o+0*5+4) (off:=o+0*5) (g:=g) O O qKT O z9_ O)) O O<|J.q O (qAJ O O b9_ (m:=F) (by simp) (v:=Str (l.getD 0 qD1).p) (hl.cell (i:=0) (x:=(l.getD 0 qD1).cells) (qE2 hn) (k:=4) (v:=Str (l.getD 0 qD1).p) rfl)) rfl rfl<|J.a9 rfl (qAA rfl rfl ent26 (Ct.use0 (λF' hF=>qIK F' 16 (by decide) (by decide)))) rfl (by simp) λg20 _=>J.q rfl (qGQ rfl rfl rfl) rfl rfl<|J.c6 ?_
  refine J.b9<|J.A (J.H hK6 ?_)
  refine J.E 0 15 ?_
  refine J.a2 O (λh15=>?_) (λh15=>?_)
  ·
    change(l.getD 0 qD1).p≠qAh at h15
    refine J.g λK7 hK7=>J.b O<|J.c hK7<|J.u 2 ?_
    exact J.D<|J.b1<|J.a4<|J.M hw0 O () (congrArg I (by rw [qDw hn,if_neg (by omega),if_pos h15])) trivial [0] rfl (by decide)
  change¬(l.getD 0 qD1).p≠qAh at h15
  refine J.b7<|J.a6<|J.A (J.H hK2 ?_)
  refine J.u 0 ?_
  refine J.j λK8 hK8=>J.g λK9 hK9=>J.b O<|J.f (qAP qFz O O) O<|J.f (qAw O O O (by omega)) O<|J.b O<|J.c hK9<|J.G 0 24 25 ?_
  refine J.V<|J.b6 (X:=Nat) (λk=> [(0,.slice (some ⟨g,o,none⟩) l.length c),(24,I ((l.length:Int)-1)),(25,I k)]) (λ_=> [F]) (λk=>k+1≤l.length∧En.chain (l.drop k)=En.chain l) (λk=>l.length-k) 0 (⟨by omega,O⟩) ⟨O,O,O,trivial⟩ (λ_ h=>h) ?_
  intro k ⟨hk,hch⟩ I0 hI0
  refine J.g λK10 hK10=>J.f (qAT O O O) O<|J.c hK10<|J.O 0 24 25 26 ?_
  refine J.j λK11 hK11=>J.a2 O (λh26=>?_) (λh26=>?_)
  ·
    refine J.W hK11<|J.G 0 24 25 ?_
    refine J.j λK12 hK12=>J.V<|J.g λK13 hK13=>J.p 2 O<|J.c hK13<|J.O 0 3 24 25 ?_
    refine J.j λK14 hK14=>J.c1 [F] [] (.y 0 (.y 1 (.y 2 (.y 3 (.y 4 (.y 5 (.y 6 (.y 7 (.y 8 (.e 9 (.y 10 .nil))))))))))) Tryz.wide (by decide+kernel) (by simp) ?_
    refine J.T ?_
    refine J.T ?_
    refine J.q O (qAH (i:=k) O O O qFz qCR hl (by omega)) O O<|J.q O (qAd O O qFy qCR (m:=F) (by simp) (vs:=(l.getD k qD1).cells) (hl.elem (qE2 (by omega))) rfl) rfl rfl<|J.T ?_
    refine J.T ?_
    refine J.q O ((qAO O O O (by omega)).nat (k+1) (by omega)) O O<|J.q O (qAH (i:=(k+1)) O O O qFz qCR hl (by omega)) O O<|J.q O (qAd O O qFy qCR (m:=F) (by simp) (vs:=(l.getD (k+1) qD1).cells) (hl.elem (qE2 (by omega))) rfl) rfl rfl<|J.a9 rfl (qAA rfl rfl ent103 (Ct.use0 (λF' hF=>qQm F' (hK.mono (hF _ (by simp))) (l.getD k qD1) (l.getD (k+1) qD1) (qIn hg (by omega)) (qIn hg (by omega))))) rfl (by simp) λg37 _=>J.c6 ?_
    refine J.b9<|J.A (J.H hK14 ?_)
    refine J.O 0 4 24 25 ?_
    refine J.g λK15 hK15=>J.b O<|J.f (qAb O O O) O<|J.c hK15<|J.a0 0 4 24 25 39 ?_
    refine J.a2 O (λh39=>?_) (λh39=>?_)
    ·
      refine J.g λK16 hK16=>J.p 2 O<|J.c hK16<|J.u 2 ?_
      exact J.D<|J.b1<|J.a4<|J.a4<|J.b1<|J.a4<|J.M hw0 O () (congrArg I (by rw [qDw hn,if_neg (by omega),if_neg h15,←hch,qGi (l:=l) (k:=k) (by omega),if_pos (by omega)])) trivial [0] rfl (by decide)
    refine J.b7<|J.a6<|J.A (J.H hK12 ?_)
    refine J.G 0 24 25 ?_
    exact J.L<|J.f ((qAO O O O (by omega)).nat (k+1) (by omega)) O<|J.b O<|J.a7<|J.A<|J.a8 (k+1) (λx (hx:_∧l.length-x<l.length-k)=>hI0 x hx.1 hx.2) ⟨⟨by omega,by have:=qGi (l:=l) (k:=k) (by omega);rw [if_neg (by omega)] at this;rw [←this];exact hch⟩,by omega⟩ ⟨rfl,rfl,rfl,trivial⟩ (λ_ h=>h)
  refine J.b4<|J.a1<|J.a1<|J.b5 ?_
  refine J.A (J.H hK8 ?_)
  refine J.c3 [] trivial<|J.j λK17 hK17=>?_
  have hce:=qOX (l:=l) (k:=k) (by omega)
  refine J.L<|J.b O<|J.c hK17<|J.u 2 ?_
  exact J.D<|J.M hw0 O () (congrArg I (by rw [qDw hn,if_neg (by omega),if_neg h15,←hch,hce])) trivial [0] rfl (by decide)
theorem en_0{v:Nat}{o r:List UInt8}{h:Int}{p:List UInt8}(h1: ¬v<1)(h2: ¬4294967295<v)(h3: ¬h<0)(h4: ¬6<h)(ho:o.length=16)(hr:r.length=16)(hp:p.length=16):qBS v o r h p=0∧qA3 v o r h p=Sha.numB (UInt64.ofNat v) 4++o++r++ [UInt8.ofNat h.toNat]++p:=by
 have hq:qDn o r h:=⟨by omega,by omega,ho,hr⟩
 have e:qBS v o r h p=0:=by
  unfold qBS qA9
  rw [if_neg (by omega),if_pos hq,if_pos ⟨rfl,hp⟩]
 refine⟨e,?_⟩
 unfold qA3 qBJ
 rw [if_pos e,if_pos hq]
 simp
theorem qIt{v:Nat}{o r:List UInt8}{h:Int}{p:List UInt8}(he:qBS v o r h p=0):1≤v∧v≤4294967295∧(0≤h∧h≤6)∧o.length=16∧r.length=16∧p.length=16:=by
  unfold qBS at he
  split at he
  · omega
  · split at he
    · rename_i h1 h2
      have h3:=h2.1
      unfold qA9 at h3
      split at h3
      · rename_i h4
        have h5:=h4
        unfold qDn at h5
        omega
      · omega
    · omega
end Go.Proofs.YtllnfioplpipiaaGreatDoor
