/- A part of the proof. -/
import Derived.Test.YtcgcjaflllmlpaaGreatDoorTopCfG8
import Derived.Test.YtcgcjaflllmlpaaGreatDoorTopCfG11
import Derived.Test.YtcgcjaflllmlpaaGreatDoorTopCfG6
import Derived.Test.YtcgcjaflllmlpaaGreatDoorTopCfG13
set_option linter.unusedSimpArgs false
set_option linter.unusedVariables false
namespace Go.Proofs.YtcgcjaflllmlpaaGreatDoor
open Go Go.Fw Go.Proofs.Tryz
set_option maxRecDepth 100000
set_option maxHeartbeats 1000000
namespace Sb
def isLf(s:List UInt8):Prop:=s≠ []∧s.take 1= [1]
instance (s:List UInt8):Decidable (isLf s):=by unfold isLf;infer_instance
def join(a b:List UInt8):List UInt8:=if a= [0]∧(b= [0]∨isLf b) then b else if b= [0]∧isLf a then a else 2::Sha.tagged 10 [a,b]
def leafN(k v:List UInt8):List UInt8:=1::Sha.tagged 9 [k,v]
def lvl(l:List (List UInt8)):List (List UInt8):=(List.range (l.length/2)).map λk=>join (l.getD (2*k) []) (l.getD (2*k+1) [])
def lvls(l:List (List UInt8)):Nat→List (List UInt8)
 |0=>l
 |j+1=>lvl (lvls l j)
def root(l:List (List UInt8))(d:Nat):List UInt8:=(lvls l d).getD 0 []
theorem lvl_length(l:List (List UInt8)):(lvl l).length=l.length/2:=by simp [lvl]
theorem lvls_zero(l:List (List UInt8)):lvls l 0=l:=rfl
theorem lvls_succ(l:List (List UInt8))(j:Nat):lvls l (j+1)=lvl (lvls l j):=rfl
theorem lvls_length{l:List (List UInt8)}{d:Nat}(h:l.length=2^d): ∀j,j≤d→(lvls l j).length=2^(d-j)
 |0,_=>h
 |j+1,hj=>by
  rw [lvls_succ,lvl_length,lvls_length h j (by omega),show d-j=(d-(j+1))+1 by omega,jr,Nat.mul_div_cancel _ (by decide)]
theorem qOf{a b:List UInt8}(ha:a.length≤1048576)(hb:b.length≤1048576):(join a b).length≤1048576:=by
  unfold join
  split
  · exact hb
  · split
    · exact ha
    · rw [jD,Sha.tagged_length];decide
theorem getD_small{l:List (List UInt8)}(h: ∀s∈l,s.length≤1048576)(k:Nat):(l.getD k []).length≤1048576:=by
 by_cases hk:k<l.length
 · rw [jB,jC hk];exact h _ (jX _)
 · rw [jB,jg (by omega)];decide
theorem lvls_small{l:List (List UInt8)}(h: ∀s∈l,s.length≤1048576): ∀j,∀s∈lvls l j,s.length≤1048576
 |0=>h
 |j+1=>λs hs=>by
  rw [lvls_succ] at hs
  unfold lvl at hs
  obtain ⟨k,_,rfl⟩:=List.mem_map.1 hs
  exact qOf (getD_small (lvls_small h j) _) (getD_small (lvls_small h j) _)
theorem lvl_take{l:List (List UInt8)}{k:Nat}(h:k<l.length/2):(lvl l).take (k+1)=(lvl l).take k++ [join (l.getD (2*k) []) (l.getD (2*k+1) [])]:=by
 rw [jP (by rw [lvl_length];exact h)]
 simp [lvl]
end Sb
def cnt(d:Int):Nat:=if d<0∨4<d then 0 else 2^d.toNat
theorem qFy{d:Int}:cnt d=0↔(d<0∨4<d):=by
  unfold cnt
  split
  · exact⟨λ_=>by assumption,λ_=>rfl⟩
  · rename_i h
    exact⟨λe=>absurd e (Nat.ne_of_gt (jz _)),λe=>absurd e h⟩
theorem qVQ(d:Int):cnt d≤16:=by
 unfold cnt
 split
 · omega
 · exact jb (jf (by decide) (show d.toNat≤4 by omega)) (by decide)
theorem qXX{d:Int}(h:cnt d≠0):cnt d=2^d.toNat:=by
 unfold cnt at h⊢
 split
 · rename_i h1;rw [if_pos h1] at h;exact absurd rfl h
 · rfl
def qKm(l:List (List UInt8))(d:Int):Int:=if cnt d=0 then 1 else if l.length≠cnt d then 22 else 0
def qCI(l:List (List UInt8))(d:Int):List UInt8:=if qKm l d=0 then Sb.root l d.toNat else []
theorem qOO{P:Program}{env:Env}{rs:List Hp}{o:Oper}{t e x p q r sz A n' c l h m}(ho:o.op= .slice t x (some p) (some q) (some r))(hx:ev env x=some (.slice A n' c))(hu:P.underlying t=some (.slice e))(hz: ∀w,(sizeOf e).run P w= .ok sz w)
    (hlo:ev env p=some (I ((l:Nat):Int))) (hhi:ev env q=some (I ((h:Nat):Int))) (hmx:ev env r=some (I ((m:Nat):Int))) (hr:l≤h∧h≤m∧m≤c):YOp P env rs o (.slice (if m=l then A else A.map (·.add (l*sz))) (h-l) (m-l)):=λn a w hk _=>by
  simp [execOp,ho,hk.ev hx,hk.ev hlo,hk.ev hhi,hk.ev hmx,Instr.sliceAt,Instr.slice,run_underlying hu,Instr.sliceBounds,Instr.sliceBound,asIntOf,hr.1,hr.2.1,hr.2.2,hz]
attribute [local irreducible] Sha.tagged Sb.join Sb.lvl Sb.lvls Sb.root
theorem qIO(F:Hp)(s:List UInt8):Cz prog 194 [Str s] F (.bool (decide (Sb.isLf s))):=by
 refine Ct.walk func194 rfl ntmps194 rfl (λw0 hw0=>?_)
 refine J.f λ_ j1=>J.b O<|J.c j1<|J.f λ_ j2=>J.b O<|J.g (qEC O O O) O<|J.b O<|J.b9 (d:=5) O (λh5=>?_) (λh5=>?_)
 ·
  exact J.b O<|J.G ((qA9 (l:=0) (h:=1) u9_ O O O O ⟨by omega,by have:s.length≠0:=λe=>h5 (jU e);omega⟩).as (congrArg Str zm)) O<|J.G (qBS O O O) O<|J.q 2 O<|J.c j2<|J.A<|J.E hw0 O () (congrArg Value.bool (decide_eq_decide.2 ⟨λh=>⟨h5,h⟩,λh=>h.2⟩)) trivial [0] O (by decide)
 exact J.q 5 O<|J.c j2<|J.A<|J.E hw0 O () (congrArg Value.bool (decide_eq_false (λh=>h5 h.1)).symm) trivial [0] O (by decide)
theorem qMf(F:Hp)(hK:KF F)(k v:List UInt8)(hk:k.length≤1048576)(hv:v.length≤1048576):Cz prog 157 [Str k,Str v] F (Str (Sb.leafN k v)):=by
 refine Ct.walk func157 rfl ntmps157 rfl (λw0 hw0=>?_)
 exact J.f λ_ j1=>J.b O<|J.c j1<|J.f λ_ j2=>J.q 2 O<|J.p (qAG (l:= [.tmp 5,.tmp 6]) (xs:= [[Str (k)],[Str (v)]]) O O O O qAk el9 O (by decide) (by decide) (by simp)) rfl λg7 _=>J.p (qAB rfl rfl ent46 (Ct.use0 (λF' hF=>qA3 F' (hK.mono (Fa hF)) 9 (some ⟨g7,0,none⟩) 2 2 [k,v] ((slS [k,v] rfl).mono (hF (blk g7 (([k,v]:List (List UInt8)).map λs=>Str s) 9) (by simp))) (by simp;omega) (by decide)))) rfl λg8 _=>J.g ((qBI rfl rfl rfl (by simp only [jA,Sha.tagged_length];decide))) rfl<|J.b rfl<|J.c j2<|J.A<|J.E hw0 rfl () rfl trivial [0] rfl (by decide)
theorem qFl(F:Hp)(hK:KF F)(a b:List UInt8)(ha:a.length≤1048576)(hb:b.length≤1048576):Cz prog 155 [Str a,Str b] F (Str (Sb.join a b)):=by
 refine Ct.walk func155 rfl ntmps155 rfl (λw0 hw0=>?_)
 refine J.f λ_ j1=>J.b O<|J.c j1<|J.k λ_ j2=>J.O<|J.f λ_ j3=>J.b O<|J.g (qBS O O O) O<|J.b O<|J.b9 (d:=8) O (λh8=>?_) (λh8=>?_)
 ·
  refine J.b O<|J.G (qBS O O O) O<|J.b O<|J.b9 (d:=11) O (λh11=>?_) (λh11=>?_)
  ·
   refine J.q 5 O<|J.c j3<|J.c4 ?_
   exact J.f λ_ j4=>J.q 2 O<|J.c j4<|J.A<|J.a7<|J.V<|J.E hw0 O () (congrArg Str (by unfold Sb.join;rw [if_pos ⟨h8,.inl h11⟩])) trivial [0] rfl (by decide)
  refine J.b O<|J.c9 (qAB O O ent194 (Ct.use0 (λF' hF=>qIO F' b))) O λg13 _=>J.q 3 O<|J.c j3<|J.W O (λh5=>?_) (λh5=>?_)
  ·
   exact J.f λ_ j5=>J.q 2 O<|J.c j5<|J.A<|J.a7<|J.V<|J.E hw0 O () (congrArg Str (by unfold Sb.join;rw [if_pos ⟨h8,.inr h5⟩])) trivial [0] rfl (by decide)
  refine J.f λ_ j6=>J.b O<|J.g (qBS O O O) O<|J.b O<|J.b9 (d:=20) O (λh20=>?_) (λh20=>?_)
  ·
   refine J.b O<|J.c9 (qAB O O ent194 (Ct.use0 (λF' hF=>qIO F' a))) O λg22 _=>J.q 2 O<|J.c j6<|J.W O (λh17=>?_) (λh17=>?_)
   ·
    exact J.f λ_ j7=>J.q 2 O<|J.c j7<|J.A<|J.a7<|J.V<|J.E hw0 O () (absurd h20 h11) trivial [0] O (by decide)
   refine J.b5<|J.a2<|J.u (J.D j2 ?_)
   exact J.f λ_ j8=>J.q 2 O<|J.p (qAG (l:= [.tmp 25,.tmp 26]) (xs:= [[Str (a)],[Str (b)]]) O O O O qAk el9 O (by decide) (by decide) (by simp)) rfl λg27 _=>J.p (qAB rfl rfl ent46 (Ct.use0 (λF' hF=>qA3 F' (hK.mono (Fa hF)) 10 (some ⟨g27,0,none⟩) 2 2 [a,b] ((slS [a,b] rfl).mono (hF (blk g27 (([a,b]:List (List UInt8)).map λs=>Str s) 9) (by simp))) (by simp;omega) (by decide)))) rfl λg28 _=>J.g ((qBI rfl rfl rfl (by simp only [jA,Sha.tagged_length];decide))) rfl<|J.b rfl<|J.c j8<|J.A<|J.E hw0 rfl () (absurd h20 h11) trivial [0] rfl (by decide)
  refine J.q 4 O<|J.c j6<|J.a1 ?_
  refine J.b5<|J.a2<|J.u (J.D j2 ?_)
  exact J.f λ_ j9=>J.q 2 O<|J.p (qAG (l:= [.tmp 25,.tmp 26]) (xs:= [[Str (a)],[Str (b)]]) O O O O qAk el9 O (by decide) (by decide) (by simp)) rfl λg27 _=>J.p (qAB rfl rfl ent46 (Ct.use0 (λF' hF=>qA3 F' (hK.mono (Fa hF)) 10 (some ⟨g27,0,none⟩) 2 2 [a,b] ((slS [a,b] rfl).mono (hF (blk g27 (([a,b]:List (List UInt8)).map λs=>Str s) 9) (by simp))) (by simp;omega) (by decide)))) rfl λg28 _=>J.g ((qBI rfl rfl rfl (by simp only [jA,Sha.tagged_length];decide))) rfl<|J.b rfl<|J.c j9<|J.A<|J.E hw0 rfl () (congrArg Str (by unfold Sb.join;rw [if_neg (λh=>h.2.elim h11 h5),if_neg (λh=>h20 h.1)];rfl)) trivial [0] rfl (by decide)
 refine J.q 3 O<|J.c8 (Wan.un O O O O) O O ?_
 refine J.c8 (Wan.un O O O O) O O ?_
 refine J.q 3 O<|J.c j3<|J.a1 ?_
 refine J.f λ_ j10=>J.b O<|J.g (qBS O O O) O<|J.b O<|J.b9 (d:=20) O (λh20=>?_) (λh20=>?_)
 ·
  refine J.b O<|J.c9 (qAB O O ent194 (Ct.use0 (λF' hF=>qIO F' a))) O λg22 _=>J.q 2 O<|J.c j10<|J.W O (λh17=>?_) (λh17=>?_)
  ·
   exact J.f λ_ j11=>J.q 2 O<|J.c j11<|J.A<|J.a7<|J.V<|J.E hw0 O () (congrArg Str (by unfold Sb.join;rw [if_neg (λh=>h8 h.1),if_pos ⟨h20,h17⟩])) trivial [0] rfl (by decide)
  refine J.b5<|J.a2<|J.u (J.D j2 ?_)
  exact J.f λ_ j12=>J.q 2 O<|J.p (qAG (l:= [.tmp 25,.tmp 26]) (xs:= [[Str (a)],[Str (b)]]) O O O O qAk el9 O (by decide) (by decide) (by simp)) rfl λg27 _=>J.p (qAB rfl rfl ent46 (Ct.use0 (λF' hF=>qA3 F' (hK.mono (Fa hF)) 10 (some ⟨g27,0,none⟩) 2 2 [a,b] ((slS [a,b] rfl).mono (hF (blk g27 (([a,b]:List (List UInt8)).map λs=>Str s) 9) (by simp))) (by simp;omega) (by decide)))) rfl λg28 _=>J.g ((qBI rfl rfl rfl (by simp only [jA,Sha.tagged_length];decide))) rfl<|J.b rfl<|J.c j12<|J.A<|J.E hw0 rfl () (congrArg Str (by unfold Sb.join;rw [if_neg (λh=>h8 h.1),if_neg (λh=>h17 h.2)];rfl)) trivial [0] rfl (by decide)
 refine J.q 4 O<|J.c j10<|J.a1 ?_
 refine J.b5<|J.a2<|J.u (J.D j2 ?_)
 exact J.f λ_ j13=>J.q 2 O<|J.p (qAG (l:= [.tmp 25,.tmp 26]) (xs:= [[Str (a)],[Str (b)]]) O O O O qAk el9 O (by decide) (by decide) (by simp)) rfl λg27 _=>J.p (qAB rfl rfl ent46 (Ct.use0 (λF' hF=>qA3 F' (hK.mono (Fa hF)) 10 (some ⟨g27,0,none⟩) 2 2 [a,b] ((slS [a,b] rfl).mono (hF (blk g27 (([a,b]:List (List UInt8)).map λs=>Str s) 9) (by simp))) (by simp;omega) (by decide)))) rfl λg28 _=>J.g ((qBI rfl rfl rfl (by simp only [jA,Sha.tagged_length];decide))) rfl<|J.b rfl<|J.c j13<|J.A<|J.E hw0 rfl () (congrArg Str (by unfold Sb.join;rw [if_neg (λh=>h8 h.1),if_neg (λh=>h20 h.1)];rfl)) trivial [0] rfl (by decide)
end Go.Proofs.YtcgcjaflllmlpaaGreatDoor
namespace Go.Proofs.YtcgcjaflllmlpaaGreatDoor
open Go Go.Fw Go.Proofs.Tryz
set_option maxRecDepth 100000
set_option maxHeartbeats 1000000
namespace Sm
def kv:List UInt8→Nat
 | []=>0
 |b::r=>b.toNat*256^r.length+kv r
theorem kv_lt: ∀k:List UInt8,kv k<256^k.length
 | []=>Nat.one_pos
 |b::r=>by
  have h1:=kv_lt r
  have h2:=b.toNat_lt
  have h3:b.toNat*256^r.length≤255*256^r.length:=zR _ (by omega)
  rw [kv,jD,jr]
  omega
theorem qVH: ∀{a b:List UInt8},a.length=b.length→kv a=kv b→a=b
 | [],[],_,_=>rfl
 | [],_::_,h,_=>by simp at h
 |_::_,[],h,_=>by simp at h
 |x::a,y::b,h,e=>by
  have hl:a.length=b.length:=by simpa using h
  rw [kv,kv,hl] at e
  have h1:=kv_lt a
  have h2:=kv_lt b
  rw [hl] at h1
  have hp:0<256^b.length:=Nat.pow_pos (by decide)
  have e1:x.toNat=y.toNat:=by
   have:=congrArg (· /256^b.length) e
   simp only [zp _ (256^b.length),Nat.mul_add_div hp,zL h1,zL h2,za] at this
   exact this
  have e2:kv a=kv b:=by rw [e1] at e;omega
  rw [UInt8.toNat_inj.1 e1,qVH hl e2]
theorem qNN: ∀{a b:List UInt8},a.length=b.length→a<b→kv a<kv b
  | [],[],_,h=>absurd h (List.lt_irrefl _)
  | [],_::_,h,_=>by simp at h
  |_::_,[],h,_=>by simp at h
  |x::a,y::b,h,e=>by
    have hl:a.length=b.length:=by simpa using h
    have h1:=kv_lt a
    have h2:=kv_lt b
    rw [hl] at h1
    rw [kv,kv,hl]
    rcases List.cons_lt_cons_iff.1 e with h5|⟨h4,h5⟩
    · have:x.toNat+1≤y.toNat:=UInt8.lt_iff_toNat_lt.1 h5
      have h3:=zR (256^b.length) this
      rw [zk] at h3
      omega
    · have:=qNN hl h5;rw [h4];omega
theorem qVI: ∀{k:List UInt8} {q:Nat},q<k.length→(k.getD q 0).toNat=kv k/256^(k.length-1-q)%256
 | [],_,h=>by simp at h
 |b::r,0,_=>by
  have h1:=kv_lt r
  have hp:0<256^r.length:=Nat.pow_pos (by decide)
  have h2:=b.toNat_lt
  rw [kv,jD,Nat.add_sub_cancel,zz,zp,Nat.mul_add_div hp,zL h1,za,jd (by omega)]
  rfl
 |b::r,q+1,h=>by
  have h':q<r.length:=by simpa using h
  rw [zj,qVI h',kv,jD]
  obtain ⟨m,hm⟩: ∃m,r.length=m+1+q:=⟨r.length-1-q,by omega⟩
  rw [show r.length+1-1-(q+1)=m by omega,show r.length-1-q=m by omega,hm,show m+1+q=m+(q+1) by omega,Nat.pow_add,show b.toNat*(256^m*256^(q+1))=256^m*(b.toNat*256^q*256) by rw [jr,Nat.mul_left_comm,Nat.mul_assoc],
   Nat.mul_add_div (Nat.pow_pos (by decide)),Nat.add_mod,Nat.mul_mod_left,jj,Nat.mod_mod]
def bit(k:List UInt8)(d:Nat):Nat:=if d<8*k.length then(k.getD (d/8) 0).toNat/2^(7-d%8)%2 else 0
theorem bit_le(k:List UInt8)(d:Nat):bit k d<2:=by unfold bit;split<;>omega
theorem qLo(x j:Nat)(h:j≤7):x%256/2^j%2=x/2^j%2:=by
 have h0:j=0∨j=1∨j=2∨j=3∨j=4∨j=5∨j=6∨j=7:=by omega
 rcases h0 with rfl|rfl|rfl|rfl|rfl|rfl|rfl|rfl<;>simp only [Nat.reducePow]<;>omega
theorem bit_kv{k:List UInt8}(h:k.length=16){d:Nat}(hd:d<128):bit k d=kv k/2^(127-d)%2:=by
 unfold bit
 rw [if_pos (by omega),qVI (by omega),h,qLo _ _ (by omega),zx,show(256:Nat)=2^8 from rfl,←Nat.pow_mul,←Nat.pow_add,show 8*(16-1-d/8)+(7-d%8)=127-d by omega]
theorem pre_succ(x f:Nat):x/2^f=2*(x/2^(f+1))+x/2^f%2:=by
 rw [jr,←zx];omega
abbrev PR:=List UInt8×List UInt8
def side(f:Nat)(b:Bool)(l:List PR):List PR:=l.filter λp=>decide (kv p.1/2^f%2=0)==b
def nd:Nat→List PR→List UInt8
 |_,[]=> [0]
 |_,[p]=>Sb.leafN p.1 p.2
 |0,_=> []
 |f+1,l=>Sb.join (nd f (side f true l)) (nd f (side f false l))
theorem nd_nil(f:Nat):nd f []= [0]:=by cases f<;>rfl
theorem nd_one(f:Nat)(p:PR):nd f [p]=Sb.leafN p.1 p.2:=by cases f<;>rfl
theorem nd_two(f:Nat){l:List PR}(h:2≤l.length):nd (f+1) l=Sb.join (nd f (side f true l)) (nd f (side f false l)):=by
 match l,h with
 |a::b::r,_=>rfl
def WF(f:Nat)(l:List PR):Prop:=l.Pairwise (λp q=>p.1≠q.1)∧(∀p∈l,p.1.length=16)∧ ∀p∈l,∀q∈l,kv p.1/2^f=kv q.1/2^f
theorem WF.side{f:Nat}{l:List PR}(h:WF (f+1) l)(b:Bool):WF f (side f b l):=by
 refine⟨h.1.sublist List.filter_sublist,λp hp=>h.2.1 p (List.mem_filter.1 hp).1,λp hp q hq=>?_⟩
 obtain ⟨h1,h2⟩:=List.mem_filter.1 hp
 obtain ⟨h3,h4⟩:=List.mem_filter.1 hq
 have h5:=h.2.2 p h1 q h3
 rw [beq_iff_eq] at h2 h4
 have e1:=pre_succ (kv p.1) f
 have e2:=pre_succ (kv q.1) f
 have e3:kv p.1/2^f%2=kv q.1/2^f%2:=by
  have h6:decide (kv p.1/2^f%2=0)=decide (kv q.1/2^f%2=0):=h2.trans h4.symm
  have h7:=decide_eq_decide.1 h6
  omega
 omega
theorem WF.short{l:List PR}(h:WF 0 l):l.length≤1:=by
 match l,h with
 | [],_=>exact jG _
 | [_],_=>exact jK _
 |a::b::r,h=>
  exfalso
  have h1:=h.2.2 a (.head _) b (.tail _ (.head _))
  rw [Nat.pow_zero,Nat.div_one,Nat.div_one] at h1
  exact(List.pairwise_cons.1 h.1).1 b (.head _) (qVH ((h.2.1 a (.head _)).trans (h.2.1 b (.tail _ (.head _))).symm) h1)
theorem WF.top{l:List PR}(h1:l.Pairwise (λp q=>p.1≠q.1))(h2: ∀p∈l,p.1.length=16):WF 128 l:=
 ⟨h1,h2,λp hp q hq=>by
  have e1:=kv_lt p.1
  have e2:=kv_lt q.1
  rw [h2 p hp] at e1
  rw [h2 q hq] at e2
  rw [zL (yN e1 (by decide)),zL (yN e2 (by decide))]⟩
theorem WF.perm{f:Nat}{l l':List PR}(h:WF f l)(hp:l.Perm l'):WF f l':=
 ⟨(hp.pairwise_iff (λh=>h.symm)).1 h.1,λp q=>h.2.1 p (hp.mem_iff.2 q),λp hp1 q hq1=>h.2.2 p (hp.mem_iff.2 hp1) q (hp.mem_iff.2 hq1)⟩
theorem side_len(f:Nat)(l:List PR):(side f true l).length+(side f false l).length=l.length:=by
 induction l with
 |nil=>rfl
 |cons p r ih=>
  unfold side at ih⊢
  rw [jl,jl]
  rcases h:decide (kv p.1/2^f%2=0) with _|_
  · rw [if_neg (by decide),if_pos (by decide),jD,jD];omega
  · rw [if_pos (by decide),if_neg (by decide),jD,jD];omega
theorem nd_perm: ∀(f:Nat) {l l':List PR},WF f l→l.Perm l'→nd f l=nd f l'
 |f,[],l',_,hp=>by rw [hp.nil_eq]
 |f,[p],l',_,hp=>by rw [List.singleton_perm.1 hp]
 |0,a::b::r,l',h,hp=>by have:=h.short;simp at this
 |f+1,a::b::r,l',h,hp=>by
  have hl:=hp.length_eq
  rw [nd_two f (by simp),nd_two f (by rw [←hl];simp),nd_perm f (h.side true) (hp.filter _),nd_perm f (h.side false) (hp.filter _)];rfl
theorem qNJ(k v:List UInt8):Sb.isLf (Sb.leafN k v):=⟨by simp [Sb.leafN],by simp [Sb.leafN]⟩
theorem qNI(k v:List UInt8):Sb.leafN k v≠ [0]:=λh=>by
 have:=(qNJ k v).2
 rw [h] at this;cases this
theorem qXB{a b:List UInt8}(h:a≠ [0]∨b≠ [0]):Sb.join a b≠ [0]:=by
  unfold Sb.join
  split
  · rename_i h1
    rcases h with h|h
    · exact absurd h1.1 h
    · exact h
  · split
    · rename_i h1
      rcases h with h|h
      · exact h
      · exact absurd h1.1 h
    · intro e;injection e with e _;cases e
theorem qWw: ∀(f:Nat) {l:List PR},WF f l→l≠ []→nd f l≠ [0]
  |f,[],_,h=>absurd rfl h
  |f,[p],_,_=>by rw [nd_one];exact qNI _ _
  |0,a::b::r,h,_=>by have:=h.short;simp at this
  |f+1,a::b::r,h,_=>by
    rw [nd_two f (by simp)]
    refine qXB ?_
    have hl:=side_len f (a::b::r)
    simp only [jD] at hl
    by_cases h1:side f true (a::b::r)= []
    · refine .inr (qWw f (h.side false) λh2=>?_)
      rw [h1,h2] at hl;simp at hl
    · exact .inl (qWw f (h.side true) h1)
theorem nd_eq0{f:Nat}{l:List PR}(h:WF f l):nd f l= [0]↔l= []:=
 ⟨λe=>Decidable.by_contra λhn=>qWw f h hn e,λe=>by rw [e,nd_nil]⟩
theorem nd_small: ∀(f:Nat) (l:List PR),(nd f l).length≤17
  |f,[]=>by rw [nd_nil];decide
  |f,[p]=>by rw [nd_one];unfold Sb.leafN;rw [jD,Sha.tagged_length];decide
  |0,a::b::r=>jG _
  |f+1,a::b::r=>by
    rw [nd_two f (by simp)]
    unfold Sb.join
    split
    · exact nd_small f _
    · split
      · exact nd_small f _
      · rw [jD,Sha.tagged_length];decide
def Up(l:List PR):Prop:=l.Pairwise (λp q=>kv p.1<kv q.1)
theorem Up.sub{l l':List PR}(h:Up l)(hs:l'.Sublist l):Up l':=h.sublist hs
theorem up_bits{f:Nat}{l:List PR}(h:WF (f+1) l)(hu:Up l){k:Nat}(hk: ∀j (hj:j<l.length),j<k→kv l[j].1/2^f%2=0)(hn: ∀(hj:k<l.length),kv l[k].1/2^f%2≠0):l.take k=side f true l∧l.drop k=side f false l:=by
  have h1: ∀p∈l.take k,kv p.1/2^f%2=0:=λp hp=>by
    obtain ⟨j,hj,rfl⟩:=zW hp
    rw [jF] at hj
    rw [List.getElem_take]
    exact hk j (by omega) (by omega)
  have h2: ∀p∈l.drop k,kv p.1/2^f%2≠0:=λp hp=>by
    obtain ⟨j,hj,rfl⟩:=zW hp
    rw [jI] at hj
    rw [List.getElem_drop]
    have hkl:k<l.length:=by omega
    have hb:=hn hkl
    rcases yO j with rfl|hj0
    · exact hb
    · have hlt:kv l[k].1<kv l[k+j].1:=List.pairwise_iff_getElem.1 hu k (k+j) hkl (by omega) (by omega)
      have e:=h.2.2 _ (jX hkl) _ (jX (show k+j<l.length by omega))
      have e1:=pre_succ (kv l[k].1) f
      have e2:=pre_succ (kv l[k+j].1) f
      have e3:=Nat.div_le_div_right (c:=2^f) (Nat.le_of_lt hlt)
      omega
  have h3:side f true l=side f true (l.take k)++side f true (l.drop k):=by unfold side;rw [←zG,zZ]
  have h4:side f false l=side f false (l.take k)++side f false (l.drop k):=by unfold side;rw [←zG,zZ]
  constructor
  · rw [h3,show side f true (l.take k)=l.take k from List.filter_eq_self.2 λp hp=>by rw [decide_eq_true (h1 p hp)];rfl,show side f true (l.drop k)= [] from List.filter_eq_nil_iff.2 λp hp=>by rw [decide_eq_false (h2 p hp)];simp,jQ]
  · rw [h4,show side f false (l.take k)= [] from List.filter_eq_nil_iff.2 λp hp=>by rw [decide_eq_true (h1 p hp)];simp,show side f false (l.drop k)=l.drop k from List.filter_eq_self.2 λp hp=>by rw [decide_eq_false (h2 p hp)];rfl,jq]
def putP:List PR→List UInt8→List UInt8→List PR
 | [],k,v=> [(k,v)]
 |p::r,k,v=>if p.1=k then(k,v)::r else p::putP r k v
def getP:List PR→List UInt8→Option (List UInt8)
 | [],_=>none
 |p::r,k=>if p.1=k then some p.2 else getP r k
def setP(l:List PR)(k v:List UInt8):List PR:=l.filter (λp=>decide (p.1≠k))++ [(k,v)]
def Once(l:List PR):Prop:=l.Pairwise (λp q=>p.1≠q.1)
theorem Once.perm{l l':List PR}(h:Once l)(hp:l.Perm l'):Once l':=(hp.pairwise_iff (λh=>h.symm)).1 h
theorem qRO{l:List PR}{k:List UInt8}(h: ∀p∈l,p.1≠k):l.filter (λp=>decide (p.1≠k))=l:=List.filter_eq_self.2 λp hp=>decide_eq_true (h p hp)
theorem putP_perm: ∀{l:List PR} (k v:List UInt8),Once l→(putP l k v).Perm (setP l k v)
  | [],k,v,_=>List.Perm.refl _
  |p::r,k,v,h=>by
    obtain ⟨h1,h2⟩:=List.pairwise_cons.1 h
    unfold putP setP
    by_cases e:p.1=k
    · rw [if_pos e,jl,if_neg (by simp [e]),qRO (λq hq e2=>h1 q hq (e.trans e2.symm))]
      exact(ju _ _).symm
    · rw [if_neg e,jl,if_pos (by simp [e]),zu]
      exact(putP_perm k v h2).cons p
theorem setP_perm{l l':List PR}(k v:List UInt8)(h:l.Perm l'):(setP l k v).Perm (setP l' k v):=(h.filter _).append_right _
theorem setP_once{l:List PR}(k v:List UInt8)(h:Once l):Once (setP l k v):=by
 unfold setP Once
 rw [jS]
 refine⟨h.sublist List.filter_sublist,by simp,λp hp q hq=>?_⟩
 rw [List.mem_singleton.1 hq]
 simpa using (List.mem_filter.1 hp).2
theorem setP_mem{l:List PR}{k v:List UInt8}{p:PR}(h:p∈setP l k v):p∈l∨p=(k,v):=by
 unfold setP at h
 rcases List.mem_append.1 h with h|h
 · exact .inl (List.mem_filter.1 h).1
 · exact .inr (List.mem_singleton.1 h)
theorem getP_mem{l:List PR}(h:Once l){p:PR}(hp:p∈l):getP l p.1=some p.2:=by
 induction l with
 |nil=>cases hp
 |cons q r ih=>
  obtain ⟨h1,h2⟩:=List.pairwise_cons.1 h
  rcases List.mem_cons.1 hp with rfl|hp
  · rw [getP,if_pos rfl]
  · rw [getP,if_neg (h1 p hp),ih h2 hp]
theorem getP_some{l:List PR}{k v:List UInt8}(h:getP l k=some v):(k,v)∈l:=by
  induction l with
  |nil=>cases h
  |cons p r ih=>
    rw [getP] at h
    split at h
    · rename_i e
      injection h with h
      rw [←e,←h];exact .head _
    · exact .tail _ (ih h)
theorem putP_len(l:List PR)(k v:List UInt8):(putP l k v).length≤l.length+1:=by
 induction l with
 |nil=>exact jK _
 |cons p r ih=>
  rw [putP]
  split
  · simp
  · simp only [jD];omega
def srt(l:List (List UInt8)):List (List UInt8):=l.mergeSort (λx y=>decide (x≤y))
theorem qDv(l:List (List UInt8)):(srt l).Perm l:=List.mergeSort_perm l _
theorem srt_len(l:List (List UInt8)):(srt l).length=l.length:=(qDv l).length_eq
theorem qPb(l:List (List UInt8)):(srt l).Pairwise (λx y=>x≤y):=by
 have h:=List.pairwise_mergeSort (le:=λ(x y:List UInt8)=>decide (x≤y)) (λa b c h1 h2=>by
  simp only [decide_eq_true_eq] at*;exact List.le_trans h1 h2) (λa b=>by
  simp only [yL,decide_eq_true_eq];exact List.le_total a b) l
 exact h.imp λh=>by simpa using h
theorem srt_eq{l l':List (List UInt8)}(h:l.Perm l'):srt l=srt l':=
 List.Perm.eq_of_pairwise (λa b _ _ h1 h2=>List.le_antisymm h1 h2) (qPb l) (qPb l') ((qDv l).trans (h.trans (qDv l').symm))
def keysS(l:List PR):List (List UInt8):=srt (l.map (·.1))
theorem keysS_len(l:List PR):(keysS l).length=l.length:=by unfold keysS;rw [srt_len,jN]
theorem keysS_mem{l:List PR}{k:List UInt8}:k∈keysS l↔ ∃v,(k,v)∈l:=by
 unfold keysS
 rw [(qDv _).mem_iff,zc]
 exact⟨λ⟨p,hp,e⟩=>⟨p.2,e▸hp⟩,λ⟨v,hv⟩=>⟨_,hv,rfl⟩⟩
def prs(l:List PR)(ks:List (List UInt8)):List PR:=ks.map λk=>(k,(getP l k).getD [])
theorem qTQ{l l':List PR}(h:Once l)(hs: ∀p∈l',p∈l):prs l (l'.map (·.1))=l':=by
 unfold prs
 rw [List.map_map]
 conv=>rhs;rw [←List.map_id l']
 refine yI λp hp=>?_
 show(p.1,(getP l p.1).getD [])=p
 rw [getP_mem h (hs p hp)];rfl
theorem prs_perm{l:List PR}(h:Once l):(prs l (keysS l)).Perm l:=by
 have h1:(prs l (keysS l)).Perm (prs l (l.map (·.1))):=(qDv _).map _
 rwa [qTQ h (λ_ h=>h)] at h1
theorem qOd{l:List PR}(h:Once l):(keysS l).Pairwise (· ≠ ·):=((qDv _).symm.pairwise_iff (λh=>h.symm)).1 (List.pairwise_map.2 h)
theorem qTz{l:List PR}(h:Once l):(keysS l).Pairwise (· < ·):=by
 have h1:=qPb (l.map (·.1))
 exact(h1.and (qOd h)).imp λ⟨h1,h2⟩=>Decidable.by_contra λh3=>h2 (List.le_antisymm h1 (List.not_lt.1 h3))
theorem prs_up{l:List PR}(h:Once l)(hl: ∀p∈l,p.1.length=16):Up (prs l (keysS l)):=by
 unfold Up prs
 rw [List.pairwise_map]
 refine(qTz h).imp_of_mem λha hb hab=>?_
 obtain ⟨v,hv⟩:=keysS_mem.1 ha
 obtain ⟨u,hu⟩:=keysS_mem.1 hb
 exact qNN ((hl _ hv).trans (hl _ hu).symm) hab
theorem prs_take(l:List PR)(ks:List (List UInt8))(k:Nat):prs l (ks.take k)=(prs l ks).take k:=by unfold prs;rw [List.map_take]
theorem prs_drop(l:List PR)(ks:List (List UInt8))(k:Nat):prs l (ks.drop k)=(prs l ks).drop k:=by unfold prs;rw [List.map_drop]
theorem prs_filter(l:List PR)(ks:List (List UInt8))(q:List UInt8→Bool):prs l (ks.filter q)=(prs l ks).filter (λp=>q p.1):=by
 unfold prs
 rw [List.filter_map];rfl
theorem prs_len(l:List PR)(ks:List (List UInt8)):(prs l ks).length=ks.length:=by unfold prs;rw [jN]
theorem prs_get(l:List PR)(ks:List (List UInt8)){j:Nat}(h:j<(prs l ks).length)(h':j<ks.length):(prs l ks)[j]=(ks[j],(getP l ks[j]).getD []):=List.getElem_map ..
def belowB(k b:List UInt8)(d:Nat):Bool:=(List.range d).all λi=>decide (bit k i=bit b i)
theorem belowB_succ(k b:List UInt8)(d:Nat):belowB k b (d+1)=(belowB k b d&&decide (bit k d=bit b d)):=by
 unfold belowB;rw [jw,List.all_append];simp
theorem belowB_no{k b:List UInt8}{d i:Nat}(hi:i<d)(h:bit k i≠bit b i):belowB k b d=false:=by
 rw [Bool.eq_false_iff]
 intro h1
 exact h (of_decide_eq_true (List.all_eq_true.1 h1 i (List.mem_range.2 hi)))
theorem belowB_yes{k b:List UInt8}{d:Nat}(h: ∀i<d,bit k i=bit b i):belowB k b d=true:=List.all_eq_true.2 λi hi=>decide_eq_true (h i (List.mem_range.1 hi))
theorem belowB_kv{k b:List UInt8}(hk:k.length=16)(hb:b.length=16): ∀{d:Nat},d≤128→(belowB k b d=true↔kv k/2^(128-d)=kv b/2^(128-d))
 |0,_=>by
  have h1:=kv_lt k
  have h2:=kv_lt b
  rw [hk] at h1
  rw [hb] at h2
  rw [zL (yN h1 (by decide)),zL (yN h2 (by decide))]
  exact⟨λ_=>rfl,λ_=>rfl⟩
 |d+1,hd=>by
  have ih:=belowB_kv hk hb (d:=d) (by omega)
  have e1:=pre_succ (kv k) (127-d)
  have e2:=pre_succ (kv b) (127-d)
  rw [show 127-d+1=128-d by omega] at e1 e2
  rw [belowB_succ,jY,ih,decide_eq_true_eq,bit_kv hk (by omega),bit_kv hb (by omega),show 128-(d+1)=127-d by omega]
  constructor
  · rintro⟨h1,h2⟩;omega
  · intro h1;omega
def bel(l:List PR)(b:List UInt8)(d:Nat):List PR:=l.filter λp=>belowB p.1 b d
theorem bel_wf{l:List PR}(h:Once l)(hl: ∀p∈l,p.1.length=16){b:List UInt8}(hb:b.length=16){d:Nat}(hd:d≤128):WF (128-d) (bel l b d):=
 ⟨h.sublist List.filter_sublist,λp hp=>hl p (List.mem_filter.1 hp).1,λp hp q hq=>by
  obtain ⟨h1,h2⟩:=List.mem_filter.1 hp
  obtain ⟨h3,h4⟩:=List.mem_filter.1 hq
  rw [(belowB_kv (hl p h1) hb hd).1 h2,(belowB_kv (hl q h3) hb hd).1 h4]⟩
theorem bel_zero(l:List PR)(b:List UInt8):bel l b 0=l:=List.filter_eq_self.2 λ_ _=>rfl
theorem qWx{f:Nat}{l:List PR}(h:WF (f+1) l):Sb.join (nd f (side f true l)) (nd f (side f false l))=nd (f+1) l:=by
  match l,h with
  | [],_=>rw [show side f true []= [] from rfl,show side f false []= [] from rfl,nd_nil,nd_nil];rfl
  | [p],_=>
    have hl:=qNJ p.1 p.2
    rcases hb:decide (kv p.1/2^f%2=0) with _|_
    · rw [show side f true [p]= [] by unfold side;rw [jl,if_neg (by rw [hb];decide)];rfl,show side f false [p]= [p] by unfold side;rw [jl,if_pos (by rw [hb];decide)];rfl,nd_nil,nd_one,nd_one]
      unfold Sb.join
      rw [if_pos ⟨rfl,.inr hl⟩]
    · rw [show side f true [p]= [p] by unfold side;rw [jl,if_pos (by rw [hb];decide)];rfl,show side f false [p]= [] by unfold side;rw [jl,if_neg (by rw [hb];decide)];rfl,nd_nil,nd_one,nd_one]
      unfold Sb.join
      rw [if_neg (λh=>qNI _ _ h.1),if_pos ⟨rfl,hl⟩]
  |a::b::r,_=>rfl
theorem bel_half{l:List PR}(hl: ∀p∈l,p.1.length=16){b c:List UInt8}(hb:b.length=16)(hc:c.length=16){d:Nat}(hd:d<128)(t:Bool)(h:kv c/2^(127-d)=2*(kv b/2^(128-d))+(if t=true then 0 else 1)):
    bel l c (d+1)=side (127-d) t (bel l b d):=by
  unfold bel side
  rw [zl]
  refine zr λp hp=>?_
  have h1:=belowB_kv (hl p hp) hc (d:=d+1) (by omega)
  have h2:=belowB_kv (hl p hp) hb (d:=d) (by omega)
  have e1:=pre_succ (kv p.1) (127-d)
  rw [show 127-d+1=128-d by omega] at e1
  rw [show 128-(d+1)=127-d by omega,h] at h1
  rw [Bool.eq_iff_iff,h1,jY,h2,beq_iff_eq]
  cases t
  · rw [if_neg (by decide),decide_eq_false_iff_not]
    constructor
    · intro h;omega
    · rintro⟨h3,h4⟩;omega
  · rw [if_pos rfl,decide_eq_true_eq]
    constructor
    · intro h;omega
    · rintro⟨h3,h4⟩;omega
def ndB(l:List PR)(b:List UInt8)(d:Nat):List UInt8:=nd (128-d) (bel l b d)
theorem ndB_join{l:List PR}(h:Once l)(hl: ∀p∈l,p.1.length=16){b c e:List UInt8}(hb:b.length=16)(hc:c.length=16)(he:e.length=16){d:Nat}(hd:d<128)
    (h0:kv c/2^(127-d)=2*(kv b/2^(128-d))) (h1:kv e/2^(127-d)=2*(kv b/2^(128-d))+1):Sb.join (ndB l c (d+1)) (ndB l e (d+1))=ndB l b d:=by
  unfold ndB
  have hw:=bel_wf h hl hb (d:=d) (by omega)
  rw [bel_half hl hb hc hd true (by rw [if_pos rfl];exact h0),bel_half hl hb he hd false (by rw [if_neg (by decide)];exact h1),show 128-d=127-d+1 by omega,show 128-(d+1)=127-d by omega]
  exact qWx (by rw [show 127-d+1=128-d by omega];exact hw)
theorem ndB_perm{l l':List PR}(h:Once l)(hl: ∀p∈l,p.1.length=16)(hp:l.Perm l'){b:List UInt8}(hb:b.length=16){d:Nat}(hd:d≤128):ndB l b d=ndB l' b d:=
 nd_perm _ (bel_wf h hl hb hd) (hp.filter _)
theorem ndB_zero(l:List PR)(b:List UInt8):ndB l b 0=nd 128 l:=by unfold ndB;rw [bel_zero]
end Sm
end Go.Proofs.YtcgcjaflllmlpaaGreatDoor
namespace Go.Proofs.YtcgcjaflllmlpaaGreatDoor
open Go Go.Fw Go.Proofs.Tryz
set_option maxRecDepth 100000
set_option maxHeartbeats 1000000
attribute [local irreducible] SN.tagN Sha.tagged
namespace Tn
open SN (forceL qA7)
abbrev nat(l:List UInt8):List Nat:=l.map UInt8.toNat
theorem qW0{a b:List UInt8}:nat a=nat b↔a=b:=⟨SN.of_toNat,λh=>by rw [h]⟩
def kvN:List Nat→Nat
 | []=>0
 |b::r=>b*256^r.length+kvN r
theorem qVJ: ∀k:List UInt8,kvN (nat k)=Sm.kv k
 | []=>rfl
 |b::r=>by
  show b.toNat*256^(nat r).length+kvN (nat r)=_
  rw [qVJ r,show(nat r).length=r.length from jN _,Sm.kv]
def qOg(s:List Nat):Prop:=s≠ []∧s.take 1= [1]
instance (s:List Nat):Decidable (qOg s):=by unfold qOg;infer_instance
theorem qXD(s:List UInt8):qOg (nat s)↔Sb.isLf s:=by
 unfold qOg Sb.isLf
 cases s with
 |nil=>simp
 |cons a r=>
  simp only [nat,jZ,List.take_succ_cons,zg,ne_eq,reduceCtorEq,not_false_eq_true,true_and,List.cons.injEq,and_true]
  constructor
  · intro h;exact UInt8.toNat_inj.1 h
  · intro h;rw [h];rfl
noncomputable def joinN(a b:List Nat):List Nat:=forceL a λa=>forceL b λb=>if a= [0]∧(b= [0]∨qOg b) then b else if b= [0]∧qOg a then a else 2::SN.tagN 10 [a,b]
theorem qVW(s:List UInt8):nat s= [0]↔s= [0]:=qW0 (b:= [0])
theorem qT4(a b:List UInt8)(ha:a.length≤1000)(hb:b.length≤1000):joinN (nat a) (nat b)=nat (Sb.join a b):=by
  unfold joinN Sb.join
  rw [qA7,qA7]
  simp only [qVW,qXD]
  split
  · rfl
  · split
    · rfl
    · have:=SN.tagN_eq 10 [a,b] (by simp only [ja,jx,jQ,jA,jD,jE];omega)
      show 2::SN.tagN 10 [nat a,nat b]=nat (2::Sha.tagged 10 [a,b])
      exact congrArg (List.cons 2) this
abbrev PN:=List Nat×List Nat
def natP(p:Sm.PR):PN:=(nat p.1,nat p.2)
def qN7(f:Nat)(b:Bool)(l:List PN):List PN:=l.filter λp=>decide (kvN p.1/2^f%2=0)==b
theorem qMZ(f:Nat)(b:Bool)(l:List Sm.PR):qN7 f b (l.map natP)=(Sm.side f b l).map natP:=by
 unfold qN7 Sm.side
 rw [List.filter_map]
 congr 1
 apply zr
 intro p _
 show(decide (kvN (nat p.1)/2^f%2=0)==b)=_
 rw [qVJ]
noncomputable def ndN:Nat→List PN→List Nat
 |_,[]=> [0]
 |_,[p]=>1::SN.tagN 9 [p.1,p.2]
 |0,_=> []
 |f+1,l=>joinN (ndN f (qN7 f true l)) (ndN f (qN7 f false l))
theorem qWy(f:Nat)(p q:PN)(r:List PN):ndN (f+1) (p::q::r)=joinN (ndN f (qN7 f true (p::q::r))) (ndN f (qN7 f false (p::q::r))):=by
 rw [ndN]
 · intro h;cases h
 · intro x h;cases h
def small(l:List Sm.PR):Prop:= ∀p∈l,p.1.length≤1000∧p.2.length≤1000
theorem qTh: ∀(f:Nat) (l:List Sm.PR),(Sm.nd f l).length≤17
  |f,[]=>by rw [Sm.nd_nil];decide
  |f,[p]=>by rw [Sm.nd_one];unfold Sb.leafN;rw [jD,Sha.tagged_length];decide
  |0,p::q::r=>jG _
  |f+1,p::q::r=>by
    rw [Sm.nd_two f (by simp)]
    unfold Sb.join
    have h1:=qTh f (Sm.side f true (p::q::r))
    have h2:=qTh f (Sm.side f false (p::q::r))
    split
    · exact h2
    · split
      · exact h1
      · rw [jD,Sha.tagged_length];decide
theorem ndN_eq: ∀(f:Nat) (l:List Sm.PR),small l→ndN f (l.map natP)=nat (Sm.nd f l)
 |f,[],_=>by rw [Sm.nd_nil];cases f<;>rfl
 |f,[p],h=>by
  have h1:=h p (.head _)
  have:=SN.tagN_eq 9 [p.1,p.2] (by simp only [ja,jx,jQ,jA,jD,jE];omega)
  rw [Sm.nd_one]
  have e:ndN f [natP p]=1::SN.tagN 9 [nat p.1,nat p.2]:=by cases f<;>rfl
  show ndN f [natP p]=_
  rw [e]
  show _=nat (1::Sha.tagged 9 [p.1,p.2])
  exact congrArg (List.cons 1) this
 |0,p::q::r,_=>rfl
 |f+1,p::q::r,h=>by
  have hs: ∀b,small (Sm.side f b (p::q::r)):=λb x hx=>h x (List.mem_filter.1 hx).1
  rw [Sm.nd_two f (by simp),jZ,jZ,qWy,←jZ,←jZ,qMZ,qMZ,ndN_eq f _ (hs true),ndN_eq f _ (hs false)]
  exact qT4 _ _ (jb (qTh _ _) (by decide)) (jb (qTh _ _) (by decide))
end Tn
end Go.Proofs.YtcgcjaflllmlpaaGreatDoor
namespace Go.Proofs.YtcgcjaflllmlpaaGreatDoor
open Go Go.Fw Go.Proofs.Tryz
set_option maxRecDepth 100000
set_option maxHeartbeats 1000000
structure Pr where
 k:List UInt8
 v:List UInt8
 deriving DecidableEq
def Pr.cells(x:Pr):List Value:= [Str (x.k),Str (x.v)]
def toP(p:Pr):Sm.PR:=(p.k,p.v)
abbrev ssM(l:List Sm.PR):MP:=l.map λp=>(p.1,Str p.2)
theorem qLy: ∀(l:List Sm.PR) (k:List UInt8),qKR (ssM l) k=(Sm.getP l k).map Str
 | [],_=>rfl
 |p::r,k=>by
  show(if p.1=k then some (Str p.2) else qKR (ssM r) k)=_
  rw [Sm.getP]
  by_cases h:p.1=k
  · rw [if_pos h,if_pos h];rfl
  · rw [if_neg h,if_neg h];exact qLy r k
theorem qP2: ∀(l:List Sm.PR) (k v:List UInt8),qMo (ssM l) k (Str v)=ssM (Sm.putP l k v)
 | [],_,_=>rfl
 |p::r,k,v=>by
  show(if p.1=k then(k,Str v)::ssM r else(p.1,Str p.2)::qMo (ssM r) k (Str v))=_
  rw [Sm.putP]
  by_cases h:p.1=k
  · rw [if_pos h,if_pos h];rfl
  · rw [if_neg h,if_neg h,qP2 r k v];rfl
theorem qRH(o:Option (List UInt8)):(o.map Str).getD (Str [])=Str (o.getD []):=by cases o<;>rfl
def qCU(m:Hp)(g:Nat)(l:List Sm.PR):Prop:= ∃gm,qAR m ⟨g,0,none⟩ [.map (some gm)]∧MapAt m gm (ssM l)
def qFg(m:Hp)(g:Nat)(l:List Sm.PR):Prop:= ∃gm mm,m=U [blk g [.map (some gm)] 212,mm]∧Dj (blk g [.map (some gm)] 212) mm∧MapS mm gm (ssM l)
theorem qCU.mono{m m':Hp}{g:Nat}{l:List Sm.PR}(h:qCU m g l)(hl:Le m m'):qCU m' g l:=by
 obtain ⟨gm,h1,h2⟩:=h
 exact⟨gm,h1.mono hl,h2.mono hl⟩
theorem qFg.at{m:Hp}{g:Nat}{l:List Sm.PR}(h:qFg m g l):qCU m g l:=by
 obtain ⟨gm,mm,rfl,hd,h2⟩:=h
 have hdd:Djs [blk g [.map (some gm)] 212,mm]:=qAZ.2 (by simpa using hd)
 exact⟨gm,qAR.blk0.mono (qEy hdd (.head _)),h2.at.mono (qEy hdd (.tail _ (.head _)))⟩
namespace Sha
end Sha
attribute [local irreducible] Sha.tagB
end Go.Proofs.YtcgcjaflllmlpaaGreatDoor
namespace Go.Proofs.YtcgcjaflllmlpaaGreatDoor
open Go Go.Fw Go.Proofs.Tryz
set_option maxRecDepth 100000
set_option maxHeartbeats 1000000
theorem ent151:qAD prog 151:=qAD.of func151 rfl (by kernel_rfl)
theorem gsome{s:List UInt8}{i:Nat}(h:i<s.length):s[i]?=some (s.getD i 0):=qAj 0 h
theorem qKp(F:Hp)(k:List UInt8)(hk:k.length≤1000000)(d:Nat)(hd:d≤1000000):Cz prog 151 [Str (k),I ((d:Nat):Int)] F (I ((Sm.bit k d:Nat):Int)):=by
 refine Ct.walk func151 rfl ntmps151 rfl (λw0 hw0=>?_)
 refine J.f λ_ j1=>J.b O<|J.c j1<|J.k λ_ j2=>J.f λ_ j3=>J.b O<|J.g (qAT O O O) O<|J.b O<|J.b9 (d:=7) O (λh7=>?_) (λh7=>?_)
 ·
  refine J.q 6 O<|J.c j3<|J.c4 ?_
  exact J.f λ_ j4=>J.b O<|J.c j4<|J.A<|J.V<|J.E hw0 O () (by unfold Sm.bit;rw [if_neg (by omega)];rfl) trivial [0] rfl (by decide)
 refine J.q 2 O<|J.G (qAt u9_ O O) O<|J.G ((qDO O O O (by first|omega|(have h8:=(UInt8.ofNat ((k.getD (d/8) 0).toNat/2^(7-d%8))).toNat_lt;omega))).nat (8*k.length) (by omega)) O<|J.G (qBA O O O) O<|J.b O<|J.c j3<|J.W O (λh13=>?_) (λh13=>?_)
 ·
  exact J.f λ_ j5=>J.b O<|J.c j5<|J.A<|J.V<|J.E hw0 O () (by unfold Sm.bit;rw [if_neg (by omega)];rfl) trivial [0] rfl (by decide)
 refine J.M j2<|J.k λ_ j6=>?_
 have hb8:((k.getD (d/8) 0).toNat/2^(7-d%8))<256:=zQ (zo _ _) (k.getD (d/8) 0).toNat_lt
 have hbe:(UInt8.ofNat ((k.getD (d/8) 0).toNat/2^(7-d%8))).toNat&&&1=Sm.bit k d:=by
  unfold Sm.bit
  rw [if_pos (by omega),UInt8.toNat_ofNat_of_lt' hb8,Nat.and_one_is_mod]
 exact J.H<|J.q 2 O<|J.g ((qHh O O O (by first|omega|(have h8:=(UInt8.ofNat ((k.getD (d/8) 0).toNat/2^(7-d%8))).toNat_lt;omega))).nat (d/8) (by omega)) O<|J.g (qBf u9_ O O O (gsome (by omega))) O<|J.b O<|J.g ((qM0 O O O (by first|omega|(have h8:=(UInt8.ofNat ((k.getD (d/8) 0).toNat/2^(7-d%8))).toNat_lt;omega))).nat (d%8) (by omega)) O<|J.g ((qA4 O O O (by omega)).nat (7-d%8) (by omega)) O<|J.g ((qLY O O O).as (v':=B8 (UInt8.ofNat ((k.getD (d/8) 0).toNat/2^(7-d%8)))) (by rw [jn (by omega)])) rfl<|J.g (qCj rfl rfl u5_ u3_) rfl<|J.g (qLe (a:=(UInt8.ofNat ((k.getD (d/8) 0).toNat/2^(7-d%8))).toNat) (b:=1) rfl rfl rfl (by first|omega|(have h8:=(UInt8.ofNat ((k.getD (d/8) 0).toNat/2^(7-d%8))).toNat_lt;omega))) rfl<|J.b rfl<|J.c j6<|J.A<|J.E hw0 rfl () (by rw [hbe]) trivial [0] rfl (by decide)
theorem qEw(F:Hp)(k:List UInt8)(hk:k.length≤1000000)(b:List UInt8)(hb:b.length≤1000000)(d:Int):Cz prog 92 [Str (k),Str (b),I (d)] F (.bool (Sm.belowB k b (min d.toNat 128))):=by
 refine Ct.walk func92 rfl ntmps92 rfl (λw0 hw0=>?_)
 refine J.f λ_ j1=>J.b O<|J.c j1<|J.k λ_ j2=>J.f λ_ j3=>J.b O<|J.g ((qHi O O O).nat (d.toNat) (by omega)) O<|J.g ((qFT O O O).nat (min d.toNat 128) (by omega)) O<|J.b O<|J.c j3<|J.O<|J.b4 (X:=Nat) (λζ=> [(0,Str (k)),(1,Str (b)),(10,I ((min d.toNat 128:Nat):Int)),(11,I ((ζ:Nat):Int))]) (λζ=> [F]) (λζ=>ζ≤min d.toNat 128∧ ∀j<ζ,Sm.bit k j=Sm.bit b j) (λζ=>min d.toNat 128-ζ) 0 (⟨jG _,λj h=>absurd h (zA j)⟩) ⟨O,O,O,O,trivial⟩ (λ_ h=>h) ?_
 rintro i ⟨hi,hs⟩ I0 hI0
 refine J.f λ_ j4=>J.g (qAT O O O) O<|J.c j4<|J.k λ_ j5=>J.W O (λh12=>?_) (λh12=>?_)
 ·
  refine J.M j5<|J.k λ_ j6=>J.O<|J.f λ_ j7=>J.q 2 O<|J.c j7<|J.f λ_ j8=>J.q 2 O<|J.p (qAB O O ent151 (Ct.use0 (λF' hF=>qKp F' k (by first|omega|exact hsm _) i (by omega)))) O λg16 _=>J.q 2 O<|J.p (qAB O O ent151 (Ct.use0 (λF' hF=>qKp F' b (by first|omega|exact hsm _) i (by omega)))) O λg19 _=>J.g (qAe O O O) O<|J.c j8<|J.W O (λh20=>?_) (λh20=>?_)
  ·
   exact J.f λ_ j9=>J.b O<|J.c j9<|J.A<|J.a7<|J.V<|J.V<|J.a7<|J.V<|J.E hw0 O () (by rw [Sm.belowB_no (i:=i) (by omega) (by omega)]) trivial [0] rfl (by decide)
  refine J.b5<|J.a2<|J.u (J.D j6 ?_)
  exact J.H<|J.g ((qAS O O O (by omega)).nat (i+1) (by omega)) O<|J.b O<|J.a3<|J.u<|J.a4 (i+1) (λη (hη:_∧min d.toNat 128-η<min d.toNat 128-i)=>hI0 η hη.1 hη.2) ⟨⟨by omega,λj hj=>by rcases Nat.lt_succ_iff_lt_or_eq.1 hj with h|rfl;exact hs j h;omega⟩,by first|omega|(dsimp only;omega)⟩ ⟨rfl,rfl,rfl,rfl,trivial⟩ (λ_ h=>h)
 refine J.b2<|J.a0<|J.a0<|J.b3 ?_
 refine J.u (J.D j2 ?_)
 exact J.f λ_ j10=>J.b O<|J.c j10<|J.A<|J.E hw0 O () (by rw [Sm.belowB_yes (λj hj=>hs j (by omega))]) trivial [0] rfl (by decide)
theorem qVh(F:Hp):Ct prog 54 [] [F] (λx:Nat×Hp=>Ptr x.1) (λx=>qFg x.2 x.1 ([])) (λx=> [x.2,F]):=by
 refine Ct.walk func54 rfl ntmps54 rfl (λw0 hw0=>?_)
 refine J.f λ_ j1=>J.b O<|J.c j1<|J.f λ_ j2=>J.p (qD0 O) O ?_
 rintro g1 _
 exact J.g (qAK (places:= [(0,1)]) (r:= [.map (some g1)]) O O O qLI zeroValue212 (λ_=>by kernel_rfl) O) O<|J.p (qAd O O O) O λg3 _=>J.b O<|J.c j2<|J.A<|J.a9 hw0 (λ_ _ h=>h) (qJv O O) (qCL (g3,U [blk g3 [.map (some g1)] 212,qAP g1 (.map #[] 0)]) (O) (λhd=>⟨g1,qAP g1 (.map #[] 0),O,hd,(MapS.nil g1)⟩) [2,1,0] O O (by decide))
theorem qVk(F:Hp)(g:Nat)(l:List Sm.PR)(hT:qCU F g l)(k:List UInt8):Cz prog 95 [Ptr g,Str (k)] F (.tuple #[Str ((Sm.getP l k).getD []),.bool ((Sm.getP l k).isSome)]):=by
 have hT0:=hT
 obtain ⟨gm,hc,hm⟩:=hT0
 refine Ct.walk func95 rfl ntmps95 rfl (λw0 hw0=>?_)
 refine J.f λ_ j1=>J.q 2 O<|J.c j1<|J.k λ_ j2=>J.f λ_ j3=>J.b O<|J.g ((qA6 qLK O O O).as (v':= .bool false) O) O<|J.c j3<|J.a1 ?_
 exact J.M j2<|J.f λ_ j4=>J.b O<|J.g (qAC O O) O<|J.T 0 qLI sizeOf210 O O O O O<|J.g (qAJ O O isAgg210 (m:=F) (by simp) (hc)) rfl<|J.b rfl<|J.g ((qOR rfl rfl rfl qPS u9_ e9_ (m:=F) (by simp) hm).as (v':= .tuple #[Str ((Sm.getP l k).getD []),.bool ((Sm.getP l k).isSome)]) (by rw [qLy,qRH,Option.isSome_map])) rfl<|J.q 5 rfl<|J.c j4<|J.f λ_ j5=>J.q 4 rfl<|J.c j5<|J.A<|J.a9 hw0 (λ_ _ h=>h) (qCG rfl rfl rfl) (qAq () rfl trivial [0] rfl (by decide))
theorem qPV(F m:Hp)(g:Nat)(l:List Sm.PR)(hb:qFg m g l)(k v:List UInt8)(hk:k.length=16):Ct prog 118 [Ptr g,Str (k),Str (v)] [m,F] (λ_:Hp=>I ((0:Nat):Int)) (λm'=>qFg m' g (Sm.putP l k v)) (λm'=> [m',F]):=by
 obtain ⟨gm,mm,rfl,hd,hmp⟩:=hb
 refine Ct.walk func118 rfl ntmps118 rfl (λw0 hw0=>?_)
 refine J.e6 hd ?_
 refine J.f λ_ j1=>J.b O<|J.c j1<|J.k λ_ j2=>J.O<|J.f λ_ j3=>J.b O<|J.g (qA6 qLK O O O) O<|J.b O<|J.c j3<|J.a1 ?_
 refine J.f λ_ j4=>J.b O<|J.g (qAt u9_ O O) O<|J.g ((qAe O O O).no (by omega)) O<|J.b O<|J.c j4<|J.a1 ?_
 refine J.b5<|J.a2<|J.u (J.D j2 ?_)
 refine J.f λ_ j5=>J.b O<|J.g (qAC O O) O<|J.T 0 qLI sizeOf210 O O O O O<|J.a5 0 isAgg210 O O O O O<|J.q 2 O<|J.a6 (qCh (i:=1) O O O O qPS u9_ O hmp) O O ?_
 rintro m5_1 hm5_1
 rw [qP2] at hm5_1
 exact J.c j5<|J.f λ_ j6=>J.b O<|J.c j6<|J.A<|J.a9 hw0 (λ_ _ h=>h) (qJv O O) (qCL (U [blk g [.map (some gm)] 212,m5_1]) (O) (λhd=>⟨gm,m5_1,O,hd,hm5_1⟩) [0,1,2] O O (by decide))
end Go.Proofs.YtcgcjaflllmlpaaGreatDoor
