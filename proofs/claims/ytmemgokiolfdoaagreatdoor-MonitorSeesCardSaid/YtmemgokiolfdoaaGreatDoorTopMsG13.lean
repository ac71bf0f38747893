/- A part of the proof. -/
import Derived.Test.YtmemgokiolfdoaaGreatDoorTopMsG10
import Derived.Test.YtmemgokiolfdoaaGreatDoorTopMsG12
set_option maxRecDepth 100000
set_option maxHeartbeats 1000000
set_option linter.unusedSimpArgs false
set_option linter.unusedVariables false
namespace Go.Proofs.YtmemgokiolfdoaaGreatDoor
open Go Go.Fw Go.Proofs.Tryz
namespace Sb
def isLf(s:xA):Prop:=s≠ []∧s.take 1= [1]
instance (s:xA):Decidable (isLf s):=by unfold isLf;infer_instance
def join(a b:xA):xA:=if a= [0]∧(b= [0]∨isLf b) then b else if b= [0]∧isLf a then a else 2::Sha.tagged 10 [a,b]
def leafN(k v:xA):xA:=1::Sha.tagged 9 [k,v]
def lvl(l:List xA):List xA:=(List.range (l.length/2)).map λk=>join (l.getD (2*k) []) (l.getD (2*k+1) [])
def lvls(l:List xA):Nat→List xA
 |0=>l
 |j+1=>lvl (lvls l j)
def root(l:List xA)(d:Nat):xA:=(lvls l d).getD 0 []
theorem lvl_length(l:List xA):(lvl l).length=l.length/2:=by simp [lvl]
theorem lvls_zero(l:List xA):lvls l 0=l:=rfl
theorem lvls_succ(l:List xA)(j:Nat):lvls l (j+1)=lvl (lvls l j):=rfl
theorem lvls_length{l:List xA}{d:Nat}(h:l.length=2^d): ∀j,j≤d→(lvls l j).length=2^(d-j)
 |0,_=>h
 |j+1,hj=>by
  rw [lvls_succ,lvl_length,lvls_length h j xB,show d-j=(d-(j+1))+1 by omega,jw,Nat.mul_div_cancel _ xC]
theorem qO9{a b:xA}(ha:a.length≤1048576)(hb:b.length≤1048576):(join a b).length≤1048576:=by
  unfold join
  split
  · exact hb
  · split
    · exact ha
    · rw [jD,Sha.tagged_length];decide
theorem getD_small{l:List xA}(h: ∀s∈l,s.length≤1048576)(k:Nat):(l.getD k []).length≤1048576:=by
 by_cases hk:k<l.length
 · rw [jB,jC hk];exact h _ (jQ _)
 · rw [jB,jd xB];decide
theorem lvls_small{l:List xA}(h: ∀s∈l,s.length≤1048576): ∀j,∀s∈lvls l j,s.length≤1048576
 |0=>h
 |j+1=>λs hs=>by
  rw [lvls_succ] at hs
  unfold lvl at hs
  obtain ⟨k,_,rfl⟩:=List.mem_map.1 hs
  exact qO9 (getD_small (lvls_small h j) _) (getD_small (lvls_small h j) _)
theorem lvl_take{l:List xA}{k:Nat}(h:k<l.length/2):(lvl l).take (k+1)=(lvl l).take k++ [join (l.getD (2*k) []) (l.getD (2*k+1) [])]:=by
 rw [jK (by rw [lvl_length];exact h)]
 simp [lvl]
end Sb
def cnt(d:Int):Nat:=if d<0∨4<d then 0 else 2^d.toNat
theorem qGX{d:Int}:cnt d=0↔(d<0∨4<d):=by
  unfold cnt
  split
  · exact⟨λ_=>by assumption,λ_=>rfl⟩
  · rename_i h
    exact⟨λe=>absurd e (Nat.ne_of_gt (zA _)),λe=>absurd e h⟩
theorem qWB(d:Int):cnt d≤16:=by
 unfold cnt
 split
 · omega
 · exact jg (jn xC (show d.toNat≤4 by omega)) xC
theorem qYI{d:Int}(h:cnt d≠0):cnt d=2^d.toNat:=by
 unfold cnt at h⊢
 split
 · rename_i h1;rw [if_pos h1] at h;exact absurd O h
 · rfl
def qLU(l:List xA)(d:Int):Int:=if cnt d=0 then 1 else if l.length≠cnt d then 22 else 0
def qCW(l:List xA)(d:Int):xA:=if qLU l d=0 then Sb.root l d.toNat else []
theorem qOt{P:Program}{env:Env}{rs:List Hp}{o:Oper}{t e x p q r sz A n' c l h m}(ho:o.op= .slice t x (some p) (some q) (some r))(hx:ev env x=some (.slice A n' c))(hu:P.underlying t=some (.slice e))(hz: ∀w,(sizeOf e).run P w= .ok sz w)
    (hlo:ev env p=some (I (l:Nat))) (hhi:ev env q=some (I (h:Nat))) (hmx:ev env r=some (I (m:Nat))) (hr:l≤h∧h≤m∧m≤c):YOp P env rs o (.slice (if m=l then A else A.map (·.add (l*sz))) (h-l) (m-l)):=λn a w hk _=>by
  simp [execOp,ho,hk.ev hx,hk.ev hlo,hk.ev hhi,hk.ev hmx,Instr.sliceAt,Instr.slice,run_underlying hu,Instr.sliceBounds,Instr.sliceBound,asIntOf,hr.1,hr.2.1,hr.2.2,hz]
attribute [local irreducible] Sha.tagged Sb.join Sb.lvl Sb.lvls Sb.root
theorem qI1(F:Hp)(s:xA):Cz prog 247 [Str s] F (.bool (decide (Sb.isLf s))):=by
 refine Ct.walk func247 O ntmps247 O (λw0 hw0=>?_)
 refine J.f λ_ j1=>J.b O<|J.c j1<|J.f λ_ j2=>J.b O<|J.g (qDH O O O) O<|J.b O<|J.b9 (d:=5) O (λh5=>?_) (λh5=>?_)
 ·
  exact J.b O<|J.G ((qA9 (l:=0) (h:=1) u9_ O O O O ⟨xB,by have:s.length≠0:=λe=>h5 (jT e);omega⟩).as (congrArg Str ze)) O<|J.G (qBY O O O) O<|J.p 2 O<|J.c j2<|J.A<|J.E hw0 O () (congrArg Value.bool (decide_eq_decide.2 ⟨λh=>⟨h5,h⟩,λh=>h.2⟩)) trivial [0] O xC
 exact J.p 5 O<|J.c j2<|J.A<|J.E hw0 O () (congrArg Value.bool (decide_eq_false (λh=>h5 h.1)).symm) trivial [0] O xC
theorem qNC(F:Hp)(hK:qAG F ⟨3,0,none⟩ (Sha.K.map W32))(k v:xA)(hk:k.length≤1048576)(hv:v.length≤1048576):Cz prog 146 [Str k,Str v] F (Str (Sb.leafN k v)):=by
 refine Ct.walk func146 O ntmps146 O (λw0 hw0=>?_)
 exact J.f λ_ j1=>J.b O<|J.c j1<|J.f λ_ j2=>J.p 2 O<|J.q (qAE (l:= [.tmp 5,.tmp 6]) (xs:= [[Str (k)],[Str (v)]]) O O O O qAn el9 O xC xC xD) O λg7 _=>J.q (qAZ O O (λF' hF=>qA3 F' (hK.mono (Fa hF)) 9 (some ⟨g7,0,none⟩) 2 2 [k,v] ((slS [k,v] O).mono (hF (blk g7 (([k,v]:List xA).map λs=>Str s) 9) xD)) xJ xC)) O λg8 _=>J.g ((qBe O O O (by simp only [jA,Sha.tagged_length];decide))) O<|J.b O<|J.c j2<|J.A<|J.E hw0 O () O trivial [0] O xC
theorem qGK(F:Hp)(hK:qAG F ⟨3,0,none⟩ (Sha.K.map W32))(a b:xA)(ha:a.length≤1048576)(hb:b.length≤1048576):Cz prog 188 [Str a,Str b] F (Str (Sb.join a b)):=by
 refine Ct.walk func188 O ntmps188 O (λw0 hw0=>?_)
 refine J.f λ_ j1=>J.b O<|J.c j1<|J.k λ_ j2=>J.T<|J.f λ_ j3=>J.b O<|J.g (qBY O O O) O<|J.b O<|J.b9 (d:=8) O (λh8=>?_) (λh8=>?_)
 ·
  refine J.b O<|J.G (qBY O O O) O<|J.b O<|J.b9 (d:=11) O (λh11=>?_) (λh11=>?_)
  ·
   refine J.p 5 O<|J.c j3<|J.c3 ?_
   exact J.f λ_ j4=>J.p 2 O<|J.c j4<|J.A<|J.a5<|J.V<|J.E hw0 O () (congrArg Str (by unfold Sb.join;rw [if_pos ⟨h8,.inl h11⟩])) trivial [0] O xC
  refine J.b O<|J.d0 (qAZ O O (λF' hF=>qI1 F' b)) O λg13 _=>J.p 3 O<|J.c j3<|J.Z O (λh5=>?_) (λh5=>?_)
  ·
   exact J.f λ_ j5=>J.p 2 O<|J.c j5<|J.A<|J.a5<|J.V<|J.E hw0 O () (congrArg Str (by unfold Sb.join;rw [if_pos ⟨h8,.inr h5⟩])) trivial [0] O xC
  refine J.f λ_ j6=>J.b O<|J.g (qBY O O O) O<|J.b O<|J.b9 (d:=20) O (λh20=>?_) (λh20=>?_)
  ·
   refine J.b O<|J.d0 (qAZ O O (λF' hF=>qI1 F' a)) O λg22 _=>J.p 2 O<|J.c j6<|J.Z O (λh17=>?_) (λh17=>?_)
   ·
    exact J.f λ_ j7=>J.p 2 O<|J.c j7<|J.A<|J.a5<|J.V<|J.E hw0 O () (absurd h20 h11) trivial [0] O xC
   refine J.b2<|J.a2<|J.u (J.D j2 ?_)
   exact J.f λ_ j8=>J.p 2 O<|J.q (qAE (l:= [.tmp 25,.tmp 26]) (xs:= [[Str (a)],[Str (b)]]) O O O O qAn el9 O xC xC xD) O λg27 _=>J.q (qAZ O O (λF' hF=>qA3 F' (hK.mono (Fa hF)) 10 (some ⟨g27,0,none⟩) 2 2 [a,b] ((slS [a,b] O).mono (hF (blk g27 (([a,b]:List xA).map λs=>Str s) 9) xD)) xJ xC)) O λg28 _=>J.g ((qBe O O O (by simp only [jA,Sha.tagged_length];decide))) O<|J.b O<|J.c j8<|J.A<|J.E hw0 O () (absurd h20 h11) trivial [0] O xC
  refine J.p 4 O<|J.c j6<|J.a3 ?_
  refine J.b2<|J.a2<|J.u (J.D j2 ?_)
  exact J.f λ_ j9=>J.p 2 O<|J.q (qAE (l:= [.tmp 25,.tmp 26]) (xs:= [[Str (a)],[Str (b)]]) O O O O qAn el9 O xC xC xD) O λg27 _=>J.q (qAZ O O (λF' hF=>qA3 F' (hK.mono (Fa hF)) 10 (some ⟨g27,0,none⟩) 2 2 [a,b] ((slS [a,b] O).mono (hF (blk g27 (([a,b]:List xA).map λs=>Str s) 9) xD)) xJ xC)) O λg28 _=>J.g ((qBe O O O (by simp only [jA,Sha.tagged_length];decide))) O<|J.b O<|J.c j9<|J.A<|J.E hw0 O () (congrArg Str (by unfold Sb.join;rw [if_neg (λh=>h.2.elim h11 h5),if_neg (λh=>h20 h.1)];rfl)) trivial [0] O xC
 refine J.p 3 O<|J.c9 (Wan.un O O O O) O O ?_
 refine J.c9 (Wan.un O O O O) O O ?_
 refine J.p 3 O<|J.c j3<|J.a3 ?_
 refine J.f λ_ j10=>J.b O<|J.g (qBY O O O) O<|J.b O<|J.b9 (d:=20) O (λh20=>?_) (λh20=>?_)
 ·
  refine J.b O<|J.d0 (qAZ O O (λF' hF=>qI1 F' a)) O λg22 _=>J.p 2 O<|J.c j10<|J.Z O (λh17=>?_) (λh17=>?_)
  ·
   exact J.f λ_ j11=>J.p 2 O<|J.c j11<|J.A<|J.a5<|J.V<|J.E hw0 O () (congrArg Str (by unfold Sb.join;rw [if_neg (λh=>h8 h.1),if_pos ⟨h20,h17⟩])) trivial [0] O xC
  refine J.b2<|J.a2<|J.u (J.D j2 ?_)
  exact J.f λ_ j12=>J.p 2 O<|J.q (qAE (l:= [.tmp 25,.tmp 26]) (xs:= [[Str (a)],[Str (b)]]) O O O O qAn el9 O xC xC xD) O λg27 _=>J.q (qAZ O O (λF' hF=>qA3 F' (hK.mono (Fa hF)) 10 (some ⟨g27,0,none⟩) 2 2 [a,b] ((slS [a,b] O).mono (hF (blk g27 (([a,b]:List xA).map λs=>Str s) 9) xD)) xJ xC)) O λg28 _=>J.g ((qBe O O O (by simp only [jA,Sha.tagged_length];decide))) O<|J.b O<|J.c j12<|J.A<|J.E hw0 O () (congrArg Str (by unfold Sb.join;rw [if_neg (λh=>h8 h.1),if_neg (λh=>h17 h.2)];rfl)) trivial [0] O xC
 refine J.p 4 O<|J.c j10<|J.a3 ?_
 refine J.b2<|J.a2<|J.u (J.D j2 ?_)
 exact J.f λ_ j13=>J.p 2 O<|J.q (qAE (l:= [.tmp 25,.tmp 26]) (xs:= [[Str (a)],[Str (b)]]) O O O O qAn el9 O xC xC xD) O λg27 _=>J.q (qAZ O O (λF' hF=>qA3 F' (hK.mono (Fa hF)) 10 (some ⟨g27,0,none⟩) 2 2 [a,b] ((slS [a,b] O).mono (hF (blk g27 (([a,b]:List xA).map λs=>Str s) 9) xD)) xJ xC)) O λg28 _=>J.g ((qBe O O O (by simp only [jA,Sha.tagged_length];decide))) O<|J.b O<|J.c j13<|J.A<|J.E hw0 O () (congrArg Str (by unfold Sb.join;rw [if_neg (λh=>h8 h.1),if_neg (λh=>h20 h.1)];rfl)) trivial [0] O xC
end Go.Proofs.YtmemgokiolfdoaaGreatDoor
namespace Go.Proofs.YtmemgokiolfdoaaGreatDoor
open Go Go.Fw Go.Proofs.Tryz
namespace Sm
def kv:xA→Nat
 | []=>0
 |b::r=>b.toNat*256^r.length+kv r
theorem kv_lt: ∀k:xA,kv k<256^k.length
 | []=>Nat.one_pos
 |b::r=>by
  have h1:=kv_lt r
  have h2:=b.toNat_lt
  have h3:b.toNat*256^r.length≤255*256^r.length:=zR _ xB
  rw [kv,jD,jw]
  omega
theorem qV1: ∀{a b:xA},a.length=b.length→kv a=kv b→a=b
 | [],[],_,_=>rfl
 | [],_::_,h,_=>by simp at h
 |_::_,[],h,_=>by simp at h
 |x::a,y::b,h,e=>by
  have hl:a.length=b.length:=by simpa using h
  rw [kv,kv,hl] at e
  have h1:=kv_lt a
  have h2:=kv_lt b
  rw [hl] at h1
  have hp:0<256^b.length:=Nat.pow_pos xC
  have e1:x.toNat=y.toNat:=by
   have:=congrArg (· /256^b.length) e
   simp only [z7 _ (256^b.length),Nat.mul_add_div hp,zJ h1,zJ h2,zb] at this
   exact this
  have e2:kv a=kv b:=by rw [e1] at e;omega
  rw [UInt8.toNat_inj.1 e1,qV1 hl e2]
theorem qNq: ∀{a b:xA},a.length=b.length→a<b→kv a<kv b
  | [],[],_,h=>absurd h (List.lt_irrefl _)
  | [],_::_,h,_=>by simp at h
  |_::_,[],h,_=>by simp at h
  |x::a,y::b,h,e=>by
    have hl:a.length=b.length:=by simpa using h
    have h1:=kv_lt a
    have h2:=kv_lt b
    rw [hl] at h1
    rw [kv,kv,hl]
    rcases List.cons_lt_cons_iff.1 e with h5|⟨h4,h5⟩
    · have:x.toNat+1≤y.toNat:=UInt8.lt_iff_toNat_lt.1 h5
      have h3:=zR (256^b.length) this
      rw [zn] at h3
      omega
    · have:=qNq hl h5;rw [h4];omega
theorem qV2: ∀{k:xA} {q:Nat},q<k.length→(k.getD q 0).toNat=kv k/256^(k.length-1-q)%256
 | [],_,h=>by simp at h
 |b::r,0,_=>by
  have h1:=kv_lt r
  have hp:0<256^r.length:=Nat.pow_pos xC
  have h2:=b.toNat_lt
  rw [kv,jD,yL,zr,z7,Nat.mul_add_div hp,zJ h1,zb,je xB]
  rfl
 |b::r,q+1,h=>by
  have h':q<r.length:=by simpa using h
  rw [zi,qV2 h',kv,jD]
  obtain ⟨m,hm⟩: ∃m,r.length=m+1+q:=⟨r.length-1-q,xB⟩
  rw [show r.length+1-1-(q+1)=m by omega,show r.length-1-q=m by omega,hm,show m+1+q=m+(q+1) by omega,Nat.pow_add,show b.toNat*(256^m*256^(q+1))=256^m*(b.toNat*256^q*256) by rw [jw,Nat.mul_left_comm,Nat.mul_assoc],
   Nat.mul_add_div (Nat.pow_pos xC),Nat.add_mod,Nat.mul_mod_left,jj,Nat.mod_mod]
def bit(k:xA)(d:Nat):Nat:=if d<8*k.length then(k.getD (d/8) 0).toNat/2^(7-d%8)%2 else 0
theorem bit_le(k:xA)(d:Nat):bit k d<2:=by unfold bit;split<;>omega
theorem qMS(x j:Nat)(h:j≤7):x%256/2^j%2=x/2^j%2:=by
 have h0:j=0∨j=1∨j=2∨j=3∨j=4∨j=5∨j=6∨j=7:=xB
 rcases h0 with rfl|rfl|rfl|rfl|rfl|rfl|rfl|rfl<;>simp only [Nat.reducePow]<;>omega
theorem bit_kv{k:xA}(h:k.length=16){d:Nat}(hd:d<128):bit k d=kv k/2^(127-d)%2:=by
 unfold bit
 rw [if_pos xB,qV2 xB,h,qMS _ _ xB,zz,show(256:Nat)=2^8 from rfl,←Nat.pow_mul,←Nat.pow_add,show 8*(16-1-d/8)+(7-d%8)=127-d by omega]
theorem pre_succ(x f:Nat):x/2^f=2*(x/2^(f+1))+x/2^f%2:=by
 rw [jw,←zz];omega
abbrev PR:=xA×xA
def side(f:Nat)(b:Bool)(l:List PR):List PR:=l.filter λp=>decide (kv p.1/2^f%2=0)==b
def nd:Nat→List PR→xA
 |_,[]=> [0]
 |_,[p]=>Sb.leafN p.1 p.2
 |0,_=> []
 |f+1,l=>Sb.join (nd f (side f true l)) (nd f (side f false l))
theorem nd_nil(f:Nat):nd f []= [0]:=by cases f<;>rfl
theorem nd_one(f:Nat)(p:PR):nd f [p]=Sb.leafN p.1 p.2:=by cases f<;>rfl
theorem nd_two(f:Nat){l:List PR}(h:2≤l.length):nd (f+1) l=Sb.join (nd f (side f true l)) (nd f (side f false l)):=by
 match l,h with
 |a::b::r,_=>rfl
def WF(f:Nat)(l:List PR):Prop:=l.Pairwise (λp q=>p.1≠q.1)∧(∀p∈l,p.1.length=16)∧ ∀p∈l,∀q∈l,kv p.1/2^f=kv q.1/2^f
theorem WF.side{f:Nat}{l:List PR}(h:WF (f+1) l)(b:Bool):WF f (side f b l):=by
 refine⟨h.1.sublist List.filter_sublist,λp hp=>h.2.1 p (List.mem_filter.1 hp).1,λp hp q hq=>?_⟩
 obtain ⟨h1,h2⟩:=List.mem_filter.1 hp
 obtain ⟨h3,h4⟩:=List.mem_filter.1 hq
 have h5:=h.2.2 p h1 q h3
 rw [beq_iff_eq] at h2 h4
 have e1:=pre_succ (kv p.1) f
 have e2:=pre_succ (kv q.1) f
 have e3:kv p.1/2^f%2=kv q.1/2^f%2:=by
  have h6:decide (kv p.1/2^f%2=0)=decide (kv q.1/2^f%2=0):=h2.trans h4.symm
  have h7:=decide_eq_decide.1 h6
  omega
 omega
theorem WF.short{l:List PR}(h:WF 0 l):l.length≤1:=by
 match l,h with
 | [],_=>exact jE _
 | [_],_=>exact jJ _
 |a::b::r,h=>
  exfalso
  have h1:=h.2.2 a (.head _) b (.tail _ (.head _))
  rw [Nat.pow_zero,Nat.div_one,Nat.div_one] at h1
  exact(List.pairwise_cons.1 h.1).1 b (.head _) (qV1 ((h.2.1 a (.head _)).trans (h.2.1 b (.tail _ (.head _))).symm) h1)
theorem WF.top{l:List PR}(h1:l.Pairwise (λp q=>p.1≠q.1))(h2: ∀p∈l,p.1.length=16):WF 128 l:=
 ⟨h1,h2,λp hp q hq=>by
  have e1:=kv_lt p.1
  have e2:=kv_lt q.1
  rw [h2 p hp] at e1
  rw [h2 q hq] at e2
  rw [zJ (yM e1 xC),zJ (yM e2 xC)]⟩
theorem WF.perm{f:Nat}{l l':List PR}(h:WF f l)(hp:l.Perm l'):WF f l':=
 ⟨(hp.pairwise_iff (λh=>h.symm)).1 h.1,λp q=>h.2.1 p (hp.mem_iff.2 q),λp hp1 q hq1=>h.2.2 p (hp.mem_iff.2 hp1) q (hp.mem_iff.2 hq1)⟩
theorem side_len(f:Nat)(l:List PR):(side f true l).length+(side f false l).length=l.length:=by
 induction l with
 |nil=>rfl
 |cons p r ih=>
  unfold side at ih⊢
  rw [jl,jl]
  rcases h:decide (kv p.1/2^f%2=0) with _|_
  · rw [if_neg xC,if_pos xC,jD,jD];omega
  · rw [if_pos xC,if_neg xC,jD,jD];omega
theorem nd_perm: ∀(f:Nat) {l l':List PR},WF f l→l.Perm l'→nd f l=nd f l'
 |f,[],l',_,hp=>by rw [hp.nil_eq]
 |f,[p],l',_,hp=>by rw [List.singleton_perm.1 hp]
 |0,a::b::r,l',h,hp=>by have:=h.short;simp at this
 |f+1,a::b::r,l',h,hp=>by
  have hl:=hp.length_eq
  rw [nd_two f xD,nd_two f (by rw [←hl];simp),nd_perm f (h.side true) (hp.filter _),nd_perm f (h.side false) (hp.filter _)];rfl
theorem qNn(k v:xA):Sb.isLf (Sb.leafN k v):=⟨by simp [Sb.leafN],by simp [Sb.leafN]⟩
theorem qNm(k v:xA):Sb.leafN k v≠ [0]:=λh=>by
 have:=(qNn k v).2
 rw [h] at this;cases this
theorem qXw{a b:xA}(h:a≠ [0]∨b≠ [0]):Sb.join a b≠ [0]:=by
  unfold Sb.join
  split
  · rename_i h1
    rcases h with h|h
    · exact absurd h1.1 h
    · exact h
  · split
    · rename_i h1
      rcases h with h|h
      · exact h
      · exact absurd h1.1 h
    · intro e;injection e with e _;cases e
theorem qXk: ∀(f:Nat) {l:List PR},WF f l→l≠ []→nd f l≠ [0]
  |f,[],_,h=>absurd rfl h
  |f,[p],_,_=>by rw [nd_one];exact qNm _ _
  |0,a::b::r,h,_=>by have:=h.short;simp at this
  |f+1,a::b::r,h,_=>by
    rw [nd_two f xD]
    refine qXw ?_
    have hl:=side_len f (a::b::r)
    simp only [jD] at hl
    by_cases h1:side f true (a::b::r)= []
    · refine .inr (qXk f (h.side false) λh2=>?_)
      rw [h1,h2] at hl;simp at hl
    · exact .inl (qXk f (h.side true) h1)
theorem nd_eq0{f:Nat}{l:List PR}(h:WF f l):nd f l= [0]↔l= []:=
 ⟨λe=>Decidable.by_contra λhn=>qXk f h hn e,λe=>by rw [e,nd_nil]⟩
theorem nd_small: ∀(f:Nat) (l:List PR),(nd f l).length≤17
  |f,[]=>by rw [nd_nil];decide
  |f,[p]=>by rw [nd_one];unfold Sb.leafN;rw [jD,Sha.tagged_length];decide
  |0,a::b::r=>jE _
  |f+1,a::b::r=>by
    rw [nd_two f xD]
    unfold Sb.join
    split
    · exact nd_small f _
    · split
      · exact nd_small f _
      · rw [jD,Sha.tagged_length];decide
def Up(l:List PR):Prop:=l.Pairwise (λp q=>kv p.1<kv q.1)
theorem Up.sub{l l':List PR}(h:Up l)(hs:l'.Sublist l):Up l':=h.sublist hs
theorem up_bits{f:Nat}{l:List PR}(h:WF (f+1) l)(hu:Up l){k:Nat}(hk: ∀j (hj:j<l.length),j<k→kv l[j].1/2^f%2=0)(hn: ∀(hj:k<l.length),kv l[k].1/2^f%2≠0):l.take k=side f true l∧l.drop k=side f false l:=by
  have h1: ∀p∈l.take k,kv p.1/2^f%2=0:=λp hp=>by
    obtain ⟨j,hj,rfl⟩:=zL hp
    rw [jF] at hj
    rw [List.getElem_take]
    exact hk j xB xB
  have h2: ∀p∈l.drop k,kv p.1/2^f%2≠0:=λp hp=>by
    obtain ⟨j,hj,rfl⟩:=zL hp
    rw [jI] at hj
    rw [List.getElem_drop]
    have hkl:k<l.length:=xB
    have hb:=hn hkl
    rcases yN j with rfl|hj0
    · exact hb
    · have hlt:kv l[k].1<kv l[k+j].1:=List.pairwise_iff_getElem.1 hu k (k+j) hkl xB xB
      have e:=h.2.2 _ (jQ hkl) _ (jQ (show k+j<l.length by omega))
      have e1:=pre_succ (kv l[k].1) f
      have e2:=pre_succ (kv l[k+j].1) f
      have e3:=Nat.div_le_div_right (c:=2^f) (Nat.le_of_lt hlt)
      omega
  have h3:side f true l=side f true (l.take k)++side f true (l.drop k):=by unfold side;rw [←jo,zY]
  have h4:side f false l=side f false (l.take k)++side f false (l.drop k):=by unfold side;rw [←jo,zY]
  constructor
  · rw [h3,show side f true (l.take k)=l.take k from List.filter_eq_self.2 λp hp=>by rw [decide_eq_true (h1 p hp)];rfl,show side f true (l.drop k)= [] from List.filter_eq_nil_iff.2 λp hp=>by rw [decide_eq_false (h2 p hp)];simp,jR]
  · rw [h4,show side f false (l.take k)= [] from List.filter_eq_nil_iff.2 λp hp=>by rw [decide_eq_true (h1 p hp)];simp,show side f false (l.drop k)=l.drop k from List.filter_eq_self.2 λp hp=>by rw [decide_eq_false (h2 p hp)];rfl,jr]
def putP:List PR→xA→xA→List PR
 | [],k,v=> [(k,v)]
 |p::r,k,v=>if p.1=k then(k,v)::r else p::putP r k v
def getP:List PR→xA→Option xA
 | [],_=>none
 |p::r,k=>if p.1=k then some p.2 else getP r k
def setP(l:List PR)(k v:xA):List PR:=l.filter (λp=>decide (p.1≠k))++ [(k,v)]
def Once(l:List PR):Prop:=l.Pairwise (λp q=>p.1≠q.1)
theorem Once.perm{l l':List PR}(h:Once l)(hp:l.Perm l'):Once l':=(hp.pairwise_iff (λh=>h.symm)).1 h
theorem qR5{l:List PR}{k:xA}(h: ∀p∈l,p.1≠k):l.filter (λp=>decide (p.1≠k))=l:=List.filter_eq_self.2 λp hp=>decide_eq_true (h p hp)
theorem putP_perm: ∀{l:List PR} (k v:xA),Once l→(putP l k v).Perm (setP l k v)
  | [],k,v,_=>List.Perm.refl _
  |p::r,k,v,h=>by
    obtain ⟨h1,h2⟩:=List.pairwise_cons.1 h
    unfold putP setP
    by_cases e:p.1=k
    · rw [if_pos e,jl,if_neg (by simp [e]),qR5 (λq hq e2=>h1 q hq (e.trans e2.symm))]
      exact(ju _ _).symm
    · rw [if_neg e,jl,if_pos (by simp [e]),zy]
      exact(putP_perm k v h2).cons p
theorem setP_perm{l l':List PR}(k v:xA)(h:l.Perm l'):(setP l k v).Perm (setP l' k v):=(h.filter _).append_right _
theorem setP_once{l:List PR}(k v:xA)(h:Once l):Once (setP l k v):=by
 unfold setP Once
 rw [jU]
 refine⟨h.sublist List.filter_sublist,by simp,λp hp q hq=>?_⟩
 rw [List.mem_singleton.1 hq]
 simpa using (List.mem_filter.1 hp).2
theorem setP_mem{l:List PR}{k v:xA}{p:PR}(h:p∈setP l k v):p∈l∨p=(k,v):=by
 unfold setP at h
 rcases List.mem_append.1 h with h|h
 · exact .inl (List.mem_filter.1 h).1
 · exact .inr (List.mem_singleton.1 h)
theorem getP_mem{l:List PR}(h:Once l){p:PR}(hp:p∈l):getP l p.1=some p.2:=by
 induction l with
 |nil=>cases hp
 |cons q r ih=>
  obtain ⟨h1,h2⟩:=List.pairwise_cons.1 h
  rcases List.mem_cons.1 hp with rfl|hp
  · rw [getP,if_pos rfl]
  · rw [getP,if_neg (h1 p hp),ih h2 hp]
theorem getP_some{l:List PR}{k v:xA}(h:getP l k=some v):(k,v)∈l:=by
  induction l with
  |nil=>cases h
  |cons p r ih=>
    rw [getP] at h
    split at h
    · rename_i e
      injection h with h
      rw [←e,←h];exact .head _
    · exact .tail _ (ih h)
theorem putP_len(l:List PR)(k v:xA):(putP l k v).length≤l.length+1:=by
 induction l with
 |nil=>exact jJ _
 |cons p r ih=>
  rw [putP]
  split
  · simp
  · simp only [jD];omega
def srt(l:List xA):List xA:=l.mergeSort (λx y=>decide (x≤y))
theorem qEM(l:List xA):(srt l).Perm l:=List.mergeSort_perm l _
theorem srt_len(l:List xA):(srt l).length=l.length:=(qEM l).length_eq
theorem qP8(l:List xA):(srt l).Pairwise (λx y=>x≤y):=by
 have h:=List.pairwise_mergeSort (le:=λ(x y:xA)=>decide (x≤y)) (λa b c h1 h2=>by
  simp only [decide_eq_true_eq] at*;exact List.le_trans h1 h2) (λa b=>by
  simp only [Bool.or_eq_true,decide_eq_true_eq];exact List.le_total a b) l
 exact h.imp λh=>by simpa using h
theorem srt_eq{l l':List xA}(h:l.Perm l'):srt l=srt l':=
 List.Perm.eq_of_pairwise (λa b _ _ h1 h2=>List.le_antisymm h1 h2) (qP8 l) (qP8 l') ((qEM l).trans (h.trans (qEM l').symm))
def keysS(l:List PR):List xA:=srt (l.map (·.1))
theorem keysS_len(l:List PR):(keysS l).length=l.length:=by unfold keysS;rw [srt_len,jP]
theorem keysS_mem{l:List PR}{k:xA}:k∈keysS l↔ ∃v,(k,v)∈l:=by
 unfold keysS
 rw [(qEM _).mem_iff,zU]
 exact⟨λ⟨p,hp,e⟩=>⟨p.2,e▸hp⟩,λ⟨v,hv⟩=>⟨_,hv,O⟩⟩
def prs(l:List PR)(ks:List xA):List PR:=ks.map λk=>(k,(getP l k).getD [])
theorem qT9{l l':List PR}(h:Once l)(hs: ∀p∈l',p∈l):prs l (l'.map (·.1))=l':=by
 unfold prs
 rw [List.map_map]
 conv=>rhs;rw [←List.map_id l']
 refine List.map_congr_left λp hp=>?_
 show(p.1,(getP l p.1).getD [])=p
 rw [getP_mem h (hs p hp)];rfl
theorem prs_perm{l:List PR}(h:Once l):(prs l (keysS l)).Perm l:=by
 have h1:(prs l (keysS l)).Perm (prs l (l.map (·.1))):=(qEM _).map _
 rwa [qT9 h (λ_ h=>h)] at h1
theorem qO6{l:List PR}(h:Once l):(keysS l).Pairwise (· ≠ ·):=((qEM _).symm.pairwise_iff (λh=>h.symm)).1 (List.pairwise_map.2 h)
theorem qUp{l:List PR}(h:Once l):(keysS l).Pairwise (· < ·):=by
 have h1:=qP8 (l.map (·.1))
 exact(h1.and (qO6 h)).imp λ⟨h1,h2⟩=>Decidable.by_contra λh3=>h2 (List.le_antisymm h1 (List.not_lt.1 h3))
theorem prs_up{l:List PR}(h:Once l)(hl: ∀p∈l,p.1.length=16):Up (prs l (keysS l)):=by
 unfold Up prs
 rw [List.pairwise_map]
 refine(qUp h).imp_of_mem λha hb hab=>?_
 obtain ⟨v,hv⟩:=keysS_mem.1 ha
 obtain ⟨u,hu⟩:=keysS_mem.1 hb
 exact qNq ((hl _ hv).trans (hl _ hu).symm) hab
theorem prs_take(l:List PR)(ks:List xA)(k:Nat):prs l (ks.take k)=(prs l ks).take k:=by unfold prs;rw [List.map_take]
theorem prs_drop(l:List PR)(ks:List xA)(k:Nat):prs l (ks.drop k)=(prs l ks).drop k:=by unfold prs;rw [List.map_drop]
theorem prs_filter(l:List PR)(ks:List xA)(q:xA→Bool):prs l (ks.filter q)=(prs l ks).filter (λp=>q p.1):=by
 unfold prs
 rw [List.filter_map];rfl
theorem prs_len(l:List PR)(ks:List xA):(prs l ks).length=ks.length:=by unfold prs;rw [jP]
theorem prs_get(l:List PR)(ks:List xA){j:Nat}(h:j<(prs l ks).length)(h':j<ks.length):(prs l ks)[j]=(ks[j],(getP l ks[j]).getD []):=List.getElem_map ..
def belowB(k b:xA)(d:Nat):Bool:=(List.range d).all λi=>decide (bit k i=bit b i)
theorem belowB_succ(k b:xA)(d:Nat):belowB k b (d+1)=(belowB k b d&&decide (bit k d=bit b d)):=by
 unfold belowB;rw [jx,List.all_append];simp
theorem belowB_no{k b:xA}{d i:Nat}(hi:i<d)(h:bit k i≠bit b i):belowB k b d=false:=by
 rw [Bool.eq_false_iff]
 intro h1
 exact h (of_decide_eq_true (List.all_eq_true.1 h1 i (List.mem_range.2 hi)))
theorem belowB_yes{k b:xA}{d:Nat}(h: ∀i<d,bit k i=bit b i):belowB k b d=true:=List.all_eq_true.2 λi hi=>decide_eq_true (h i (List.mem_range.1 hi))
theorem belowB_kv{k b:xA}(hk:k.length=16)(hb:b.length=16): ∀{d:Nat},d≤128→(belowB k b d=true↔kv k/2^(128-d)=kv b/2^(128-d))
 |0,_=>by
  have h1:=kv_lt k
  have h2:=kv_lt b
  rw [hk] at h1
  rw [hb] at h2
  rw [zJ (yM h1 xC),zJ (yM h2 xC)]
  exact⟨λ_=>rfl,λ_=>rfl⟩
 |d+1,hd=>by
  have ih:=belowB_kv hk hb (d:=d) xB
  have e1:=pre_succ (kv k) (127-d)
  have e2:=pre_succ (kv b) (127-d)
  rw [show 127-d+1=128-d by omega] at e1 e2
  rw [belowB_succ,jZ,ih,decide_eq_true_eq,bit_kv hk xB,bit_kv hb xB,show 128-(d+1)=127-d by omega]
  constructor
  · rintro⟨h1,h2⟩;omega
  · intro h1;omega
def bel(l:List PR)(b:xA)(d:Nat):List PR:=l.filter λp=>belowB p.1 b d
theorem bel_wf{l:List PR}(h:Once l)(hl: ∀p∈l,p.1.length=16){b:xA}(hb:b.length=16){d:Nat}(hd:d≤128):WF (128-d) (bel l b d):=
 ⟨h.sublist List.filter_sublist,λp hp=>hl p (List.mem_filter.1 hp).1,λp hp q hq=>by
  obtain ⟨h1,h2⟩:=List.mem_filter.1 hp
  obtain ⟨h3,h4⟩:=List.mem_filter.1 hq
  rw [(belowB_kv (hl p h1) hb hd).1 h2,(belowB_kv (hl q h3) hb hd).1 h4]⟩
theorem bel_zero(l:List PR)(b:xA):bel l b 0=l:=List.filter_eq_self.2 λ_ _=>rfl
theorem qXl{f:Nat}{l:List PR}(h:WF (f+1) l):Sb.join (nd f (side f true l)) (nd f (side f false l))=nd (f+1) l:=by
  match l,h with
  | [],_=>rw [show side f true []= [] from rfl,show side f false []= [] from rfl,nd_nil,nd_nil];rfl
  | [p],_=>
    have hl:=qNn p.1 p.2
    rcases hb:decide (kv p.1/2^f%2=0) with _|_
    · rw [show side f true [p]= [] by unfold side;rw [jl,if_neg (by rw [hb];decide)];rfl,show side f false [p]= [p] by unfold side;rw [jl,if_pos (by rw [hb];decide)];rfl,nd_nil,nd_one,nd_one]
      unfold Sb.join
      rw [if_pos ⟨rfl,.inr hl⟩]
    · rw [show side f true [p]= [p] by unfold side;rw [jl,if_pos (by rw [hb];decide)];rfl,show side f false [p]= [] by unfold side;rw [jl,if_neg (by rw [hb];decide)];rfl,nd_nil,nd_one,nd_one]
      unfold Sb.join
      rw [if_neg (λh=>qNm _ _ h.1),if_pos ⟨rfl,hl⟩]
  |a::b::r,_=>rfl
theorem bel_half{l:List PR}(hl: ∀p∈l,p.1.length=16){b c:xA}(hb:b.length=16)(hc:c.length=16){d:Nat}(hd:d<128)(t:Bool)(h:kv c/2^(127-d)=2*(kv b/2^(128-d))+(if t=true then 0 else 1)):
    bel l c (d+1)=side (127-d) t (bel l b d):=by
  unfold bel side
  rw [zl]
  refine yD λp hp=>?_
  have h1:=belowB_kv (hl p hp) hc (d:=d+1) xB
  have h2:=belowB_kv (hl p hp) hb (d:=d) xB
  have e1:=pre_succ (kv p.1) (127-d)
  rw [show 127-d+1=128-d by omega] at e1
  rw [show 128-(d+1)=127-d by omega,h] at h1
  rw [Bool.eq_iff_iff,h1,jZ,h2,beq_iff_eq]
  cases t
  · rw [if_neg xC,decide_eq_false_iff_not]
    constructor
    · intro h;omega
    · rintro⟨h3,h4⟩;omega
  · rw [if_pos rfl,decide_eq_true_eq]
    constructor
    · intro h;omega
    · rintro⟨h3,h4⟩;omega
def ndB(l:List PR)(b:xA)(d:Nat):xA:=nd (128-d) (bel l b d)
theorem ndB_join{l:List PR}(h:Once l)(hl: ∀p∈l,p.1.length=16){b c e:xA}(hb:b.length=16)(hc:c.length=16)(he:e.length=16){d:Nat}(hd:d<128)
    (h0:kv c/2^(127-d)=2*(kv b/2^(128-d))) (h1:kv e/2^(127-d)=2*(kv b/2^(128-d))+1):Sb.join (ndB l c (d+1)) (ndB l e (d+1))=ndB l b d:=by
  unfold ndB
  have hw:=bel_wf h hl hb (d:=d) xB
  rw [bel_half hl hb hc hd true (by rw [if_pos rfl];exact h0),bel_half hl hb he hd false (by rw [if_neg xC];exact h1),show 128-d=127-d+1 by omega,show 128-(d+1)=127-d by omega]
  exact qXl (by rw [show 127-d+1=128-d by omega];exact hw)
theorem ndB_perm{l l':List PR}(h:Once l)(hl: ∀p∈l,p.1.length=16)(hp:l.Perm l'){b:xA}(hb:b.length=16){d:Nat}(hd:d≤128):ndB l b d=ndB l' b d:=
 nd_perm _ (bel_wf h hl hb hd) (hp.filter _)
theorem ndB_zero(l:List PR)(b:xA):ndB l b 0=nd 128 l:=by unfold ndB;rw [bel_zero]
end Sm
end Go.Proofs.YtmemgokiolfdoaaGreatDoor
namespace Go.Proofs.YtmemgokiolfdoaaGreatDoor
open Go Go.Fw Go.Proofs.Tryz
structure Pr where
 k:xA
 v:xA
 deriving DecidableEq
def Pr.cells(x:Pr):List Value:= [Str (x.k),Str (x.v)]
def toP(p:Pr):Sm.PR:=(p.k,p.v)
abbrev ssM(l:List Sm.PR):MP:=l.map λp=>(p.1,Str p.2)
theorem qMc: ∀(l:List Sm.PR) (k:xA),qK8 (ssM l) k=(Sm.getP l k).map Str
 | [],_=>rfl
 |p::r,k=>by
  show(if p.1=k then some (Str p.2) else qK8 (ssM r) k)=_
  rw [Sm.getP]
  by_cases h:p.1=k
  · rw [if_pos h,if_pos h];rfl
  · rw [if_neg h,if_neg h];exact qMc r k
theorem qQd: ∀(l:List Sm.PR) (k v:xA),qNL (ssM l) k (Str v)=ssM (Sm.putP l k v)
 | [],_,_=>rfl
 |p::r,k,v=>by
  show(if p.1=k then(k,Str v)::ssM r else(p.1,Str p.2)::qNL (ssM r) k (Str v))=_
  rw [Sm.putP]
  by_cases h:p.1=k
  · rw [if_pos h,if_pos h];rfl
  · rw [if_neg h,if_neg h,qQd r k v];rfl
theorem qR1(o:Option xA):(o.map Str).getD (Str [])=Str (o.getD []):=by cases o<;>rfl
def qCl(m:Hp)(g:Nat)(l:List Sm.PR):Prop:= ∃gm,qAG m ⟨g,0,none⟩ [.map (some gm)]∧MapAt m gm (ssM l)
def qGH(m:Hp)(g:Nat)(l:List Sm.PR):Prop:= ∃gm mm,m=U [blk g [.map (some gm)] 237,mm]∧Dj (blk g [.map (some gm)] 237) mm∧MapS mm gm (ssM l)
theorem qCl.mono{m m':Hp}{g:Nat}{l:List Sm.PR}(h:qCl m g l)(hl:Le m m'):qCl m' g l:=by
 obtain ⟨gm,h1,h2⟩:=h
 exact⟨gm,h1.mono hl,h2.mono hl⟩
theorem qGH.at{m:Hp}{g:Nat}{l:List Sm.PR}(h:qGH m g l):qCl m g l:=by
 obtain ⟨gm,mm,rfl,hd,h2⟩:=h
 have hdd:Djs [blk g [.map (some gm)] 237,mm]:=qAa.2 (by simpa using hd)
 exact⟨gm,qAG.blk0.mono (qFr hdd (.head _)),h2.at.mono (qFr hdd (.tail _ (.head _)))⟩
namespace Sha
end Sha
attribute [local irreducible] Sha.tagB
end Go.Proofs.YtmemgokiolfdoaaGreatDoor
namespace Go.Proofs.YtmemgokiolfdoaaGreatDoor
open Go Go.Fw Go.Proofs.Tryz
theorem gsome{s:xA}{i:Nat}(h:i<s.length):s[i]?=some (s.getD i 0):=qAi 0 h
theorem qLX(F:Hp)(k:xA)(hk:k.length≤1000000)(d:Nat)(hd:d≤1000000):Cz prog 213 [Str (k),I (d:Nat)] F (I (Sm.bit k d:Nat)):=by
 refine Ct.walk func213 O ntmps213 O (λw0 hw0=>?_)
 refine J.f λ_ j1=>J.b O<|J.c j1<|J.k λ_ j2=>J.f λ_ j3=>J.b O<|J.g (qAS O O O) O<|J.b O<|J.b9 (d:=7) O (λh7=>?_) (λh7=>?_)
 ·
  refine J.p 6 O<|J.c j3<|J.c3 ?_
  exact J.f λ_ j4=>J.b O<|J.c j4<|J.A<|J.V<|J.E hw0 O () (by unfold Sm.bit;rw [if_neg xB];rfl) trivial [0] O xC
 refine J.p 2 O<|J.G (qAu u9_ O O) O<|J.G ((qDj O O O (by first|omega|(have h8:=(UInt8.ofNat ((k.getD (d/8) 0).toNat/2^(7-d%8))).toNat_lt;omega))).nat (8*k.length) xB) O<|J.G (qBI O O O) O<|J.b O<|J.c j3<|J.Z O (λh13=>?_) (λh13=>?_)
 ·
  exact J.f λ_ j5=>J.b O<|J.c j5<|J.A<|J.V<|J.E hw0 O () (by unfold Sm.bit;rw [if_neg xB];rfl) trivial [0] O xC
 refine J.M j2<|J.k λ_ j6=>?_
 have hb8:((k.getD (d/8) 0).toNat/2^(7-d%8))<256:=zP (zt _ _) (k.getD (d/8) 0).toNat_lt
 have hbe:(UInt8.ofNat ((k.getD (d/8) 0).toNat/2^(7-d%8))).toNat&&&1=Sm.bit k d:=by
  unfold Sm.bit
  rw [if_pos xB,UInt8.toNat_ofNat_of_lt' hb8,Nat.and_one_is_mod]
 exact J.H<|J.p 2 O<|J.g ((qIK O O O (by first|omega|(have h8:=(UInt8.ofNat ((k.getD (d/8) 0).toNat/2^(7-d%8))).toNat_lt;omega))).nat (d/8) xB) O<|J.g (qBl u9_ O O O (gsome xB)) O<|J.b O<|J.g ((qKk O O O (by first|omega|(have h8:=(UInt8.ofNat ((k.getD (d/8) 0).toNat/2^(7-d%8))).toNat_lt;omega))).nat (d%8) xB) O<|J.g ((qA4 O O O xB).nat (7-d%8) xB) O<|J.g ((qME O O O).as (v':=B8 (UInt8.ofNat ((k.getD (d/8) 0).toNat/2^(7-d%8)))) (by rw [jp xB])) O<|J.g (qCM O O u5_ u3_) O<|J.g (qMJ (a:=(UInt8.ofNat ((k.getD (d/8) 0).toNat/2^(7-d%8))).toNat) (b:=1) O O O (by first|omega|(have h8:=(UInt8.ofNat ((k.getD (d/8) 0).toNat/2^(7-d%8))).toNat_lt;omega))) O<|J.b O<|J.c j6<|J.A<|J.E hw0 O () (by rw [hbe]) trivial [0] O xC
theorem qFS(F:Hp)(k:xA)(hk:k.length≤1000000)(b:xA)(hb:b.length≤1000000)(d:Int):Cz prog 145 [Str (k),Str (b),I (d)] F (.bool (Sm.belowB k b (min d.toNat 128))):=by
 refine Ct.walk func145 O ntmps145 O (λw0 hw0=>?_)
 refine J.f λ_ j1=>J.b O<|J.c j1<|J.k λ_ j2=>J.f λ_ j3=>J.b O<|J.g ((qIL O O O).nat (d.toNat) xB) O<|J.g ((qF4 O O O).nat (min d.toNat 128) xB) O<|J.b O<|J.c j3<|J.T<|J.b5 (X:=Nat) (λζ=> [(0,Str (k)),(1,Str (b)),(10,I (min d.toNat 128:Nat)),(11,I (ζ:Nat))]) (λζ=> [F]) (λζ=>ζ≤min d.toNat 128∧ ∀j<ζ,Sm.bit k j=Sm.bit b j) (λζ=>min d.toNat 128-ζ) 0 (⟨jE _,λj h=>absurd h (jy j)⟩) ⟨O,O,O,O,trivial⟩ (λ_ h=>h) ?_
 rintro i ⟨hi,hs⟩ I0 hI0
 refine J.f λ_ j4=>J.g (qAS O O O) O<|J.c j4<|J.k λ_ j5=>J.Z O (λh12=>?_) (λh12=>?_)
 ·
  refine J.M j5<|J.k λ_ j6=>J.T<|J.f λ_ j7=>J.p 2 O<|J.c j7<|J.f λ_ j8=>J.p 2 O<|J.q (qAZ O O (λF' hF=>qLX F' k (by first|omega|exact hsm _) i xB)) O λg16 _=>J.p 2 O<|J.q (qAZ O O (λF' hF=>qLX F' b (by first|omega|exact hsm _) i xB)) O λg19 _=>J.g (qAV O O O) O<|J.c j8<|J.Z O (λh20=>?_) (λh20=>?_)
  ·
   exact J.f λ_ j9=>J.b O<|J.c j9<|J.A<|J.a5<|J.V<|J.V<|J.a5<|J.V<|J.E hw0 O () (by rw [Sm.belowB_no (i:=i) xB xB]) trivial [0] O xC
  refine J.b2<|J.a2<|J.u (J.D j6 ?_)
  exact J.H<|J.g ((qAR O O O xB).nat (i+1) xB) O<|J.b O<|J.a4<|J.u<|J.a8 (i+1) (λη (hη:_∧min d.toNat 128-η<min d.toNat 128-i)=>hI0 η hη.1 hη.2) ⟨⟨xB,λj hj=>by rcases Nat.lt_succ_iff_lt_or_eq.1 hj with h|rfl;exact hs j h;omega⟩,by first|omega|(dsimp only;omega)⟩ ⟨O,O,O,O,trivial⟩ (λ_ h=>h)
 refine J.b3<|J.a0<|J.a0<|J.b4 ?_
 refine J.u (J.D j2 ?_)
 exact J.f λ_ j10=>J.b O<|J.c j10<|J.A<|J.E hw0 O () (by rw [Sm.belowB_yes (λj hj=>hs j xB)]) trivial [0] O xC
theorem qWP(F:Hp):Ct prog 47 [] [F] (λx:Nat×Hp=>Ptr x.1) (λx=>qGH x.2 x.1 ([])) (λx=> [x.2,F]):=by
 refine Ct.walk func47 O ntmps47 O (λw0 hw0=>?_)
 refine J.f λ_ j1=>J.b O<|J.c j1<|J.f λ_ j2=>J.q (qDI O) O ?_
 rintro g1 _
 exact J.g (qAL (places:= [(0,1)]) (r:= [.map (some g1)]) O O O qL0 zeroValue237 (λ_=>xI) O) O<|J.q (qAb O O O) O λg3 _=>J.b O<|J.c j2<|J.A<|J.a9 hw0 (λ_ _ h=>h) (qKV O O) (qCa (g3,U [blk g3 [.map (some g1)] 237,qAN g1 (.map #[] 0)]) (O) (λhd=>⟨g1,qAN g1 (.map #[] 0),O,hd,(MapS.nil g1)⟩) [2,1,0] O O xC)
theorem qWS(F:Hp)(g:Nat)(l:List Sm.PR)(hT:qCl F g l)(k:xA):Cz prog 180 [Ptr g,Str (k)] F (.tuple #[Str ((Sm.getP l k).getD []),.bool ((Sm.getP l k).isSome)]):=by
 have hT0:=hT
 obtain ⟨gm,hc,hm⟩:=hT0
 refine Ct.walk func180 O ntmps180 O (λw0 hw0=>?_)
 refine J.f λ_ j1=>J.p 2 O<|J.c j1<|J.k λ_ j2=>J.f λ_ j3=>J.b O<|J.g ((qA6 qL2 O O O).as (v':= .bool false) O) O<|J.c j3<|J.a3 ?_
 exact J.M j2<|J.f λ_ j4=>J.b O<|J.g (qAB O O) O<|J.W 0 qL0 sizeOf235 O O O O O<|J.g (qAI O O isAgg235 (m:=F) xD (hc)) O<|J.b O<|J.g ((qOv O O O qPv u9_ e9_ (m:=F) xD hm).as (v':= .tuple #[Str ((Sm.getP l k).getD []),.bool ((Sm.getP l k).isSome)]) (by rw [qMc,qR1,Option.isSome_map])) O<|J.p 5 O<|J.c j4<|J.f λ_ j5=>J.p 4 O<|J.c j5<|J.A<|J.a9 hw0 (λ_ _ h=>h) (qBw O O O) (qAg () O trivial [0] O xC)
theorem qPz(F m:Hp)(g:Nat)(l:List Sm.PR)(hb:qGH m g l)(k v:xA)(hk:k.length=16):Ct prog 117 [Ptr g,Str (k),Str (v)] [m,F] (λ_:Hp=>I (0:Nat)) (λm'=>qGH m' g (Sm.putP l k v)) (λm'=> [m',F]):=by
 obtain ⟨gm,mm,rfl,hd,hmp⟩:=hb
 refine Ct.walk func117 O ntmps117 O (λw0 hw0=>?_)
 refine J.e7 hd ?_
 refine J.f λ_ j1=>J.b O<|J.c j1<|J.k λ_ j2=>J.T<|J.f λ_ j3=>J.b O<|J.g (qA6 qL2 O O O) O<|J.b O<|J.c j3<|J.a3 ?_
 refine J.f λ_ j4=>J.b O<|J.g (qAu u9_ O O) O<|J.g ((qAV O O O).no xB) O<|J.b O<|J.c j4<|J.a3 ?_
 refine J.b2<|J.a2<|J.u (J.D j2 ?_)
 refine J.f λ_ j5=>J.b O<|J.g (qAB O O) O<|J.W 0 qL0 sizeOf235 O O O O O<|J.a6 0 isAgg235 O O O O O<|J.p 2 O<|J.a7 (qC2 (i:=1) O O O O qPv u9_ O hmp) O O ?_
 rintro m5_1 hm5_1
 rw [qQd] at hm5_1
 exact J.c j5<|J.f λ_ j6=>J.b O<|J.c j6<|J.A<|J.a9 hw0 (λ_ _ h=>h) (qKV O O) (qCa (U [blk g [.map (some gm)] 237,m5_1]) (O) (λhd=>⟨gm,m5_1,O,hd,hm5_1⟩) [0,1,2] O O xC)
end Go.Proofs.YtmemgokiolfdoaaGreatDoor