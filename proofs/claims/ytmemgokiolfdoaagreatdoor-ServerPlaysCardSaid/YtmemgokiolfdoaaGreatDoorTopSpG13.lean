/- A part of the proof. -/
import Derived.Test.YtmemgokiolfdoaaGreatDoorTopSpG10
import Derived.Test.YtmemgokiolfdoaaGreatDoorTopSpG12
set_option maxRecDepth 100000
set_option maxHeartbeats 1000000
set_option linter.unusedSimpArgs false
set_option linter.unusedVariables false
namespace Go.Proofs.YtmemgokiolfdoaaGreatDoor
open Go Go.Fw Go.Proofs.Tryz
namespace Sb
def isLf(s:xA):Prop:=s≠ []/\s.take 1= [1]
instance (s:xA):Decidable (isLf s):=by unfold isLf;infer_instance
def join(a b:xA):xA:=if a= [0]/\(b= [0]\/isLf b) then b else if b= [0]/\isLf a then a else 2::Sha.tagged 10 [a,b]
def leafN(k v:xA):xA:=1::Sha.tagged 9 [k,v]
def lvl(l:List xA):List xA:=(List.range (l.length/2)).map λk=>join (l.getD (2*k) []) (l.getD (2*k+1) [])
def lvls(l:List xA):Nat->List xA
 |0=>l
 |j+1=>lvl (lvls l j)
def root(l:List xA)(d:Nat):xA:=(lvls l d).getD 0 []
theorem lvl_length(l:List xA):(lvl l).length=l.length/2:=by simp [lvl]
theorem lvls_zero(l:List xA):lvls l 0=l:=rfl
theorem lvls_succ(l:List xA)(j:Nat):lvls l (j+1)=lvl (lvls l j):=rfl
theorem lvls_length{l:List xA}{d:Nat}(h:l.length=2^d): ∀j,j<=d->(lvls l j).length=2^(d-j)
 |0,_=>h
 |j+1,hj=>by
  rw [lvls_succ,lvl_length,lvls_length h j xB,show d-j=(d-(j+1))+1 by omega,ju,Nat.mul_div_cancel _ xC]
theorem qPY{a b:xA}(ha:a.length<=1048576)(hb:b.length<=1048576):(join a b).length<=1048576:=by
  unfold join
  split
  . exact hb
  . split
    . exact ha
    . rw [jC,Sha.tagged_length];decide
theorem getD_small{l:List xA}(h: ∀s∈l,s.length<=1048576)(k:Nat):(l.getD k []).length<=1048576:=by
 by_cases hk:k<l.length
 . rw [jB,jD hk];exact h _ (jU _)
 . rw [jB,je xB];decide
theorem lvls_small{l:List xA}(h: ∀s∈l,s.length<=1048576): ∀j,∀s∈lvls l j,s.length<=1048576
 |0=>h
 |j+1=>λs hs=>by
  rw [lvls_succ] at hs
  unfold lvl at hs
  obtain ⟨k,_,rfl⟩:=List.mem_map.1 hs
  exact qPY (getD_small (lvls_small h j) _) (getD_small (lvls_small h j) _)
theorem lvl_take{l:List xA}{k:Nat}(h:k<l.length/2):(lvl l).take (k+1)=(lvl l).take k++ [join (l.getD (2*k) []) (l.getD (2*k+1) [])]:=by
 rw [jP (by rw [lvl_length];exact h)]
 simp [lvl]
end Sb
def cnt(d:Int):Nat:=if d<0\/4<d then 0 else 2^d.toNat
theorem qG9{d:Int}:cnt d=0↔(d<0\/4<d):=by
  unfold cnt
  split
  . exact⟨λ_=>by assumption,λ_=>rfl⟩
  . rename_i h
    exact⟨λe=>absurd e (Nat.ne_of_gt (jy _)),λe=>absurd e h⟩
theorem qW1(d:Int):cnt d<=16:=by
 unfold cnt
 split
 . omega
 . exact jf (jZ xC (show d.toNat<=4 by omega)) xC
theorem qZB{d:Int}(h:cnt d≠0):cnt d=2^d.toNat:=by
 unfold cnt at h⊢
 split
 . rename_i h1;rw [yX h1] at h;exact absurd O h
 . rfl
def qLt(l:List xA)(d:Int):Int:=if cnt d=0 then 1 else if l.length≠cnt d then 22 else 0
def qLs(l:List xA)(d:Int):xA:=if qLt l d=0 then Sb.root l d.toNat else []
theorem qPF{P:Program}{env:Env}{rs:List Hp}{o:Oper}{t e x p q r sz A n' c l h m}(ho:o.op= .slice t x (some p) (some q) (some r))(hx:ev env x=some (.slice A n' c))(hu:P.underlying t=some (.slice e))(hz: ∀w,(sizeOf e).run P w= .ok sz w)
    (hlo:ev env p=some (I (l:Nat))) (hhi:ev env q=some (I (h:Nat))) (hmx:ev env r=some (I (m:Nat))) (hr:l<=h/\h<=m/\m<=c):YOp P env rs o (.slice (if m=l then A else A.map (·.add (l*sz))) (h-l) (m-l)):=λn a w hk _=>by
  simp [execOp,ho,hk.ev hx,hk.ev hlo,hk.ev hhi,hk.ev hmx,Instr.sliceAt,Instr.slice,run_underlying hu,Instr.sliceBounds,Instr.sliceBound,asIntOf,hr.1,hr.2.1,hr.2.2,hz]
attribute [local irreducible] Sha.tagged Sb.join Sb.lvl Sb.lvls Sb.root
theorem qJd(F:Hp)(s:xA):Cz prog 247 [Str s] F (.bool (decide (Sb.isLf s))):=by
 refine y7 func247 O ntmps247 O (λw0 hw0=>?_)
 refine yl λ_ C1=>yh O<|yi C1<|yl λ_ C2=>yh O<|yj (qB9 O O O) O<|yh O<|vO (d:=5) O (λh5=>?_) (λh5=>?_)
 .
  exact yh O<|yv ((qA0 (l:=0) (h:=1) u9_ O O O O ⟨xB,by have:s.length≠0:=λe=>h5 (jT e);omega⟩).as (yY Str zI)) O<|yv (qBP O O O) O<|yn 2 O<|yi C2<|yr<|yw hw0 O () (yY Value.bool (decide_eq_decide.2 ⟨λh=>⟨h5,h⟩,λh=>h.2⟩)) yd [0] O xC
 exact yn 5 O<|yi C2<|yr<|yw hw0 O () (yY Value.bool (yb (λh=>h5 h.1)).symm) yd [0] O xC
theorem qGn(F:Hp)(hK:yf F)(k v:xA)(hk:k.length<=1048576)(hv:v.length<=1048576):Cz prog 146 [Str k,Str v] F (Str (Sb.leafN k v)):=by
 refine y7 func146 O ntmps146 O (λw0 hw0=>?_)
 exact yl λ_ C1=>yh O<|yi C1<|yl λ_ C2=>yn 2 O<|yp (qAE (l:= [.tmp 5,.tmp 6]) (xs:= [[Str (k)],[Str (v)]]) O O O O qAg el9 O xC xC xD) O λg7 _=>yp (qAZ O O (λF' hF=>qBI F' (hK.mono (Fa hF)) 9 (some ⟨g7,0,none⟩) 2 2 [k,v] ((slS [k,v] O).mono (hF (blk g7 (([k,v]:List xA).map λs=>Str s) 9) xD)) xJ xC)) O λg8 _=>yj ((qAq O O O (by simp only [jA,Sha.tagged_length];decide))) O<|yh O<|yi C2<|yr<|yw hw0 O () O yd [0] O xC
theorem qCS(F:Hp)(hK:yf F)(a b:xA)(ha:a.length<=1048576)(hb:b.length<=1048576):Cz prog 188 [Str a,Str b] F (Str (Sb.join a b)):=by
 refine y7 func188 O ntmps188 O (λw0 hw0=>?_)
 refine yl λ_ C1=>yh O<|yi C1<|ym λ_ C2=>yz<|yl λ_ C3=>yh O<|yj (qBP O O O) O<|yh O<|vO (d:=8) O (λh8=>?_) (λh8=>?_)
 .
  refine yh O<|yv (qBP O O O) O<|yh O<|vO (d:=11) O (λh11=>?_) (λh11=>?_)
  .
   refine yn 5 O<|yi C3<|vV ?_
   exact yl λ_ C4=>yn 2 O<|yi C4<|yr<|vI<|y5<|yw hw0 O () (yY Str (by unfold Sb.join;rw [yX ⟨h8,.inl h11⟩])) yd [0] O xC
  refine yh O<|vg (qAZ O O (λF' hF=>qJd F' b)) O λg13 _=>yn 3 O<|yi C3<|y1 O (λh5=>?_) (λh5=>?_)
  .
   exact yl λ_ C5=>yn 2 O<|yi C5<|yr<|vI<|y5<|yw hw0 O () (yY Str (by unfold Sb.join;rw [yX ⟨h8,.inr h5⟩])) yd [0] O xC
  refine yl λ_ C6=>yh O<|yj (qBP O O O) O<|yh O<|vO (d:=20) O (λh20=>?_) (λh20=>?_)
  .
   refine yh O<|vg (qAZ O O (λF' hF=>qJd F' a)) O λg22 _=>yn 2 O<|yi C6<|y1 O (λh17=>?_) (λh17=>?_)
   .
    exact yl λ_ C7=>yn 2 O<|yi C7<|yr<|vI<|y5<|yw hw0 O () (absurd h20 h11) yd [0] O xC
   refine vP<|vB<|yq (yu C2 ?_)
   exact yl λ_ C8=>yn 2 O<|yp (qAE (l:= [.tmp 25,.tmp 26]) (xs:= [[Str (a)],[Str (b)]]) O O O O qAg el9 O xC xC xD) O λg27 _=>yp (qAZ O O (λF' hF=>qBI F' (hK.mono (Fa hF)) 10 (some ⟨g27,0,none⟩) 2 2 [a,b] ((slS [a,b] O).mono (hF (blk g27 (([a,b]:List xA).map λs=>Str s) 9) xD)) xJ xC)) O λg28 _=>yj ((qAq O O O (by simp only [jA,Sha.tagged_length];decide))) O<|yh O<|yi C8<|yr<|yw hw0 O () (absurd h20 h11) yd [0] O xC
  refine yn 4 O<|yi C6<|vC ?_
  refine vP<|vB<|yq (yu C2 ?_)
  exact yl λ_ C9=>yn 2 O<|yp (qAE (l:= [.tmp 25,.tmp 26]) (xs:= [[Str (a)],[Str (b)]]) O O O O qAg el9 O xC xC xD) O λg27 _=>yp (qAZ O O (λF' hF=>qBI F' (hK.mono (Fa hF)) 10 (some ⟨g27,0,none⟩) 2 2 [a,b] ((slS [a,b] O).mono (hF (blk g27 (([a,b]:List xA).map λs=>Str s) 9) xD)) xJ xC)) O λg28 _=>yj ((qAq O O O (by simp only [jA,Sha.tagged_length];decide))) O<|yh O<|yi C9<|yr<|yw hw0 O () (yY Str (by unfold Sb.join;rw [yW (λh=>h.2.elim h11 h5),yW (λh=>h20 h.1)];rfl)) yd [0] O xC
 refine yn 3 O<|vX (Wan.un O O O O) O O ?_
 refine vX (Wan.un O O O O) O O ?_
 refine yn 3 O<|yi C3<|vC ?_
 refine yl λ_ C10=>yh O<|yj (qBP O O O) O<|yh O<|vO (d:=20) O (λh20=>?_) (λh20=>?_)
 .
  refine yh O<|vg (qAZ O O (λF' hF=>qJd F' a)) O λg22 _=>yn 2 O<|yi C10<|y1 O (λh17=>?_) (λh17=>?_)
  .
   exact yl λ_ C11=>yn 2 O<|yi C11<|yr<|vI<|y5<|yw hw0 O () (yY Str (by unfold Sb.join;rw [yW (λh=>h8 h.1),yX ⟨h20,h17⟩])) yd [0] O xC
  refine vP<|vB<|yq (yu C2 ?_)
  exact yl λ_ C12=>yn 2 O<|yp (qAE (l:= [.tmp 25,.tmp 26]) (xs:= [[Str (a)],[Str (b)]]) O O O O qAg el9 O xC xC xD) O λg27 _=>yp (qAZ O O (λF' hF=>qBI F' (hK.mono (Fa hF)) 10 (some ⟨g27,0,none⟩) 2 2 [a,b] ((slS [a,b] O).mono (hF (blk g27 (([a,b]:List xA).map λs=>Str s) 9) xD)) xJ xC)) O λg28 _=>yj ((qAq O O O (by simp only [jA,Sha.tagged_length];decide))) O<|yh O<|yi C12<|yr<|yw hw0 O () (yY Str (by unfold Sb.join;rw [yW (λh=>h8 h.1),yW (λh=>h17 h.2)];rfl)) yd [0] O xC
 refine yn 4 O<|yi C10<|vC ?_
 refine vP<|vB<|yq (yu C2 ?_)
 exact yl λ_ C13=>yn 2 O<|yp (qAE (l:= [.tmp 25,.tmp 26]) (xs:= [[Str (a)],[Str (b)]]) O O O O qAg el9 O xC xC xD) O λg27 _=>yp (qAZ O O (λF' hF=>qBI F' (hK.mono (Fa hF)) 10 (some ⟨g27,0,none⟩) 2 2 [a,b] ((slS [a,b] O).mono (hF (blk g27 (([a,b]:List xA).map λs=>Str s) 9) xD)) xJ xC)) O λg28 _=>yj ((qAq O O O (by simp only [jA,Sha.tagged_length];decide))) O<|yh O<|yi C13<|yr<|yw hw0 O () (yY Str (by unfold Sb.join;rw [yW (λh=>h8 h.1),yW (λh=>h20 h.1)];rfl)) yd [0] O xC
end Go.Proofs.YtmemgokiolfdoaaGreatDoor
namespace Go.Proofs.YtmemgokiolfdoaaGreatDoor
open Go Go.Fw Go.Proofs.Tryz
namespace Sm
def kv:xA->Nat
 | []=>0
 |b::r=>b.toNat*256^r.length+kv r
theorem kv_lt: ∀k:xA,kv k<256^k.length
 | []=>Nat.one_pos
 |b::r=>by
  have h1:=kv_lt r
  have h2:=b.toNat_lt
  have h3:b.toNat*256^r.length<=255*256^r.length:=zZ _ xB
  rw [kv,jC,ju]
  omega
theorem qWp: ∀{a b:xA},a.length=b.length->kv a=kv b->a=b
 | [],[],_,_=>rfl
 | [],_::_,h,_=>by simp at h
 |_::_,[],h,_=>by simp at h
 |x::a,y::b,h,e=>by
  have hl:a.length=b.length:=by simpa using h
  rw [kv,kv,hl] at e
  have h1:=kv_lt a
  have h2:=kv_lt b
  rw [hl] at h1
  have hp:0<256^b.length:=Nat.pow_pos xC
  have e1:x.toNat=y.toNat:=by
   have:=yY (· /256^b.length) e
   simp only [zi _ (256^b.length),Nat.mul_add_div hp,zC h1,zC h2,zc] at this
   exact this
  have e2:kv a=kv b:=by rw [e1] at e;omega
  rw [UInt8.toNat_inj.1 e1,qWp hl e2]
theorem qOD: ∀{a b:xA},a.length=b.length->a<b->kv a<kv b
  | [],[],_,h=>absurd h (List.lt_irrefl _)
  | [],_::_,h,_=>by simp at h
  |_::_,[],h,_=>by simp at h
  |x::a,y::b,h,e=>by
    have hl:a.length=b.length:=by simpa using h
    have h1:=kv_lt a
    have h2:=kv_lt b
    rw [hl] at h1
    rw [kv,kv,hl]
    rcases List.cons_lt_cons_iff.1 e with h5|⟨h4,h5⟩
    . have:x.toNat+1<=y.toNat:=UInt8.lt_iff_toNat_lt.1 h5
      have h3:=zZ (256^b.length) this
      rw [zj] at h3
      omega
    . have:=qOD hl h5;rw [h4];omega
theorem qWq: ∀{k:xA} {q:Nat},q<k.length->(k.getD q 0).toNat=kv k/256^(k.length-1-q)%256
 | [],_,h=>by simp at h
 |b::r,0,_=>by
  have h1:=kv_lt r
  have hp:0<256^r.length:=Nat.pow_pos xC
  have h2:=b.toNat_lt
  rw [kv,jC,Nat.add_sub_cancel,zw,zi,Nat.mul_add_div hp,zC h1,zc,jX xB]
  rfl
 |b::r,q+1,h=>by
  have h':q<r.length:=by simpa using h
  rw [zq,qWq h',kv,jC]
  obtain ⟨m,hm⟩: ∃m,r.length=m+1+q:=⟨r.length-1-q,xB⟩
  rw [show r.length+1-1-(q+1)=m by omega,show r.length-1-q=m by omega,hm,show m+1+q=m+(q+1) by omega,Nat.pow_add,show b.toNat*(256^m*256^(q+1))=256^m*(b.toNat*256^q*256) by rw [ju,Nat.mul_left_comm,Nat.mul_assoc],
   Nat.mul_add_div (Nat.pow_pos xC),Nat.add_mod,Nat.mul_mod_left,jl,Nat.mod_mod]
def bit(k:xA)(d:Nat):Nat:=if d<8*k.length then(k.getD (d/8) 0).toNat/2^(7-d%8)%2 else 0
theorem bit_le(k:xA)(d:Nat):bit k d<2:=by unfold bit;split<;>omega
theorem qMg(x j:Nat)(h:j<=7):x%256/2^j%2=x/2^j%2:=by
 have h0:j=0\/j=1\/j=2\/j=3\/j=4\/j=5\/j=6\/j=7:=xB
 rcases h0 with rfl|rfl|rfl|rfl|rfl|rfl|rfl|rfl<;>simp only [Nat.reducePow]<;>omega
theorem bit_kv{k:xA}(h:k.length=16){d:Nat}(hd:d<128):bit k d=kv k/2^(127-d)%2:=by
 unfold bit
 rw [yX xB,qWq xB,h,qMg _ _ xB,zQ,show(256:Nat)=2^8 from rfl,<-Nat.pow_mul,<-Nat.pow_add,show 8*(16-1-d/8)+(7-d%8)=127-d by omega]
theorem pre_succ(x f:Nat):x/2^f=2*(x/2^(f+1))+x/2^f%2:=by
 rw [ju,<-zQ];omega
abbrev PR:=xA×xA
def side(f:Nat)(b:Bool)(l:List PR):List PR:=l.filter λp=>decide (kv p.1/2^f%2=0)==b
def nd:Nat->List PR->xA
 |_,[]=> [0]
 |_,[p]=>Sb.leafN p.1 p.2
 |0,_=> []
 |f+1,l=>Sb.join (nd f (side f true l)) (nd f (side f false l))
theorem nd_nil(f:Nat):nd f []= [0]:=by cases f<;>rfl
theorem nd_one(f:Nat)(p:PR):nd f [p]=Sb.leafN p.1 p.2:=by cases f<;>rfl
theorem nd_two(f:Nat){l:List PR}(h:2<=l.length):nd (f+1) l=Sb.join (nd f (side f true l)) (nd f (side f false l)):=by
 match l,h with
 |a::b::r,_=>rfl
def WF(f:Nat)(l:List PR):Prop:=l.Pairwise (λp q=>p.1≠q.1)/\(∀p∈l,p.1.length=16)/\ ∀p∈l,∀q∈l,kv p.1/2^f=kv q.1/2^f
theorem WF.nil(f:Nat):WF f []:=⟨List.Pairwise.nil,by simp,by simp⟩
theorem WF.side{f:Nat}{l:List PR}(h:WF (f+1) l)(b:Bool):WF f (side f b l):=by
 refine⟨h.1.sublist List.filter_sublist,λp hp=>h.2.1 p (List.mem_filter.1 hp).1,λp hp q hq=>?_⟩
 obtain ⟨h1,h2⟩:=List.mem_filter.1 hp
 obtain ⟨h3,h4⟩:=List.mem_filter.1 hq
 have h5:=h.2.2 p h1 q h3
 rw [beq_iff_eq] at h2 h4
 have e1:=pre_succ (kv p.1) f
 have e2:=pre_succ (kv q.1) f
 have e3:kv p.1/2^f%2=kv q.1/2^f%2:=by
  have h6:decide (kv p.1/2^f%2=0)=decide (kv q.1/2^f%2=0):=h2.trans h4.symm
  have h7:=decide_eq_decide.1 h6
  omega
 omega
theorem WF.short{l:List PR}(h:WF 0 l):l.length<=1:=by
 match l,h with
 | [],_=>exact jH _
 | [_],_=>exact jL _
 |a::b::r,h=>
  exfalso
  have h1:=h.2.2 a (.head _) b (.tail _ (.head _))
  rw [Nat.pow_zero,Nat.div_one,Nat.div_one] at h1
  exact(List.pairwise_cons.1 h.1).1 b (.head _) (qWp ((h.2.1 a (.head _)).trans (h.2.1 b (.tail _ (.head _))).symm) h1)
theorem WF.top{l:List PR}(h1:l.Pairwise (λp q=>p.1≠q.1))(h2: ∀p∈l,p.1.length=16):WF 128 l:=
 ⟨h1,h2,λp hp q hq=>by
  have e1:=kv_lt p.1
  have e2:=kv_lt q.1
  rw [h2 p hp] at e1
  rw [h2 q hq] at e2
  rw [zC (yE e1 xC),zC (yE e2 xC)]⟩
theorem WF.perm{f:Nat}{l l':List PR}(h:WF f l)(hp:l.Perm l'):WF f l':=
 ⟨(hp.pairwise_iff (λh=>h.symm)).1 h.1,λp q=>h.2.1 p (hp.mem_iff.2 q),λp hp1 q hq1=>h.2.2 p (hp.mem_iff.2 hp1) q (hp.mem_iff.2 hq1)⟩
theorem side_len(f:Nat)(l:List PR):(side f true l).length+(side f false l).length=l.length:=by
 induction l with
 |nil=>rfl
 |cons p r ih=>
  unfold side at ih⊢
  rw [jp,jp]
  rcases h:decide (kv p.1/2^f%2=0) with _|_
  . rw [yW xC,yX xC,jC,jC];omega
  . rw [yX xC,yW xC,jC,jC];omega
theorem nd_perm: ∀(f:Nat) {l l':List PR},WF f l->l.Perm l'->nd f l=nd f l'
 |f,[],l',_,hp=>by rw [hp.nil_eq]
 |f,[p],l',_,hp=>by rw [List.singleton_perm.1 hp]
 |0,a::b::r,l',h,hp=>by have:=h.short;simp at this
 |f+1,a::b::r,l',h,hp=>by
  have hl:=hp.length_eq
  rw [nd_two f xD,nd_two f (by rw [<-hl];simp),nd_perm f (h.side true) (hp.filter _),nd_perm f (h.side false) (hp.filter _)];rfl
theorem qOB(k v:xA):Sb.isLf (Sb.leafN k v):=⟨by simp [Sb.leafN],by simp [Sb.leafN]⟩
theorem qOA(k v:xA):Sb.leafN k v≠ [0]:=λh=>by
 have:=(qOB k v).2
 rw [h] at this;cases this
theorem qYi{a b:xA}(h:a≠ [0]\/b≠ [0]):Sb.join a b≠ [0]:=by
  unfold Sb.join
  split
  . rename_i h1
    rcases h with h|h
    . exact absurd h1.1 h
    . exact h
  . split
    . rename_i h1
      rcases h with h|h
      . exact h
      . exact absurd h1.1 h
    . intro e;injection e with e _;cases e
theorem qMf: ∀(f:Nat) {l:List PR},WF f l->l≠ []->nd f l≠ [0]
  |f,[],_,h=>absurd rfl h
  |f,[p],_,_=>by rw [nd_one];exact qOA _ _
  |0,a::b::r,h,_=>by have:=h.short;simp at this
  |f+1,a::b::r,h,_=>by
    rw [nd_two f xD]
    refine qYi ?_
    have hl:=side_len f (a::b::r)
    simp only [jC] at hl
    by_cases h1:side f true (a::b::r)= []
    . refine .inr (qMf f (h.side false) λh2=>?_)
      rw [h1,h2] at hl;simp at hl
    . exact .inl (qMf f (h.side true) h1)
theorem nd_eq0{f:Nat}{l:List PR}(h:WF f l):nd f l= [0]↔l= []:=
 ⟨λe=>Decidable.by_contra λhn=>qMf f h hn e,λe=>by rw [e,nd_nil]⟩
theorem nd_small: ∀(f:Nat) (l:List PR),(nd f l).length<=17
  |f,[]=>by rw [nd_nil];decide
  |f,[p]=>by rw [nd_one];unfold Sb.leafN;rw [jC,Sha.tagged_length];decide
  |0,a::b::r=>jH _
  |f+1,a::b::r=>by
    rw [nd_two f xD]
    unfold Sb.join
    split
    . exact nd_small f _
    . split
      . exact nd_small f _
      . rw [jC,Sha.tagged_length];decide
def Up(l:List PR):Prop:=l.Pairwise (λp q=>kv p.1<kv q.1)
theorem Up.sub{l l':List PR}(h:Up l)(hs:l'.Sublist l):Up l':=h.sublist hs
theorem up_bits{f:Nat}{l:List PR}(h:WF (f+1) l)(hu:Up l){k:Nat}(hk: ∀j (hj:j<l.length),j<k->kv l[j].1/2^f%2=0)(hn: ∀(hj:k<l.length),kv l[k].1/2^f%2≠0):l.take k=side f true l/\l.drop k=side f false l:=by
  have h1: ∀p∈l.take k,kv p.1/2^f%2=0:=λp hp=>by
    obtain ⟨j,hj,rfl⟩:=zp hp
    rw [jF] at hj
    rw [List.getElem_take]
    exact hk j xB xB
  have h2: ∀p∈l.drop k,kv p.1/2^f%2≠0:=λp hp=>by
    obtain ⟨j,hj,rfl⟩:=zp hp
    rw [jE] at hj
    rw [List.getElem_drop]
    have hkl:k<l.length:=xB
    have hb:=hn hkl
    rcases yR j with rfl|hj0
    . exact hb
    . have hlt:kv l[k].1<kv l[k+j].1:=List.pairwise_iff_getElem.1 hu k (k+j) hkl xB xB
      have e:=h.2.2 _ (jU hkl) _ (jU (show k+j<l.length by omega))
      have e1:=pre_succ (kv l[k].1) f
      have e2:=pre_succ (kv l[k+j].1) f
      have e3:=Nat.div_le_div_right (c:=2^f) (Nat.le_of_lt hlt)
      omega
  have h3:side f true l=side f true (l.take k)++side f true (l.drop k):=by unfold side;rw [<-zG,zN]
  have h4:side f false l=side f false (l.take k)++side f false (l.drop k):=by unfold side;rw [<-zG,zN]
  constructor
  . rw [h3,show side f true (l.take k)=l.take k from List.filter_eq_self.2 λp hp=>by rw [ya (h1 p hp)];rfl,show side f true (l.drop k)= [] from List.filter_eq_nil_iff.2 λp hp=>by rw [yb (h2 p hp)];simp,jS]
  . rw [h4,show side f false (l.take k)= [] from List.filter_eq_nil_iff.2 λp hp=>by rw [ya (h1 p hp)];simp,show side f false (l.drop k)=l.drop k from List.filter_eq_self.2 λp hp=>by rw [yb (h2 p hp)];rfl,j7]
def putP:List PR->xA->xA->List PR
 | [],k,v=> [(k,v)]
 |p::r,k,v=>if p.1=k then(k,v)::r else p::putP r k v
def getP:List PR->xA->Option xA
 | [],_=>none
 |p::r,k=>if p.1=k then some p.2 else getP r k
def setP(l:List PR)(k v:xA):List PR:=l.filter (λp=>decide (p.1≠k))++ [(k,v)]
def Once(l:List PR):Prop:=l.Pairwise (λp q=>p.1≠q.1)
theorem Once.perm{l l':List PR}(h:Once l)(hp:l.Perm l'):Once l':=(hp.pairwise_iff (λh=>h.symm)).1 h
theorem qSd{l:List PR}{k:xA}(h: ∀p∈l,p.1≠k):l.filter (λp=>decide (p.1≠k))=l:=List.filter_eq_self.2 λp hp=>ya (h p hp)
theorem putP_perm: ∀{l:List PR} (k v:xA),Once l->(putP l k v).Perm (setP l k v)
  | [],k,v,_=>List.Perm.refl _
  |p::r,k,v,h=>by
    obtain ⟨h1,h2⟩:=List.pairwise_cons.1 h
    unfold putP setP
    by_cases e:p.1=k
    . rw [yX e,jp,yW (by simp [e]),qSd (λq hq e2=>h1 q hq (e.trans e2.symm))]
      exact(zr _ _).symm
    . rw [yW e,jp,yX (by simp [e]),yC]
      exact(putP_perm k v h2).cons p
theorem setP_once{l:List PR}(k v:xA)(h:Once l):Once (setP l k v):=by
 unfold setP Once
 rw [jg]
 refine⟨h.sublist List.filter_sublist,by simp,λp hp q hq=>?_⟩
 rw [List.mem_singleton.1 hq]
 simpa using (List.mem_filter.1 hp).2
theorem getP_none{l:List PR}{k:xA}(h: ∀p∈l,p.1≠k):getP l k=none:=by
 induction l with
 |nil=>rfl
 |cons p r ih=>rw [getP,yW (h p (.head _)),ih λq hq=>h q (.tail _ hq)]
theorem getP_mem{l:List PR}(h:Once l){p:PR}(hp:p∈l):getP l p.1=some p.2:=by
 induction l with
 |nil=>cases hp
 |cons q r ih=>
  obtain ⟨h1,h2⟩:=List.pairwise_cons.1 h
  rcases List.mem_cons.1 hp with rfl|hp
  . rw [getP,yX rfl]
  . rw [getP,yW (h1 p hp),ih h2 hp]
theorem getP_some{l:List PR}{k v:xA}(h:getP l k=some v):(k,v)∈l:=by
  induction l with
  |nil=>cases h
  |cons p r ih=>
    rw [getP] at h
    split at h
    . rename_i e
      injection h with h
      rw [<-e,<-h];exact .head _
    . exact .tail _ (ih h)
theorem putP_len(l:List PR)(k v:xA):(putP l k v).length<=l.length+1:=by
 induction l with
 |nil=>exact jL _
 |cons p r ih=>
  rw [putP]
  split
  . simp
  . simp only [jC];omega
def srt(l:List xA):List xA:=l.mergeSort (λx y=>decide (x<=y))
theorem qEe(l:List xA):(srt l).Perm l:=List.mergeSort_perm l _
theorem srt_len(l:List xA):(srt l).length=l.length:=(qEe l).length_eq
theorem qQW(l:List xA):(srt l).Pairwise (λx y=>x<=y):=by
 have h:=List.pairwise_mergeSort (le:=λ(x y:xA)=>decide (x<=y)) (λa b c h1 h2=>by
  simp only [yZ] at*;exact List.le_trans h1 h2) (λa b=>by
  simp only [Bool.or_eq_true,yZ];exact List.le_total a b) l
 exact h.imp λh=>by simpa using h
theorem srt_eq{l l':List xA}(h:l.Perm l'):srt l=srt l':=
 List.Perm.eq_of_pairwise (λa b _ _ h1 h2=>List.le_antisymm h1 h2) (qQW l) (qQW l') ((qEe l).trans (h.trans (qEe l').symm))
def keysS(l:List PR):List xA:=srt (l.map (·.1))
theorem keysS_len(l:List PR):(keysS l).length=l.length:=by unfold keysS;rw [srt_len,jJ]
theorem keysS_mem{l:List PR}{k:xA}:k∈keysS l↔ ∃v,(k,v)∈l:=by
 unfold keysS
 rw [(qEe _).mem_iff,zh]
 exact⟨λ⟨p,hp,e⟩=>⟨p.2,e▸hp⟩,λ⟨v,hv⟩=>⟨_,hv,O⟩⟩
def prs(l:List PR)(ks:List xA):List PR:=ks.map λk=>(k,(getP l k).getD [])
theorem qUZ{l l':List PR}(h:Once l)(hs: ∀p∈l',p∈l):prs l (l'.map (·.1))=l':=by
 unfold prs
 rw [ze]
 conv=>rhs;rw [<-List.map_id l']
 refine yA λp hp=>?_
 show(p.1,(getP l p.1).getD [])=p
 rw [getP_mem h (hs p hp)];rfl
theorem prs_perm{l:List PR}(h:Once l):(prs l (keysS l)).Perm l:=by
 have h1:(prs l (keysS l)).Perm (prs l (l.map (·.1))):=(qEe _).map _
 rwa [qUZ h (λ_ h=>h)] at h1
theorem qPV{l:List PR}(h:Once l):(keysS l).Pairwise (· ≠ ·):=((qEe _).symm.pairwise_iff (λh=>h.symm)).1 (List.pairwise_map.2 h)
theorem qVL{l:List PR}(h:Once l):(keysS l).Pairwise (· < ·):=by
 have h1:=qQW (l.map (·.1))
 exact(h1.and (qPV h)).imp λ⟨h1,h2⟩=>Decidable.by_contra λh3=>h2 (List.le_antisymm h1 (List.not_lt.1 h3))
theorem prs_up{l:List PR}(h:Once l)(hl: ∀p∈l,p.1.length=16):Up (prs l (keysS l)):=by
 unfold Up prs
 rw [List.pairwise_map]
 refine(qVL h).imp_of_mem λha hb hab=>?_
 obtain ⟨v,hv⟩:=keysS_mem.1 ha
 obtain ⟨u,hu⟩:=keysS_mem.1 hb
 exact qOD ((hl _ hv).trans (hl _ hu).symm) hab
theorem prs_take(l:List PR)(ks:List xA)(k:Nat):prs l (ks.take k)=(prs l ks).take k:=by unfold prs;rw [List.map_take]
theorem prs_drop(l:List PR)(ks:List xA)(k:Nat):prs l (ks.drop k)=(prs l ks).drop k:=by unfold prs;rw [List.map_drop]
theorem prs_filter(l:List PR)(ks:List xA)(q:xA->Bool):prs l (ks.filter q)=(prs l ks).filter (λp=>q p.1):=by
 unfold prs
 rw [List.filter_map];rfl
theorem prs_len(l:List PR)(ks:List xA):(prs l ks).length=ks.length:=by unfold prs;rw [jJ]
theorem prs_get(l:List PR)(ks:List xA){j:Nat}(h:j<(prs l ks).length)(h':j<ks.length):(prs l ks)[j]=(ks[j],(getP l ks[j]).getD []):=List.getElem_map ..
def belowB(k b:xA)(d:Nat):Bool:=(List.range d).all λi=>decide (bit k i=bit b i)
theorem belowB_succ(k b:xA)(d:Nat):belowB k b (d+1)=(belowB k b d&&decide (bit k d=bit b d)):=by
 unfold belowB;rw [jt,List.all_append];simp
theorem belowB_no{k b:xA}{d i:Nat}(hi:i<d)(h:bit k i≠bit b i):belowB k b d=false:=by
 rw [Bool.eq_false_iff]
 intro h1
 exact h (yc (List.all_eq_true.1 h1 i (List.mem_range.2 hi)))
theorem belowB_yes{k b:xA}{d:Nat}(h: ∀i<d,bit k i=bit b i):belowB k b d=true:=List.all_eq_true.2 λi hi=>ya (h i (List.mem_range.1 hi))
theorem belowB_kv{k b:xA}(hk:k.length=16)(hb:b.length=16): ∀{d:Nat},d<=128->(belowB k b d=true↔kv k/2^(128-d)=kv b/2^(128-d))
 |0,_=>by
  have h1:=kv_lt k
  have h2:=kv_lt b
  rw [hk] at h1
  rw [hb] at h2
  rw [zC (yE h1 xC),zC (yE h2 xC)]
  exact⟨λ_=>rfl,λ_=>rfl⟩
 |d+1,hd=>by
  have ih:=belowB_kv hk hb (d:=d) xB
  have e1:=pre_succ (kv k) (127-d)
  have e2:=pre_succ (kv b) (127-d)
  rw [show 127-d+1=128-d by omega] at e1 e2
  rw [belowB_succ,jh,ih,yZ,bit_kv hk xB,bit_kv hb xB,show 128-(d+1)=127-d by omega]
  constructor
  . rintro⟨h1,h2⟩;omega
  . intro h1;omega
def bel(l:List PR)(b:xA)(d:Nat):List PR:=l.filter λp=>belowB p.1 b d
theorem bel_wf{l:List PR}(h:Once l)(hl: ∀p∈l,p.1.length=16){b:xA}(hb:b.length=16){d:Nat}(hd:d<=128):WF (128-d) (bel l b d):=
 ⟨h.sublist List.filter_sublist,λp hp=>hl p (List.mem_filter.1 hp).1,λp hp q hq=>by
  obtain ⟨h1,h2⟩:=List.mem_filter.1 hp
  obtain ⟨h3,h4⟩:=List.mem_filter.1 hq
  rw [(belowB_kv (hl p h1) hb hd).1 h2,(belowB_kv (hl q h3) hb hd).1 h4]⟩
theorem bel_zero(l:List PR)(b:xA):bel l b 0=l:=List.filter_eq_self.2 λ_ _=>rfl
theorem qYR{f:Nat}{l:List PR}(h:WF (f+1) l):Sb.join (nd f (side f true l)) (nd f (side f false l))=nd (f+1) l:=by
  match l,h with
  | [],_=>rw [show side f true []= [] from rfl,show side f false []= [] from rfl,nd_nil,nd_nil];rfl
  | [p],_=>
    have hl:=qOB p.1 p.2
    rcases hb:decide (kv p.1/2^f%2=0) with _|_
    . rw [show side f true [p]= [] by unfold side;rw [jp,yW (by rw [hb];decide)];rfl,show side f false [p]= [p] by unfold side;rw [jp,yX (by rw [hb];decide)];rfl,nd_nil,nd_one,nd_one]
      unfold Sb.join
      rw [yX ⟨rfl,.inr hl⟩]
    . rw [show side f true [p]= [p] by unfold side;rw [jp,yX (by rw [hb];decide)];rfl,show side f false [p]= [] by unfold side;rw [jp,yW (by rw [hb];decide)];rfl,nd_nil,nd_one,nd_one]
      unfold Sb.join
      rw [yW (λh=>qOA _ _ h.1),yX ⟨rfl,hl⟩]
  |a::b::r,_=>rfl
theorem bel_half{l:List PR}(hl: ∀p∈l,p.1.length=16){b c:xA}(hb:b.length=16)(hc:c.length=16){d:Nat}(hd:d<128)(t:Bool)(h:kv c/2^(127-d)=2*(kv b/2^(128-d))+(if t=true then 0 else 1)):
    bel l c (d+1)=side (127-d) t (bel l b d):=by
  unfold bel side
  rw [zt]
  refine zz λp hp=>?_
  have h1:=belowB_kv (hl p hp) hc (d:=d+1) xB
  have h2:=belowB_kv (hl p hp) hb (d:=d) xB
  have e1:=pre_succ (kv p.1) (127-d)
  rw [show 127-d+1=128-d by omega] at e1
  rw [show 128-(d+1)=127-d by omega,h] at h1
  rw [Bool.eq_iff_iff,h1,jh,h2,beq_iff_eq]
  cases t
  . rw [yW xC,decide_eq_false_iff_not]
    constructor
    . intro h;omega
    . rintro⟨h3,h4⟩;omega
  . rw [yX rfl,yZ]
    constructor
    . intro h;omega
    . rintro⟨h3,h4⟩;omega
def ndB(l:List PR)(b:xA)(d:Nat):xA:=nd (128-d) (bel l b d)
theorem ndB_join{l:List PR}(h:Once l)(hl: ∀p∈l,p.1.length=16){b c e:xA}(hb:b.length=16)(hc:c.length=16)(he:e.length=16){d:Nat}(hd:d<128)
    (h0:kv c/2^(127-d)=2*(kv b/2^(128-d))) (h1:kv e/2^(127-d)=2*(kv b/2^(128-d))+1):Sb.join (ndB l c (d+1)) (ndB l e (d+1))=ndB l b d:=by
  unfold ndB
  have hw:=bel_wf h hl hb (d:=d) xB
  rw [bel_half hl hb hc hd true (by rw [yX rfl];exact h0),bel_half hl hb he hd false (by rw [yW xC];exact h1),show 128-d=127-d+1 by omega,show 128-(d+1)=127-d by omega]
  exact qYR (by rw [show 127-d+1=128-d by omega];exact hw)
theorem ndB_perm{l l':List PR}(h:Once l)(hl: ∀p∈l,p.1.length=16)(hp:l.Perm l'){b:xA}(hb:b.length=16){d:Nat}(hd:d<=128):ndB l b d=ndB l' b d:=
 nd_perm _ (bel_wf h hl hb hd) (hp.filter _)
theorem ndB_zero(l:List PR)(b:xA):ndB l b 0=nd 128 l:=by unfold ndB;rw [bel_zero]
end Sm
end Go.Proofs.YtmemgokiolfdoaaGreatDoor
namespace Go.Proofs.YtmemgokiolfdoaaGreatDoor
open Go Go.Fw Go.Proofs.Tryz
structure Pr where
 k:xA
 v:xA
 deriving DecidableEq
def Pr.cells(x:Pr):yU:= [Str (x.k),Str (x.v)]
def qGO:Pr:=⟨[],[]⟩
def qGt(l:List Pr):List yU:=l.map Pr.cells
theorem qGs{l:List Pr}{k:Nat}(h:k<l.length):(qGt l)[k]?=some (l.getD k qGO).cells:=by
 unfold qGt
 rw [jO,qAc qGO h];rfl
theorem qFO(a:List Pr)(x:Pr):qGt (a++ [x])=qGt a++ [x.cells]:=by simp [qGt]
def toP(p:Pr):Sm.PR:=(p.k,p.v)
abbrev ssM(l:List Sm.PR):MP:=l.map λp=>(p.1,Str p.2)
theorem qMo: ∀(l:List Sm.PR) (k:xA),qLT (ssM l) k=(Sm.getP l k).map Str
 | [],_=>rfl
 |p::r,k=>by
  show(if p.1=k then some (Str p.2) else qLT (ssM r) k)=_
  rw [Sm.getP]
  by_cases h:p.1=k
  . rw [yX h,yX h];rfl
  . rw [yW h,yW h];exact qMo r k
theorem qQ3: ∀(l:List Sm.PR) (k v:xA),qNk (ssM l) k (Str v)=ssM (Sm.putP l k v)
 | [],_,_=>rfl
 |p::r,k,v=>by
  show(if p.1=k then(k,Str v)::ssM r else(p.1,Str p.2)::qNk (ssM r) k (Str v))=_
  rw [Sm.putP]
  by_cases h:p.1=k
  . rw [yX h,yX h];rfl
  . rw [yW h,yW h,qQ3 r k v];rfl
theorem qSa(o:Option xA):(o.map Str).getD (Str [])=Str (o.getD []):=by cases o<;>rfl
def qCo(m:Hp)(g:Nat)(l:List Sm.PR):Prop:= ∃gm,qAI m ⟨g,0,none⟩ [.map (some gm)]/\MapAt m gm (ssM l)
def qGg(m:Hp)(g:Nat)(l:List Sm.PR):Prop:= ∃gm mm,m=U [blk g [.map (some gm)] 237,mm]/\Dj (blk g [.map (some gm)] 237) mm/\MapS mm gm (ssM l)
theorem qCo.mono{m m':Hp}{g:Nat}{l:List Sm.PR}(h:qCo m g l)(hl:Le m m'):qCo m' g l:=by
 obtain ⟨gm,h1,h2⟩:=h
 exact⟨gm,h1.mono hl,h2.mono hl⟩
theorem qGg.at{m:Hp}{g:Nat}{l:List Sm.PR}(h:qGg m g l):qCo m g l:=by
 obtain ⟨gm,mm,rfl,hd,h2⟩:=h
 have hdd:Djs [blk g [.map (some gm)] 237,mm]:=qAh.2 (by simpa using hd)
 exact⟨gm,qAI.blk0.mono (qG2 hdd (.head _)),h2.at.mono (qG2 hdd (.tail _ (.head _)))⟩
namespace Sha
theorem qQQ(tag:UInt8)(a:List xA)(x:xA):tagB tag (a++ [x])=tagB tag a++(numB (UInt64.ofNat x.length) 4++x):=by
 unfold tagB
 rw [List.flatMap_append,<-jM];simp
theorem tagB_take_succ(tag:UInt8)(ls:List xA)(k:Nat)(h:k<ls.length):tagB tag (ls.take (k+1))=tagB tag (ls.take k)++(numB (UInt64.ofNat (ls.getD k []).length) 4++ls.getD k []):=by
 rw [jP h,qQQ,jB,jD h];rfl
theorem flat_take(ls:List xA)(k:Nat):(ls.take k).flatten.length<=ls.flatten.length:=by
 have:=yY (λl=>l.flatten.length) (zN k ls)
 simp only [zA,jA] at this;omega
end Sha
attribute [local irreducible] Sha.tagB
theorem qBZ(F:Hp)(tag:UInt8)(A:yS)(n c:Nat)(ls:List xA)(hl:Sl F 1 A n c (qAG ls))(htot:ls.flatten.length<=8589934592)(hn:n<=1073741824):
    Cz prog 150 [B8 tag,.slice A n c] F (Str (Sha.tagged tag ls)):=by
  have hlen:ls.length=n:=by have:=hl.1;simpa [qAG] using this
  refine y7 func150 O ntmps150 O (λw0 hw0=>?_)
  refine yl λ_ C1=>yh O<|yi C1<|yl λ_ C2=>yh O<|yp (qAE (l:= [.tmp 7]) (xs:= [[B8 tag]]) O O O O qBo el5 O xC xC xD) O λg8 _=>yj (qBO (l:= [tag]) O O qBo u5_ u9_ (m:=blk g8 [B8 tag] 5) xD (qAj (q:=True) (xs:= [[B8 tag]]) O xD).sl) O<|yh O<|yi C2<|ym λ_ C3=>ym λ_ C4=>vW [0] [F] O xC<|yt<|yh O<|yi C4<|yz<|vN (λk:Nat=> [(1,.slice A n c),(5,Str (Sha.tagB tag (ls.take k))),(6,I k)]) (λ_=> [F]) (λk=>k<=n) (λk=>n-k) 0 (jH _) ⟨O,by unfold Sha.tagB;rfl,O,yd⟩ (λ_ h=>h) ?_
  intro k hk I0 hI0
  have htl:=Sha.tagB_length tag (ls.take k)
  have hft:=Sha.flat_take ls k
  rw [jF] at htl
  refine ym λ_ C5=>yl λ_ C6=>yn 2 O<|yj (qAN qAg O O) O<|yj (qAP O O O) O<|yi C6<|y1 O (λh13=>?_) (λh13=>?_)
  .
    refine yy C5<|ym λ_ C7=>yz ?_
    have hts:=Sha.tagB_take_succ tag ls k xB
    have hgl:=qN9 (qAc [] (show k<ls.length by omega))
    refine vQ [F] [] (.y 0 (.y 1 (.y 2 (.y 3 (.y 4 (.y 5 (.y 7 (.y 8 (.y 9 (.y 10 (.e 6 (.y 11 (.y 12 (.y 13 .nil)))))))))))))) ye xF xD ?_
    iterate 3 refine yx ?_
    refine yo O (qAC O O O qAg z9_ hl xB) O O<|yo O (qAH O O b9_ (m:=F) xD (hl.elem (qAa (qAc [] (show k<ls.length by omega))))) O O<|yo O (qAn u9_ O O) O O<|yx ?_
    refine yx ?_
    refine yo O (qAC O O O qAg z9_ hl xB) O O<|yo O (qAH O O b9_ (m:=F) xD (hl.elem (qAa (qAc [] (show k<ls.length by omega))))) O O<|vD O (qAZ O O (λF' hF=>qYp F' (ls.getD k []).length xB)) O xD λg22 _=>yo O ((qAq O O O (by rw [Sha.numB_length];omega))) O O<|yo O ((qAq O O O (by rw [jA,Sha.numB_length];omega)).as (v':=Str (Sha.tagB tag (ls.take (k+1)))) (by rw [hts])) O O<|vU ?_
    refine vM<|vB<|yq (yu C7 ?_)
    exact yt<|yh O<|yj ((qAM O O O xB).nat (k+1) xB) O<|yh O<|y8<|yq<|vE (k+1) hI0 xB (Sub.of O) (λ_ h=>h)
  refine vK<|y6<|y6<|vL ?_
  refine yq (yu C3 ?_)
  refine ym λ_ C8=>?_
  have htl:=Sha.tagB_length tag ls
  exact yt<|yj ((qAT O O).as (v':=Str (Sha.tagB tag ls)) (by rw [jV xB])) O<|yp (qAZ O O (λF' hF=>qXQ F' (Sha.tagB tag ls) xB)) O λg30 _=>yj ((qA0 u9_ O O O O ⟨xB,by rw [Sha.sum_length];decide⟩).as (yY Str (zI))) O<|yh O<|yi C8<|yr<|yw hw0 O () (by unfold Sha.tagged;rfl) yd [0] O xC
end Go.Proofs.YtmemgokiolfdoaaGreatDoor
namespace Go.Proofs.YtmemgokiolfdoaaGreatDoor
open Go Go.Fw Go.Proofs.Tryz
theorem qaN{s:xA}{i:Nat}(h:i<s.length):s[i]?=some (s.getD i 0):=qAc 0 h
theorem qGS(F:Hp)(k:xA)(hk:k.length<=1000000)(d:Nat)(hd:d<=1000000):Cz prog 213 [Str (k),I (d:Nat)] F (I (Sm.bit k d:Nat)):=by
 refine y7 func213 O ntmps213 O (λw0 hw0=>?_)
 refine yl λ_ C1=>yh O<|yi C1<|ym λ_ C2=>yl λ_ C3=>yh O<|yj (qAP O O O) O<|yh O<|vO (d:=7) O (λh7=>?_) (λh7=>?_)
 .
  refine yn 6 O<|yi C3<|vV ?_
  exact yl λ_ C4=>yh O<|yi C4<|yr<|y5<|yw hw0 O () (by unfold Sm.bit;rw [yW xB];rfl) yd [0] O xC
 refine yn 2 O<|yv (qAn u9_ O O) O<|yv ((qCA O O O (by first|omega|(have h8:=(UInt8.ofNat ((k.getD (d/8) 0).toNat/2^(7-d%8))).toNat_lt;omega))).nat (8*k.length) xB) O<|yv (qA1 O O O) O<|yh O<|yi C3<|y1 O (λh13=>?_) (λh13=>?_)
 .
  exact yl λ_ C5=>yh O<|yi C5<|yr<|y5<|yw hw0 O () (by unfold Sm.bit;rw [yW xB];rfl) yd [0] O xC
 refine yy C2<|ym λ_ C6=>?_
 have hb8:((k.getD (d/8) 0).toNat/2^(7-d%8))<256:=jx (jv _ _) (k.getD (d/8) 0).toNat_lt
 have hbe:(UInt8.ofNat ((k.getD (d/8) 0).toNat/2^(7-d%8))).toNat&&&1=Sm.bit k d:=by
  unfold Sm.bit
  rw [yX xB,UInt8.toNat_ofNat_of_lt' hb8,Nat.and_one_is_mod]
 exact yt<|yn 2 O<|yj ((qFV O O O (by first|omega|(have h8:=(UInt8.ofNat ((k.getD (d/8) 0).toNat/2^(7-d%8))).toNat_lt;omega))).nat (d/8) xB) O<|yj (qA9 u9_ O O O (qaN xB)) O<|yh O<|yj ((qDM O O O (by first|omega|(have h8:=(UInt8.ofNat ((k.getD (d/8) 0).toNat/2^(7-d%8))).toNat_lt;omega))).nat (d%8) xB) O<|yj ((qAm O O O xB).nat (7-d%8) xB) O<|yj ((qRV O O O).as (v':=B8 (UInt8.ofNat ((k.getD (d/8) 0).toNat/2^(7-d%8)))) (by rw [jq xB])) O<|yj (qBG O O u5_ u3_) O<|yj (qMX (a:=(UInt8.ofNat ((k.getD (d/8) 0).toNat/2^(7-d%8))).toNat) (b:=1) O O O (by first|omega|(have h8:=(UInt8.ofNat ((k.getD (d/8) 0).toNat/2^(7-d%8))).toNat_lt;omega))) O<|yh O<|yi C6<|yr<|yw hw0 O () (by rw [hbe]) yd [0] O xC
theorem qFi(F:Hp)(k:xA)(hk:k.length<=1000000)(b:xA)(hb:b.length<=1000000)(d:Int):Cz prog 145 [Str (k),Str (b),I (d)] F (.bool (Sm.belowB k b (min d.toNat 128))):=by
 refine y7 func145 O ntmps145 O (λw0 hw0=>?_)
 refine yl λ_ C1=>yh O<|yi C1<|ym λ_ C2=>yl λ_ C3=>yh O<|yj ((qNt O O O).nat (d.toNat) xB) O<|yj ((qEx O O O).nat (min d.toNat 128) xB) O<|yh O<|yi C3<|yz<|vN (X:=Nat) (λζ=> [(0,Str (k)),(1,Str (b)),(10,I (min d.toNat 128:Nat)),(11,I (ζ:Nat))]) (λζ=> [F]) (λζ=>ζ<=min d.toNat 128/\ ∀j<ζ,Sm.bit k j=Sm.bit b j) (λζ=>min d.toNat 128-ζ) 0 (⟨jH _,λj h=>absurd h (jz j)⟩) (Sub.of O) (λ_ h=>h) ?_
 rintro i ⟨hi,hs⟩ I0 hI0
 refine yl λ_ C4=>yj (qAP O O O) O<|yi C4<|ym λ_ C5=>y1 O (λh12=>?_) (λh12=>?_)
 .
  refine yy C5<|ym λ_ C6=>yz<|yl λ_ C7=>yn 2 O<|yi C7<|yl λ_ C8=>yn 2 O<|yp (qAZ O O (λF' hF=>qGS F' k (by first|omega|exact hsm _) i xB)) O λg16 _=>yn 2 O<|yp (qAZ O O (λF' hF=>qGS F' b (by first|omega|exact hsm _) i xB)) O λg19 _=>yj (qAQ O O O) O<|yi C8<|y1 O (λh20=>?_) (λh20=>?_)
  .
   exact yl λ_ C9=>yh O<|yi C9<|yr<|vI<|y5<|y5<|vI<|y5<|yw hw0 O () (by rw [Sm.belowB_no (i:=i) xB xB]) yd [0] O xC
  refine vP<|vB<|yq (yu C6 ?_)
  exact yt<|yj ((qAM O O O xB).nat (i+1) xB) O<|yh O<|y8<|yq<|vE (i+1) hI0 ⟨xB,λj hj=>by rcases Nat.lt_succ_iff_lt_or_eq.1 hj with h|rfl;exact hs j h;omega⟩ (Sub.of O) (λ_ h=>h)
 refine vK<|y6<|y6<|vL ?_
 refine yq (yu C2 ?_)
 exact yl λ_ C10=>yh O<|yi C10<|yr<|yw hw0 O () (by rw [Sm.belowB_yes (λj hj=>hs j xB)]) yd [0] O xC
theorem qZH(F:Hp)(k:xA)(hk:k.length<=1000000)(d:Nat)(hd:d<=1000000):Cz prog 153 [Str (k),I (d:Nat)] F (I (Sm.bit k d:Nat)):=by
 refine y7 func153 O ntmps153 O (λw0 hw0=>?_)
 refine yl λ_ C1=>yh O<|yi C1<|ym λ_ C2=>yl λ_ C3=>yh O<|yj (qAP O O O) O<|yh O<|vO (d:=9) O (λh9=>?_) (λh9=>?_)
 .
  refine yn 6 O<|yi C3<|vV ?_
  exact yl λ_ C4=>yh O<|yi C4<|yr<|y5<|yw hw0 O () (by unfold Sm.bit;rw [yW xB];rfl) yd [0] O xC
 refine yn 2 O<|yv (qAn u9_ O O) O<|yv ((qCA O O O xB).nat (8*k.length) xB) O<|yv (qA1 O O O) O<|yh O<|yi C3<|y1 O (λh15=>?_) (λh15=>?_)
 .
  exact yl λ_ C5=>yh O<|yi C5<|yr<|y5<|yw hw0 O () (by unfold Sm.bit;rw [yW xB];rfl) yd [0] O xC
 refine yy C2<|yl λ_ C6=>yn 2 O<|yj ((qFV O O O xB).nat (d/8) xB) O<|yj (qA9 u9_ O O O (qaN xB)) O<|yj (qBG O O u5_ u3_) O<|yh O<|yi C6<|ym λ_ C7=>ym λ_ C8=>?_
 have hb8:=(k.getD (d/8) 0).toNat_lt
 refine yt<|yh O<|yj ((qDM O O O xB).nat (d%8) xB) O<|yh O<|yi C8<|yz<|vN (X:=Nat×Nat) (λζ=> [(5,I (ζ.2:Nat)),(6,I (ζ.1:Nat))]) (λζ=> [F]) (λζ=>d%8<=ζ.1/\ζ.1<=7/\ζ.2<=255/\ζ.2/2^(7-ζ.1)=(k.getD (d/8) 0).toNat/2^(7-d%8)) (λζ=>7-ζ.1) (d%8,(k.getD (d/8) 0).toNat) (⟨jL _,by dsimp only;omega,by dsimp only;omega,O⟩) (Sub.of O) (λ_ h=>h) ?_
 rintro⟨j,n⟩ ⟨hj,hj7,hn,he⟩ I0 hI0
 dsimp only at hj hj7 hn he⊢
 refine ym λ_ C9=>yl λ_ C10=>yh O<|yj (qAP O O O) O<|yi C10<|y1 O (λh24=>?_) (λh24=>?_)
 .
  refine yy C9<|ym λ_ C11=>yz<|yt<|yh O<|yj ((qFV O O O xB).nat (n/2) xB) O<|yh O<|y8<|vB<|yq (yu C11 ?_)
  exact yt<|yh O<|yj ((qAM O O O xB).nat (j+1) xB) O<|yh O<|y8<|yq<|vE (j+1,n/2) hI0 ⟨by dsimp only;omega,by dsimp only;omega,by dsimp only;omega,by dsimp only;rw [zQ,show 2*2^(7-(j+1))=2^(7-j) by rw [<-Nat.pow_succ'];congr 1;omega];exact he⟩ (Sub.of O) (λ_ h=>h)
 refine vK<|y6<|y6<|vL ?_
 refine yq (yu C7 ?_)
 exact yl λ_ C12=>yh O<|yj ((qDM O O O xB).nat (n%2) xB) O<|yh O<|yi C12<|yr<|yw hw0 O () (by rw [show 7-j=0 by omega] at he;unfold Sm.bit;rw [yX xB,<-he,Nat.pow_zero,Nat.div_one]) yd [0] O xC
theorem qXK(F:Hp):Ct prog 47 [] [F] (λx:Nat×Hp=>Ptr x.1) (λx=>qGg x.2 x.1 ([])) (λx=> [x.2,F]):=by
 refine y7 func47 O ntmps47 O (λw0 hw0=>?_)
 refine yl λ_ C1=>yh O<|yi C1<|yl λ_ C2=>yp (qGC O) O ?_
 rintro g1 _
 exact yj (qAK (places:= [(0,1)]) (r:= [.map (some g1)]) O O O qMJ zeroValue237 (λ_=>xH) O) O<|yp (qAi O O O) O λg3 _=>yh O<|yi C2<|yr<|vH hw0 (λ_ _ h=>h) (qIM O O) (qCf (g3,U [blk g3 [.map (some g1)] 237,qAd g1 (.map #[] 0)]) (O) (λhd=>⟨g1,qAd g1 (.map #[] 0),O,hd,(MapS.nil g1)⟩) [2,1,0] O O xC)
theorem qXL(F:Hp)(g:Nat)(l:List Sm.PR)(hT:qCo F g l)(k:xA):Cz prog 180 [Ptr g,Str (k)] F (.tuple #[Str ((Sm.getP l k).getD []),.bool ((Sm.getP l k).isSome)]):=by
 have hT0:=hT
 obtain ⟨gm,hc,hm⟩:=hT0
 refine y7 func180 O ntmps180 O (λw0 hw0=>?_)
 refine yl λ_ C1=>yn 2 O<|yi C1<|ym λ_ C2=>yl λ_ C3=>yh O<|yj ((qBL qMK O O O).as (v':= .bool false) O) O<|yi C3<|vC ?_
 exact yy C2<|yl λ_ C4=>yh O<|yj (qAB O O) O<|vA 0 qMJ sizeOf235 O O O O O<|yj (qAH O O isAgg235 (m:=F) xD (hc)) O<|yh O<|yj ((qPH O O O qQE u9_ e9_ (m:=F) xD hm).as (v':= .tuple #[Str ((Sm.getP l k).getD []),.bool ((Sm.getP l k).isSome)]) (by rw [qMo,qSa,Option.isSome_map])) O<|yn 5 O<|yi C4<|yl λ_ C5=>yn 4 O<|yi C5<|yr<|vH hw0 (λ_ _ h=>h) (qB5 O O O) (qAf () O yd [0] O xC)
theorem qQJ(F m:Hp)(g:Nat)(l:List Sm.PR)(hb:qGg m g l)(k v:xA)(hk:k.length=16):Ct prog 117 [Ptr g,Str (k),Str (v)] [m,F] (λ_:Hp=>I (0:Nat)) (λm'=>qGg m' g (Sm.putP l k v)) (λm'=> [m',F]):=by
 obtain ⟨gm,mm,rfl,hd,hmp⟩:=hb
 refine y7 func117 O ntmps117 O (λw0 hw0=>?_)
 refine wF hd ?_
 refine yl λ_ C1=>yh O<|yi C1<|ym λ_ C2=>yz<|yl λ_ C3=>yh O<|yj (qBL qMK O O O) O<|yh O<|yi C3<|vC ?_
 refine yl λ_ C4=>yh O<|yj (qAn u9_ O O) O<|yj ((qAQ O O O).no xB) O<|yh O<|yi C4<|vC ?_
 refine vP<|vB<|yq (yu C2 ?_)
 refine yl λ_ C5=>yh O<|yj (qAB O O) O<|vA 0 qMJ sizeOf235 O O O O O<|vF 0 isAgg235 O O O O O<|yn 2 O<|vG (qDP (i:=1) O O O O qQE u9_ O hmp) O O ?_
 rintro m5_1 hm5_1
 rw [qQ3] at hm5_1
 exact yi C5<|yl λ_ C6=>yh O<|yi C6<|yr<|vH hw0 (λ_ _ h=>h) (qIM O O) (qCf (U [blk g [.map (some gm)] 237,m5_1]) (O) (λhd=>⟨gm,m5_1,O,hd,hm5_1⟩) [0,1,2] O O xC)
theorem qVA(F:Hp)(k v:xA)(hk:k.length<=1000000)(hv:v.length<=1000000):Cz prog 152 [.agg #[Str (k),Str (v)]] F (Str (Sb.leafN k v)):=by
 refine y7 func152 O ntmps152 O (λw0 hw0=>?_)
 change J _ [(0,_)] _ _ _
 refine yl λ_ C1=>yp (qAi (l:= [Str (k),Str (v)]) O O O) O λg1 _=>?_
 change J _ _ _ [F,blk g1 [Str (k),Str (v)] 274] _
 refine yh O<|yi C1<|yl λ_ C2=>vA 0 qQD z9_ O O O O O<|yj (qAD 1 (v:=Str (k)) O O O b9_ O) O<|vA 1 qQD z9_ O O O O O<|yj (qAD 1 (v:=Str (v)) O O O b9_ O) O<|yp (qAE (l:= [.tmp 4,.tmp 6]) (xs:= [[Str (k)],[Str (v)]]) O O O O qAg el9 O xC xC xD) O λg7 _=>?_
 change J _ _ _ [_,_,blk g7 [Str (k),Str (v)] 9] _
 exact yp (qAZ O O (λF' hF=>qBZ F' 9 (some ⟨g7,0,none⟩) 2 2 ([k,v]) (((qAz (q:=True) (qAG [k,v]) O (by simp [qAG]) O).sl).mono (hF (blk g7 [Str (k),Str (v)] 9) xD)) xJ xB)) O λg8 _=>yj (qAq (a:= [1]) (b:=Sha.tagged 9 ([k,v])) O O O (by first|omega|(simp only [jC,jG,Sha.tagged_length] at*;omega))) O<|yh O<|yi C2<|yr<|yw hw0 O () (by unfold Sb.leafN;rfl) yd [0] O xC
namespace Sha
end Sha
attribute [local irreducible] Sha.tagB
end Go.Proofs.YtmemgokiolfdoaaGreatDoor
namespace Go.Proofs.YtmemgokiolfdoaaGreatDoor
open Go Go.Fw Go.Proofs.Tryz
attribute [local irreducible] Mk.node
namespace Mk
theorem qJC(s:xA): ∀(p:List xA) (x:xA) (i:Nat),climb x i (p++ [s])=if i/2^p.length%2=0 then node (climb x i p) s else node s (climb x i p)
 | [],x,i=>by simp [climb]
 |a::p,x,i=>by
  rw [yC,climb,climb,qJC s p,jC,ju,zi,<-zQ]
theorem qLp(l:List xA)(h i:Nat)(hl:l.length=2^h)(hi:i<2^h): ∀j,j<=h->climb (l.getD i []) i (path l i j)=(lvl l j).getD (i/2^j) []
  |0,_=>by simp [path,climb,lvl]
  |j+1,hj=>by
    have hlen:=lvl_length l h hl j xB
    have h1:i/2^j<2^(h-j):=by rw [yG (jy j),<-Nat.pow_add,show h-j+j=h by omega];exact hi
    have h2:=qKf (show 0<h-j by omega)
    rw [path_succ,qJC,qLp l h i hl hi j xB,path_length,ju,<-zQ]
    generalize i/2^j=q at*
    rw [show lvl l (j+1)=above (lvl l j) from rfl,jB (l:=above (lvl l j)),qTH,hlen,yX (show q/2<2^(h-j)/2 by omega),qW7]
    split
    . rename_i e
      rw [show 2*(q/2)=q by omega];rfl
    . rename_i e
      rw [show 2*(q/2)=q-1 by omega,show q-1+1=q by omega];rfl
theorem climb_root(l:List xA)(h i:Nat)(hl:l.length=2^h)(hi:i<2^h):climb (l.getD i []) i (path l i h)=root l h:=by
 rw [qLp l h i hl hi h (jL _),zC hi];rfl
theorem flat_small{ls:List xA}{w:Nat}(h: ∀s∈ls,s.length<=w):ls.flatten.length<=w*ls.length:=by
 induction ls with
 |nil=>simp
 |cons a l ih=>
  have:=ih (λs hs=>h s (.tail _ hs))
  have h2:=h a (.head _)
  rw [jo,jA,jC,Nat.mul_add];omega
end Mk
namespace Sha
end Sha
attribute [local irreducible] Sha.tagB Mk.root Mk.path
end Go.Proofs.YtmemgokiolfdoaaGreatDoor
namespace Go.Proofs.YtmemgokiolfdoaaGreatDoor
open Go Go.Fw Go.Proofs.Tryz
theorem qIp(F:Hp)(s:xA):
    Cz prog 205 [Str s] F (dpV s):=by
  refine y7 func205 O ntmps205 O (λw0 hw0=>?_)
  refine yl λ_ C1=>yp (qAO O qOR O) O λg2 _=>yh O<|yi C1 ?_
  refine yl λ_ C2=>yh O<|yp (qBx O O (λF' _=>(qE2 F' s).mono (φ2:=λ_=>True) (val2:=Ptr) (ms2:=λg=>F':: [RSb g ⟨s,0⟩]) id (λ_ _=>rfl) (λ_ h=>h) (λx w0 w _ h=>h.pick [1,0] xC))) O ?_
  rintro g8 _
  refine yh O<|yi C2 ?_
  refine yl λ_ C3=>yh O<|yp (qAJ O O ent (vR 2 O (λF' _=>qB1 F' g8 (⟨s,0⟩:RS) 16))) O λg10 _=>yh O<|yp (qAJ O O ent (vR 2 O (λF' _=>qB1 F' g8 ((⟨s,0⟩:RS).take 16) 16))) O λg12 _=>yh O<|yp (qAJ O O ent (vR 2 O (λF' _=>qCb F' g8 (((⟨s,0⟩:RS).take 16).take 16) 1 xB xB))) O λg14 _=>yj (qBv O O qDJ u3_ (by have:=qE9 ((((⟨s,0⟩:RS).take 16).take 16).out 1);have h2:=(((⟨s,0⟩:RS).take 16).take 16).out_len 1;have h3:=jZ (n:=256) xB h2;omega)) O<|yj (qAK (places:= [(0,1),(1,1),(2,1)]) (r:= [Str ((⟨s,0⟩:RS).out 16),Str (((⟨s,0⟩:RS).take 16).out 16),I (qBd ((((⟨s,0⟩:RS).take 16).take 16).out 1))]) O O O qFl qOR (λ_=>xH) O) O<|yp (qAO O qOR O) O λg5 _=>vG (qAF (l:= [Str [],Str [],I 0]) (i:=3) (vs:= [Str ((⟨s,0⟩:RS).out 16),Str (((⟨s,0⟩:RS).take 16).out 16),I (qBd ((((⟨s,0⟩:RS).take 16).take 16).out 1))]) O O O O O qDF O O) O O λ_ _=>yi C3 ?_
  refine ym λ_ C4=>yl λ_ C5=>yh O<|yp (qAJ O O ent (vR 2 O (λF' _=>qJA F' g8 ((((⟨s,0⟩:RS).take 16).take 16).take 1)))) O λg18 _=>yh O<|yi C5 ?_
  refine yl λ_ C6=>yh O<|yj (qAQ O O O) O<|yi C6 ?_
  refine y1 O (λh20=>?_) (λh20=>?_)
  .
    refine yl λ_ C7=>yj (qAK (places:= [(0,1),(1,1),(2,1)]) (r:= [Str [],Str [],I 0]) O O O qFl qOR (λ_=>xH) O) O<|yh O<|vG (qAF (i:=1) O O O O O qDF O O) O O λ_ _=>yh O<|yi C7 ?_
    exact yr<|y5<|vH hw0 (λ_ _ h=>h) (rv2 O (RV.blkA 1 O O qKM qDF) O) (qAf () (qWy (dp_e xB) xB) yd [0] O xC)
  refine yy C4 ?_
  refine ym λ_ C8=>ym λ_ C9=>?_
  obtain ⟨hl,ho1,ho2,hn⟩:=qSj (s:=s) xB
  refine yt<|vA 2 qFl z3_ O O O O O<|vF 3 b3_ O O O O O<|yj (qAs O O O) O<|yi C9 ?_
  refine y1 O (λh25=>?_) (λh25=>?_)
  .
    refine yl λ_ C10=>yj (qAK (places:= [(0,1),(1,1),(2,1)]) (r:= [Str [],Str [],I 0]) O O O qFl qOR (λ_=>xH) O) O<|vG (qAF (i:=1) O O O O O qDF O O) O O λ_ _=>yh O<|yi C10 ?_
    exact yr<|y5<|vH hw0 (λ_ _ h=>h) (rv2 O (RV.blkA 1 O O qKM qDF) O) (qAf () (qWy (dp_4 xB xB) xC) yd [0] O xC)
  refine yy C8 ?_
  refine yl λ_ C11=>vT 3 qKM qDF O O O O O<|vG (qAF (l:= [Str [],Str [],I 0]) (i:=1) (vs:= [Str ((⟨s,0⟩:RS).out 16),Str (((⟨s,0⟩:RS).take 16).out 16),I (qBd ((((⟨s,0⟩:RS).take 16).take 16).out 1))]) O O O O O qDF O O) O O λ_ _=>yh O<|yi C11 ?_
  exact yr<|vH hw0 (λ_ _ h=>h) (rv2 O (RV.blkA 1 O O qKM qDF) O) (qAf () (by have he:=dp_ok (s:=s) xB xB;unfold dpV dpO dpR dpH;rw [he,yX rfl,yX rfl,yX rfl,ho1,ho2,hn]) yd [0] O xC)
def qBK(v:Nat)(o r:xA)(h:Int)(p:xA):Int:=if v<1\/4294967295<v then 13 else if qBT o r h=0/\p.length=16 then 0 else 10
def qA6(v:Nat)(o r:xA)(h:Int)(p:xA):xA:=if qBK v o r h p=0 then Sha.numB (UInt64.ofNat v) 4++qAo o r h++p else []
def enV(v:Nat)(o r:xA)(h:Int)(p:xA):Value:= .tuple #[Str (qA6 v o r h p),I (qBK v o r h p)]
theorem qE0{v:Nat}{o r:xA}{h:Int}{p:xA}{e:Int}(he:qBK v o r h p=e)(h0:e≠0):Value.tuple #[Str [],I e]=enV v o r h p:=by
 unfold enV qA6
 rw [he,yW h0]
theorem qVe{v:Nat}{o r:xA}{h:Int}{p:xA}(hv:v<1\/4294967295<v):qBK v o r h p=13:=yX hv
theorem qQ6{o r:xA}{h:Int}(he: ¬qBT o r h=0):qBT o r h=10:=by
 unfold qBT at he⊢
 split at he
 . omega
 . rename_i h1;rw [yW h1]
theorem en_10{v:Nat}{o r:xA}{h:Int}{p:xA}(h1: ¬v<1)(h2: ¬4294967295<v)(he: ¬qBT o r h=0):qBK v o r h p=10:=by
 unfold qBK
 rw [yW xB,yW (λe=>he e.1)]
theorem qaT{v:Nat}{o r:xA}{h:Int}{p:xA}(h1: ¬v<1)(h2: ¬4294967295<v)(he:qBT o r h=0):
    Value.tuple #[Str (if qCd (okF p 16) 10 0=0 then qKZ p 16 (Sha.numB (UInt64.ofNat v) 4++qAo o r h) 0 else []),I (qCd (okF p 16) 10 0)]=enV v o r h p:=by
  unfold enV qA6
  by_cases h3:p.length=16
  . have e:qBK v o r h p=0:=by unfold qBK;rw [yW xB,yX ⟨he,h3⟩]
    rw [e,qMa h3,qC7,yX rfl,yX rfl,qHK h3]
  . have e:qBK v o r h p=10:=by unfold qBK;rw [yW xB,yW (λe=>h3 e.2)]
    have e2:qCd (okF p 16) 10 0=10:=by rw [okF_f h3];rfl
    rw [e,e2,yW xC,yW xC]
theorem qJB(F:Hp)(v:Nat)(o r:xA)(h:Int)(p:xA)(hv:v<18446744073709551616)(ho:o.length<=1048576)(hr:r.length<=1048576)(hp:p.length<=1048576):
    Cz prog 107 [.agg #[N64 v,Str o,Str r,I h,Str p]] F (enV v o r h p):=by
  refine y7 func107 O ntmps107 O (λw0 hw0=>?_)
  refine yl λ_ C1=>yp (qAi O O O) O λg1 _=>yn 2 O<|yi C1 ?_
  refine ym λ_ C2=>yl λ_ C3=>vA 0 qDG qBV O O O O O<|vF 1 qBe O O O O O<|yj (qAP O O O) O<|yh O<|vO (d:=10) O (λh10=>?_) (λh10=>?_)
  .
    refine yn 4 O<|yi C3 ?_
    refine vV ?_
    refine yl λ_ C4=>yn 2 O<|yi C4 ?_
    exact yr<|y5<|vH hw0 (λ_ _ h=>h) (qB5 O O O) (qAf () (qE0 (qVe xB) xC) yd [0] O xC)
  refine yv (qAA O O qDG O qBV O) O<|yv (qAD 1 O O O qBe O) O<|yv (qAs O O O) O<|yh O<|yi C3 ?_
  refine y1 O (λh14=>?_) (λh14=>?_)
  .
    refine yl λ_ C5=>yn 2 O<|yi C5 ?_
    exact yr<|y5<|vH hw0 (λ_ _ h=>h) (qB5 O O O) (qAf () (qE0 (qVe xB) xC) yd [0] O xC)
  refine yy C2 ?_
  refine yl λ_ C6=>vA 1 qDG qDF O O O O O<|yj (qHd 1 O O qKM qDF (vs:= [Str o,Str r,I h]) O (qAI.blk 1 (λj u hj=>by match j with|0=>exact hj|1=>exact hj|2=>exact hj)) O) O<|yp (qAZ O O (λF' hF=>qCr F' o r h ho hr)) O λg18 _=>yn 5 O<|yi C6 ?_
  refine ym λ_ C7=>yl λ_ C8=>yh O<|yj (qAQ O O O) O<|yi C8 ?_
  refine y1 O (λh22=>?_) (λh22=>?_)
  .
    refine yl λ_ C9=>yn 3 O<|yi C9 ?_
    exact yr<|y5<|vH hw0 (λ_ _ h=>h) (qB5 O O O) (qAf () (qE0 ((en_10 xB xB xB).trans (qQ6 xB).symm) xB) yd [0] O xC)
  refine yy C7 ?_
  refine ym λ_ C10=>?_
  have hk0:qBT o r h=0:=xB
  have hkl:=qCP hk0
  refine yt<|yp (qAO O qLf O) O λg6 _=>yi C10 ?_
  refine ym λ_ C11=>vQ [blk g1 [N64 v,Str o,Str r,I h,Str p] 102] [] (.y 0 (.y 1 (.y 3 (.y 5 (.y 6 (.e 2 (.e 4 (.e 7 (.e 8 (.y 9 (.y 10 (.y 11 (.y 12 .nil))))))))))))) ye xF xD ?_
  refine yo O (qAA O O qDG O qBV O) O O<|yo O (qAD 0 O O O qBe O) O O<|yx ?_
  refine yo O (qAA O O qDG O z9_ O) O O<|yo O (qAD 0 O O O b9_ O) O O<|vD O (qAJ O O ent (vR 2 O (λF' _=>qRh F' (blk g6 [.pointer none,.slice none 0 0,I 0] 148) g6 [] 0 (qJO g6) xC v hv 4 xB xB))) O xD ?_
  rintro m26 hw26
  rw [qUt (size:=4) hv xB,qC7,qEG (qUt (size:=4) hv xB),j7] at hw26
  refine vD O (qAJ O O ent (vR 2 O (λF' _=>qDU F' m26 g6 (Sha.numB (UInt64.ofNat v) 4) 0 hw26 (by rw [Sha.numB_length];omega) (qAo o r h) xB 33))) O xD ?_
  rintro m28 hw28
  rw [qHK hkl,qMa hkl,qC7] at hw28
  refine vD O (qAJ O O ent (vR 2 O (λF' _=>qDU F' m28 g6 ((Sha.numB (UInt64.ofNat v) 4)++qAo o r h) 0 hw28 (by rw [jA,Sha.numB_length];omega) p xB 16))) O xD ?_
  rintro m31 hw31
  refine vD O (qAJ O O ent (vR 2 O (λF' _=>qEo F' m31 g6 (qKZ p 16 ((Sha.numB (UInt64.ofNat v) 4)++qAo o r h) 0) (qCd (okF p 16) 10 0) hw31 (by have:=qEb p 16 ((Sha.numB (UInt64.ofNat v) 4)++qAo o r h) 0;rw [jA,Sha.numB_length] at this;omega)))) O xD ?_
  rintro m32 hw32
  refine vm (Str (if qCd (okF p 16) 10 0=0 then qKZ p 16 ((Sha.numB (UInt64.ofNat v) 4)++qAo o r h) 0 else [])) ?_
  refine vm (I (qCd (okF p 16) 10 0)) ?_
  refine vU ?_
  refine vU ?_
  refine vM<|yq (yu C11 ?_)
  exact yr<|vH hw0 (λ_ _ h=>h) (qB5 O O O) (qAf () (qaT xB xB hk0) yd [0] O xC)
def deK(s:xA):xA:=(s.drop 4).take 33
def deE(s:xA):Int:=if s.length<53 then 3 else if 53<s.length then 2 else if 6<(s.getD 36 0).toNat then 4 else if qBd (s.take 4)<1 then 13 else 0
def deN(s:xA):Nat:=if deE s=0 then qBd (s.take 4) else 0
def deO(s:xA):xA:=if deE s=0 then dpO (deK s) else []
def deR(s:xA):xA:=if deE s=0 then dpR (deK s) else []
def deH(s:xA):Nat:=if deE s=0 then dpH (deK s) else 0
def deP(s:xA):xA:=if deE s=0 then(s.drop 37).take 16 else []
def deV(s:xA):Value:= .tuple #[.agg #[N64 (deN s),Str (deO s),Str (deR s),I (deH s),Str (deP s)],I (deE s)]
theorem qSo{s:xA}{e:Int}(h:deE s=e)(he:e≠0):Value.tuple #[.agg #[N64 0,Str [],Str [],I 0,Str []],I e]=deV s:=by
 unfold deV deN deO deR deH deP
 rw [h,yW he,yW he,yW he,yW he,yW he];rfl
theorem qSn(s:xA):((((⟨s,0⟩:RS).take 4).take 33).take 16).last=if s.length<53 then 3 else if 53<s.length then 2 else 0:=qIw [4,33,16] s
theorem qaa{s:xA}(h:((((⟨s,0⟩:RS).take 4).take 33).take 16).last=0):s.length=53:=by
  rw [qSn] at h
  by_cases h1:s.length<53
  . rw [yX h1] at h;omega
  . rw [yW h1] at h
    by_cases h2:53<s.length
    . rw [yX h2] at h;omega
    . omega
theorem qaZ{s:xA}(hl:s.length=53):(⟨s,0⟩:RS).out 4=s.take 4/\((⟨s,0⟩:RS).take 4).out 33=deK s/\(((⟨s,0⟩:RS).take 4).take 33).out 16=(s.drop 37).take 16:=by
 refine⟨qEP xB,?_,?_⟩
 . rw [qBy xB,qEP (by rw [jE];omega)];rfl
 . rw [qBy xB,qBy (by rw [jE];omega),qEP (by rw [jE,jE];omega),zH]
theorem qY0{s:xA}(hl:s.length=53):(deK s).length=33:=by
 unfold deK
 rw [jF,jE];omega
theorem qMw{s:xA}:(deK s).getD 32 0=s.getD 36 0:=by
 unfold deK
 rw [jB,jB,List.getElem?_take_of_lt xC,js]
theorem qY1{s:xA}(hl:s.length=53):dpE (deK s)=if 6<(s.getD 36 0).toNat then 4 else 0:=by
 unfold dpE
 rw [qY0 hl,yW xC,yW xC,qMw]
theorem de_e{s:xA}(h: ¬((((⟨s,0⟩:RS).take 4).take 33).take 16).last=0):deE s=((((⟨s,0⟩:RS).take 4).take 33).take 16).last:=by
  rw [qSn] at h⊢
  unfold deE
  by_cases h1:s.length<53
  . rw [yX h1,yX h1]
  . rw [yW h1,yW h1]
    rw [yW h1] at h
    by_cases h2:53<s.length
    . rw [yX h2,yX h2]
    . rw [yW h2] at h;exact absurd O h
theorem de_4{s:xA}(hl:s.length=53)(h: ¬dpE (deK s)=0):deE s=dpE (deK s):=by
 have he:=qY1 hl
 unfold deE
 rw [he] at h⊢
 rw [yW xB,yW xB]
 by_cases h6:6<(s.getD 36 0).toNat
 . rw [yX h6,yX h6]
 . rw [yW h6] at h;exact absurd O h
theorem de_v{s:xA}(hl:s.length=53)(h:dpE (deK s)=0):deE s=if qBd (s.take 4)<1 then 13 else 0:=by
 have he:=qY1 hl
 rw [he] at h
 unfold deE
 have h6: ¬6<(s.getD 36 0).toNat:=λh6=>by rw [yX h6] at h;omega
 rw [yW xB,yW xB,yW h6]
theorem qPe(F:Hp)(s:xA):
    Cz prog 257 [Str s] F (deV s):=by
  refine y7 func257 O ntmps257 O (λw0 hw0=>?_)
  change J _ [(0,_)] _ _ _
  refine yl λ_ C1=>yp (qAO O qEt O) O λg2 _=>?_
  change J _ _ _ [F,blk g2 _ 102] _
  refine yh O<|yi C1 ?_
  refine yl λ_ C2=>yh O<|yp (qAJ O O ent (Ct.use (new:=λg=> [RSb g ⟨s,0⟩]) (λF' _=>(qE2 F' s).mono (φ2:=λ_=>True) (val2:=Ptr) (ms2:=λg=>F':: [RSb g ⟨s,0⟩]) id (λ_ _=>rfl) (λ_ h=>h) (λx w0 w _ h=>h.pick [1,0] xC)))) O ?_
  rintro g11 _
  change J _ _ _ [_,_,RSb g11 (⟨s,0⟩:RS)] _
  refine yh O<|yi C2 ?_
  refine yl λ_ C3=>yh O<|yp (qAJ O O ent (vR 2 (m':=λ_:Unit=>RSb g11 ((⟨s,0⟩:RS).take 4)) (new:=λ_=> []) O (λF' _=>qCb F' g11 (⟨s,0⟩:RS) 4 xB xB))) O λg13 _=>?_
  change J _ _ _ [_,_,RSb g11 ((⟨s,0⟩:RS).take 4)] _
  refine yj (qAK (l:= [(0,.tmp 13)]) (vs:= [N64 (qBd ((⟨s,0⟩:RS).out 4))]) (places:= [(0,1),(1,3),(4,1)]) (r:= [N64 (qBd ((⟨s,0⟩:RS).out 4)),Str [],Str [],I 0,Str []]) O O O qDG qEt (λ_=>xH) O) O<|yp (qAO O qEt O) O λg5 _=>?_
  change J _ _ _ [_,_,_,blk g5 _ 102] _
  refine vG (qAF (l:= [N64 0,Str [],Str [],I 0,Str []]) (i:=3) (vs:= [N64 (qBd ((⟨s,0⟩:RS).out 4)),Str [],Str [],I 0,Str []]) O O O O O qBF O O) O O λ_ _=>?_
  change J _ _ _ [_,_,_,blk g5 [N64 (qBd ((⟨s,0⟩:RS).out 4)),Str [],Str [],I 0,Str []] 102] _
  refine yi C3 ?_
  refine yl λ_ C4=>yh O<|yp (qAJ O O ent (vR 2 (m':=λ_:Unit=>RSb g11 (((⟨s,0⟩:RS).take 4).take 33)) (new:=λ_=> []) O (λF' _=>qB1 F' g11 ((⟨s,0⟩:RS).take 4) 33))) O λg16 _=>?_
  change J _ _ _ [_,_,RSb g11 (((⟨s,0⟩:RS).take 4).take 33),_] _
  refine yh O<|yi C4 ?_
  refine yl λ_ C5=>yh O<|yp (qAJ O O ent (vR 2 (m':=λ_:Unit=>RSb g11 ((((⟨s,0⟩:RS).take 4).take 33).take 16)) (new:=λ_=> []) O (λF' _=>qB1 F' g11 (((⟨s,0⟩:RS).take 4).take 33) 16))) O λg18 _=>?_
  change J _ _ _ [_,_,RSb g11 ((((⟨s,0⟩:RS).take 4).take 33).take 16),_] _
  refine vA 4 qDG z9_ O O O O O<|vG (qAU (i:=3) (vs:= [Str ((((⟨s,0⟩:RS).take 4).take 33).out 16)]) O O O O O z9_ O xD) O O λ_ _=>?_
  change J _ _ _ [_,_,_,blk g5 [N64 (qBd ((⟨s,0⟩:RS).out 4)),Str [],Str [],I 0,Str ((((⟨s,0⟩:RS).take 4).take 33).out 16)] 102] _
  refine yi C5 ?_
  refine ym λ_ C6=>yl λ_ C7=>yh O<|yp (qAJ O O ent (vR 2 (m':=λ_:Unit=>RSb g11 ((((⟨s,0⟩:RS).take 4).take 33).take 16)) (new:=λ_=> []) O (λF' _=>qJA F' g11 ((((⟨s,0⟩:RS).take 4).take 33).take 16)))) O λg21 _=>?_
  change J _ _ _ [_,_,_,_] _
  refine yh O<|yi C7 ?_
  refine yl λ_ C8=>yh O<|yj (qAQ O O O) O<|yi C8 ?_
  refine y1 O (λh23=>?_) (λh23=>?_)
  .
    refine yl λ_ C9=>yj (qAK (l:= []) (vs:= []) (places:= [(0,1),(1,3),(4,1)]) (r:= [N64 0,Str [],Str [],I 0,Str []]) O O O qDG qEt (λ_=>xH) O) O<|yh O<|vG (qAF (l:= [N64 0,Str [],Str [],I 0,Str []]) (i:=1) (vs:= [N64 0,Str [],Str [],I 0,Str []]) O O O O O qBF O O) O O λ_ _=>?_
    change J _ _ _ [_,blk g2 [N64 0,Str [],Str [],I 0,Str []] 102,_,_] _
    refine yh O<|yi C9 ?_
    exact yr<|y5<|vH hw0 (λ_ _ h=>h) (rv2 O (RV.blkA 1 O O qBz qBF) O) (qAf () (qSo (de_e xB) xB) yd [0] O xC)
  refine yy C6 ?_
  refine ym λ_ C10=>?_
  have hl:=qaa (s:=s) xB
  obtain ⟨hu1,hu2,hu3⟩:=qaZ hl
  refine yt<|yh O<|yp (qAZ O O (λF' hF=>qIp F' (((⟨s,0⟩:RS).take 4).out 33))) O λg28 _=>yn 3 O<|yp (qAO O qOR O) O λg8 _=>?_
  change J _ _ _ [F,blk g2 _ 102,RSb g11 ((((⟨s,0⟩:RS).take 4).take 33).take 16),blk g5 [N64 (qBd ((⟨s,0⟩:RS).out 4)),Str [],Str [],I 0,Str ((((⟨s,0⟩:RS).take 4).take 33).out 16)] 102,blk g8 _ 32] _
  refine vG (qAF (l:= [Str [],Str [],I 0]) (i:=4) (vs:= [Str (dpO (((⟨s,0⟩:RS).take 4).out 33)),Str (dpR (((⟨s,0⟩:RS).take 4).out 33)),I (dpH (((⟨s,0⟩:RS).take 4).out 33))]) O O O O O qDF O O) O O λ_ _=>?_
  change J _ _ _ [_,_,_,_,blk g8 [Str (dpO (((⟨s,0⟩:RS).take 4).out 33)),Str (dpR (((⟨s,0⟩:RS).take 4).out 33)),I (dpH (((⟨s,0⟩:RS).take 4).out 33))] 32] _
  refine yh O<|yi C10 ?_
  refine ym λ_ C11=>yz<|yl λ_ C12=>yh O<|yj (qAQ O O O) O<|yh O<|yi C12 ?_
  refine y1 O (λh31=>?_) (λh31=>?_)
  .
    refine yl λ_ C13=>yj (qAK (l:= []) (vs:= []) (places:= [(0,1),(1,3),(4,1)]) (r:= [N64 0,Str [],Str [],I 0,Str []]) O O O qDG qEt (λ_=>xH) O) O<|yh O<|vG (qAF (l:= [N64 0,Str [],Str [],I 0,Str []]) (i:=1) (vs:= [N64 0,Str [],Str [],I 0,Str []]) O O O O O qBF O O) O O λ_ _=>?_
    change J _ _ _ [_,blk g2 [N64 0,Str [],Str [],I 0,Str []] 102,_,_,_] _
    refine yh O<|yi C13 ?_
    exact yr<|vI<|y5<|vH hw0 (λ_ _ h=>h) (rv2 O (RV.blkA 1 O O qBz qBF) O) (qAf () (qSo (by rw [hu2];exact de_4 hl (by rw [<-hu2];omega)) xB) yd [0] O xC)
  refine ym λ_ C14=>?_
  have hd0:dpE (deK s)=0:=by rw [<-hu2];omega
  refine yt<|vA 0 qDG qBV O O O O O<|yj ((qAD 3 O O O qBe O).as (v':=N64 (qBd (s.take 4))) (by rw [hu1])) O<|yj (qAP O O O) O<|yh O<|yi C14 ?_
  refine y1 O (λh36=>?_) (λh36=>?_)
  .
    refine yl λ_ C15=>yj (qAK (l:= []) (vs:= []) (places:= [(0,1),(1,3),(4,1)]) (r:= [N64 0,Str [],Str [],I 0,Str []]) O O O qDG qEt (λ_=>xH) O) O<|vG (qAF (l:= [N64 0,Str [],Str [],I 0,Str []]) (i:=1) (vs:= [N64 0,Str [],Str [],I 0,Str []]) O O O O O qBF O O) O O λ_ _=>?_
    change J _ _ _ [F,blk g2 [N64 0,Str [],Str [],I 0,Str []] 102,RSb g11 ((((⟨s,0⟩:RS).take 4).take 33).take 16),blk g5 [N64 (qBd ((⟨s,0⟩:RS).out 4)),Str [],Str [],I 0,Str ((((⟨s,0⟩:RS).take 4).take 33).out 16)] 102,blk g8 [Str (dpO (((⟨s,0⟩:RS).take 4).out 33)),Str (dpR (((⟨s,0⟩:RS).take 4).out 33)),I (dpH (((⟨s,0⟩:RS).take 4).out 33))] 32] _
    refine yh O<|yi C15 ?_
    exact yr<|vI<|y5<|vH hw0 (λ_ _ h=>h) (rv2 O (RV.blkA 1 O O qBz qBF) O) (qAf () (qSo ((de_v hl hd0).trans (yX xB)) xC) yd [0] O xC)
  refine vP<|vB<|yq (yu C11 ?_)
  refine yl λ_ C16=>vT 4 qKM qDF O O O O O<|vA 1 qDG qDF O O O O O<|vG (qAU (i:=3) (vs:= [Str (dpO (((⟨s,0⟩:RS).take 4).out 33)),Str (dpR (((⟨s,0⟩:RS).take 4).out 33)),I (dpH (((⟨s,0⟩:RS).take 4).out 33))]) O O O O O qDF O xD) O O λ_ _=>?_
  change J _ _ _ [F,blk g2 _ 102,RSb g11 ((((⟨s,0⟩:RS).take 4).take 33).take 16),blk g5 [N64 (qBd ((⟨s,0⟩:RS).out 4)),Str (dpO (((⟨s,0⟩:RS).take 4).out 33)),Str (dpR (((⟨s,0⟩:RS).take 4).out 33)),I (dpH (((⟨s,0⟩:RS).take 4).out 33)),Str ((((⟨s,0⟩:RS).take 4).take 33).out 16)] 102,blk g8 [Str (dpO (((⟨s,0⟩:RS).take 4).out 33)),Str (dpR (((⟨s,0⟩:RS).take 4).out 33)),I (dpH (((⟨s,0⟩:RS).take 4).out 33))] 32] _
  refine yi C16 ?_
  refine yl λ_ C17=>vT 3 qBz qBF O O O O O<|vG (qAF (l:= [N64 0,Str [],Str [],I 0,Str []]) (i:=1) (vs:= [N64 (qBd ((⟨s,0⟩:RS).out 4)),Str (dpO (((⟨s,0⟩:RS).take 4).out 33)),Str (dpR (((⟨s,0⟩:RS).take 4).out 33)),I (dpH (((⟨s,0⟩:RS).take 4).out 33)),Str ((((⟨s,0⟩:RS).take 4).take 33).out 16)]) O O O O O qBF O O) O O λ_ _=>?_
  change J _ _ _ [_,blk g2 [N64 (qBd ((⟨s,0⟩:RS).out 4)),Str (dpO (((⟨s,0⟩:RS).take 4).out 33)),Str (dpR (((⟨s,0⟩:RS).take 4).out 33)),I (dpH (((⟨s,0⟩:RS).take 4).out 33)),Str ((((⟨s,0⟩:RS).take 4).take 33).out 16)] 102,_,_,_] _
  refine yh O<|yi C17 ?_
  exact yr<|vH hw0 (λ_ _ h=>h) (rv2 O (RV.blkA 1 O O qBz qBF) O) (qAf () (by have he:deE s=0:=(de_v hl hd0).trans (yW xB);unfold deV deN deO deR deH deP;rw [he,yX rfl,yX rfl,yX rfl,yX rfl,yX rfl,hu1,hu2,hu3]) yd [0] O xC)
def qCl(v:Nat)(o r:xA)(h:Int)(p:xA):xA:=if qBK v o r h p=0 then Sha.tagged 12 [qA6 v o r h p] else []
theorem qB4{v:Nat}{o r:xA}{h:Int}{p:xA}(he:qBK v o r h p=0):(qA6 v o r h p).length=53:=by
  unfold qA6
  rw [yX he]
  unfold qBK at he
  split at he
  . omega
  . split at he
    . rename_i h2
      rw [jA,jA,Sha.numB_length,qCP h2.1,h2.2]
    . omega
structure En where
 v:Nat
 o:xA
 r:xA
 h:Int
 p:xA
 deriving DecidableEq
def En.cells(x:En):yU:= [N64 x.v,Str x.o,Str x.r,I x.h,Str x.p]
def En.good(x:En):Prop:=x.v<18446744073709551616/\x.o.length<=1048576/\x.r.length<=1048576/\x.p.length<=1048576
def En.val(x:En):xA:=qCl x.v x.o x.r x.h x.p
def En.next(x y:En):Int:=if x.v=18446744073709551615\/y.v≠x.v+1 then 13 else if x.val= []\/y.p≠x.val then 15 else 0
def En.chain:List En->Int
 | []=>0
 | [_]=>0
 |x::y::r=>if x.next y≠0 then x.next y else En.chain (y::r)
def En.hist:List En->Int
 | []=>20
 |x::r=>if x.v≠1 then 13 else if x.p≠qAX then 15 else En.chain (x::r)
theorem qFg(F:Hp)(hK:yf F)(v:Nat)(o r:xA)(h:Int)(p:xA)(hv:v<18446744073709551616)(ho:o.length<=1048576)(hr:r.length<=1048576)(hp:p.length<=1048576):
    Cz prog 42 [.agg #[N64 v,Str o,Str r,I h,Str p]] F (Str (qCl v o r h p)):=by
  refine y7 func42 O ntmps42 O (λw0 hw0=>?_)
  refine yl λ_ C1=>yp (qAi O O O) O λg1 _=>yh O<|yi C1 ?_
  refine yl λ_ C2=>vT 1 qBz qBF O O O O O<|yp (qAZ O O (λF' hF=>qJB F' v o r h p hv ho hr hp)) O λg7 _=>yn 5 O<|yi C2 ?_
  refine ym λ_ C3=>yl λ_ C4=>yh O<|yj (qAQ O O O) O<|yi C4 ?_
  refine y1 O (λh11=>?_) (λh11=>?_)
  .
    refine yl λ_ C5=>yh O<|yi C5 ?_
    exact yr<|y5<|yw hw0 O () (by unfold qCl;rw [yW xB]) yd [0] O xC
  refine yy C3 ?_
  refine ym λ_ C6=>?_
  have he0:qBK v o r h p=0:=xB
  refine yt<|yh O<|yp (qAE (l:= [.tmp 12]) (xs:= [[Str (qA6 v o r h p)]]) O O O O qAg el9 O xC xC xD) O λg13 _=>yp (qAZ O O (λF' hF=>qBI F' (hK.mono (Fa hF)) 12 (some ⟨g13,0,none⟩) 1 1 [qA6 v o r h p] ((slS [qA6 v o r h p] O).mono (hF (blk g13 (([qA6 v o r h p]:List xA).map λs=>Str s) 9) xD)) (by have:=qB4 he0;simp [this]) xC)) O λg14 _=>yh O<|yi C6 ?_
  exact yr<|yw hw0 O () (by unfold qCl;rw [yX he0]) yd [0] O xC
theorem qEm(F:Hp)(hK:yf F)(s:xA)(hs:s.length<=1048576):
    Cz prog 41 [Str s] F (Str (Sha.tagged 11 [s])):=by
  refine y7 func41 O ntmps41 O (λw0 hw0=>?_)
  refine yl λ_ C1=>yh O<|yi C1 ?_
  refine yl λ_ C2=>yh O<|yp (qAE (l:= [.tmp 3]) (xs:= [[Str (s)]]) O O O O qAg el9 O xC xC xD) O λg4 _=>yp (qAZ O O (λF' hF=>qBI F' (hK.mono (Fa hF)) 11 (some ⟨g4,0,none⟩) 1 1 [s] ((slS [s] O).mono (hF (blk g4 (([s]:List xA).map λs=>Str s) 9) xD)) xJ xC)) O λg5 _=>yh O<|yi C2 ?_
  exact yr<|yw hw0 O () O yd [0] O xC
theorem qOQ(F:Hp)(hK:yf F)(x y:En)(hx:x.good)(hy:y.good):
    Cz prog 156 [.agg x.cells.toArray,.agg y.cells.toArray] F (I (x.next y)):=by
  obtain ⟨hx1,hx2,hx3,hx4⟩:=hx
  obtain ⟨hy1,hy2,hy3,hy4⟩:=hy
  have hxv:x.val=qCl x.v x.o x.r x.h x.p:=rfl
  refine y7 func156 O ntmps156 O (λw0 hw0=>?_)
  refine yl λ_ C1=>yp (qAi O O O) O λg2 _=>yp (qAi O O O) O λg3 _=>?_
  change J _ _ _ [_,_,blk g3 [N64 y.v,Str y.o,Str y.r,I y.h,Str y.p] 102] _
  refine yh O<|yi C1 ?_
  refine ym λ_ C2=>yl λ_ C3=>vT 1 qBz qBF O O O O O<|yp (qAZ O O (λF' hF=>qFg F' (hK.mono (Fa hF)) x.v x.o x.r x.h x.p hx1 hx2 hx3 hx4)) O λg7 _=>yh O<|yi C3 ?_
  refine yz<|yl λ_ C4=>vA 0 qDG qBV O O O O O<|vF 1 qBe O O O O O<|yj (qAR O O O) O<|yh O<|vO (d:=12) O (λh12=>?_) (λh12=>?_)
  .
    refine yn 8 O<|yi C4 ?_
    refine vV ?_
    refine yl λ_ C5=>yh O<|yi C5 ?_
    exact yr<|vI<|y5<|yw hw0 O () (yY I (by unfold En.next;rw [yX xB])) yd [0] O xC
  refine yv (qAA (j:=0) O O qDG O qBV O) O<|yv (qAD 2 O O O qBe O) O<|yv (qAA (j:=0) O O qDG O qBV O) O<|yv (qAD 1 O O O qBe O) O<|yv (qBD (b:=1) O O O xB) O<|yv (qAQ O O O) O<|yn 2 O<|yi C4 ?_
  refine y1 O (λh8=>?_) (λh8=>?_)
  .
    refine yl λ_ C6=>yh O<|yi C6 ?_
    exact yr<|vI<|y5<|yw hw0 O () (yY I (by unfold En.next;rw [yX xB])) yd [0] O xC
  refine yl λ_ C7=>yh O<|yj (qBP O O O) O<|yh O<|vO (d:=23) O (λh23=>?_) (λh23=>?_)
  .
    refine yn 6 O<|yi C7 ?_
    refine vV ?_
    refine yl λ_ C8=>yh O<|yi C8 ?_
    exact yr<|vI<|y5<|yw hw0 O () (yY I (by unfold En.next;rw [yW xB,yX (.inl h23)])) yd [0] O xC
  refine yv (qAA (j:=4) O O qDG O z9_ O) O<|yv (qAD 2 O O O b9_ O) O<|yh O<|yv (qB9 O O O) O<|yn 2 O<|yi C7 ?_
  refine y1 O (λh20=>?_) (λh20=>?_)
  .
    refine yl λ_ C9=>yh O<|yi C9 ?_
    exact yr<|vI<|y5<|yw hw0 O () (yY I (by unfold En.next;rw [yW xB,yX (.inr h20)])) yd [0] O xC
  refine vP<|vB<|yq (yu C2 ?_)
  refine yl λ_ C10=>yh O<|yi C10 ?_
  exact yr<|yw hw0 O () (yY I (by unfold En.next;rw [yW xB,yW (λe=>e.elim h23 h20)])) yd [0] O xC
def qCv:En:=⟨0,[],[],0,[]⟩
theorem qHA{l:List En}{j:Nat}(h:j<l.length):(l.map En.cells)[j]?=some (l.getD j qCv).cells:=by rw [jO,qAc qCv h];rfl
theorem qFf{l:List En}(h:0<l.length):En.hist l=if(l.getD 0 qCv).v≠1 then 13 else if(l.getD 0 qCv).p≠qAX then 15 else En.chain l:=by
 cases l with
 |nil=>simp at h
 |cons x r=>rfl
theorem qJE{l:List En}{k:Nat}(h:k+1<l.length):En.chain (l.drop k)=if(l.getD k qCv).next (l.getD (k+1) qCv)≠0 then(l.getD k qCv).next (l.getD (k+1) qCv) else En.chain (l.drop (k+1)):=by
 rw [j9 (show k<l.length by omega),j9 h]
 rw [jB,jB,jD (show k<l.length by omega),jD h];rfl
theorem qSw{l:List En}{k:Nat}(h:k+1=l.length):En.chain (l.drop k)=0:=by
 rw [j9 (show k<l.length by omega),j4 xB];rfl
theorem qLZ{l:List En}{k:Nat}(hg: ∀x∈l,x.good)(h:k<l.length):(l.getD k qCv).good:=by
 rw [jB,jD h]
 exact hg _ (jU h)
theorem qLe(F:Hp)(A:yS)(c:Nat):
    Cz prog 83 [.slice A 0 c] F (I 20):=by
  refine y7 func83 O ntmps83 O (λw0 hw0=>?_)
  refine yl λ_ C1=>yh O<|yi C1 ?_
  refine ym λ_ C2=>yz<|yl λ_ C3=>yh O<|yj (qAN qGK O O) O<|yj ((qAR O O O).yes xC) O<|yh O<|yi C3 ?_
  refine vV ?_
  refine yl λ_ C4=>yh O<|yi C4 ?_
  exact yr<|vI<|y5<|yw hw0 O () O yd [0] O xC
theorem qCm(F:Hp)(hK:yf F)(l:List En)(hg: ∀x∈l,x.good)(g o c:Nat)(hl:Sl F 5 (some ⟨g,o,none⟩) l.length c (l.map En.cells))(hn:0<l.length)(hn2:l.length<=1073741824):
    Cz prog 83 [.slice (some ⟨g,o,none⟩) l.length c] F (I (En.hist l)):=by
  refine y7 func83 O ntmps83 O (λw0 hw0=>?_)
  refine yl λ_ C1=>yh O<|yi C1 ?_
  refine ym λ_ C2=>yz<|yl λ_ C3=>yh O<|yj (qAN qGK O O) O<|yj ((qAR O O O).no xB) O<|yh O<|yi C3 ?_
  refine vC ?_
  refine yl λ_ C4=>yh O<|yj (qAC O O O qGK qBF hl (hn)) O<|yj ((qAA (g:=g) O O qDG O qBV O)) O<|yj (qAH O O qBe (m:=F) xD (hl.cell (i:=0) (x:=(l.getD 0 qCv).cells) (qHA hn) (k:=0) (v:=N64 (l.getD 0 qCv).v) O)) O<|yj (qAQ O O O) O<|yh O<|yi C4 ?_
  refine y1 O (λh9=>?_) (λh9=>?_)
  .
    refine yl λ_ C5=>yh O<|yi C5 ?_
    exact yr<|vI<|y5<|yw hw0 O () (yY I (by rw [qFf hn,yX xB])) yd [0] O xC
  refine ym λ_ C6=>vQ [F] [] (.y 0 (.y 1 (.y 2 (.y 3 (.e 4 (.y 5 (.y 6 .nil))))))) ye xF xD ?_
  refine yx ?_
  refine yo O (qAC O O O qGK qBF hl (hn)) O O<|yo O ((qAA (g:=g) O O qDG O z9_ O)) O O<|yo O (qAH O O b9_ (m:=F) xD (hl.cell (i:=0) (x:=(l.getD 0 qCv).cells) (qHA hn) (k:=4) (v:=Str (l.getD 0 qCv).p) O)) O O<|vD O (qAZ O O (λF' hF=>qKw F' 16 xC xC)) O xD λg20 _=>yo O (qB9 O O O) O O<|vU ?_
  refine vM<|yq (yu C6 ?_)
  refine y1 O (λh15=>?_) (λh15=>?_)
  .
    change(l.getD 0 qCv).p≠qAX at h15
    refine yl λ_ C7=>yh O<|yi C7 ?_
    exact yr<|vI<|y5<|yw hw0 O () (yY I (by rw [qFf hn,yW xB,yX h15])) yd [0] O xC
  change¬(l.getD 0 qCv).p≠qAX at h15
  refine vP<|vB<|yq (yu C2 ?_)
  refine ym λ_ C8=>yl λ_ C9=>yh O<|yj (qAN qGK O O) O<|yj (qAm O O O xB) O<|yh O<|yi C9 ?_
  refine yz<|vN (X:=Nat) (λk=> [(0,.slice (some ⟨g,o,none⟩) l.length c),(24,I ((l.length:Int)-1)),(25,I k)]) (λ_=> [F]) (λk=>k+1<=l.length/\En.chain (l.drop k)=En.chain l) (λk=>l.length-k) 0 (⟨xB,O⟩) (Sub.of O) (λ_ h=>h) ?_
  intro k ⟨hk,hch⟩ I0 hI0
  refine yl λ_ C10=>yj (qAP O O O) O<|yi C10 ?_
  refine ym λ_ C11=>y1 O (λh26=>?_) (λh26=>?_)
  .
    refine yy C11 ?_
    refine ym λ_ C12=>yz<|yl λ_ C13=>yn 2 O<|yi C13 ?_
    refine ym λ_ C14=>vQ [F] [] (.y 0 (.y 1 (.y 2 (.y 3 (.y 4 (.y 5 (.y 6 (.y 7 (.y 8 (.e 9 (.y 10 .nil))))))))))) ye xF xD ?_
    refine yx ?_
    refine yx ?_
    refine yo O (qAC O O O qGK qBF hl xB) O O<|yo O (qAb O O qBz qBF (m:=F) xD (hl.elem (qHA xB)) O) O O<|yx ?_
    refine yx ?_
    refine yo O ((qAM O O O xB).nat (k+1) xB) O O<|yo O (qAC O O O qGK qBF hl xB) O O<|yo O (qAb O O qBz qBF (m:=F) xD (hl.elem (qHA xB)) O) O O<|vD O (qAZ O O (λF' hF=>qOQ F' (hK.mono (Fa hF)) (l.getD k qCv) (l.getD (k+1) qCv) (qLZ hg xB) (qLZ hg xB))) O xD λg37 _=>vU ?_
    refine vM<|yq (yu C14 ?_)
    refine yl λ_ C15=>yh O<|yj (qAQ O O O) O<|yi C15 ?_
    refine y1 O (λh39=>?_) (λh39=>?_)
    .
      refine yl λ_ C16=>yn 2 O<|yi C16 ?_
      exact yr<|vI<|y5<|y5<|vI<|y5<|yw hw0 O () (yY I (by rw [qFf hn,yW xB,yW h15,<-hch,qJE (l:=l) (k:=k) xB,yX xB])) yd [0] O xC
    refine vP<|vB<|yq (yu C12 ?_)
    exact yt<|yj ((qAM O O O xB).nat (k+1) xB) O<|yh O<|y8<|yq<|vE (k+1) hI0 ⟨xB,by have:=qJE (l:=l) (k:=k) xB;rw [yW xB] at this;rw [<-this];exact hch⟩ (Sub.of O) (λ_ h=>h)
  refine vK<|y6<|y6<|vL ?_
  refine yq (yu C8 ?_)
  refine ym λ_ C17=>?_
  have hce:=qSw (l:=l) (k:=k) xB
  refine yt<|yh O<|yi C17 ?_
  exact yr<|yw hw0 O () (yY I (by rw [qFf hn,yW xB,yW h15,<-hch,hce])) yd [0] O xC
theorem qMt(F:Hp)(hK:yf F)(l:List En)(hg: ∀x∈l,x.good)(A:yS)(n c:Nat)(hl:Sl F 5 A n c (l.map En.cells))(hn2:n<=1073741824):
    Cz prog 83 [.slice A n c] F (I (En.hist l)):=by
  have hln:l.length=n:=by have:=hl.1;rwa [jJ] at this
  subst hln
  cases l with
  |nil=>exact qLe F A c
  |cons x r=>
    obtain ⟨g,o,rfl⟩:=hl.at (by rw [jC];omega)
    exact qCm F hK (x::r) hg g o c hl (by rw [jC];omega) hn2
theorem qRl(F:Hp)(n size:Nat)(hs:size<=8)(hn:n<256^size):
    Cz prog 216 [N64 n,I size] F (Str (Sha.numB (UInt64.ofNat n) size)):=by
  have hn64:n<18446744073709551616:=j8 hn (qX4 size hs)
  refine y7 func216 O ntmps216 O (λw0 hw0=>?_)
  change J _ [(0,_),(1,_)] _ _ _
  refine ym (λ_ C1=>?_)
  refine yt ?_
  refine va (qBH O O) O O O ?_
  refine y8 ?_
  refine yq (yu C1 ?_)
  refine vh [(0,_),(1,_)] ⟨O,O,yd⟩ ?_
  refine ym (λ_ C2=>?_)
  refine yt ?_
  refine va (qBH O O) O O O ?_
  refine y8 ?_
  refine yq (yu C2 ?_)
  refine vh [(0,_),(1,_),(5,_)] ⟨O,O,O,yd⟩ ?_
  refine ym (λ_ C3=>?_)
  refine ym (λ_ C4=>?_)
  refine yt ?_
  refine va (qBH O O) O O O ?_
  refine y8 ?_
  refine yq (yu C4 ?_)
  refine vh [(0,_),(1,_),(5,_),(6,_)] ⟨O,O,O,O,yd⟩ ?_
  refine yz ?_
  refine vN (X:=Nat) (λt=> [(0,N64 (n/256^t)),(1,I size),(5,Str (Sha.numB (UInt64.ofNat n) t)),(6,I t)]) (λ_=> [F]) (λt=>t<=size) (λt=>size-t) 0 (jH _) ⟨by rw [Nat.pow_zero,Nat.div_one];rfl,O,O,O,yd⟩ (λ_ h=>h) ?_
  intro t ht I0 hI0
  have hq:n/256^t<18446744073709551616:=jx (jv _ _) hn64
  refine ym (λ_ C5=>?_)
  refine ym (λ_ C6=>?_)
  refine yt ?_
  refine va (qAT O O) O O O ?_
  refine va (qAT O O) O O O ?_
  refine va (qAP O O O) O O O ?_
  refine va (qAT O O) O O O ?_
  refine vO (d:=10) O (λh10=>?_) (λh10=>?_)
  .
    refine wC (Wan.is O O O O O) (qAT O O) O O ?_
    refine wC (Wan.is O O O O O) ((qBQ O O O).as (v':= .bool true) (yY Value.bool (ya xB))) O O ?_
    refine va (qDN O O O) O O O ?_
    refine y8 ?_
    refine yq (yu C6 ?_)
    refine vh [(0,_),(1,_),(5,_),(6,_),(13,_)] ⟨O,O,O,O,O,yd⟩ ?_
    refine wP O O ?_
    refine vP ?_
    refine yq (yu C5 ?_)
    refine vh [(0,_),(1,_),(5,_),(6,_)] ⟨O,O,O,O,yd⟩ ?_
    refine ym (λ_ C7=>?_)
    refine yz ?_
    refine ym (λ_ C8=>?_)
    refine yt ?_
    refine va (qAT O O) O O O ?_
    refine va ((qB8 (b:=256) O O O xB)) O O O ?_
    refine va (qCu O O qDJ u5_ xB) O O O ?_
    refine wA (qAE (l:= [.tmp 18]) (xs:= [[B8 (UInt8.ofNat ((n/256^t)%256))]]) O O O O qBo el5 O xC xC xD) O O O ?_
    intro g19 _
    change J _ _ _ [F,blk g19 [B8 (UInt8.ofNat ((n/256^t)%256))] 5] _
    refine va (qBO (l:= [UInt8.ofNat ((n/256^t)%256)]) O O qBo u5_ u9_ (m:=blk g19 [B8 (UInt8.ofNat ((n/256^t)%256))] 5) xD (slB [UInt8.ofNat ((n/256^t)%256)] O)) O O O ?_
    refine va (qAT O O) O O O ?_
    refine va ((qAq O O O (by simp [Sha.numB_length];omega)).as (v':=Str (Sha.numB (UInt64.ofNat n) (t+1))) (by rw [qLD n t hn64 xB];rfl)) O O O ?_
    refine va (qBH O O) O O O ?_
    refine y8 ?_
    refine yq (yu C8 ?_)
    refine vh [(0,_),(1,_),(5,_),(6,_)] ⟨O,O,O,O,yd⟩ ?_
    refine yt ?_
    refine va (qAT O O) O O O ?_
    refine va ((qC2 (b:=256) O O O xB).as (v':=N64 (n/256^(t+1))) (yY N64 (by rw [zQ,ju]))) O O O ?_
    refine va (qBH O O) O O O ?_
    refine y8 ?_
    refine vB ?_
    refine yq (yu C7 ?_)
    refine vh [(0,_),(1,_),(5,_),(6,_)] ⟨O,O,O,O,yd⟩ ?_
    refine vW [0] [F] O xC ?_
    refine yt ?_
    refine va (qAT O O) O O O ?_
    refine va ((qAM O O O (by first|omega|(refine⟨?_,?_⟩<;>omega))).as (v':=I (t+1:Nat)) (yY I xB)) O O O ?_
    refine va (qBH O O) O O O ?_
    refine y8 ?_
    refine yq ?_
    exact vY (t+1) (λx (hx:_/\size-x<size-t)=>hI0 x hx.1 hx.2) ⟨xB,xB⟩ ⟨O,O,O,O,yd⟩ (λ_ h=>h)
  .
    refine vX (Wan.is O O O O O) O O ?_
    refine vX (Wan.is O O O O O) O O ?_
    refine va (qDO O O O) O O O ?_
    refine y8 ?_
    refine yq (yu C6 ?_)
    refine vh [(0,_),(1,_),(5,_),(6,_),(13,_)] ⟨O,O,O,O,O,yd⟩ ?_
    refine vw O O ?_
    refine vK ?_
    refine y6 ?_
    refine y6 ?_
    refine vL ?_
    refine yq (yu C3 ?_)
    refine vh [(0,_),(5,_)] ⟨O,O,yd⟩ ?_
    refine ym (λ_ C9=>?_)
    refine ym (λ_ C10=>?_)
    have hte:t=size:=xB
    subst hte
    have hz:n/256^t=0:=zC hn
    refine yt ?_
    refine va (qAT O O) O O O ?_
    refine va ((qAs O O O).as (v':= .bool false) (yY Value.bool (yb (by rw [hz];decide)))) O O O ?_
    refine y8 ?_
    refine yq (yu C10 ?_)
    refine vh [(5,_),(26,_)] ⟨O,O,yd⟩ ?_
    refine vw O O ?_
    refine vP ?_
    refine yq (yu C9 ?_)
    refine vh [(5,_)] ⟨O,yd⟩ ?_
    refine ym (λ_ C11=>?_)
    refine yt ?_
    refine va (qAT O O) O O O ?_
    refine va (qBH O O) O O O ?_
    refine y8 ?_
    refine yq (yu C11 ?_)
    refine vh [(4,_)] ⟨O,yd⟩ ?_
    refine yr ?_
    exact vH hw0 (λ_ _ h=>h) (qIM O O) (qAf () O yd [0] O xC)
theorem qLd{v:Nat}{o r:xA}{h:Int}{p:xA}(h1: ¬v<1)(h2: ¬4294967295<v)(hb:h<0\/6<h\/ ¬o.length=16\/ ¬r.length=16\/ ¬p.length=16):qBK v o r h p=10:=by
 unfold qBK
 rw [yW xB,yW]
 rintro⟨a,b⟩
 unfold qBT at a
 split at a
 . rename_i hq;unfold qE3 at hq;omega
 . omega
theorem en_0{v:Nat}{o r:xA}{h:Int}{p:xA}(h1: ¬v<1)(h2: ¬4294967295<v)(h3: ¬h<0)(h4: ¬6<h)(ho:o.length=16)(hr:r.length=16)(hp:p.length=16):qBK v o r h p=0/\qA6 v o r h p=Sha.numB (UInt64.ofNat v) 4++o++r++ [UInt8.ofNat h.toNat]++p:=by
 have hq:qE3 o r h:=⟨xB,xB,ho,hr⟩
 have e:qBK v o r h p=0:=by
  unfold qBK qBT
  rw [yW xB,yX hq,yX ⟨rfl,hp⟩]
 refine⟨e,?_⟩
 unfold qA6 qAo
 rw [yX e,yX hq]
 simp
namespace Wo
def place(leaf chain step:Nat):xA:= [UInt8.ofNat (leaf/2^24),UInt8.ofNat (leaf/2^16),UInt8.ofNat (leaf/2^8),UInt8.ofNat leaf,UInt8.ofNat chain,UInt8.ofNat step]
def step(opn:xA)(leaf chain k:Nat)(x:xA):xA:=Sha.tagged 2 [opn,place leaf chain k,x]
def walk(opn:xA)(leaf chain a:Nat)(x:xA):Nat->xA
 |0=>x
 |n+1=>step opn leaf chain (a+n) (walk opn leaf chain a x n)
def secret(seed:xA)(leaf chain:Nat):xA:=Sha.tagged 1 [seed,place leaf chain 0]
def opn(seed:xA):xA:=Sha.tagged 3 [seed]
def nibs(s:xA):yT:=s.flatMap λb=> [b.toNat/16,b.toNat%16]
def left(s:xA):Nat:=(s.map λb=>30-b.toNat/16-b.toNat%16).sum
def digs(s:xA):yT:=nibs s++ [left s/256,left s/16%16,left s%16]
def signs(seed:xA)(leaf:Nat)(ds:yT)(k:Nat):List xA:=(List.range k).map λi=>walk (opn seed) leaf i 0 (secret seed leaf i) (ds.getD i 0)
def ends(op:xA)(leaf:Nat)(ds:yT)(sig:List xA)(k:Nat):List xA:=(List.range k).map λi=>walk op leaf i (ds.getD i 0) (sig.getD i []) (15-ds.getD i 0)
def publicOf(op:xA)(leaf:Nat)(e:List xA):xA:=Sha.tagged 4 ([op,place leaf 0 0]++e)
def tops(seed:xA)(leaf:Nat)(k:Nat):List xA:=(List.range k).map λi=>walk (opn seed) leaf i 0 (secret seed leaf i) 15
def pub(seed:xA)(leaf:Nat):xA:=publicOf (opn seed) leaf (tops seed leaf 35)
theorem qHQ(a:xA)(b c d:Nat)(x:xA):(step a b c d x).length=16:=Sha.tagged_length _ _
theorem secret_length(a:xA)(b c:Nat):(secret a b c).length=16:=Sha.tagged_length _ _
theorem opn_length(a:xA):(opn a).length=16:=Sha.tagged_length _ _
theorem walk_small(o:xA)(leaf chain a:Nat)(x:xA)(h:x.length<=1048576): ∀n,(walk o leaf chain a x n).length<=1048576
 |0=>h
 |n+1=>by rw [walk,qHQ];decide
theorem qP6(o:xA)(leaf chain a:Nat)(x:xA)(h:x.length=16): ∀n,(walk o leaf chain a x n).length=16
 |0=>h
 |n+1=>qHQ _ _ _ _ _
theorem qNK(o:xA)(leaf chain a:Nat)(x:xA)(n:Nat): ∀m,walk o leaf chain (a+n) (walk o leaf chain a x n) m=walk o leaf chain a x (n+m)
 |0=>rfl
 |m+1=>by rw [walk,qNK o leaf chain a x n m,<-z7,walk,z7]
theorem place_length(a b c:Nat):(place a b c).length=6:=rfl
theorem nibs_snoc(s:xA)(k:Nat)(h:k<s.length):nibs (s.take (k+1))=nibs (s.take k)++ [(s.getD k 0).toNat/16,(s.getD k 0).toNat%16]:=by
 unfold nibs
 rw [jP h,List.flatMap_append,jB,jD h];simp
theorem left_snoc(s:xA)(k:Nat)(h:k<s.length):left (s.take (k+1))=left (s.take k)+(30-(s.getD k 0).toNat/16-(s.getD k 0).toNat%16):=by
 unfold left
 rw [jP h,jN,yH,jB,jD h];simp
theorem qMc(s:xA):(nibs s).length=2*s.length:=by
 unfold nibs
 induction s with
 |nil=>rfl
 |cons a l ih=>rw [List.flatMap_cons,jA,ih];simp;omega
theorem left_le(s:xA):left s<=30*s.length:=by
 unfold left
 induction s with
 |nil=>simp
 |cons a l ih=>rw [jY,zE,jC];omega
theorem digs_length(s:xA):(digs s).length=2*s.length+3:=by unfold digs;rw [jA,qMc];rfl
theorem digs_le(s:xA)(h:s.length<=16)(i:Nat):(digs s).getD i 0<=15:=by
  have hl:=left_le s
  have: ∀x∈digs s,x<=15:=λx hx=>by
    unfold digs nibs at hx
    rcases List.mem_append.1 hx with hx|hx
    . obtain ⟨b,_,hb⟩:=List.mem_flatMap.1 hx
      have:=b.toNat_lt
      simp only [j5,jr,or_false] at hb
      omega
    . simp only [j5,jr,or_false] at hx
      omega
  by_cases hi:i<(digs s).length
  . rw [jB,jD hi];exact this _ (jU _)
  . rw [jB,je xB];decide
theorem signs_succ(seed:xA)(leaf:Nat)(ds:yT)(k:Nat):signs seed leaf ds (k+1)=signs seed leaf ds k++ [walk (opn seed) leaf k 0 (secret seed leaf k) (ds.getD k 0)]:=by simp [signs,jt]
theorem ends_succ(op:xA)(leaf:Nat)(ds:yT)(sig:List xA)(k:Nat):ends op leaf ds sig (k+1)=ends op leaf ds sig k++ [walk op leaf k (ds.getD k 0) (sig.getD k []) (15-ds.getD k 0)]:=by simp [ends,jt]
theorem tops_succ(seed:xA)(leaf:Nat)(k:Nat):tops seed leaf (k+1)=tops seed leaf k++ [walk (opn seed) leaf k 0 (secret seed leaf k) 15]:=by simp [tops,jt]
theorem qQa(seed:xA)(leaf:Nat)(ds:yT)(k i:Nat)(h:i<k):(signs seed leaf ds k).getD i []=walk (opn seed) leaf i 0 (secret seed leaf i) (ds.getD i 0):=by
 unfold signs
 rw [jB,jO,zD h];rfl
theorem tops_small(seed:xA)(leaf:Nat)(k:Nat): ∀s∈tops seed leaf k,s.length<=16:=λs hs=>by
 simp only [tops,zh] at hs
 obtain ⟨i,_,rfl⟩:=hs
 rw [qP6 _ _ _ _ _ (secret_length _ _ _)];exact jL _
theorem signs_16(seed:xA)(leaf:Nat)(ds:yT)(k:Nat): ∀s∈signs seed leaf ds k,s.length=16:=λs hs=>by
 simp only [signs,zh] at hs
 obtain ⟨i,_,rfl⟩:=hs
 rw [qP6 _ _ _ _ _ (secret_length _ _ _)]
theorem ends_small(op:xA)(leaf:Nat)(ds:yT)(sig:List xA)(k:Nat)(hg: ∀s∈sig,s.length<=16): ∀s∈ends op leaf ds sig k,s.length<=1048576:=λs hs=>by
 simp only [ends,zh] at hs
 obtain ⟨i,_,rfl⟩:=hs
 refine walk_small _ _ _ _ _ ?_ _
 by_cases h0:i<sig.length
 . rw [jB,jD h0];exact jf (hg _ (jU _)) xC
 . rw [jB,je xB];decide
theorem recovers(seed:xA)(leaf:Nat)(ds:yT)(hd: ∀i,ds.getD i 0<=15)(k:Nat):ends (opn seed) leaf ds (signs seed leaf ds k) k=tops seed leaf k:=by
 unfold ends tops
 apply yA
 intro i hi
 rw [List.mem_range] at hi
 rw [qQa _ _ _ _ _ hi]
 have h:=qNK (opn seed) leaf i 0 (secret seed leaf i) (ds.getD i 0) (15-ds.getD i 0)
 rw [jl] at h
 have:=hd i
 rw [h,show ds.getD i 0+(15-ds.getD i 0)=15 by omega]
theorem qZ9: ∀b:Fin 256,(UInt8.ofNat b.val&&&15).toNat=b.val%16/\(UInt8.ofNat (b.val/2^min 4 8)).toNat=b.val/16:=by decide+kernel
theorem lo_eq(b:UInt8):(b&&&15).toNat=b.toNat%16/\(UInt8.ofNat (b.toNat/2^min 4 8)).toNat=b.toNat/16:=by
 have h:=qZ9 ⟨b.toNat,b.toNat_lt⟩
 simp only [UInt8.ofNat_toNat] at h
 exact h
end Wo
attribute [local irreducible] Sha.tagB Sha.tagged Wo.walk Wo.signs Wo.tops Wo.ends Wo.digs Wo.nibs Wo.left
theorem Wo.walk0(o:xA)(leaf chain a:Nat)(x:xA):Wo.walk o leaf chain a x 0=x:=by unfold Wo.walk;rfl
theorem Wo.walkS(o:xA)(leaf chain a:Nat)(x:xA)(n:Nat):Wo.step o leaf chain (a+n) (Wo.walk o leaf chain a x n)=Wo.walk o leaf chain a x (n+1):=by rw [Wo.walk]
theorem Wo.tops0(a:xA)(b:Nat):Wo.tops a b 0= []:=by unfold Wo.tops;rfl
theorem Wo.signs0(a:xA)(b:Nat)(d:yT):Wo.signs a b d 0= []:=by unfold Wo.signs;rfl
theorem Wo.ends0(a:xA)(b:Nat)(d:yT)(s:List xA):Wo.ends a b d s 0= []:=by unfold Wo.ends;rfl
theorem Wo.nibs0:Wo.nibs []= []:=by unfold Wo.nibs;rfl
theorem Wo.left0:Wo.left []=0:=by unfold Wo.left;rfl
theorem qWP{a b c:xA}(h1:a.length<=1048576)(h2:b.length<=1048576)(h3:c.length<=1048576): [a,b,c].flatten.length<=3145728:=by simp;omega
theorem qJj(F:Hp)(leaf chain stp:Nat)(h1:leaf<4611686018427387904)(h2:chain<4611686018427387904)(h3:stp<4611686018427387904):
    Cz prog 206 [I leaf,I chain,I stp] F (Str (Wo.place leaf chain stp)):=by
  refine y7 func206 O ntmps206 O (λw0 hw0=>?_)
  exact yl λ_ C1=>yh O<|yi C1<|yl λ_ C2=>yh O<|yj ((qDW O O O ⟨xC,xB⟩).as (v':=I (leaf/2^24:Nat)) (yY I xD)) O<|yj (qAu O O u3_ u5_) O<|yh O<|yj ((qDW O O O ⟨xC,xB⟩).as (v':=I (leaf/2^16:Nat)) (yY I xD)) O<|yj (qAu O O u3_ u5_) O<|yh O<|yj ((qDW O O O ⟨xC,xB⟩).as (v':=I (leaf/2^8:Nat)) (yY I xD)) O<|yj (qAu O O u3_ u5_) O<|yh O<|yj (qAu O O u3_ u5_) O<|yh O<|yj (qAu O O u3_ u5_) O<|yh O<|yj (qAu O O u3_ u5_) O<|yp (qAE (l:= [.tmp 9,.tmp 12,.tmp 15,.tmp 17,.tmp 19,.tmp 21]) (xs:= [[B8 (UInt8.ofNat (leaf/2^24))],[B8 (UInt8.ofNat (leaf/2^16))],[B8 (UInt8.ofNat (leaf/2^8))],[B8 (UInt8.ofNat leaf)],[B8 (UInt8.ofNat chain)],[B8 (UInt8.ofNat stp)]]) O O O O qBo el5 O xC xC xD) O λg22 _=>yj (qBO O O qBo u5_ u9_ (m:=blk g22 [B8 (UInt8.ofNat (leaf/2^24)),B8 (UInt8.ofNat (leaf/2^16)),B8 (UInt8.ofNat (leaf/2^8)),B8 (UInt8.ofNat leaf),B8 (UInt8.ofNat chain),B8 (UInt8.ofNat stp)] 5) xD (slB (Wo.place leaf chain stp) O)) O<|yh O<|yi C2<|yr<|yw hw0 O () O yd [0] O xC
theorem qJQ(F:Hp)(hK:yf F)(seed:xA)(hs:seed.length<=1048576):Cz prog 56 [Str seed] F (Str (Wo.opn seed)):=by
 refine y7 func56 O ntmps56 O (λw0 hw0=>?_)
 exact yl λ_ C1=>yh O<|yi C1<|yl λ_ C2=>yh O<|yp (qAE (l:= [.tmp 3]) (xs:= [[Str (seed)]]) O O O O qAg el9 O xC xC xD) O λg4 _=>yp (qAZ O O (λF' hF=>qBI F' (hK.mono (Fa hF)) 3 (some ⟨g4,0,none⟩) 1 1 [seed] ((slS [seed] O).mono (hF (blk g4 (([seed]:List xA).map λs=>Str s) 9) xD)) (by simp [Wo.place_length];omega) xC)) O λg5 _=>yh O<|yi C2<|yr<|yw hw0 O () O yd [0] O xC
theorem qMA(F:Hp)(hK:yf F)(o:xA)(leaf chain:Nat)(ho:o.length<=1048576)(h1:leaf<4611686018427387904)(h2:chain<4611686018427387904)(x:xA)(hx:x.length<=1048576)(from' to':Int)(a n:Nat)(ha:(a:Int)=max from' 0)(ha2:a<4611686018427387904)(hn:(n:Int)=max (min to' 15-a) 0):
    Cz prog 127 [Str o,I leaf,I chain,I from',I to',Str x] F (Str (Wo.walk o leaf chain a x n)):=by
  refine y7 func127 O ntmps127 O (λw0 hw0=>?_)
  refine yl λ_ C1=>yh O<|yi C1<|ym λ_ C2=>yl λ_ C3=>yh O<|yj ((qNt O O O).nat (a+0) xB) O<|yh O<|yi C3<|yz<|vN (λk:Nat=> [(0,Str o),(1,I leaf),(2,I chain),(4,I to'),(5,Str (Wo.walk o leaf chain a x k)),(13,I (a+k:Nat))]) (λ_=> [F]) (λk=>k<=n) (λk=>n-k) 0 (jH _) ⟨O,O,O,O,by rw [Wo.walk0];rfl,O,yd⟩ (λ_ h=>h) ?_
  intro k hk I0 hI0
  have hw:=Wo.walk_small o leaf chain a x hx k
  refine ym λ_ C4=>yl λ_ C5=>yn 2 O<|yj (qEx O O O) O<|yj (qAP O O O) O<|yi C5<|y1 O (λh19=>?_) (λh19=>?_)
  .
    refine yy C4<|ym λ_ C6=>yz<|yt<|yn 4 O<|yp (qAJ O O ent (qJj F leaf chain (a+k) h1 h2 xB)) O λg26 _=>yh O<|yp (qAE (l:= [.tmp 22,.tmp 26,.tmp 27]) (xs:= [[Str (o)],[Str (Wo.place leaf chain (a+k))],[Str ((Wo.walk o leaf chain a x k))]]) O O O O qAg el9 O xC xC xD) O λg28 _=>yp (qAZ O O (λF' hF=>qBI F' (hK.mono (Fa hF)) 2 (some ⟨g28,0,none⟩) 3 3 [o,Wo.place leaf chain (a+k),(Wo.walk o leaf chain a x k)] ((slS [o,Wo.place leaf chain (a+k),(Wo.walk o leaf chain a x k)] O).mono (hF (blk g28 (([o,Wo.place leaf chain (a+k),(Wo.walk o leaf chain a x k)]:List xA).map λs=>Str s) 9) xD)) (by have:=qWP ho (show(Wo.place leaf chain (a+k)).length<=1048576 by rw [Wo.place_length];decide) hw;omega) xC)) O λg29 _=>yh O<|y8<|vB<|yq (yu C6 ?_)
    exact vW [0] [F] O xC<|yt<|yh O<|yj ((qAM O O O xB).nat (a+(k+1)) xB) O<|yh O<|y8<|yq<|vE (k+1) hI0 xB ⟨O,O,O,O,by rw [<-Wo.walkS];rfl,O,yd⟩ (λ_ h=>h)
  refine vK<|y6<|y6<|vL ?_
  refine yq (yu C2 ?_)
  refine ym λ_ C7=>?_
  have hkn:n=k:=xB
  subst hkn
  exact yt<|yn 2 O<|yi C7<|yr<|yw hw0 O () O yd [0] O xC
theorem qIX(F:Hp)(hK:yf F)(seed:xA)(leaf chain:Nat)(hs:seed.length<=1048576)(h1:leaf<4611686018427387904)(h2:chain<4611686018427387904):
    Cz prog 128 [Str seed,I leaf,I chain] F (Str (Wo.secret seed leaf chain)):=by
  refine y7 func128 O ntmps128 O (λw0 hw0=>?_)
  exact yl λ_ C1=>yh O<|yi C1<|yl λ_ C2=>yn 3 O<|yp (qAJ O O ent (qJj F leaf chain 0 h1 h2 xC)) O λg10 _=>yp (qAE (l:= [.tmp 7,.tmp 10]) (xs:= [[Str (seed)],[Str (Wo.place leaf chain 0)]]) O O O O qAg el9 O xC xC xD) O λg11 _=>yp (qAZ O O (λF' hF=>qBI F' (hK.mono (Fa hF)) 1 (some ⟨g11,0,none⟩) 2 2 [seed,Wo.place leaf chain 0] ((slS [seed,Wo.place leaf chain 0] O).mono (hF (blk g11 (([seed,Wo.place leaf chain 0]:List xA).map λs=>Str s) 9) xD)) (by simp [Wo.place_length];omega) xC)) O λg12 _=>yh O<|yi C2<|yr<|yw hw0 O () O yd [0] O xC
theorem qIY(F:Hp)(hK:yf F)(o:xA)(leaf:Nat)(ho:o.length<=1048576)(h1:leaf<4611686018427387904)(A:yS)(n c:Nat)(e:List xA)(he:Sl F 1 A n c (qAG e))(hsm: ∀s∈e,s.length<=1048576)(hn:n<=1024):
    Cz prog 129 [Str o,I leaf,.slice A n c] F (Str (Wo.publicOf o leaf e)):=by
  have hlen:e.length=n:=by have:=he.1;simpa [qAG] using this
  have hfl:=Mk.flat_small hsm
  rw [hlen] at hfl
  refine y7 func129 O ntmps129 O (λw0 hw0=>?_)
  refine yl λ_ C1=>yh O<|yi C1<|yl λ_ C2=>yn 2 O<|yp (qAJ O O ent (qJj F leaf 0 0 h1 xC xC)) O λg9 _=>yp (qAE (l:= [.tmp 7,.tmp 9]) (xs:= [[Str (o)],[Str (Wo.place leaf 0 0)]]) O O O O qAg el9 O xC xC xD) O λg10 _=>yh O<|yp (qAV (i:=1) (m2:=F) O O O qAg qAg el9 O (qAz (q:=True) (qAG [o,Wo.place leaf 0 0]) (n:=2) O (by simp [qAG]) O) xD he (qDR _) xB xB) O ?_
  rintro⟨A12,c12,m12⟩ h12
  try dsimp only at h12
  rw [<-qB0] at h12
  exact yp (qAZ O O (λF' hF=>qBI F' (hK.mono (Fa hF)) 4 A12 (2+n) c12 ([o,Wo.place leaf 0 0]++e) (h12.sl.mono (Fa hF)) (by simp only [zA,jA,jo,zf,Wo.place_length,jG];omega) xB)) O λg13 _=>yh O<|yi C2<|yr<|yw hw0 O () O yd [0] O xC
theorem qXA(F:Hp)(hK:yf F)(seed:xA)(leaf:Nat)(hs:seed.length<=1048576)(h1:leaf<4611686018427387904):
    Cz prog 54 [Str seed,I leaf] F (Str (Wo.pub seed leaf)):=by
  refine y7 func54 O ntmps54 O (λw0 hw0=>?_)
  refine yl λ_ C1=>yh O<|yi C1<|yl λ_ C2=>yh O<|yp (qAJ O O ent (qJQ F hK seed hs)) O λg9 _=>yh O<|yi C2<|yl λ_ C3=>yh O<|yi C3<|ym λ_ C4=>ym λ_ C5=>ve [0,1] [F,(λ_=>none)] O xC<|yt<|yh O<|yi C5<|yz<|vN (X:=Nat×yS×Nat×Hp) (λx=> [(0,Str seed),(1,I leaf),(5,Str (Wo.opn seed)),(6,.slice x.2.1 x.1 x.2.2.1),(10,I x.1)]) (λx=> [F,x.2.2.2]) (λx=>x.1<=35/\Row x.2.2.2 9 1 x.2.1 x.1 x.2.2.1 (qAG (Wo.tops seed leaf x.1))) (λx=>35-x.1) (0,none,0,λ_=>none) (⟨jH _,by rw [Wo.tops0];exact qBf.nil⟩) (Sub.of O) (λ_ h=>h) ?_
  rintro⟨k,A6,c6,m⟩ ⟨hk,hrow⟩ I0 hI0
  dsimp only at hk hrow⊢
  refine yl λ_ C6=>yj (qAP O O O) O<|yi C6<|ym λ_ C7=>y1 O (λh11=>?_) (λh11=>?_)
  .
    refine yy C7<|ym λ_ C8=>yz<|yl λ_ C9=>yn 2 O<|yi C9<|yt<|yn 7 O<|yp (qAZ O O (λF' hF=>qIX F' (hK.mono (Fa hF)) seed leaf k hs h1 xB)) O λg20 _=>yp (qAZ O O (λF' hF=>qMA F' (hK.mono (Fa hF)) (Wo.opn seed) leaf k (by rw [Wo.opn_length];decide) h1 xB (Wo.secret seed leaf k) (by rw [Wo.secret_length];decide) 0 15 0 15 xB xB xB)) O λg21 _=>yp (qAE (l:= [.tmp 21]) (xs:= [[Str ((Wo.walk (Wo.opn seed) leaf k 0 (Wo.secret seed leaf k) 15))]]) O O O O qAg el9 O xC xC xD) O λg22 _=>yp (qAV (i:=1) (m2:=blk g22 [Str (Wo.walk (Wo.opn seed) leaf k 0 (Wo.secret seed leaf k) 15)] 9) O O O qAg qAg el9 O hrow xD (qAj (q:=True) (xs:=qAG [(Wo.walk (Wo.opn seed) leaf k 0 (Wo.secret seed leaf k) 15)]) O (by simp [qAG])).sl (qDR _) xB xB) O ?_
    rintro⟨A23,c23,m23⟩ h23
    try dsimp only at h23
    rw [<-qB0,<-Wo.tops_succ] at h23
    refine vW [0,1] [F,m23] O xC<|yh O<|y8<|vB<|yq (yu C8 ?_)
    exact yt<|yj ((qAM O O O xB).nat (k+1) xB) O<|yh O<|y8<|yq<|vE (k+1,A23,c23,m23) hI0 ⟨by dsimp only;omega,h23⟩ (Sub.of O) (λ_ h=>h)
  refine vK<|y6<|y6<|vL ?_
  refine yq (yu C4 ?_)
  refine ym λ_ C10=>?_
  have hk35:k=35:=xB
  subst hk35
  exact yt<|yn 3 O<|yp (qAZ O O (λF' hF=>qIY F' (hK.mono (Fa hF)) (Wo.opn seed) leaf (by rw [Wo.opn_length];decide) h1 A6 35 c6 (Wo.tops seed leaf 35) (hrow.sl.mono (Fa hF)) (λs hs=>jf (Wo.tops_small seed leaf 35 s hs) xC) xC)) O λg28 _=>yh O<|yi C10<|yr<|yw hw0 O () O yd [0] O xC
theorem qH3(F:Hp)(s:xA)(hs:s.length=16):
    Ct prog 235 [Str s] [F] (λx:yS×Nat×Hp=> .tuple #[.slice x.1 35 x.2.1,I 0]) (λx=>Row x.2.2 3 1 x.1 35 x.2.1 (qCj (Wo.digs s))) (λx=> [F,x.2.2]):=by
  have hll:=Wo.left_le s
  refine y7 func235 O ntmps235 O (λw0 hw0=>?_)
  refine yl λ_ C1=>yn 2 O<|yi C1<|ym λ_ C2=>yl λ_ C3=>yh O<|yj (qAn u9_ O O) O<|yj ((qAQ O O O).no xB) O<|yi C3<|vC ?_
  refine yy C2<|yl λ_ C4=>yh O<|yi C4<|ym λ_ C5=>ve [0,1] [F,(λ_=>none)] O xC<|yt<|yh O<|yi C5<|ym λ_ C6=>yl λ_ C7=>yh O<|yj (qAn u9_ O O) O<|yh O<|yi C7<|yz<|vN (X:=Nat×yS×Nat×Hp) (λx=> [(0,Str s),(4,.slice x.2.1 (2*x.1) x.2.2.1),(5,I (Wo.left (s.take x.1):Nat)),(14,I s.length),(15,I x.1)]) (λx=> [F,x.2.2.2]) (λx=>x.1<=16/\Row x.2.2.2 3 1 x.2.1 (2*x.1) x.2.2.1 (qCj (Wo.nibs (s.take x.1)))) (λx=>16-x.1) (0,none,0,λ_=>none) (⟨jH _,by rw [zV,Wo.nibs0];exact qBf.nil⟩) ⟨O,O,by rw [zV,Wo.left0];rfl,O,O,yd⟩ (λ_ h=>h) ?_
  rintro⟨k,A4,c4,m⟩ ⟨hk,hrow⟩ I0 hI0
  dsimp only at hk hrow⊢
  have hlk:=Wo.left_le (s.take k)
  rw [jF] at hlk
  refine yl λ_ C8=>yj (qAP O O O) O<|yi C8<|ym λ_ C9=>y1 O (λh16=>?_) (λh16=>?_)
  .
    refine yy C9<|ym λ_ C10=>yz<|yl λ_ C11=>yn 2 O<|yi C11<|ym λ_ C12=>?_
    have hk16:k<16:=xB
    have hb8:=(s.getD k 0).toNat_lt
    refine vQ [F,m] [] (.y 0 (.y 1 (.y 2 (.y 3 (.y 4 (.y 5 (.y 6 (.y 7 (.y 8 (.y 9 (.y 10 (.y 11 .nil)))))))))))) ye xF xD ?_
    refine yx ?_
    refine yx ?_
    refine yo O (qA9 u9_ O O O (qAc 0 xB)) O O<|yo O (qRV O O O) O O<|yo O ((qBG O O u5_ u3_).as (v':=I ((s.getD k 0).toNat/16:Nat)) (yY (λn:Nat=>I (n:Int)) (Wo.lo_eq (s.getD k 0)).2)) O O<|yx ?_
    refine yx ?_
    refine yo O (qA9 u9_ O O O (qAc 0 xB)) O O<|yo O (qE6 (b:=15) O O O) O O<|yo O ((qBG O O u5_ u3_).as (v':=I ((s.getD k 0).toNat%16:Nat)) (yY (λn:Nat=>I (n:Int)) (Wo.lo_eq (s.getD k 0)).1)) O O<|yo O (qE5 (l:= [.tmp 22,.tmp 27]) O O O underlying397 el3 zeroValue397 O O (by simp [Value.cells]) (r:= [(s.getD k 0).toNat/16,(s.getD k 0).toNat%16].map λx:Nat=>I (x:Int)) O) O O<|yx ?_
    refine vM<|yq (yu C12 ?_)
    refine yz<|vN (X:=Nat×yS×Nat×Hp) (λx=> [(0,Str s),(4,.slice x.2.1 (2*k+x.1) x.2.2.1),(5,I (Wo.left (s.take k)+(([(s.getD k 0).toNat/16,(s.getD k 0).toNat%16].take x.1).map (15- ·)).sum:Nat)),(14,I s.length),(15,I k),(28,.agg ([(s.getD k 0).toNat/16,(s.getD k 0).toNat%16].map λx:Nat=>I (x:Int)).toArray),(29,I x.1)]) (λx=> [F,x.2.2.2]) (λx=>x.1<=2/\Row x.2.2.2 3 1 x.2.1 (2*k+x.1) x.2.2.1 (qCj ((Wo.nibs (s.take k))++ [(s.getD k 0).toNat/16,(s.getD k 0).toNat%16].take x.1))) (λx=>2-x.1) (0,A4,c4,m) (⟨jH _,by rw [zV,jS];exact hrow⟩) (Sub.of O) (λ_ h=>h) ?_
    clear hrow
    rintro⟨j,A4,c4,m⟩ ⟨hj,hrow⟩ I2 hI2
    dsimp only at hj hrow⊢
    refine yl λ_ C13=>yj (qAP O O O) O<|yi C13<|ym λ_ C14=>y1 O (λh30=>?_) (λh30=>?_)
    .
      refine yy C14<|ym λ_ C15=>yz<|ym λ_ C16=>?_
      have hj2:j<2:=xB
      have hsj:(([(s.getD k 0).toNat/16,(s.getD k 0).toNat%16].take (j+1)).map (15- ·)).sum=(([(s.getD k 0).toNat/16,(s.getD k 0).toNat%16].take j).map (15- ·)).sum+(15-([(s.getD k 0).toNat/16,(s.getD k 0).toNat%16].getD j 0)):=by match j,hj2 with|0,_=>simp|1,_=>simp
      have hdl:([(s.getD k 0).toNat/16,(s.getD k 0).toNat%16].getD j 0)<=15:=by match j,hj2 with|0,_=>(show(s.getD k 0).toNat/16<=15;omega)|1,_=>(show(s.getD k 0).toNat%16<=15;omega)
      have hsl:(([(s.getD k 0).toNat/16,(s.getD k 0).toNat%16].take j).map (15- ·)).sum<=15*j:=by match j,hj2 with|0,_=>simp|1,_=>simp
      refine yt<|yj (qJo (i:=j) (v:=I (([(s.getD k 0).toNat/16,(s.getD k 0).toNat%16].getD j 0):Nat)) O O O underlying397 z3_ b3_ xB (by rw [Nat.mul_one];match j,hj2 with|0,_=>rfl|1,_=>rfl)) O<|yh O<|yi C16<|yl λ_ C17=>yn 2 O<|yp (qAE (l:= [.tmp 33]) (xs:= [[I (([(s.getD k 0).toNat/16,(s.getD k 0).toNat%16].getD j 0):Nat)]]) O O O O qGL el3 O xC xC xD) O λg34 _=>yp (qAV (i:=1) (m2:=blk g34 (([([(s.getD k 0).toNat/16,(s.getD k 0).toNat%16].getD j 0)]:yT).map λx:Nat=>I (x:Int)) 3) O O O qGL qGL el3 O hrow xD (slN [([(s.getD k 0).toNat/16,(s.getD k 0).toNat%16].getD j 0)] O) (qNv _) xB xB) O ?_
      rintro⟨A35,c35,m35⟩ h35
      try dsimp only at h35
      rw [<-qLI] at h35
      refine yh O<|yi C17<|vW [0,1] [F,m35] O xC<|yt<|yn 2 O<|yj ((qAm O O O xB).as (v':=I (15-([(s.getD k 0).toNat/16,(s.getD k 0).toNat%16].getD j 0):Nat)) (yY I xB)) O<|yj ((qAM O O O xB).as (v':=I (Wo.left (s.take k)+(([(s.getD k 0).toNat/16,(s.getD k 0).toNat%16].take (j+1)).map (15- ·)).sum:Nat)) (yY I (by rw [hsj];omega))) O<|yh O<|y8<|vB<|yq (yu C15 ?_)
      exact yt<|yj ((qAM O O O xB).nat (j+1) xB) O<|yh O<|y8<|yq<|vE (j+1,A35,c35,m35) hI2 ⟨by dsimp only;omega,by dsimp only;rw [show [(s.getD k 0).toNat/16,(s.getD k 0).toNat%16].take (j+1)= [(s.getD k 0).toNat/16,(s.getD k 0).toNat%16].take j++ [([(s.getD k 0).toNat/16,(s.getD k 0).toNat%16].getD j 0)] by match j,hj2 with|0,_=>rfl|1,_=>rfl,<-jM];exact h35⟩ (Sub.of O) (λ_ h=>h)
    refine vK<|y6<|y6<|vL ?_
    refine vB<|yq (yu C10 ?_)
    refine yt<|yj ((qAM O O O xB).nat (k+1) xB) O<|yh O<|y8<|yq ?_
    have hj2:j=2:=xB
    subst hj2
    have e1:=Wo.nibs_snoc s k xB
    have e2:=Wo.left_snoc s k xB
    have hb8:=(s.getD k 0).toNat_lt
    have e3:(([(s.getD k 0).toNat/16,(s.getD k 0).toNat%16].take 2).map (15- ·)).sum=(15-(s.getD k 0).toNat/16)+((15-(s.getD k 0).toNat%16)+0):=rfl
    exact vE (k+1,A4,c4,m) hI0 ⟨by dsimp only;omega,by dsimp only;rw [e1];exact hrow⟩ ⟨O,by rw [show 2*(k+1)=2*k+2 by omega];rfl,by rw [e2];exact yY (λn:Nat=>some (I (n:Int))) (by rw [e3];omega),O,O,yd⟩ (λ_ h=>h)
  refine vK<|y6<|y6<|vL ?_
  refine yq (yu C6 ?_)
  refine ym λ_ C18=>ym λ_ C19=>?_
  have hk16:k=16:=xB
  subst hk16
  rw [jV xB] at hrow
  refine yt<|yh O<|yi C19<|yz<|vN (X:=Nat×yS×Nat×Hp) (λx=> [(4,.slice x.2.1 (32+x.1) x.2.2.1),(5,I (Wo.left s:Nat)),(9,I (2-(x.1:Int)))]) (λx=> [F,x.2.2.2]) (λx=>x.1<=3/\Row x.2.2.2 3 1 x.2.1 (32+x.1) x.2.2.1 (qCj (Wo.nibs s++ [Wo.left s/256,Wo.left s/16%16,Wo.left s%16].take x.1))) (λx=>3-x.1) (0,A4,c4,m) (⟨jH _,by rw [zV,jS];exact hrow⟩) ⟨O,by rw [jV xB];rfl,O,yd⟩ (λ_ h=>h) ?_
  clear hrow hlk
  rintro⟨t,A4,c4,m⟩ ⟨ht,hrow⟩ I4 hI4
  dsimp only at ht hrow⊢
  refine ym λ_ C20=>yl λ_ C21=>yh O<|yj (qA1 O O O) O<|yi C21<|y1 O (λh43=>?_) (λh43=>?_)
  .
    refine yy C20<|ym λ_ C22=>yz ?_
    have ht2:t<3:=xB
    refine yt<|yn 2 O<|yj ((qAT O O).nat (2-t) xB) O<|yj ((qCA O O O xB).nat (4*(2-t)) xB) O<|yj ((qDW O O O xB).as (v':=I (Wo.left s/2^(4*(2-t)):Nat)) (yY I xD)) O<|yj ((qUl 4 O O O xC xC).as (v':=I ([Wo.left s/256,Wo.left s/16%16,Wo.left s%16].getD t 0:Nat)) (yY I (by match t,ht2 with|0,_=>(show((Wo.left s/2^(4*(2-0)):Nat):Int)%2^4=((Wo.left s/256:Nat):Int);omega)|1,_=>(show((Wo.left s/2^(4*(2-1)):Nat):Int)%2^4=((Wo.left s/16%16:Nat):Int);omega)|2,_=>(show((Wo.left s/2^(4*(2-2)):Nat):Int)%2^4=((Wo.left s%16:Nat):Int);omega)))) O<|yp (qAE (l:= [.tmp 51]) (xs:= [[I (([Wo.left s/256,Wo.left s/16%16,Wo.left s%16].getD t 0):Nat)]]) O O O O qGL el3 O xC xC xD) O λg52 _=>yp (qAV (i:=1) (m2:=blk g52 (([([Wo.left s/256,Wo.left s/16%16,Wo.left s%16].getD t 0)]:yT).map λx:Nat=>I (x:Int)) 3) O O O qGL qGL el3 O hrow xD (slN [([Wo.left s/256,Wo.left s/16%16,Wo.left s%16].getD t 0)] O) (qNv _) xB xB) O ?_
    rintro⟨A53,c53,m53⟩ h53
    try dsimp only at h53
    rw [<-qLI] at h53
    refine yh O<|y8<|vB<|yq (yu C22 ?_)
    exact vW [0,1] [F,m53] O xC<|yt<|yh O<|yj ((qAm O O O xB).as (v':=I (2-((t+1:Nat):Int))) (yY I xB)) O<|yh O<|y8<|yq<|vE (t+1,A53,c53,m53) hI4 ⟨by dsimp only;omega,by dsimp only;rw [show [Wo.left s/256,Wo.left s/16%16,Wo.left s%16].take (t+1)= [Wo.left s/256,Wo.left s/16%16,Wo.left s%16].take t++ [[Wo.left s/256,Wo.left s/16%16,Wo.left s%16].getD t 0] by match t,ht2 with|0,_=>rfl|1,_=>rfl|2,_=>rfl,<-jM];exact h53⟩ (Sub.of O) (λ_ h=>h)
  refine vK<|y6<|y6<|vL ?_
  refine yq (yu C18 ?_)
  refine ym λ_ C23=>?_
  have ht3:t=3:=xB
  subst ht3
  exact yt<|yn 3 O<|yi C23<|yr<|vH hw0 (λ_ _ h=>h) (qB5 O O O) (qAf (A4,c4,m) O (by unfold Wo.digs;exact hrow) [0,1] O xC)
theorem qXZ(F:Hp)(hK:yf F)(seed:xA)(leaf:Nat)(d:xA)(hs:seed.length<=1048576)(h1:leaf<4611686018427387904)(hd:d.length=16):
    Ct prog 165 [Str seed,I leaf,Str d] [F] (λx:yS×Nat×Hp=> .tuple #[.slice x.1 35 x.2.1,I 0]) (λx=>Row x.2.2 9 1 x.1 35 x.2.1 (qAG (Wo.signs seed leaf (Wo.digs d) 35))) (λx=> [F,x.2.2]):=by
  have hdl:(Wo.digs d).length=35:=by rw [Wo.digs_length,hd]
  have hd15:=Wo.digs_le d xB
  refine y7 func165 O ntmps165 O (λw0 hw0=>?_)
  refine yl λ_ C1=>yn 2 O<|yi C1<|yl λ_ C2=>yh O<|yp (qBx O O (λF' hF=>qH3 F' d hd)) O ?_
  rintro⟨A16,c16,m16⟩ h16
  try dsimp only at h16
  refine yh O<|yj (qAp O O O) O<|yj (qAp O O O) O<|yn 2 O<|yi C2<|ym λ_ C3=>yl λ_ C4=>yh O<|yj ((qAQ O O O).no xC) O<|yi C4<|vC ?_
  refine yy C3<|yl λ_ C5=>yh O<|yp (qAZ O O (λF' hF=>qJQ F' (hK.mono (Fa hF)) seed hs)) O λg23 _=>yh O<|yi C5<|ym λ_ C6=>ve [0,1,2] [F,m16,(λ_=>none)] O xC<|yt<|yh O<|yi C6<|ym λ_ C7=>yl λ_ C8=>yh O<|yj (qAN qGL O O) O<|yh O<|yi C8<|yz<|vN (X:=Nat×yS×Nat×Hp) (λx=> [(0,Str seed),(1,I leaf),(10,Str (Wo.opn seed)),(11,.slice x.2.1 x.1 x.2.2.1),(24,.slice A16 35 c16),(25,I (35:Nat)),(26,I x.1)]) (λx=> [F,m16,x.2.2.2]) (λx=>x.1<=35/\Row x.2.2.2 9 1 x.2.1 x.1 x.2.2.1 (qAG (Wo.signs seed leaf (Wo.digs d) x.1))) (λx=>35-x.1) (0,none,0,λ_=>none) (⟨jH _,by rw [Wo.signs0];exact qBf.nil⟩) (Sub.of O) (λ_ h=>h) ?_
  rintro⟨k,A6,c6,m⟩ ⟨hk,hrow⟩ I0 hI0
  dsimp only at hk hrow⊢
  have hdk:=hd15 k
  refine yl λ_ C9=>yj (qAP O O O) O<|yi C9<|ym λ_ C10=>y1 O (λh27=>?_) (λh27=>?_)
  .
    refine yy C10<|ym λ_ C11=>yz<|yl λ_ C12=>yh O<|yj (qAC O O O qGL z3_ h16.sl xB) O<|yj (qAH O O b3_ (m:=m16) xD (h16.sl.elem (qCH (k:=k) xB))) O<|yn 2 O<|yi C12<|yt<|yn 8 O<|yp (qAZ O O (λF' hF=>qIX F' (hK.mono (Fa hF)) seed leaf k hs h1 xB)) O λg39 _=>yp (qAZ O O (λF' hF=>qMA F' (hK.mono (Fa hF)) (Wo.opn seed) leaf k (by rw [Wo.opn_length];decide) h1 xB (Wo.secret seed leaf k) (by rw [Wo.secret_length];decide) 0 ((Wo.digs d).getD k 0) 0 ((Wo.digs d).getD k 0) xB xB xB)) O λg40 _=>yp (qAE (l:= [.tmp 40]) (xs:= [[Str ((Wo.walk (Wo.opn seed) leaf k 0 (Wo.secret seed leaf k) ((Wo.digs d).getD k 0)))]]) O O O O qAg el9 O xC xC xD) O λg41 _=>yp (qAV (i:=2) (m2:=blk g41 [Str (Wo.walk (Wo.opn seed) leaf k 0 (Wo.secret seed leaf k) ((Wo.digs d).getD k 0))] 9) O O O qAg qAg el9 O hrow xD (qAj (q:=True) (xs:=qAG [(Wo.walk (Wo.opn seed) leaf k 0 (Wo.secret seed leaf k) ((Wo.digs d).getD k 0))]) O (by simp [qAG])).sl (qDR _) xB xB) O ?_
    rintro⟨A42,c42,m42⟩ h42
    try dsimp only at h42
    rw [<-qB0,<-Wo.signs_succ] at h42
    refine vW [0,1,2] [F,m16,m42] O xC<|yh O<|y8<|vB<|yq (yu C11 ?_)
    exact yt<|yj ((qAM O O O xB).nat (k+1) xB) O<|yh O<|y8<|yq<|vE (k+1,A42,c42,m42) hI0 ⟨by dsimp only;omega,h42⟩ (Sub.of O) (λ_ h=>h)
  refine vK<|y6<|y6<|vL ?_
  refine yq (yu C7 ?_)
  refine ym λ_ C13=>?_
  have hk35:k=35:=xB
  subst hk35
  exact yt<|yn 3 O<|yi C13<|yr<|vH hw0 (λ_ _ h=>h) (qB5 O O O) (qAf (A6,c6,m) O hrow [0,2] O xC)
theorem qP3(F:Hp)(A:yS)(n c:Nat)(ls:List xA)(hl:Sl F 1 A n c (qAG ls))(h16: ∀s∈ls,s.length=16)(hn:n=35):
    Cz prog 282 [.slice A n c] F (.bool true):=by
  have hlen:ls.length=n:=by have:=hl.1;simpa [qAG] using this
  refine y7 func282 O ntmps282 O (λw0 hw0=>?_)
  refine yl λ_ C1=>yh O<|yi C1<|ym λ_ C2=>yl λ_ C3=>yh O<|yj (qAN qAg O O) O<|yh O<|yi C3<|yz<|vN (λk:Nat=> [(0,.slice A n c),(5,.slice A n c),(6,I n),(7,I k)]) (λ_=> [F]) (λk=>k<=n) (λk=>n-k) 0 (jH _) (Sub.of O) (λ_ h=>h) ?_
  intro k hk I0 hI0
  refine yl λ_ C4=>yj (qAP O O O) O<|yi C4<|ym λ_ C5=>y1 O (λh8=>?_) (λh8=>?_)
  .
    refine yy C5<|ym λ_ C6=>yz<|yl λ_ C7=>yj (qAC O O O qAg z9_ hl xB) O<|yj (qAH O O b9_ (m:=F) xD (hl.elem (qAa (qAc [] (show k<ls.length by omega))))) O<|yh O<|yi C7<|yl λ_ C8=>yh O<|yj (qAn u9_ O O) O<|yj ((qAQ O O O).no (by have:=h16 _ (jR (qAc [] (show k<ls.length by omega)));omega)) O<|yi C8<|vC ?_
    refine vP<|vB<|yq (yu C6 ?_)
    exact yt<|yj ((qAM O O O xB).nat (k+1) xB) O<|yh O<|y8<|yq<|vE (k+1) hI0 xB (Sub.of O) (λ_ h=>h)
  refine vK<|y6<|y6<|vL ?_
  refine yq (yu C2 ?_)
  exact yl λ_ C9=>yh O<|yj (qAN qAg O O) O<|yj ((qAR O O O).yes xB) O<|yh O<|yi C9<|yr<|yw hw0 O () O yd [0] O xC
theorem qO1(F:Hp)(hK:yf F)(o:xA)(leaf:Nat)(d:xA)(A:yS)(c:Nat)(sig:List xA)(hl:Sl F 1 A 35 c (qAG sig))(ho:o.length<=1048576)(h1:leaf<4611686018427387904)(hd:d.length=16)(hsg: ∀s∈sig,s.length=16):
    Cz prog 244 [Str o,I leaf,Str d,.slice A 35 c] F (.tuple #[Str (Wo.publicOf o leaf (Wo.ends o leaf (Wo.digs d) sig 35)),I 0]):=by
  have hdl:(Wo.digs d).length=35:=by rw [Wo.digs_length,hd]
  have hd15:=Wo.digs_le d xB
  have hlen:sig.length=35:=by have:=hl.1;simpa [qAG] using this
  refine y7 func244 O ntmps244 O (λw0 hw0=>?_)
  refine yl λ_ C1=>yn 2 O<|yi C1<|yl λ_ C2=>yh O<|yp (qBx O O (λF' hF=>qH3 F' d hd)) O ?_
  rintro⟨A17,c17,m17⟩ h17
  try dsimp only at h17
  refine yh O<|yj (qAp O O O) O<|yj (qAp O O O) O<|yn 2 O<|yi C2<|ym λ_ C3=>yz<|yl λ_ C4=>yh O<|yj ((qAQ O O O).no xC) O<|yh O<|yi C4<|vC ?_
  refine yl λ_ C5=>yh O<|yp (qAZ O O (λF' hF=>qP3 F' A 35 c sig (hl.mono (Fa hF)) hsg O)) O λg26 _=>yj ((qA5 O O).as (v':= .bool false) O) O<|yh O<|yi C5<|vC ?_
  refine vP<|vB<|yq (yu C3 ?_)
  refine ym λ_ C6=>ve [0,1,2] [F,m17,(λ_=>none)] O xC<|yt<|yh O<|yi C6<|ym λ_ C7=>yl λ_ C8=>yh O<|yj (qAN qGL O O) O<|yh O<|yi C8<|yz<|vN (X:=Nat×yS×Nat×Hp) (λx=> [(0,Str o),(1,I leaf),(3,.slice A 35 c),(12,.slice x.2.1 x.1 x.2.2.1),(28,.slice A17 35 c17),(29,I (35:Nat)),(30,I x.1)]) (λx=> [F,m17,x.2.2.2]) (λx=>x.1<=35/\Row x.2.2.2 9 1 x.2.1 x.1 x.2.2.1 (qAG (Wo.ends o leaf (Wo.digs d) sig x.1))) (λx=>35-x.1) (0,none,0,λ_=>none) (⟨jH _,by rw [Wo.ends0];exact qBf.nil⟩) (Sub.of O) (λ_ h=>h) ?_
  rintro⟨k,A6,c6,m⟩ ⟨hk,hrow⟩ I0 hI0
  dsimp only at hk hrow⊢
  have hdk:=hd15 k
  refine yl λ_ C9=>yj (qAP O O O) O<|yi C9<|ym λ_ C10=>y1 O (λh31=>?_) (λh31=>?_)
  .
    refine yy C10<|ym λ_ C11=>yz<|yl λ_ C12=>yh O<|yj (qAC O O O qGL z3_ h17.sl xB) O<|yj (qAH O O b3_ (m:=m17) xD (h17.sl.elem (qCH (k:=k) xB))) O<|yn 2 O<|yi C12<|yt<|yn 7 O<|yj (qAC O O O qAg z9_ hl xB) O<|yj (qAH O O b9_ (m:=F) xD (hl.elem (qAa (qAc [] (show k<sig.length by omega))))) O<|yp (qAZ O O (λF' hF=>qMA F' (hK.mono (Fa hF)) o leaf k ho h1 xB (sig.getD k []) (by have:=hsg _ (jR (qAc [] (show k<sig.length by omega)));omega) ((((Wo.digs d).getD k 0):Nat):Int) 15 ((Wo.digs d).getD k 0) (15-((Wo.digs d).getD k 0)) xB xB xB)) O λg44 _=>yp (qAE (l:= [.tmp 44]) (xs:= [[Str ((Wo.walk o leaf k ((Wo.digs d).getD k 0) (sig.getD k []) (15-((Wo.digs d).getD k 0))))]]) O O O O qAg el9 O xC xC xD) O λg45 _=>yp (qAV (i:=2) (m2:=blk g45 [Str (Wo.walk o leaf k ((Wo.digs d).getD k 0) (sig.getD k []) (15-((Wo.digs d).getD k 0)))] 9) O O O qAg qAg el9 O hrow xD (qAj (q:=True) (xs:=qAG [(Wo.walk o leaf k ((Wo.digs d).getD k 0) (sig.getD k []) (15-((Wo.digs d).getD k 0)))]) O (by simp [qAG])).sl (qDR _) xB xB) O ?_
    rintro⟨A46,c46,m46⟩ h46
    try dsimp only at h46
    rw [<-qB0,<-Wo.ends_succ] at h46
    refine vW [0,1,2] [F,m17,m46] O xC<|yh O<|y8<|vB<|yq (yu C11 ?_)
    exact yt<|yj ((qAM O O O xB).nat (k+1) xB) O<|yh O<|y8<|yq<|vE (k+1,A46,c46,m46) hI0 ⟨by dsimp only;omega,h46⟩ (Sub.of O) (λ_ h=>h)
  refine vK<|y6<|y6<|vL ?_
  refine yq (yu C7 ?_)
  refine ym λ_ C13=>?_
  have hk35:k=35:=xB
  subst hk35
  exact yt<|yn 3 O<|yp (qAZ O O (λF' hF=>qIY F' (hK.mono (Fa hF)) o leaf ho h1 A6 35 c6 (Wo.ends o leaf (Wo.digs d) sig 35) (hrow.sl.mono (Fa hF)) (Wo.ends_small o leaf (Wo.digs d) sig 35 (λs hs=>Nat.le_of_eq (hsg s hs))) xC)) O λg51 _=>yn 2 O<|yi C13<|yr<|vH hw0 (λ_ _ h=>h) (qB5 O O O) (qAf () O yd [0] O xC)
end Go.Proofs.YtmemgokiolfdoaaGreatDoor
namespace Go.Proofs.YtmemgokiolfdoaaGreatDoor
open Go Go.Fw Go.Proofs.Tryz
namespace Xm
def leaves(seed:xA)(k:Nat):List xA:=(List.range k).map λi=>Wo.pub seed i
def root(seed:xA)(h:Nat):xA:=Mk.root (leaves seed (2^h)) h
def four(n:Nat):xA:= [UInt8.ofNat (n/2^24),UInt8.ofNat (n/2^16),UInt8.ofNat (n/2^8),UInt8.ofNat n]
def digest(o:xA)(i:Nat)(m:xA):xA:=Sha.tagged 6 [o,four i,m]
theorem leaves_succ(seed:xA)(k:Nat):leaves seed (k+1)=leaves seed k++ [Wo.pub seed k]:=by simp [leaves,jt]
theorem leaves_length(seed:xA)(k:Nat):(leaves seed k).length=k:=by simp [leaves]
theorem leaves_get(seed:xA)(k i:Nat)(h:i<k):(leaves seed k).getD i []=Wo.pub seed i:=by
 unfold leaves
 rw [jB,jO,zD h];rfl
theorem pub_length(seed:xA)(i:Nat):(Wo.pub seed i).length=16:=Sha.tagged_length _ _
theorem leaves_small(seed:xA)(k:Nat): ∀s∈leaves seed k,s.length<=1048576:=λs hs=>by
 simp only [leaves,zh] at hs
 obtain ⟨i,_,rfl⟩:=hs
 rw [pub_length];decide
theorem digest_length(o:xA)(i:Nat)(m:xA):(digest o i m).length=16:=Sha.tagged_length _ _
theorem four_length(n:Nat):(four n).length=4:=rfl
theorem pow_le(h:Nat)(h6:h<=6):2^h<=64:=jf (jZ xC h6) xC
end Xm
attribute [local irreducible] Sha.tagged Wo.pub Wo.publicOf Wo.signs Wo.ends Wo.digs Wo.walk Wo.opn Mk.root Mk.path Mk.climb
theorem Xm.leaves0(seed:xA):Xm.leaves seed 0= []:=rfl
theorem Wo.recPub(seed:xA)(leaf:Nat)(d:xA)(hd:d.length<=16):Wo.publicOf (Wo.opn seed) leaf (Wo.ends (Wo.opn seed) leaf (Wo.digs d) (Wo.signs seed leaf (Wo.digs d) 35) 35)=Wo.pub seed leaf:=by
 rw [Wo.recovers seed leaf (Wo.digs d) (Wo.digs_le d hd) 35];unfold Wo.pub;rfl
def qBg(seed o r:xA)(h:Int)(A:yS)(n c:Nat):yU:= [Str seed,Str o,Str r,I h,.slice A n c]
def qZQ(mm:Hp)(g:Nat)(seed:xA)(h:Nat):Prop:= ∃A c mr,mm=U [blk g (qBg seed (Wo.opn seed) (Xm.root seed h) h A (2^h) c) 140,mr]/\Dj (blk g (qBg seed (Wo.opn seed) (Xm.root seed h) h A (2^h) c) 140) mr/\Row mr 9 1 A (2^h) c (qAG (Xm.leaves seed (2^h)))
theorem qZQ.see{mm:Hp}{g:Nat}{seed:xA}{h:Nat}(hk:qZQ mm g seed h): ∃A c,qAI mm ⟨g,0,none⟩ (qBg seed (Wo.opn seed) (Xm.root seed h) h A (2^h) c)/\Sl mm 1 A (2^h) c (qAG (Xm.leaves seed (2^h))):=by
 obtain ⟨A,c,mr,rfl,hd,hr⟩:=hk
 exact⟨A,c,qAI.blk0.mono (qIv _ _),hr.sl.mono (qHn hd)⟩
theorem qW9(F:Hp)(hK:yf F)(seed:xA)(h:Nat)(hs:seed.length<=1048576)(h6:h<=6):
    Ct prog 11 [Str seed,I h] [F] (λx:Nat×Hp=> .tuple #[Ptr x.1,I 0]) (λx=>qZQ x.2 x.1 seed h) (λx=> [x.2,F]):=by
  have hp64:=Xm.pow_le h h6
  have hp0:=jy h
  refine y7 func11 O ntmps11 O (λw0 hw0=>?_)
  refine yl λ_ C1=>yn 2 O<|yi C1 ?_
  refine ym λ_ C2=>yl λ_ C3=>yh O<|yj ((qAP O O O).no xB) O<|yn 2 O<|yv ((qAs O O O).no xB) O<|yh O<|yi C3 ?_
  refine vC ?_
  refine yy C2 ?_
  refine yl λ_ C4=>yh O<|yj (qAK (places:= [(0,1),(1,3),(4,1)]) (r:=qBg seed [] [] 0 none 0 0) O O O qIJ zeroValue140 (λ_=>xH) O) O<|yp (qAi O O O) O λg18 _=>yh O<|yi C4 ?_
  refine ym λ_ C5=>ym λ_ C6=>ve [0,1,2] [F,blk g18 (qBg seed [] [] 0 none 0 0) 140,(λ_=>none)] O xC<|yt<|yh O<|yj ((qJl O O O ⟨xB,by have:=Int.pow_pos (n:=2) (m:=h) xC;omega,by rw [Int.one_mul];exact Int.ofNat_le.2 (show 2^h<=9223372036854775807 by omega)⟩).as (v':=I (2^h:Nat)) (yY I xD)) O<|yh O<|yi C6 ?_
  refine yz<|vN (X:=Nat×yS×Nat×Hp) (λx=> [(0,Str seed),(1,I h),(6,Ptr g18),(20,I (2^h:Nat)),(21,I x.1)]) (λx=> [F,blk g18 (qBg seed [] [] 0 x.2.1 x.1 x.2.2.1) 140,x.2.2.2]) (λx=>x.1<=2^h/\Row x.2.2.2 9 1 x.2.1 x.1 x.2.2.1 (qAG (Xm.leaves seed x.1))) (λx=>2^h-x.1) (0,none,0,λ_=>none) (⟨jH _,by rw [Xm.leaves0];exact qBf.nil⟩) (Sub.of O) (λ_ h=>h) ?_
  rintro⟨k,A6,c6,m⟩ ⟨hk,hrow⟩ I0 hI0
  dsimp only at hk hrow⊢
  refine yl λ_ C7=>yj (qAP O O O) O<|yi C7 ?_
  refine ym λ_ C8=>y1 O (λh22=>?_) (λh22=>?_)
  .
    refine yy C8 ?_
    refine ym λ_ C9=>yz<|yl λ_ C10=>yn 2 O<|yi C10 ?_
    refine vQ [blk g18 (qBg seed [] [] 0 A6 k c6) 140] [12] (.y 0 (.y 1 (.y 2 (.y 3 (.y 4 (.y 5 (.y 6 (.e 7 (.e 8 (.e 9 (.y 10 (.y 11 (.e 12 .nil))))))))))))) ye xF xD ?_
    refine yx ?_
    refine yx ?_
    refine yo O (qAB O O) O O<|yo O (qAA O O qIJ O qBs O) O O<|yo O (qAD 0 O O O qB7 O) O O<|yx ?_
    refine yx ?_
    refine vD O (qAZ O O (λF' hF=>qXA F' (hK.mono (Fa hF)) seed k hs xB)) O xD λg31 _=>vD O (qAE (l:= [.tmp 31]) (xs:= [[Str (Wo.pub seed k)]]) O O O O qAg el9 O xC xC xD) O xD λg32 _=>vD O (qAV (i:=2) (m2:=blk g32 [Str (Wo.pub seed k)] 9) O O O qAg qAg el9 O hrow xD (qAj (q:=True) (xs:=qAG [(Wo.pub seed k)]) O (by simp [qAG])).sl (qDR _) xB xB) O xD ?_
    rintro⟨A33,c33,m33⟩ h33
    try dsimp only at h33
    rw [<-qB0,<-Xm.leaves_succ] at h33
    refine yo O (qAB O O) O O<|yo O (qAA O O qIJ O qBs O) O O<|vZ O (qAU (i:=1) O O O O O qBs O (by simp [qBg])) O O O λ_ _=>vM<|vB<|yq (yu C9 ?_)
    exact vW [0,1,2] [F,blk g18 (qBg seed [] [] 0 A33 (k+1) c33) 140,m33] O xC<|yt<|yj ((qAM O O O xB).nat (k+1) xB) O<|yh O<|y8<|yq<|vE (k+1,A33,c33,m33) hI0 ⟨by dsimp only;omega,h33⟩ (Sub.of O) (λ_ h=>h)
  refine vK<|y6<|y6<|vL ?_
  refine yq (yu C5 ?_)
  refine ym λ_ C11=>?_
  have hkn:k=2^h:=xB
  subst hkn
  refine yt<|yh O<|yj (qAB O O) O<|vA 4 qIJ qBs O O O O O<|vF 1 qB7 O O O O O<|yp (qAZ O O (λF' hF=>qXk F' (hK.mono (Fa hF)) A6 (2^h) c6 (Xm.leaves seed (2^h)) (hrow.sl.mono (Fa hF)) h h6 O (Xm.leaves_small _ _))) O λg42 _=>yn 2 O<|yj (qAp O O O) O<|yn 2 O<|yi C11 ?_
  refine yl λ_ C12=>yn 2 O<|yp (qAZ O O (λF' hF=>qJQ F' (hK.mono (Fa hF)) seed hs)) O λg47 _=>yn 2 O<|yj (qAK (places:= [(0,1),(1,1),(2,1)]) (r:= [Str (Wo.opn seed),Str (Xm.root seed h),I h]) O O O qFl qOR (λ_=>xH) O) O<|yj (qAB O O) O<|vA 1 qIJ qDF O O O O O<|vG (qAU (i:=1) O O O O O qDF O (by simp [qBg])) O O λ_ _=>yi C12 ?_
  refine ym λ_ C13=>vW [1,2,0] [blk g18 (qBg seed (Wo.opn seed) (Xm.root seed h) h A6 (2^h) c6) 140,m,F] O xC<|yt<|yn 3 O<|yi C13 ?_
  exact yr<|vH hw0 (λ_ _ h=>h) (qB5 O O O) (qCf (g18,U [blk g18 (qBg seed (Wo.opn seed) (Xm.root seed h) h A6 (2^h) c6) 140,m]) O (λhd=>⟨A6,c6,m,O,hd,hrow⟩) [0,1,2] O O xC)
theorem qPz(F:Hp)(g:Nat)(seed o r:xA)(h:Int)(A:yS)(n c:Nat)(hc:qAI F ⟨g,0,none⟩ (qBg seed o r h A n c)):
    Cz prog 164 [Ptr g] F (I n):=by
  refine y7 func164 O ntmps164 O (λw0 hw0=>?_)
  refine yl λ_ C1=>yh O<|yi C1 ?_
  refine ym λ_ C2=>yl λ_ C3=>yh O<|yj ((qBL underlying36 O O O).as (v':= .bool false) O) O<|yi C3 ?_
  refine vC ?_
  refine yy C2 ?_
  refine yl λ_ C4=>yh O<|yj (qAB O O) O<|vA 4 qIJ qBs O O O O O<|yj (qAH O O qB7 (m:=F) xD (hc.at (i:=4) O)) O<|yj (qAN qAg O O) O<|yh O<|yi C4 ?_
  exact yr<|yw hw0 O () O yd [0] O xC
theorem qOm(F:Hp)(g:Nat)(seed o r:xA)(h:Int)(A:yS)(n c:Nat)(hc:qAI F ⟨g,0,none⟩ (qBg seed o r h A n c)):
    Cz prog 28 [Ptr g] F (.agg #[Str o,Str r,I h]):=by
  refine y7 func28 O ntmps28 O (λw0 hw0=>?_)
  refine yl λ_ C1=>yp (qAO O qOR O) O λg2 _=>yi C1 ?_
  refine ym λ_ C2=>yl λ_ C3=>yh O<|yj ((qBL underlying36 O O O).as (v':= .bool false) O) O<|yi C3 ?_
  refine vC ?_
  refine yy C2 ?_
  refine yl λ_ C4=>yh O<|yj (qAB O O) O<|vA 1 qIJ qDF O O O O O<|yj (qAb O O qKM qDF (m:=F) xD (hc.sub 1 3) O) O<|vG (qAF (l:= [Str [],Str [],I 0]) (i:=1) (vs:= [Str o,Str r,I h]) O O O O O qDF O O) O O λ_ _=>yi C4 ?_
  exact yr<|vH hw0 (λ_ _ h=>h) (rv1 O (RV.blkA 1 O O qKM qDF)) (qAf () O yd [0] O xC)
theorem qIW(F:Hp)(hK:yf F)(o:xA)(i:Nat)(mg:xA)(ho:o.length<=1048576)(hi:i<4611686018427387904)(hm:mg.length<=1048576):
    Cz prog 166 [Str o,I i,Str mg] F (Str (Xm.digest o i mg)):=by
  refine y7 func166 O ntmps166 O (λw0 hw0=>?_)
  refine yl λ_ C1=>yh O<|yi C1 ?_
  refine yl λ_ C2=>yh O<|yj ((qDW O O O ⟨xC,xB⟩).as (v':=I (i/2^24:Nat)) (yY I xD)) O<|yj (qAu O O u3_ u5_) O<|yh O<|yj ((qDW O O O ⟨xC,xB⟩).as (v':=I (i/2^16:Nat)) (yY I xD)) O<|yj (qAu O O u3_ u5_) O<|yh O<|yj ((qDW O O O ⟨xC,xB⟩).as (v':=I (i/2^8:Nat)) (yY I xD)) O<|yj (qAu O O u3_ u5_) O<|yh O<|yj (qAu O O u3_ u5_) O<|yp (qAE (l:= [.tmp 10,.tmp 13,.tmp 16,.tmp 18]) (xs:= [[B8 (UInt8.ofNat (i/2^24))],[B8 (UInt8.ofNat (i/2^16))],[B8 (UInt8.ofNat (i/2^8))],[B8 (UInt8.ofNat i)]]) O O O O qBo el5 O xC xC xD) O λg19 _=>yj (qBO O O qBo u5_ u9_ (m:=blk g19 [B8 (UInt8.ofNat (i/2^24)),B8 (UInt8.ofNat (i/2^16)),B8 (UInt8.ofNat (i/2^8)),B8 (UInt8.ofNat i)] 5) xD (slB (Xm.four i) O)) O<|yh O<|yi C2 ?_
  refine yl λ_ C3=>yn 3 O<|yp (qAE (l:= [.tmp 21,.tmp 22,.tmp 23]) (xs:= [[Str (o)],[Str (Xm.four i)],[Str (mg)]]) O O O O qAg el9 O xC xC xD) O λg24 _=>yp (qAZ O O (λF' hF=>qBI F' (hK.mono (Fa hF)) 6 (some ⟨g24,0,none⟩) 3 3 [o,Xm.four i,mg] ((slS [o,Xm.four i,mg] O).mono (hF (blk g24 (([o,Xm.four i,mg]:List xA).map λs=>Str s) 9) xD)) (by have:=qWP ho (show(Xm.four i).length<=1048576 by rw [Xm.four_length];decide) hm;omega) xC)) O λg25 _=>yh O<|yi C3 ?_
  exact yr<|yw hw0 O () O yd [0] O xC
theorem qTW(F:Hp)(hK:yf F)(g:Nat)(seed:xA)(h:Nat)(A:yS)(c:Nat)(hc:qAI F ⟨g,0,none⟩ (qBg seed (Wo.opn seed) (Xm.root seed h) h A (2^h) c))(hsl:Sl F 1 A (2^h) c (qAG (Xm.leaves seed (2^h))))(hs:seed.length<=1048576)(h6:h<=6)(mg:xA)(hm:mg.length<=1048576)(i:Nat)(hi:i<2^h):
    Ct prog 92 [Ptr g,I i,Str mg] [F] (λx:(yS×Nat×Hp)×(yS×Nat×Hp)=> .tuple #[.agg #[I i,.slice x.1.1 35 x.1.2.1,.slice x.2.1 h x.2.2.1],I 0]) (λx=>Row x.1.2.2 9 1 x.1.1 35 x.1.2.1 (qAG (Wo.signs seed i (Wo.digs (Xm.digest (Wo.opn seed) i mg)) 35))/\Row x.2.2.2 9 1 x.2.1 h x.2.2.1 (qAG (Mk.path (Xm.leaves seed (2^h)) i h))) (λx=> [F,x.1.2.2,x.2.2.2]):=by
  have hp64:=Xm.pow_le h h6
  have hdl:=Xm.digest_length (Wo.opn seed) i mg
  refine y7 func92 O ntmps92 O (λw0 hw0=>?_)
  refine yl λ_ C1=>yp (qAO O qIQ O) O λg6 _=>yh O<|yi C1 ?_
  refine ym λ_ C2=>yz<|yl λ_ C3=>yh O<|yj ((qBL underlying36 O O O).as (v':= .bool false) O) O<|yh O<|yi C3 ?_
  refine vC ?_
  refine yl λ_ C4=>yn 2 O<|yp (qAZ O O (λF' hF=>qPz F' g seed (Wo.opn seed) (Xm.root seed h) h A (2^h) c (hc.mono (Fa hF)))) O λg18 _=>yj ((qA1 O O O).no xB) O<|yh O<|yi C4 ?_
  refine vC ?_
  refine yl λ_ C5=>yh O<|yj ((qAP O O O).no xB) O<|yh O<|yi C5 ?_
  refine vC ?_
  refine vP<|vB<|yq (yu C2 ?_)
  refine ym λ_ C6=>vQ [F] [] (.y 0 (.y 1 (.y 2 (.y 3 (.y 4 (.y 5 (.y 6 (.y 7 (.y 8 (.y 9 (.y 10 (.y 11 (.e 12 (.e 13 (.y 14 (.y 15 (.y 16 (.y 17 (.y 18 .nil))))))))))))))))))) ye xF xD ?_
  refine yx ?_
  refine yo O (qAB O O) O O<|yo O (qAA O O qIJ O z9_ O) O O<|yo O (qAH O O b9_ (m:=F) xD (hc.at (i:=0) O)) O O<|yx ?_
  refine yx ?_
  refine yo O (qAB O O) O O<|yo O (qAA O O qIJ O qDF O) O O<|yo O (qAA O O qFl O z9_ O) O O<|yo O (qAH O O b9_ (m:=F) xD (hc.at (i:=1) O)) O O<|yx ?_
  refine yx ?_
  refine vD O (qAZ O O (λF' hF=>qIW F' (hK.mono (Fa hF)) (Wo.opn seed) i mg (by rw [Wo.opn_length];decide) xB hm)) O xD λg38 _=>vD O (qBx O O (λF' hF=>qXZ F' (hK.mono (Fa hF)) seed i (Xm.digest (Wo.opn seed) i mg) hs xB hdl)) O xD ?_
  rintro⟨A39,c39,m39⟩ h39
  try dsimp only at h39
  refine yx ?_
  refine vm (.slice A39 35 c39) ?_
  refine vm (I 0) ?_
  refine vU ?_
  refine vU ?_
  refine vM<|yq (yu C6 ?_)
  refine ym λ_ C7=>yl λ_ C8=>yh O<|yj ((qAQ O O O).no xC) O<|yi C8 ?_
  refine vC ?_
  refine yy C7 ?_
  refine yl λ_ C9=>yh O<|yj (qAB O O) O<|vA 4 qIJ qBs O O O O O<|yj (qAH O O qB7 (m:=F) xD (hc.at (i:=4) O)) O<|yh O<|yp (qBx O O (λF' hF=>qX6 F' (hK.mono (Fa hF)) A (2^h) c (Xm.leaves seed (2^h)) (hsl.mono (Fa hF)) h h6 O (Xm.leaves_small _ _) i hi)) O ?_
  rintro⟨A52,c52,m52⟩ h52
  try dsimp only at h52
  refine yn 5 O<|yi C9 ?_
  refine yl λ_ C10=>yn 3 O<|yj (qAK (places:= [(0,1),(1,1),(2,1)]) (r:= [I i,.slice A39 35 c39,.slice A52 h c52]) O O O qCB qIQ (λ_=>xH) O) O<|yh O<|vG (qAF (l:= [I 0,.slice none 0 0,.slice none 0 0]) (i:=1) (vs:= [I i,.slice A39 35 c39,.slice A52 h c52]) O O O O O qCg O O) O O λ_ _=>yh O<|yi C10 ?_
  exact yr<|vH hw0 (λ_ _ h=>h) (rv2 O (RV.blkA 1 O O qGe qCg) O) (qAf ((A39,c39,m39),(A52,c52,m52)) O ⟨h39,h52⟩ [0,2,3] O xC)
theorem Wo.publicOf_length(o:xA)(leaf:Nat)(e:List xA):(Wo.publicOf o leaf e).length=16:=by unfold Wo.publicOf;exact Sha.tagged_length _ _
theorem qOl(F:Hp)(hK:yf F)(o r:xA)(h:Nat)(mg:xA)(i:Nat)(A1:yS)(c1:Nat)(ch:List xA)(hch:Sl F 1 A1 35 c1 (qAG ch))(hsg: ∀s∈ch,s.length=16)(A2:yS)(c2:Nat)(pt:List xA)(hpt:Sl F 1 A2 h c2 (qAG pt))(hps: ∀s∈pt,s.length<=1048576)
    (ho:o.length<=1048576) (hm:mg.length<=1048576) (h6:h<=6) (hi:i<2^h):
    Cz prog 185 [.agg #[Str o,Str r,I h],Str mg,.agg #[I i,.slice A1 35 c1,.slice A2 h c2]] F (.bool (decide (Mk.climb (Wo.publicOf o i (Wo.ends o i (Wo.digs (Xm.digest o i mg)) ch 35)) i pt=r))):=by
  have hp64:=Xm.pow_le h h6
  have hdl:=Xm.digest_length o i mg
  refine y7 func185 O ntmps185 O (λw0 hw0=>?_)
  refine yl λ_ C1=>yp (qAi O O O) O λg3 _=>yp (qAi O O O) O λg5 _=>yh O<|yi C1 ?_
  refine ym λ_ C2=>ym λ_ C3=>vQ [F,blk g3 [Str o,Str r,I h] 32,blk g5 [I i,.slice A1 35 c1,.slice A2 h c2] 106] [] (.y 0 (.y 1 (.y 2 (.y 3 (.y 4 (.y 5 (.y 6 (.y 7 (.y 8 (.y 9 (.y 10 (.y 11 (.y 12 (.y 13 (.y 14 (.y 15 (.y 16 (.y 17 (.y 18 (.y 19 (.y 20 (.y 21 (.y 22 (.y 23 (.y 24 (.y 25 (.y 26 (.y 27 (.y 28 .nil))))))))))))))))))))))))))))) ye xF xD ?_
  refine yo O (qAA O O qFl O z3_ O) O O<|yo O (qAD 1 O O O b3_ O) O O<|yo O ((qAP O O O).no xB) O O<|yx ?_
  refine y9 O (qAA O O qFl O z3_ O) O O<|y9 O (qAD 1 O O O b3_ O) O O<|y9 O ((qAs O O O).no xB) O O<|vd ?_
  refine yx ?_
  refine y9 O (qAA O O qCB O z3_ O) O O<|y9 O (qAD 2 O O O b3_ O) O O<|y9 O ((qAP O O O).no xB) O O<|vd ?_
  refine yx ?_
  refine y9 O (qAA O O qCB O z3_ O) O O<|y9 O (qAD 2 O O O b3_ O) O O<|y9 O (qAA O O qFl O z3_ O) O O<|y9 O (qAD 1 O O O b3_ O) O O<|y9 O ((qJl O O O ⟨xB,by have:=Int.pow_pos (n:=2) (m:=h) xC;omega,by rw [Int.one_mul];exact Int.ofNat_le.2 (show 2^h<=9223372036854775807 by omega)⟩).as (v':=I (2^h:Nat)) (yY I xD)) O O<|y9 O ((qA1 O O O).no xB) O O<|vd ?_
  refine yx ?_
  refine y9 O (qAA O O qCB O qBs O) O O<|y9 O (qAD 2 O O O qB7 O) O O<|y9 O (qAN qAg O O) O O<|y9 O (qAA O O qFl O z3_ O) O O<|y9 O (qAD 1 O O O b3_ O) O O<|y9 O ((qAQ O O O).no (λh=>h O)) O O<|vd ?_
  refine vM<|yq (yu C3 ?_)
  refine vC ?_
  refine yy C2 ?_
  refine ym λ_ C4=>vQ [F,blk g3 [Str o,Str r,I h] 32,blk g5 [I i,.slice A1 35 c1,.slice A2 h c2] 106] [] (.y 0 (.y 1 (.y 2 (.y 3 (.y 4 (.y 5 (.y 6 (.y 7 (.y 8 (.y 10 (.y 11 (.e 9 (.e 12 (.y 13 (.y 14 (.y 15 (.y 16 (.y 17 .nil)))))))))))))))))) ye xF xD ?_
  refine yo O (qAA O O qFl O z9_ O) O O<|yo O (qAD 1 O O O b9_ O) O O<|yo O (qAA O O qCB O z3_ O) O O<|yo O (qAD 2 O O O b3_ O) O O<|yo O (qAA O O qFl O z9_ O) O O<|yo O (qAD 1 O O O b9_ O) O O<|yo O (qAA O O qCB O z3_ O) O O<|yo O (qAD 2 O O O b3_ O) O O<|yx ?_
  refine yo O (qAA O O qCB O qBs O) O O<|yo O (qAD 2 O O O qB7 O) O O<|vD O (qAZ O O (λF' hF=>qIW F' (hK.mono (Fa hF)) o i mg ho xB hm)) O xD λg48 _=>vD O (qAZ O O (λF' hF=>qO1 F' (hK.mono (Fa hF)) o i (Xm.digest o i mg) A1 c1 ch (hch.mono (Fa hF)) ho xB hdl hsg)) O xD λg51 _=>yx ?_
  refine vm (Str (Wo.publicOf o i (Wo.ends o i (Wo.digs (Xm.digest o i mg)) ch 35))) ?_
  refine vm (I 0) ?_
  refine vU ?_
  refine vU ?_
  refine vM<|yq (yu C4 ?_)
  refine ym λ_ C5=>vQ [F,blk g3 [Str o,Str r,I h] 32,blk g5 [I i,.slice A1 35 c1,.slice A2 h c2] 106] [] (.y 0 (.y 1 (.y 2 (.y 3 (.y 4 (.y 5 (.y 6 (.y 7 (.y 9 (.y 10 (.e 8 (.y 11 (.y 12 (.y 13 .nil)))))))))))))) ye xF xD ?_
  refine yx ?_
  refine yo O ((qAR O O O).yes xC) O O<|yx ?_
  refine y9 O (qAT O O) O O<|y9 O (qAA O O qCB O z3_ O) O O<|y9 O (qAD 2 O O O b3_ O) O O<|y9 O (qAA O O qCB O qBs O) O O<|y9 O (qAD 2 O O O qB7 O) O O<|y9 O (qAA O O qFl O z9_ O) O O<|y9 O (qAD 1 O O O b9_ O) O O<|vn O (qAZ O O (λF' hF=>qVj F' (hK.mono (Fa hF)) (Wo.publicOf o i (Wo.ends o i (Wo.digs (Xm.digest o i mg)) ch 35)) i A2 h c2 pt (hpt.mono (Fa hF)) (by rw [Wo.publicOf_length];decide) hps xB xB)) (Wan.is O O O O O) O O xD ?_
  intro g62 _
  refine y9 O (qBP O O O) O O<|vj ?_
  refine vU ?_
  refine vM<|yq (yu C5 ?_)
  exact yr<|yw hw0 O () O yd [0] O xC
end Go.Proofs.YtmemgokiolfdoaaGreatDoor
namespace Go.Proofs.YtmemgokiolfdoaaGreatDoor
open Go Go.Fw Go.Proofs.Tryz
def sgB(i:Nat)(ch pt:List xA):xA:= [UInt8.ofNat i]++ch.flatten++ [UInt8.ofNat pt.length]++pt.flatten
theorem qWg: ∀k,k<256->Sha.numB (UInt64.ofNat k) 1= [UInt8.ofNat k]:=by decide+kernel
theorem qUv: ∀k,k<256->okN (UInt64.ofNat k) 1=true:=by decide+kernel
theorem flat_take{l:List xA}{k:Nat}(h:k<l.length):(l.take (k+1)).flatten=(l.take k).flatten++l.getD k []:=by
 rw [jP h,zA,jo,zf,jS,jB,jD h];rfl
theorem qEz{l:List xA}(h: ∀s∈l,s.length=16):l.flatten.length=16*l.length:=by
 induction l with
 |nil=>rfl
 |cons a l ih=>
  rw [jo,jA,ih (λs hs=>h s (.tail _ hs)),h a (.head _),jC];omega
theorem qI9{l:List xA}(h: ∀s∈l,s.length=16){k:Nat}(hk:k<l.length):(l.getD k []).length=16:=by
 rw [jB,jD hk]
 exact h _ (jU hk)
theorem qNR{l:List xA}(h: ∀s∈l,s.length=16)(k:Nat):(l.take k).flatten.length<=16*l.length:=by
 rw [qEz (λs hs=>h s (zx hs)),jF];omega
theorem qOx(F:Hp)(i:Nat)(A1:yS)(c1:Nat)(ch:List xA)(hch:Sl F 1 A1 35 c1 (qAG ch))(A2:yS)(n2 c2:Nat)(pt:List xA)(hpt:Sl F 1 A2 n2 c2 (qAG pt))
    (hi:i<=63) (hn:n2<=6) (hc16: ∀s∈ch,s.length=16) (hp16: ∀s∈pt,s.length=16):
    Cz prog 186 [.agg #[I i,.slice A1 35 c1,.slice A2 n2 c2]] F (.tuple #[Str (sgB i ch pt),I 0]):=by
  have hl1:ch.length=35:=by have:=hch.1;simpa [qAG] using this
  have hl2:pt.length=n2:=by have:=hpt.1;simpa [qAG] using this
  refine y7 func186 O ntmps186 O (λw0 hw0=>?_)
  refine yl λ_ C1=>yp (qAi O O O) O λg1 _=>yn 2 O<|yi C1 ?_
  refine ym λ_ C2=>yl λ_ C3=>vA 0 qCB z3_ O O O O O<|vF 1 b3_ O O O O O<|yj ((qAP O O O).no xB) O<|yh O<|yv (qAA O O qCB O z3_ O) O<|yv (qAD 1 O O O b3_ O) O<|yv ((qAs O O O).no xB) O<|yn 2 O<|yv (qAA O O qCB O qBs O) O<|yv (qAD 1 O O O qB7 O) O<|yv (qAN qAg O O) O<|yv ((qAQ O O O).no xB) O<|yn 2 O<|yv (qAA O O qCB O qBs O) O<|yv (qAD 1 O O O qB7 O) O<|yv (qAN qAg O O) O<|yv ((qAs O O O).no xB) O<|yh O<|yi C3 ?_
  refine vC ?_
  refine yy C2 ?_
  refine yl λ_ C4=>yp (qAO O qLf O) O λg4 _=>yi C4 ?_
  refine yl λ_ C5=>vA 0 qCB z3_ O O O O O<|vF 1 b3_ O O O O O<|yj ((qBC O O u3_ qDJ xB)) O<|yp (qAJ O O ent (vR 2 O (λF' _=>qFY F' (blk g4 [.pointer none,.slice none 0 0,I 0] 148) g4 [] 0 (qJO g4) xC (UInt64.ofNat i) 1 xB xB))) O ?_
  rintro m32 hw32
  rw [qUv i xB,qC7,qEG (qUv i xB),qWg i xB,j7] at hw32
  refine yi C5 ?_
  refine ym λ_ C6=>yl λ_ C7=>vA 1 qCB qBs O O O O O<|vF 1 qB7 O O O O O<|yj (qAN qAg O O) O<|yh O<|yi C7 ?_
  refine yz<|vN (X:=Nat×Hp) (λx=> [(1,Ptr g1),(4,Ptr g4),(34,.slice A1 35 c1),(35,I 35),(36,I x.1)]) (λx=> [F,blk g1 [I i,.slice A1 35 c1,.slice A2 n2 c2] 106,x.2]) (λx=>x.1<=35/\Wtr x.2 g4 ([UInt8.ofNat i]++(ch.take x.1).flatten) 0) (λx=>35-x.1) (0,m32) (⟨jH _,by rw [zV,zf,jS];exact hw32⟩) (Sub.of O) (λ_ h=>h) ?_
  rintro⟨k,m⟩ ⟨hk,hw⟩ I0 hI0
  dsimp only at hk hw⊢
  refine yl λ_ C8=>yj (qAP O O O) O<|yi C8 ?_
  refine ym λ_ C9=>y1 O (λh37=>?_) (λh37=>?_)
  .
    refine yy C9 ?_
    refine ym λ_ C10=>yz<|yl λ_ C11=>yj (qAC O O O qAg z9_ hch xB) O<|yj (qAH O O b9_ (m:=F) xD (hch.elem (qAa (qAc [] (show k<ch.length by omega))))) O<|yh O<|yi C11 ?_
    have hg16:=qI9 hc16 (show k<ch.length by omega)
    refine yt<|yh O<|yp (qAJ O O ent (vR 2 O (λF' _=>qDU F' m g4 ([UInt8.ofNat i]++(ch.take k).flatten) 0 hw (by have:=qNR hc16 k;have:=qNR hp16 k;have h3:=qEz hc16;simp only [jA,jI];omega) (ch.getD k []) xB 16))) O ?_
    rintro m41 hw41
    rw [qHK (qI9 hc16 xB),qMa (qI9 hc16 xB),qC7,jM,<-flat_take xB] at hw41
    refine y8<|vB<|yq (yu C10 ?_)
    exact yt<|yj ((qAM O O O xB).nat (k+1) xB) O<|yh O<|y8<|yq<|vE (k+1,m41) hI0 ⟨by dsimp only;omega,hw41⟩ (Sub.of O) (λ_ h=>h)
  refine vK<|y6<|y6<|vL ?_
  refine yq (yu C6 ?_)
  refine ym λ_ C12=>?_
  rw [jV xB] at hw
  refine yt<|vA 2 qCB qBs O O O O O<|vF 1 qB7 O O O O O<|yj (qAN qAg O O) O<|yj ((qBC O O u3_ qDJ xB)) O<|yp (qAJ O O ent (vR 2 O (λF' _=>qFY F' m g4 ([UInt8.ofNat i]++ch.flatten) 0 hw (by have h3:=qEz hc16;simp only [jA,jI];omega) (UInt64.ofNat n2) 1 xB xB))) O ?_
  rintro m47 hw47
  rw [qUv n2 xB,qC7,qEG (qUv n2 xB),qWg n2 xB] at hw47
  refine yi C12 ?_
  refine ym λ_ C13=>yl λ_ C14=>vA 2 qCB qBs O O O O O<|vF 1 qB7 O O O O O<|yj (qAN qAg O O) O<|yh O<|yi C14 ?_
  refine yz<|vN (X:=Nat×Hp) (λx=> [(4,Ptr g4),(49,.slice A2 n2 c2),(50,I n2),(51,I x.1)]) (λx=> [F,blk g1 [I i,.slice A1 35 c1,.slice A2 n2 c2] 106,x.2]) (λx=>x.1<=n2/\Wtr x.2 g4 (([UInt8.ofNat i]++ch.flatten++ [UInt8.ofNat pt.length])++(pt.take x.1).flatten) 0) (λx=>n2-x.1) (0,m47) (⟨jH _,by rw [zV,zf,jS,hl2];exact hw47⟩) (Sub.of O) (λ_ h=>h) ?_
  rintro⟨k,mp⟩ ⟨hk,hw2⟩ I2 hI2
  dsimp only at hk hw2⊢
  refine yl λ_ C15=>yj (qAP O O O) O<|yi C15 ?_
  refine ym λ_ C16=>y1 O (λh52=>?_) (λh52=>?_)
  .
    refine yy C16 ?_
    refine ym λ_ C17=>yz<|yl λ_ C18=>yj (qAC O O O qAg z9_ hpt xB) O<|yj (qAH O O b9_ (m:=F) xD (hpt.elem (qAa (qAc [] (show k<pt.length by omega))))) O<|yh O<|yi C18 ?_
    have hg16:=qI9 hp16 (show k<pt.length by omega)
    refine yt<|yh O<|yp (qAJ O O ent (vR 2 O (λF' _=>qDU F' mp g4 (([UInt8.ofNat i]++ch.flatten++ [UInt8.ofNat pt.length])++(pt.take k).flatten) 0 hw2 (by have:=qNR hc16 k;have:=qNR hp16 k;have h3:=qEz hc16;simp only [jA,jI];omega) (pt.getD k []) xB 16))) O ?_
    rintro m56 hw56
    rw [qHK (qI9 hp16 xB),qMa (qI9 hp16 xB),qC7,jM,<-flat_take xB] at hw56
    refine y8<|vB<|yq (yu C17 ?_)
    exact yt<|yj ((qAM O O O xB).nat (k+1) xB) O<|yh O<|y8<|yq<|vE (k+1,m56) hI2 ⟨by dsimp only;omega,hw56⟩ (Sub.of O) (λ_ h=>h)
  refine vK<|y6<|y6<|vL ?_
  refine yq (yu C13 ?_)
  refine ym λ_ C19=>?_
  rw [jV xB] at hw2
  refine yt<|yp (qAJ O O ent (vR 2 O (λF' _=>qEo F' mp g4 (sgB i ch pt) 0 hw2 (by unfold sgB;have h3:=qEz hc16;have h4:=qEz hp16;simp only [jA,jI];omega)))) O ?_
  rintro m58 hw58
  refine yn 4 O<|yi C19 ?_
  exact yr<|vH hw0 (λ_ _ h=>h) (qB5 O O O) (qAf () O yd [0] O xC)
def RS.tk(st:RS)(n:Nat):Nat->RS
 |0=>st
 |k+1=>(st.tk n k).take n
def RS.os(st:RS)(n:Nat):Nat->List xA
 |0=> []
 |k+1=>st.os n k++ [(st.tk n k).out n]
def ck(s:xA)(n k:Nat):List xA:=(List.range k).map λj=>(s.drop (n*j)).take n
theorem tk3(s:xA)(n k:Nat):(⟨s,3⟩:RS).tk n k=⟨s,3⟩:=by
 induction k with
 |zero=>rfl
 |succ k ih=>rw [RS.tk,ih];rfl
theorem tkb(st:RS)(n k:Nat)(h:st.bad=3):(st.tk n k).bad=3:=by
 obtain ⟨s,b⟩:=st
 dsimp only at h
 subst h
 rw [tk3]
theorem qZc(st:RS)(n:Nat)(h:st.bad=3):(st.take n).bad=3:=by
 unfold RS.take
 rw [yW xB];exact h
theorem qaE(st:RS)(h:st.bad=3):st.last=3:=by
 unfold RS.last
 rw [yW xB];exact h
theorem qTl(s:xA)(n:Nat): ∀k,n*k<=s.length->(⟨s,0⟩:RS).tk n k=⟨s.drop (n*k),0⟩:=by
 intro k
 induction k with
 |zero=>intro _;rfl
 |succ k ih=>
  intro h
  rw [Nat.mul_succ] at h
  rw [RS.tk,ih xB,qBy (by rw [jE];omega),zH,Nat.mul_succ]
theorem qZZ(s:xA)(n:Nat): ∀k,s.length<n*k->((⟨s,0⟩:RS).tk n k).bad=3:=by
 intro k
 induction k with
 |zero=>intro h;omega
 |succ k ih=>
  intro h
  rw [Nat.mul_succ] at h
  rw [RS.tk]
  by_cases h1:s.length<n*k
  . exact qZc _ _ (ih h1)
  . rw [qTl s n k xB,qJZ (by rw [jE];omega)]
theorem qZq(s:xA)(n:Nat): ∀k,n*k<=s.length->(⟨s,0⟩:RS).os n k=ck s n k:=by
 intro k
 induction k with
 |zero=>intro _;rfl
 |succ k ih=>
  intro h
  rw [Nat.mul_succ] at h
  rw [RS.os,ih xB,qTl s n k xB,qEP (by rw [jE];omega)]
  unfold ck
  rw [jt,jN];rfl
theorem qRw{s:xA}{k:Nat}(h:k<s.length):qBd ((⟨s.drop k,0⟩:RS).out 1)=(s.getD k 0).toNat:=by
 rw [qEP (by rw [jE];omega),j9 h,List.take_succ_cons,zV,qN3,jB,jD h];rfl
def qNI(s:xA):Int:=if s.length<562 then 3 else if s.length<562+16*min (s.getD 561 0).toNat 6 then 3 else if 63<(s.getD 0 0).toNat\/6<(s.getD 561 0).toNat then 4 else if 562+16*min (s.getD 561 0).toNat 6<s.length then 2 else 0
def dA(s:xA):RS:=((⟨s,0⟩:RS).take 1).tk 16 35
def dN(s:xA):Nat:=qBd ((dA s).out 1)
def dC(s:xA):RS:=((dA s).take 1).tk 16 (min (dN s) 6)
theorem dA_no{s:xA}(h:s.length<561):(dA s).bad=3:=by
 unfold dA
 by_cases h0:1<=s.length
 . rw [qBy h0];exact qZZ _ _ _ (by rw [jE];omega)
 . rw [qJZ h0,tk3]
theorem qVh{s:xA}(h:561<=s.length):dA s=⟨s.drop 561,0⟩:=by
 unfold dA
 rw [qBy xB,qTl _ _ _ (by rw [jE];omega),zH]
theorem qY2{s:xA}(h:562<=s.length):dN s=(s.getD 561 0).toNat:=by
 unfold dN
 rw [qVh xB]
 exact qRw xB
theorem qY3(s:xA):(dC s).last=if s.length<562 then 3 else if s.length<562+16*min (s.getD 561 0).toNat 6 then 3 else if 562+16*min (s.getD 561 0).toNat 6<s.length then 2 else 0:=by
  by_cases h:s.length<562
  . rw [yX h]
    apply qaE
    unfold dC
    apply tkb
    by_cases h1:s.length<561
    . exact qZc _ _ (dA_no h1)
    . rw [qVh xB,qJZ (by rw [jE];omega)]
  . rw [yW h]
    unfold dC
    rw [qY2 xB,qVh xB,qBy (by rw [jE];omega),zH]
    by_cases h1:s.length<562+16*min (s.getD 561 0).toNat 6
    . rw [yX h1]
      exact qaE _ (qZZ _ _ _ (by rw [jE];omega))
    . rw [yW h1,qTl _ _ _ (by rw [jE];omega),zH]
      unfold RS.last
      dsimp only
      rw [yX rfl]
      by_cases h2:562+16*min (s.getD 561 0).toNat 6<s.length
      . rw [yX h2,yW]
        intro e
        have:=yY List.length e
        rw [jE,jG] at this
        omega
      . rw [yW h2,yX]
        exact j4 xB
theorem qad{s:xA}(h:1<=s.length):qBd ((⟨s,0⟩:RS).out 1)=(s.getD 0 0).toNat:=qRw (k:=0) xB
theorem qZU(s:xA):qNI s=if(63<qBd ((⟨s,0⟩:RS).out 1)\/6<dN s)/\(dC s).last≠3 then 4 else(dC s).last:=by
  rw [qY3]
  unfold qNI
  by_cases h:s.length<562
  . rw [yX h,yX h,yW (λe=>e.2 rfl)]
  . rw [yW h,yW h,qad xB,qY2 xB]
    by_cases h1:s.length<562+16*min (s.getD 561 0).toNat 6
    . rw [yX h1,yX h1,yW (λe=>e.2 rfl)]
    . rw [yW h1,yW h1]
      by_cases h2:63<(s.getD 0 0).toNat\/6<(s.getD 561 0).toNat
      . rw [yX h2,yX]
        refine⟨h2,?_⟩
        split<;>decide
      . have h6: ∀e:Int,¬((63<(s.getD 0 0).toNat\/6<(s.getD 561 0).toNat)/\e≠3):=λe h=>h2 h.1
        rw [yW h2,yW (h6 _)]
theorem qZT{s:xA}(h:qNI s=0):(s.getD 561 0).toNat<=6/\(s.getD 0 0).toNat<=63/\s.length=562+16*(s.getD 561 0).toNat/\dN s=(s.getD 561 0).toNat/\qBd ((⟨s,0⟩:RS).out 1)=(s.getD 0 0).toNat/\((⟨s,0⟩:RS).take 1).os 16 35=ck (s.drop 1) 16 35/\((dA s).take 1).os 16 (s.getD 561 0).toNat=ck (s.drop 562) 16 (s.getD 561 0).toNat:=by
  unfold qNI at h
  split at h
  . omega
  . rename_i h1
    split at h
    . omega
    . rename_i h2
      split at h
      . omega
      . rename_i h3
        split at h
        . omega
        . rename_i h4
          have h5:min (s.getD 561 0).toNat 6=(s.getD 561 0).toNat:=xB
          rw [h5] at h2 h4
          refine⟨xB,xB,xB,qY2 xB,qad xB,?_,?_⟩
          . rw [qBy xB,qZq _ _ _ (by rw [jE];omega)]
          . rw [qVh xB,qBy (by rw [jE];omega),zH,qZq _ _ _ (by rw [jE];omega)]
theorem qOy(F:Hp)(s:xA):
    Ct prog 258 [Str s] [F] (λx:(yS×Nat×Hp)×(yS×Nat×Hp)=> .tuple #[if qNI s=0 then .agg #[I (qBd ((⟨s,0⟩:RS).out 1)),.slice x.1.1 35 x.1.2.1,.slice x.2.1 (dN s) x.2.2.1] else .agg #[I 0,.slice none 0 0,.slice none 0 0],I (qNI s)])
      (λx=>Row x.1.2.2 9 1 x.1.1 35 x.1.2.1 (qAG (((⟨s,0⟩:RS).take 1).os 16 35))/\Row x.2.2.2 9 1 x.2.1 (min (dN s) 6) x.2.2.1 (qAG (((dA s).take 1).os 16 (min (dN s) 6)))) (λx=> [F,x.1.2.2,x.2.2.2]):=by
  have hwe:=qZU s
  have hx0:qBd ((⟨s,0⟩:RS).out 1)<256:=by have:=qE9 ((⟨s,0⟩:RS).out 1);have h2:=(⟨s,0⟩:RS).out_len 1;have h3:=jZ (n:=256) xB h2;omega
  have hdn:dN s<256:=by have:=qE9 ((dA s).out 1);have h2:=(dA s).out_len 1;have h3:=jZ (n:=256) xB h2;unfold dN;omega
  refine y7 func258 O ntmps258 O (λw0 hw0=>?_)
  refine yl λ_ C1=>yp (qAO O qIQ O) O λg2 _=>yh O<|yi C1 ?_
  refine yl λ_ C2=>yh O<|yp (qBx O O (λF' _=>(qE2 F' s).mono (φ2:=λ_=>True) (val2:=Ptr) (ms2:=λg=>F':: [RSb g ⟨s,0⟩]) id (λ_ _=>rfl) (λ_ h=>h) (λx w0 w _ h=>h.pick [1,0] xC))) O ?_
  rintro g10 _
  refine yh O<|yi C2 ?_
  refine yl λ_ C3=>yh O<|yp (qAJ O O ent (vR 2 O (λF' _=>qCb F' g10 (⟨s,0⟩:RS) 1 xB xB))) O λg12 _=>yj (qBv O O qDJ u3_ xB) O<|yj (qAK (places:= [(0,1),(1,1),(2,1)]) (r:= [I (qBd ((⟨s,0⟩:RS).out 1)),.slice none 0 0,.slice none 0 0]) O O O qCB qIQ (λ_=>xH) O) O<|yp (qAO O qIQ O) O λg5 _=>vG (qAF (l:= [I 0,.slice none 0 0,.slice none 0 0]) (i:=3) (vs:= [I (qBd ((⟨s,0⟩:RS).out 1)),.slice none 0 0,.slice none 0 0]) O O O O O qCg O O) O O λ_ _=>yi C3 ?_
  refine ym λ_ C4=>ym λ_ C5=>ve [0,1,2,3,4] [F,blk g2 _ 106,RSb g10 ((⟨s,0⟩:RS).take 1),blk g5 [I (qBd ((⟨s,0⟩:RS).out 1)),.slice none 0 0,.slice none 0 0] 106,(λ_=>none)] O xC<|yt<|yh O<|yi C5 ?_
  refine yz<|vN (X:=Nat×yS×Nat×Hp) (λx=> [(2,Ptr g2),(4,Ptr g10),(5,Ptr g5),(15,I x.1)]) (λx=> [F,blk g2 [I 0,.slice none 0 0,.slice none 0 0] 106,RSb g10 (((⟨s,0⟩:RS).take 1).tk 16 x.1),blk g5 [I (qBd ((⟨s,0⟩:RS).out 1)),.slice x.2.1 x.1 x.2.2.1,.slice none 0 0] 106,x.2.2.2]) (λx=>x.1<=35/\Row x.2.2.2 9 1 x.2.1 x.1 x.2.2.1 (qAG (((⟨s,0⟩:RS).take 1).os 16 x.1))) (λx=>35-x.1) (0,none,0,λ_=>none) (⟨jH _,qBf.nil⟩) (Sub.of O) (λ_ h=>h) ?_
  rintro⟨k,A1,c1,m⟩ ⟨hk,hrow⟩ I0 hI0
  dsimp only at hk hrow⊢
  refine yl λ_ C6=>yj (qAP O O O) O<|yi C6 ?_
  refine ym λ_ C7=>y1 O (λh16=>?_) (λh16=>?_)
  .
    refine yy C7 ?_
    refine ym λ_ C8=>yz<|vQ [blk g5 [I (qBd ((⟨s,0⟩:RS).out 1)),.slice A1 k c1,.slice none 0 0] 106] [7] (.y 0 (.y 1 (.y 2 (.e 3 (.e 4 (.e 5 (.y 6 (.e 7 .nil)))))))) ye xF xD ?_
    refine yo O (qAA O O qCB O qBs O) O O<|yo O (qAD 0 O O O qB7 O) O O<|yx ?_
    refine vD O (qAJ O O ent (vR 2 O (λF' _=>qB1 F' g10 (((⟨s,0⟩:RS).take 1).tk 16 k) 16))) O xD λg20 _=>vD O (qAE (l:= [.tmp 20]) (xs:= [[Str ((((⟨s,0⟩:RS).take 1).tk 16 k).out 16)]]) O O O O qAg el9 O xC xC xD) O xD λg21 _=>vD O (qAV (i:=4) (m2:=blk g21 [Str ((((⟨s,0⟩:RS).take 1).tk 16 k).out 16)] 9) O O O qAg qAg el9 O hrow xD (slS [(((⟨s,0⟩:RS).take 1).tk 16 k).out 16] O) (by simp [qAG,Value.oneCell']) xB xB) O xD ?_
    rintro⟨A22,c22,m22⟩ h22
    try dsimp only at h22
    rw [<-qB0] at h22
    change Row m22 _ _ _ _ _ (qAG (((⟨s,0⟩:RS).take 1).os 16 (k+1))) at h22
    refine yo O (qAA O O qCB O qBs O) O O<|vZ O (qAU (i:=3) O O O O O qBs O xD) O O O λ_ _=>vM<|vB<|yq (yu C8 ?_)
    exact vW [0,1,2,3,4] [F,blk g2 [I 0,.slice none 0 0,.slice none 0 0] 106,RSb g10 ((((⟨s,0⟩:RS).take 1).tk 16 k).take 16),blk g5 [I (qBd ((⟨s,0⟩:RS).out 1)),.slice A22 (k+1) c22,.slice none 0 0] 106,m22] O xC<|yt<|yj ((qAM O O O xB).nat (k+1) xB) O<|yh O<|y8<|yq<|vE (k+1,A22,c22,m22) hI0 ⟨by dsimp only;omega,h22⟩ (Sub.of O) (λ_ h=>h)
  refine vK<|y6<|y6<|vL ?_
  refine yq (yu C4 ?_)
  refine ym λ_ C9=>?_
  have hk35:35=k:=xB
  subst hk35
  refine ve [0,1,2,3,4,5] [F,blk g2 [I 0,.slice none 0 0,.slice none 0 0] 106,RSb g10 (dA s),blk g5 [I (qBd ((⟨s,0⟩:RS).out 1)),.slice A1 35 c1,.slice none 0 0] 106,m,(λ_=>none)] O xC<|yt<|yh O<|yp (qAJ O O ent (vR 2 O (λF' _=>qCb F' g10 (dA s) 1 xB xB))) O λg26 _=>yj ((qBv O O qDJ u3_ (by show dN s<_;omega)).as (v':=I (dN s:Nat)) O) O<|yh O<|yi C9 ?_
  refine vl (λ_:Unit=> [(2,Ptr g2),(4,Ptr g10),(5,Ptr g5),(6,I (dN s)),(7,.bool (decide (63<qBd ((⟨s,0⟩:RS).out 1)\/6<dN s)))]) (λ_=> [F,blk g2 [I 0,.slice none 0 0,.slice none 0 0] 106,RSb g10 ((dA s).take 1),blk g5 [I (qBd ((⟨s,0⟩:RS).out 1)),.slice A1 35 c1,.slice none 0 0] 106,m,λ_=>none]) (λ_=>True) (λ_ C10=>?_) ?_
  .
    refine yt<|vA 0 qCB z3_ O O O O O<|vF 3 b3_ O O O O O<|yj (qAs O O O) O<|yh O<|vO (d:=31) O (λh31=>?_) (λh31=>?_)
    .
      exact yn 4 O<|y8<|yq<|vY () C10 trivial ⟨O,O,O,O,yY some (yY Value.bool (ya (Or.inl xB)).symm),yd⟩ (λ_ h=>h)
    exact yh O<|yv (qAs O O O) O<|yn 2 O<|y8<|yq<|vY () C10 trivial ⟨O,O,O,O,yY some (yY Value.bool (decide_eq_decide.2 xB)),yd⟩ (λ_ h=>h)
  rintro _ _
  refine ym λ_ C11=>yl λ_ C12=>yh O<|yj ((qEx O O O).nat (min (dN s) 6) xB) O<|yh O<|yi C12 ?_
  refine yz<|vN (X:=Nat×yS×Nat×Hp) (λx=> [(2,Ptr g2),(4,Ptr g10),(5,Ptr g5),(7,.bool (decide (63<qBd ((⟨s,0⟩:RS).out 1)\/6<dN s))),(36,I (min (dN s) 6:Nat)),(37,I x.1)]) (λx=> [F,blk g2 [I 0,.slice none 0 0,.slice none 0 0] 106,RSb g10 (((dA s).take 1).tk 16 x.1),blk g5 [I (qBd ((⟨s,0⟩:RS).out 1)),.slice A1 35 c1,.slice x.2.1 x.1 x.2.2.1] 106,m,x.2.2.2]) (λx=>x.1<=min (dN s) 6/\Row x.2.2.2 9 1 x.2.1 x.1 x.2.2.1 (qAG (((dA s).take 1).os 16 x.1))) (λx=>min (dN s) 6-x.1) (0,none,0,λ_=>none) (⟨jH _,qBf.nil⟩) (Sub.of O) (λ_ h=>h) ?_
  rintro⟨k,A2,c2,mp⟩ ⟨hk2,hrow2⟩ I2 hI2
  dsimp only at hk2 hrow2⊢
  refine yl λ_ C13=>yj (qAP O O O) O<|yi C13 ?_
  refine ym λ_ C14=>y1 O (λh38=>?_) (λh38=>?_)
  .
    refine yy C14 ?_
    refine ym λ_ C15=>yz<|vQ [blk g5 [I (qBd ((⟨s,0⟩:RS).out 1)),.slice A1 35 c1,.slice A2 k c2] 106] [7] (.y 0 (.y 1 (.y 2 (.e 3 (.e 4 (.e 5 (.y 6 (.e 7 .nil)))))))) ye xF xD ?_
    refine yo O (qAA O O qCB O qBs O) O O<|yo O (qAD 0 O O O qB7 O) O O<|yx ?_
    refine vD O (qAJ O O ent (vR 2 O (λF' _=>qB1 F' g10 (((dA s).take 1).tk 16 k) 16))) O xD λg42 _=>vD O (qAE (l:= [.tmp 42]) (xs:= [[Str ((((dA s).take 1).tk 16 k).out 16)]]) O O O O qAg el9 O xC xC xD) O xD λg43 _=>vD O (qAV (i:=5) (m2:=blk g43 [Str ((((dA s).take 1).tk 16 k).out 16)] 9) O O O qAg qAg el9 O hrow2 xD (slS [(((dA s).take 1).tk 16 k).out 16] O) (by simp [qAG,Value.oneCell']) xB xB) O xD ?_
    rintro⟨A44,c44,m44⟩ h44
    try dsimp only at h44
    rw [<-qB0] at h44
    change Row m44 _ _ _ _ _ (qAG (((dA s).take 1).os 16 (k+1))) at h44
    refine yo O (qAA O O qCB O qBs O) O O<|vZ O (qAU (i:=3) O O O O O qBs O xD) O O O λ_ _=>vM<|vB<|yq (yu C15 ?_)
    exact vW [0,1,2,3,4,5] [F,blk g2 [I 0,.slice none 0 0,.slice none 0 0] 106,RSb g10 ((((dA s).take 1).tk 16 k).take 16),blk g5 [I (qBd ((⟨s,0⟩:RS).out 1)),.slice A1 35 c1,.slice A44 (k+1) c44] 106,m,m44] O xC<|yt<|yj ((qAM O O O xB).nat (k+1) xB) O<|yh O<|y8<|yq<|vE (k+1,A44,c44,m44) hI2 ⟨by dsimp only;omega,h44⟩ (Sub.of O) (λ_ h=>h)
  refine vK<|y6<|y6<|vL ?_
  refine yq (yu C11 ?_)
  refine ym λ_ C16=>ym λ_ C17=>?_
  have hkm:min (dN s) 6=k:=xB
  subst hkm
  refine vW [0,1,2,3,4,5] [F,blk g2 [I 0,.slice none 0 0,.slice none 0 0] 106,RSb g10 (dC s),blk g5 [I (qBd ((⟨s,0⟩:RS).out 1)),.slice A1 35 c1,.slice A2 (min (dN s) 6) c2] 106,m,mp] O xC<|yt<|yh O<|yp (qAJ O O ent (vR 2 O (λF' _=>qJA F' g10 (dC s)))) O λg48 _=>yh O<|yi C17 ?_
  refine yz<|yl λ_ C18=>yn 2 O<|vO (d:=51) O (λh51=>?_) (λh51=>?_)
  .
    refine yh O<|yv (qAQ O O O) O<|yn 2 O<|yi C18 ?_
    refine y1 O (λh49=>?_) (λh49=>?_)
    .
      refine yl λ_ C19=>yj (qAK (places:= [(0,1),(1,1),(2,1)]) (r:= [I 0,.slice none 0 0,.slice none 0 0]) O O O qCB qIQ (λ_=>xH) O) O<|vG (qAF (i:=1) O O O O O qCg O O) O O λ_ _=>yh O<|yi C19 ?_
      exact yr<|vI<|y5<|vH hw0 (λ_ _ h=>h) (rv2 O (RV.blkA 1 O O qGe qCg) O) (qAf ((A1,c1,m),(A2,c2,mp)) (by rw [show qNI s=4 by rw [hwe,yX ⟨h51,h49⟩],yW xC]) ⟨hrow,hrow2⟩ [0,4,5] O xC)
    refine yl λ_ C20=>yh O<|yj (qAQ O O O) O<|yh O<|yi C20 ?_
    refine y1 O (λh56=>?_) (λh56=>?_)
    .
      refine yl λ_ C21=>yj (qAK (places:= [(0,1),(1,1),(2,1)]) (r:= [I 0,.slice none 0 0,.slice none 0 0]) O O O qCB qIQ (λ_=>xH) O) O<|yh O<|vG (qAF (i:=1) O O O O O qCg O O) O O λ_ _=>yh O<|yi C21 ?_
      exact yr<|vI<|y5<|vH hw0 (λ_ _ h=>h) (rv2 O (RV.blkA 1 O O qGe qCg) O) (qAf ((A1,c1,m),(A2,c2,mp)) (by rw [show qNI s=(dC s).last by rw [hwe,yW (λq=>h49 q.2)],yW h56]) ⟨hrow,hrow2⟩ [0,4,5] O xC)
    refine vP<|vB<|yq (yu C16 ?_)
    refine yl λ_ C22=>vT 3 qGe qCg O O O O O<|vG (qAF (l:= [I 0,.slice none 0 0,.slice none 0 0]) (i:=1) (vs:= [I (qBd ((⟨s,0⟩:RS).out 1)),.slice A1 35 c1,.slice A2 (min (dN s) 6) c2]) O O O O O qCg O O) O O λ_ _=>yh O<|yi C22 ?_
    exact yr<|vH hw0 (λ_ _ h=>h) (rv2 O (RV.blkA 1 O O qGe qCg) O) (qAf ((A1,c1,m),(A2,c2,mp)) (by exfalso;omega) ⟨hrow,hrow2⟩ [0,4,5] O xC)
  refine yn 4 O<|yi C18 ?_
  refine vC ?_
  refine yl λ_ C23=>yh O<|yj (qAQ O O O) O<|yh O<|yi C23 ?_
  refine y1 O (λh56=>?_) (λh56=>?_)
  .
    refine yl λ_ C24=>yj (qAK (places:= [(0,1),(1,1),(2,1)]) (r:= [I 0,.slice none 0 0,.slice none 0 0]) O O O qCB qIQ (λ_=>xH) O) O<|yh O<|vG (qAF (i:=1) O O O O O qCg O O) O O λ_ _=>yh O<|yi C24 ?_
    exact yr<|vI<|y5<|vH hw0 (λ_ _ h=>h) (rv2 O (RV.blkA 1 O O qGe qCg) O) (qAf ((A1,c1,m),(A2,c2,mp)) (by rw [show qNI s=(dC s).last by rw [hwe,yW (λq=>h51 q.1)],yW h56]) ⟨hrow,hrow2⟩ [0,4,5] O xC)
  refine vP<|vB<|yq (yu C16 ?_)
  refine yl λ_ C25=>vT 3 qGe qCg O O O O O<|vG (qAF (l:= [I 0,.slice none 0 0,.slice none 0 0]) (i:=1) (vs:= [I (qBd ((⟨s,0⟩:RS).out 1)),.slice A1 35 c1,.slice A2 (min (dN s) 6) c2]) O O O O O qCg O O) O O λ_ _=>yh O<|yi C25 ?_
  exact yr<|vH hw0 (λ_ _ h=>h) (rv2 O (RV.blkA 1 O O qGe qCg) O) (qAf ((A1,c1,m),(A2,c2,mp)) (by rw [show qNI s=0 by rw [hwe,yW (λq=>h51 q.1)];omega,yX O,show min (dN s) 6=dN s by omega]) ⟨hrow,hrow2⟩ [0,4,5] O xC)
theorem qSu{l:List xA}(h: ∀s∈l,s.length=16)(r:xA):ck (l.flatten++r) 16 l.length=l:=by
  apply List.ext_getElem
  . unfold ck;rw [jJ,zF]
  . intro j h1 h2
    rw [show(ck (l.flatten++r) 16 l.length)[j]=((l.flatten++r).drop (16*j)).take 16 by simp only [ck,List.getElem_map,List.getElem_range]]
    have e:l.flatten=(l.take j).flatten++(l[j]++(l.drop (j+1)).flatten):=by
      conv=>lhs;rw [<-zN j l,j9 h2]
      rw [zA,jo]
    rw [e,jM,jM,zW (by rw [qEz (λs hs=>h s (zx hs)),jF];omega),zJ (h _ (jU h2))]
theorem ck_16{s:xA}{k:Nat}(h:16*k<=s.length): ∀x∈ck s 16 k,x.length=16:=λx hx=>by
 simp only [ck,zh,List.mem_range] at hx
 obtain ⟨j,hj,rfl⟩:=hx
 rw [jF,jE];omega
theorem qFs{i:Nat}{ch pt:List xA}(hc: ∀s∈ch,s.length=16)(hp: ∀s∈pt,s.length=16)(h1:ch.length=35):(sgB i ch pt).length=562+16*pt.length:=by
 unfold sgB
 simp only [jA,jI,qEz hc,qEz hp,h1]
theorem qQc{i:Nat}{ch pt:List xA}(hc: ∀s∈ch,s.length=16)(h1:ch.length=35):(sgB i ch pt).getD 0 0=UInt8.ofNat i/\(sgB i ch pt).getD 561 0=UInt8.ofNat pt.length/\(sgB i ch pt).drop 1=ch.flatten++([UInt8.ofNat pt.length]++pt.flatten)/\(sgB i ch pt).drop 562=pt.flatten:=by
  have hf:=qEz hc
  rw [h1] at hf
  unfold sgB
  refine⟨O,?_,?_,?_⟩
  . rw [jM,jB,ja xO]
    simp [hf]
  . simp
  . rw [zW xO]
theorem qXB{i:Nat}{ch pt:List xA}(hi:i<=63)(hc: ∀s∈ch,s.length=16)(hp: ∀s∈pt,s.length=16)(h1:ch.length=35)(h2:pt.length<=6):
    qNI (sgB i ch pt)=0/\qBd ((⟨sgB i ch pt,0⟩:RS).out 1)=i/\dN (sgB i ch pt)=pt.length/\((⟨sgB i ch pt,0⟩:RS).take 1).os 16 35=ch/\((dA (sgB i ch pt)).take 1).os 16 pt.length=pt:=by
  obtain ⟨p1,p2,p3,p4⟩:=qQc (i:=i) (pt:=pt) hc h1
  have hl:=qFs (i:=i) hc hp h1
  have e1:((sgB i ch pt).getD 0 0).toNat=i:=by rw [p1,jm];exact jX xB
  have e2:((sgB i ch pt).getD 561 0).toNat=pt.length:=by rw [p2,jm];exact jX xB
  have hw:qNI (sgB i ch pt)=0:=by
    unfold qNI
    rw [hl,e1,e2,jq h2,yW xB,yW xB,yW xB,yW xB]
  obtain ⟨w1,w2,w3,w4,w5,w6,w7⟩:=qZT hw
  refine⟨hw,w5.trans e1,w4.trans e2,?_,?_⟩
  . rw [w6,p3,<-h1];exact qSu hc _
  . rw [e2,p4] at w7
    rw [w7]
    have:=qSu hp []
    rwa [jS] at this
theorem Mk.lvl_16(l:List xA)(hs: ∀s∈l,s.length=16): ∀j,∀s∈Mk.lvl l j,s.length=16
 |0,s,h=>hs s h
 |j+1,s,h=>by
  simp only [Mk.lvl,Mk.above,zh] at h
  obtain ⟨k,_,rfl⟩:=h
  exact Mk.node_length _ _
theorem Mk.path_16(l:List xA)(i h:Nat)(hs: ∀s∈l,s.length=16)(hl:l.length=2^h)(hi:i<2^h): ∀s∈Mk.path l i h,s.length=16:=λs hp=>by
 unfold Mk.path at hp
 simp only [zh,List.mem_range] at hp
 obtain ⟨j,hj,rfl⟩:=hp
 refine Mk.lvl_16 l hs j _ (Mk.getS_mem ?_)
 rw [Mk.lvl_length l h hl j xB,show h-j=(h-1-j)+1 by omega,ju,zi]
 refine Mk.xor_one _ _ ?_
 rw [yG (jy j),Nat.mul_assoc,<-Nat.pow_add,zi,<-ju,show(h-1-j+j).succ=h by omega]
 exact hi
theorem Xm.leaves_16(seed:xA)(k:Nat): ∀s∈Xm.leaves seed k,s.length=16:=λs hs=>by
 simp only [Xm.leaves,zh] at hs
 obtain ⟨i,_,rfl⟩:=hs
 exact Xm.pub_length _ _
theorem Mk.root_16(seed:xA)(h:Nat):(Xm.root seed h).length=16:=by
 unfold Xm.root Mk.root
 exact Mk.lvl_16 _ (Xm.leaves_16 _ _) h _ (Mk.getS_mem (by rw [Mk.lvl_length _ h (Xm.leaves_length _ _) h (jL _),zK];decide))
theorem Wo.signs_len(seed:xA)(i:Nat)(d:yT):(Wo.signs seed i d 35).length=35:=by simp [Wo.signs]
def qWJ(m:Hp)(g:Nat)(seed:xA)(h:Nat):Prop:= ∃A c,qAI m ⟨g,0,none⟩ (qBg seed (Wo.opn seed) (Xm.root seed h) h A (2^h) c)/\Sl m 1 A (2^h) c (qAG (Xm.leaves seed (2^h)))
theorem qWJ.mono{m m':Hp}{g:Nat}{seed:xA}{h:Nat}(hk:qWJ m g seed h)(hl:Le m m'):qWJ m' g seed h:=by
 obtain ⟨A,c,h1,h2⟩:=hk
 exact⟨A,c,h1.mono hl,h2.mono hl⟩
def sgC(seed:xA)(i:Nat)(mg:xA):List xA:=Wo.signs seed i (Wo.digs (Xm.digest (Wo.opn seed) i mg)) 35
def sgP(seed:xA)(h i:Nat):List xA:=Mk.path (Xm.leaves seed (2^h)) i h
theorem qFr(seed:xA)(i:Nat)(mg:xA):(sgC seed i mg).length=35:=Wo.signs_len _ _ _
theorem qKo(seed:xA)(i:Nat)(mg:xA): ∀s∈sgC seed i mg,s.length=16:=Wo.signs_16 _ _ _ _
theorem qFq(seed:xA)(h i:Nat):(sgP seed h i).length=h:=Mk.path_length _ _ _
theorem qKn(seed:xA){h i:Nat}(hi:i<2^h): ∀s∈sgP seed h i,s.length=16:=Mk.path_16 _ _ _ (Xm.leaves_16 _ _) (Xm.leaves_length _ _) hi
theorem qNF(F:Hp)(hK:yf F)(seed:xA)(h:Nat)(hs:seed.length<=1048576)(h6:h<=6):
    Ct prog 11 [Str seed,I (h:Nat)] [F] (λx:Nat×Hp=> .tuple #[Ptr x.1,I 0]) (λx=>qWJ x.2 x.1 seed h) (λx=> [F,x.2]):=λw0 w hw=>
  (qW9 F hK seed h hs h6 w0 w hw).mono λe w' ⟨x,he,hx,hs'⟩=>⟨x,he,hx.see,hs'.pick [1,0] xC⟩
theorem qPy(F:Hp)(hK:yf F)(g:Nat)(seed:xA)(h:Nat)(hk:qWJ F g seed h)(hs:seed.length<=1048576)(h6:h<=6)(i:Nat)(hi:i<2^h)(mg:xA)(hm:mg.length<=1048576):
    Ct prog 92 [Ptr g,I (i:Nat),Str mg] [F] (λx:(yS×Nat×Hp)×(yS×Nat×Hp)=> .tuple #[.agg #[I (i:Nat),.slice x.1.1 (sgC seed i mg).length x.1.2.1,.slice x.2.1 (sgP seed h i).length x.2.2.1],I 0])
      (λx=>Row x.1.2.2 9 1 x.1.1 (sgC seed i mg).length x.1.2.1 (qAG (sgC seed i mg))/\Row x.2.2.2 9 1 x.2.1 (sgP seed h i).length x.2.2.1 (qAG (sgP seed h i))) (λx=> [F,x.1.2.2,x.2.2.2]):=by
  obtain ⟨A,c,h1,h2⟩:=hk
  rw [qFr,qFq]
  exact qTW F hK g seed h A c h1 h2 hs h6 mg hm i hi
theorem qGi(F:Hp)(g:Nat)(seed:xA)(h:Nat)(hk:qWJ F g seed h):Cz prog 28 [Ptr g] F (.agg #[Str (Wo.opn seed),Str (Xm.root seed h),I (h:Nat)]):=by
 obtain ⟨A,c,h1,h2⟩:=hk
 exact qOm F g seed (Wo.opn seed) (Xm.root seed h) h A (2^h) c h1
theorem qMx(seed:xA)(h i:Nat)(hi:i<2^h):Mk.climb (Wo.pub seed i) i (sgP seed h i)=Xm.root seed h:=by
 have:=Mk.climb_root (Xm.leaves seed (2^h)) h i (Xm.leaves_length _ _) hi
 rw [Xm.leaves_get seed _ i hi] at this
 exact this
theorem qTV(F:Hp)(hK:yf F)(seed:xA)(h i:Nat)(mg:xA)(A1:yS)(n1 c1:Nat)(hch:Sl F 1 A1 n1 c1 (qAG (sgC seed i mg)))(A2:yS)(n2 c2:Nat)(hpt:Sl F 1 A2 n2 c2 (qAG (sgP seed h i)))(hm:mg.length<=1048576)(h6:h<=6)(hi:i<2^h):
    Cz prog 185 [.agg #[Str (Wo.opn seed),Str (Xm.root seed h),I (h:Nat)],Str mg,.agg #[I (i:Nat),.slice A1 n1 c1,.slice A2 n2 c2]] F (.bool true):=by
  have e1:(sgC seed i mg).length=n1:=by have:=hch.1;simpa [qAG] using this
  have e2:(sgP seed h i).length=n2:=by have:=hpt.1;simpa [qAG] using this
  rw [qFr] at e1
  rw [qFq] at e2
  subst e1
  subst e2
  have:=qOl F hK (Wo.opn seed) (Xm.root seed h) h mg i A1 c1 (sgC seed i mg) hch (qKo _ _ _) A2 c2 (sgP seed h i) hpt (λs hs=>by rw [qKn seed hi s hs];decide) (by rw [Wo.opn_length];decide) hm h6 hi
  have e:Wo.publicOf (Wo.opn seed) i (Wo.ends (Wo.opn seed) i (Wo.digs (Xm.digest (Wo.opn seed) i mg)) (sgC seed i mg) 35)=Wo.pub seed i:=Wo.recPub seed i _ (by rw [Xm.digest_length];decide)
  rw [e,qMx seed h i hi,ya rfl] at this
  exact this
theorem qEV{v:Nat}{o r:xA}{h:Int}{p:xA}(he:qBK v o r h p=0):1<=v/\v<=4294967295/\(0<=h/\h<=6)/\o.length=16/\r.length=16/\p.length=16:=by
  unfold qBK at he
  split at he
  . omega
  . split at he
    . rename_i h1 h2
      have h3:=h2.1
      unfold qBT at h3
      split at h3
      . rename_i h4
        have h5:=h4
        unfold qE3 at h5
        omega
      . omega
    . omega
theorem qab{v:Nat}{o r:xA}{h:Int}{p:xA}(he:qBK v o r h p=0):deV (qA6 v o r h p)= .tuple #[.agg #[N64 v,Str o,Str r,I h,Str p],I 0]:=by
 obtain ⟨h1,h2,⟨h3,h4⟩,ho,hr,hp⟩:=qEV he
 rw [(en_0 xB xB xB xB ho hr hp).2]
 obtain ⟨k,rfl⟩:=zk h3
 have hk:k<=6:=xB
 generalize hN:Sha.numB (UInt64.ofNat v) 4=N
 have hNl:N.length=4:=by rw [<-hN,Sha.numB_length]
 have hNv:qBd N=v:=by rw [<-hN,qFa v xB 4 xB];exact jX xB
 have hh:((k:Int).toNat)=k:=jd k
 rw [hh]
 generalize hc:UInt8.ofNat k=c
 have hcn:c.toNat=k:=by rw [<-hc,jm];exact jX xB
 have hs:N++o++r++ [c]++p=N++((o++(r++ [c]))++p):=xD
 rw [hs]
 generalize hS:N++((o++(r++ [c]))++p)=s
 have hl:s.length=53:=by rw [<-hS];simp only [jA,jI];omega
 have hK:deK s=o++(r++ [c]):=by
  unfold deK
  rw [<-hS,zW hNl,zJ xO]
 have h37:(s.drop 37).take 16=p:=by
  rw [<-hS,<-jM,zW xO,jV xB]
 have hg:s.getD 36 0=c:=by
  rw [<-qMw,hK,<-jM,jB,ja (by simp only [jA];omega)]
  simp [ho,hr]
 have hKe:dpE (deK s)=0:=by rw [qY1 hl,hg,yW xB]
 have hE:deE s=0:=by rw [de_v hl hKe,<-hS,zJ hNl,hNv,yW xB]
 unfold deV deN deO deR deH deP
 rw [hE,yX rfl,yX rfl,yX rfl,yX rfl,yX rfl,h37]
 unfold dpO dpR dpH
 rw [hKe,yX rfl,yX rfl,yX rfl,qMw,hg,hcn,hK,zJ ho,zW ho,zJ hr,<-hS,zJ hNl,hNv]
attribute [local irreducible] Sha.tagged Wo.pub Wo.publicOf Wo.signs Wo.ends Wo.digs Wo.walk Wo.opn Mk.root Mk.path Mk.climb Xm.root sgC sgP qA6 qBK
theorem qG5(F:Hp)(v:Nat)(o r:xA)(h:Int)(p:xA)(hv:v<18446744073709551616)(ho:o.length<=1048576)(hr:r.length<=1048576)(hp:p.length<=1048576):Cz prog 107 [.agg #[N64 (v),Str (o),Str (r),I (h),Str (p)]] F (.tuple #[Str (qA6 v o r h p),I (qBK v o r h p)]):=qJB F v o r h p hv ho hr hp
def qK2(s:xA)(v:Nat)(o r:xA)(h:Int)(p:xA):xA:=Sha.tagged 13 [s,qA6 v o r h p]
theorem qGu(s:xA)(v:Nat)(o r:xA)(h:Int)(p:xA):(qK2 s v o r h p).length=16:=Sha.tagged_length _ _
theorem qRI(F:Hp)(hK:yf F)(s:xA)(hsl:s.length<=1000000)(v:Nat)(o r:xA)(h:Int)(p:xA)(hE:qBK v o r h p=0):Cz prog 163 [Str (s),.agg #[N64 (v),Str (o),Str (r),I (h),Str (p)]] F (Str (qK2 (s) (v) (o) (r) (h) (p))):=by
 obtain ⟨e1,e2,⟨e3,e4⟩,e5,e6,e7⟩:=qEV hE
 have el:=qB4 hE
 refine y7 func163 O ntmps163 O (λw0 hw0=>?_)
 refine yl λ_ C1=>yp (qAi O O O) O λg3 _=>yh O<|yi C1 ?_
 refine yl λ_ C2=>vT 1 qBz qBF O O O O O<|yp (qAZ O O (λF' hF=>qG5 F' v o r h p xI xI xI xI)) O λg9 _=>yn 5 O<|yi C2 ?_
 refine ym λ_ C3=>yl λ_ C4=>yh O<|yj ((qAQ O O O).no xB) O<|yi C4 ?_
 refine vC ?_
 refine yy C3 ?_
 refine yl λ_ C5=>yn 2 O<|yp (qAE (l:= [.tmp 14,.tmp 15]) (xs:= [[Str (s)],[Str (qA6 (v) (o) (r) (h) (p))]]) O O O O qAg el9 O xC xC xD) O λg16 _=>yp (qAZ O O (λF' hF=>qBI F' (hK.mo hF) 13 (some ⟨g16,0,none⟩) 2 2 ([s,qA6 (v) (o) (r) (h) (p)]) (((qAz (q:=True) (qAG [s,qA6 (v) (o) (r) (h) (p)]) O (by simp [qAG]) O).sl).mono (hF (blk g16 [Str (s),Str (qA6 (v) (o) (r) (h) (p))] 9) xD)) (by first|(simp;omega)|(simp;done)|decide) xB)) O λg17 _=>yh O<|yi C5 ?_
 exact yr<|yw hw0 O () (by unfold qK2;rfl) yd [0] O xC
theorem qUX(F:Hp)(hK:yf F)(g:Nat)(seed:xA)(kh:Nat)(hk:qWJ F g seed kh)(hs6:seed.length<=1048576)(h6:kh<=6)(i:Nat)(hi:i<2^kh)(s:xA)(hsl:s.length<=1000000)(v:Nat)(o r:xA)(h:Int)(p:xA)(hE:qBK v o r h p=0):Ct prog 91 [Ptr g,I (i:Nat),Str s,.agg #[N64 (v),Str (o),Str (r),I (h),Str (p)]] [F] (λx:(yS×Nat×Hp)×(yS×Nat×Hp)=> .tuple #[.agg #[Str s,N64 v,Str o,Str r,I h,Str p,I (i:Nat),.slice x.1.1 (sgC seed i (qK2 (s) (v) (o) (r) (h) (p))).length x.1.2.1,.slice x.2.1 (sgP seed kh i).length x.2.2.1],I (0:Nat)]) (λx=>Row x.1.2.2 9 1 x.1.1 (sgC seed i (qK2 (s) (v) (o) (r) (h) (p))).length x.1.2.1 (qAG (sgC seed i (qK2 (s) (v) (o) (r) (h) (p))))/\Row x.2.2.2 9 1 x.2.1 (sgP seed kh i).length x.2.2.1 (qAG (sgP seed kh i))) (λx=> [F,x.1.2.2,x.2.2.2]):=by
 obtain ⟨e1,e2,⟨e3,e4⟩,e5,e6,e7⟩:=qEV hE
 have el:=qB4 hE
 have eml:=qGu s v o r h p
 refine y7 func91 O ntmps91 O (λw0 hw0=>?_)
 refine yl λ_ C1=>yp (qAi O O O) O λg7 _=>yp (qAO O qLg O) O λg8 _=>yh O<|yi C1 ?_
 refine ym λ_ C2=>yl λ_ C3=>vT 1 qBz qBF O O O O O<|yp (qAZ O O (λF' hF=>qG5 F' v o r h p xI xI xI xI)) O λg16 _=>yn 5 O<|yi C3 ?_
 refine yl λ_ C4=>yh O<|yj ((qAQ O O O).no xB) O<|yi C4 ?_
 refine vC ?_
 refine yy C2 ?_
 refine yl λ_ C5=>yn 3 O<|vT 1 qBz qBF O O O O O<|yp (qAZ O O (λF' hF=>qRI F' (hK.mo hF) s xI v o r h p xI)) O λg28 _=>yp (qBx O O (λF' hF=>qPy F' (hK.mo hF) g seed kh (hk.mono (Fa hF)) (by first|assumption|decide) (by first|assumption|decide) i xB (qK2 (s) (v) (o) (r) (h) (p)) xB)) O ?_
 rintro⟨⟨A29,c29,m29⟩,⟨B29,d29,n29⟩⟩ ⟨h29,k29⟩
 refine yn 3 O<|yp (qAO O qIQ O) O λg12 _=>vG (qAF (i:=5) (l:= [I 0,.slice none 0 0,.slice none 0 0]) (vs:= [I (i:Nat),.slice A29 ((sgC seed i (qK2 (s) (v) (o) (r) (h) (p))).length) c29,.slice B29 ((sgP seed kh i).length) d29]) O O O O O qCg O O) O O λ_ _=>yh O<|yi C5 ?_
 refine ym λ_ C6=>yl λ_ C7=>yh O<|yj ((qAQ O O O).no xC) O<|yi C7 ?_
 refine vC ?_
 refine yy C6 ?_
 refine yl λ_ C8=>yh O<|vT 1 qBz qBF O O O O O<|vT 5 qGe qCg O O O O O<|yj (qAK (places:= [(0,1),(1,5),(6,3)]) (r:= [Str (s),N64 (v),Str (o),Str (r),I (h),Str (p),I (i:Nat),.slice A29 ((sgC seed i (qK2 (s) (v) (o) (r) (h) (p))).length) c29,.slice B29 ((sgP seed kh i).length) d29]) O O O qCN qLg (λ_=>xH) xH) O<|vG (qAF (i:=2) (l:= [Str [],.int .u64 0,Str [],Str [],I 0,Str [],I 0,.slice none 0 0,.slice none 0 0]) (vs:= [Str (s),N64 (v),Str (o),Str (r),I (h),Str (p),I (i:Nat),.slice A29 ((sgC seed i (qK2 (s) (v) (o) (r) (h) (p))).length) c29,.slice B29 ((sgP seed kh i).length) d29]) O O O O O qD6 O O) O O λ_ _=>yh O<|yi C8 ?_
 exact yr<|vH hw0 (λ_ _ h=>h) (rv2 O (RV.blkA 2 O O qGd qD6) O) (qAf ((A29,c29,m29),(B29,d29,n29)) O ⟨h29,k29⟩ [0,3,4] O xC)
end Go.Proofs.YtmemgokiolfdoaaGreatDoor
namespace Go.Proofs.YtmemgokiolfdoaaGreatDoor
open Go Go.Fw Go.Proofs.Tryz
attribute [local irreducible] Sha.tagged Wo.pub Wo.publicOf Wo.signs Wo.ends Wo.digs Wo.walk Wo.opn Mk.root Mk.path Mk.climb Xm.root sgC sgP qA6 qBK sgB
theorem qT9(F:Hp)(i:Nat)(A1:yS)(n1 c1:Nat)(ch:List xA)(hch:Sl F 1 A1 n1 c1 (qAG ch))(A2:yS)(n2 c2:Nat)(pt:List xA)(hpt:Sl F 1 A2 n2 c2 (qAG pt))(hi:i<=63)(h35:ch.length=35)(hn6:pt.length<=6)(hc16: ∀s∈ch,s.length=16)(hp16: ∀s∈pt,s.length=16):Cz prog 186 [.agg #[I (i:Nat),.slice A1 n1 c1,.slice A2 n2 c2]] F (.tuple #[Str (sgB i ch pt),I (0:Nat)]):=by
 have e1:ch.length=n1:=by have:=hch.1;simpa [qAG] using this
 have e2:pt.length=n2:=by have:=hpt.1;simpa [qAG] using this
 rw [h35] at e1
 subst e1
 exact qOx F i A1 c1 ch hch A2 n2 c2 pt hpt hi xB hc16 hp16
theorem qVf(F:Hp)(t:xA)(v:Nat)(o r:xA)(h:Int)(p:xA)(hE:qBK v o r h p=0)(he:t=qA6 v o r h p):Cz prog 257 [Str t] F (.tuple #[.agg #[N64 (v),Str (o),Str (r),I (h),Str (p)],I (0:Nat)]):=by
 subst he
 have:=qPe F (qA6 v o r h p)
 rw [qab hE] at this
 exact this
theorem qUB(F:Hp)(t:xA)(i:Nat)(ch pt:List xA)(hi:i<=63)(h35:ch.length=35)(hn6:pt.length<=6)(hc16: ∀s∈ch,s.length=16)(hp16: ∀s∈pt,s.length=16)(hs:t=sgB i ch pt):Ct prog 258 [Str t] [F] (λx:(yS×Nat×Hp)×(yS×Nat×Hp)=> .tuple #[.agg #[I (i:Nat),.slice x.1.1 ch.length x.1.2.1,.slice x.2.1 pt.length x.2.2.1],I (0:Nat)]) (λx=>Row x.1.2.2 9 1 x.1.1 ch.length x.1.2.1 (qAG ch)/\Row x.2.2.2 9 1 x.2.1 pt.length x.2.2.1 (qAG pt)) (λx=> [F,x.1.2.2,x.2.2.2]):=by
 subst hs
 have h:=qOy F (sgB i ch pt)
 obtain ⟨w1,w2,w3,w4,w5⟩:=qXB hi hc16 hp16 h35 hn6
 have e: ∀a b:Value,(if qNI (sgB i ch pt)=0 then a else b)=a:=λa b=>yX w1
 simp only [e,w1,w2,w3,w4,jq hn6,w5] at h
 rw [h35];exact h
def u1(s:xA):RS:=(⟨s,0⟩:RS).textR
def u2(s:xA):RS:=(u1 s).textR
def u3(s:xA):RS:=(u2 s).textR
def upB(a b c:xA):xA:=tb a++tb b++tb c
theorem qHL(a b c:xA):(upB a b c).length=6+a.length+b.length+c.length:=by unfold upB;simp only [jA,qDK];omega
theorem qXF{a b c:xA}(ha:a.length<=4096)(hb:b.length<=4096)(hc:c.length<=4096):(⟨upB a b c,0⟩:RS).textS=a/\(u1 (upB a b c)).textS=b/\(u2 (upB a b c)).textS=c/\(u3 (upB a b c)).last=0:=by
 have f1:=qGj (tb b++(tb c++ [])) ha
 have f2:=qGj (tb c++ []) hb
 have f3:=qGj [] hc
 have e:upB a b c=tb a++(tb b++(tb c++ [])):=by unfold upB;simp
 unfold u3 u2 u1
 rw [e,f1.2,f2.2,f3.2]
 exact⟨f1.1,f2.1,f3.1,O⟩
theorem qK3(F:Hp)(s:xA)(hs4:s.length<=4096)(v:Nat)(o r:xA)(h:Int)(p:xA)(hE:qBK v o r h p=0)(i:Nat)(A1:yS)(n1 c1:Nat)(ch:List xA)(hch:Sl F 1 A1 n1 c1 (qAG ch))(A2:yS)(n2 c2:Nat)(pt:List xA)(hpt:Sl F 1 A2 n2 c2 (qAG pt))(hi:i<=63)(h35:ch.length=35)(hn6:pt.length<=6)(hc16: ∀s∈ch,s.length=16)(hp16: ∀s∈pt,s.length=16):Cz prog 104 [.agg #[Str (s),N64 (v),Str (o),Str (r),I (h),Str (p),I (i:Nat),.slice A1 n1 c1,.slice A2 n2 c2]] F (.tuple #[Str (upB (s) (qA6 (v) (o) (r) (h) (p)) (sgB (i) (ch) (pt))),I (0:Nat)]):=by
 obtain ⟨e1,e2,⟨e3,e4⟩,e5,e6,e7⟩:=qEV hE
 have el:=qB4 hE
 have hsg:=qFs (i:=i) hc16 hp16 h35
 have hul:=qHL s (qA6 v o r h p) (sgB i ch pt)
 refine y7 func104 O ntmps104 O (λw0 hw0=>?_)
 refine yl λ_ C1=>yp (qAi O O O) O λg1 _=>yn 2 O<|yi C1 ?_
 refine yl λ_ C2=>vA 1 qCN qBF O O O O O<|yj (qAb O O qBz qBF (m:=blk g1 [Str (s),N64 (v),Str (o),Str (r),I (h),Str (p),I (i:Nat),.slice A1 n1 c1,.slice A2 n2 c2] 108) xD (qAI.blk0.sub 1 5) O) O<|yp (qAZ O O (λF' hF=>qG5 F' v o r h p xI xI xI xI)) O λg11 _=>yn 5 O<|yi C2 ?_
 refine ym λ_ C3=>yl λ_ C4=>yh O<|yj ((qAQ O O O).no xB) O<|yi C4 ?_
 refine vC ?_
 refine yy C3 ?_
 refine yl λ_ C5=>vA 6 qCN qCg O O O O O<|yj (qAb O O qGe qCg (m:=blk g1 [Str (s),N64 (v),Str (o),Str (r),I (h),Str (p),I (i:Nat),.slice A1 n1 c1,.slice A2 n2 c2] 108) xD (qAI.blk0.sub 6 3) O) O<|yp (qAZ O O (λF' hF=>qT9 F' i A1 n1 c1 ch (hch.mono (Fa hF)) A2 n2 c2 pt (hpt.mono (Fa hF)) xI xI xI xI xI)) O λg20 _=>yn 5 O<|yi C5 ?_
 refine ym λ_ C6=>yl λ_ C7=>yh O<|yj ((qAQ O O O).no xC) O<|yi C7 ?_
 refine vC ?_
 refine yy C6 ?_
 refine yl λ_ C8=>yp (qAO O qLf O) O λg7 _=>yi C8 ?_
 refine yl λ_ C9=>vA 0 qCN z9_ O O O O O<|vF 1 b9_ O O O O O<|yp (qAJ O O ent (vR 2 O (λF' hF=>qGk F' (blk g7 [.pointer none,.slice none 0 0,I 0] 148) g7 ([]) (wtrN g7) (by first|decide|omega|(simp only [jA,jC,jG,jI,Sha.numB_length,qDK]<;>omega)) s xL))) O ?_
 rintro m28 hw28
 rw [j7] at hw28
 refine yh O<|yp (qAJ O O ent (vR 2 O (λF' hF=>qGk F' m28 g7 (tb (s)) hw28 (by first|decide|omega|(simp only [jA,jC,jG,jI,Sha.numB_length,qDK]<;>omega)) (qA6 (v) (o) (r) (h) (p)) xL))) O ?_
 rintro m30 hw30
 refine yh O<|yp (qAJ O O ent (vR 2 O (λF' hF=>qGk F' m30 g7 (tb (s)++tb (qA6 (v) (o) (r) (h) (p))) hw30 (by first|decide|omega|(simp only [jA,jC,jG,jI,Sha.numB_length,qDK]<;>omega)) (sgB (i) (ch) (pt)) xL))) O ?_
 rintro m32 hw32
 refine yp (qAJ O O ent (vR 2 O (λF' hF=>qH9 F' m32 g7 (upB (s) (qA6 (v) (o) (r) (h) (p)) (sgB (i) (ch) (pt))) hw32 (by first|decide|omega|(simp only [jA,jC,jG,jI,Sha.numB_length,qDK]<;>omega))))) O ?_
 rintro m33 hw33
 refine yn 4 O<|yi C9 ?_
 exact yr<|vH hw0 (λ_ _ h=>h) (qB5 O O O) (qAf () O yd [0] O xC)
theorem qRM(F:Hp)(s l:xA)(v:Nat)(o r:xA)(h:Int)(p:xA)(hE:qBK v o r h p=0)(i:Nat)(ch pt:List xA)(hi:i<=63)(h35:ch.length=35)(hn6:pt.length<=6)(hc16: ∀s∈ch,s.length=16)(hp16: ∀s∈pt,s.length=16)(hl:(⟨s,0⟩:RS).textS=l)(he:(u1 s).textS=qA6 v o r h p)(hs:(u2 s).textS=sgB i ch pt)(h0:(u3 s).last=0):Ct prog 202 [Str s] [F] (λx:(yS×Nat×Hp)×(yS×Nat×Hp)=> .tuple #[.agg #[Str l,N64 (v),Str (o),Str (r),I (h),Str (p),I (i:Nat),.slice x.1.1 ch.length x.1.2.1,.slice x.2.1 pt.length x.2.2.1],I (0:Nat)]) (λx=>Row x.1.2.2 9 1 x.1.1 ch.length x.1.2.1 (qAG ch)/\Row x.2.2.2 9 1 x.2.1 pt.length x.2.2.1 (qAG pt)) (λx=> [F,x.1.2.2,x.2.2.2]):=by
 refine y7 func202 O ntmps202 O (λw0 hw0=>?_)
 change J _ [(0,_)] _ _ _
 refine yl λ_ C1=>yp (qAO (l:= [Str [],.int .u64 0,Str [],Str [],I 0,Str [],I 0,.slice none 0 0,.slice none 0 0]) O qLg O) O λg2 _=>?_
 change J _ _ _ [F,blk g2 [Str [],.int .u64 0,Str [],Str [],I 0,Str [],I 0,.slice none 0 0,.slice none 0 0] 108] _
 refine yh O<|yi C1 ?_
 refine yl λ_ C2=>yh O<|yp (qAJ O O ent (Ct.use (new:=λg=> [RSb g (⟨s,0⟩:RS)]) (λF' _=>(qE2 F' s).mono (φ2:=λ_=>True) (val2:=Ptr) (ms2:=λg=>F':: [RSb g (⟨s,0⟩:RS)]) id (λ_ _=>rfl) (λ_ h=>h) (λx w0 w _ h=>h.pick [1,0] xC)))) O ?_
 rintro g13 _
 change J _ ((13,Ptr g13)::_) _ [_,_,RSb g13 (⟨s,0⟩:RS)] _
 refine yh O<|yi C2 ?_
 refine yl λ_ C3=>yh O<|yp (qAJ O O ent (vR 2 (m':=λ_:Unit=>RSb g13 (u1 s)) (new:=λ_=> []) O (λF' _=>qGo F' g13 (⟨s,0⟩:RS)))) O λg15 _=>?_
 change J _ _ _ [_,_,RSb g13 (u1 s)] _
 refine yh O<|yp (qAJ O O ent (vR 2 (m':=λ_:Unit=>RSb g13 (u2 s)) (new:=λ_=> []) O (λF' _=>qGo F' g13 (u1 s)))) O λg17 _=>?_
 change J _ _ _ [_,_,RSb g13 (u2 s)] _
 refine yh O<|yp (qAJ O O ent (vR 2 (m':=λ_:Unit=>RSb g13 (u3 s)) (new:=λ_=> []) O (λF' _=>qGo F' g13 (u2 s)))) O λg19 _=>?_
 change J _ _ _ [_,_,RSb g13 (u3 s)] _
 refine yn 3 O<|yi C3 ?_
 refine ym λ_ C4=>yl λ_ C5=>yh O<|yp (qAJ O O ent (vR 2 (m':=λ_:Unit=>RSb g13 (u3 s)) (new:=λ_=> []) O (λF' _=>qJA F' g13 (u3 s)))) O λg21 _=>?_
 change J _ _ _ [_,_,_] _
 refine yh O<|yi C5 ?_
 refine yl λ_ C6=>yh O<|yj ((qAQ O O O).no (by rw [h0];exact λh=>h O)) O<|yi C6 ?_
 refine vC ?_
 refine yy C4 ?_
 refine yl λ_ C7=>yh O<|yp (qAZ O O (λF' hF=>qVf F' ((u1 s).textS) v o r h p hE he)) O λg28 _=>yn 3 O<|yp (qAO (l:= [.int .u64 0,Str [],Str [],I 0,Str []]) O qEt O) O λg9 _=>?_
 change J _ _ _ [_,_,_,blk g9 [.int .u64 0,Str [],Str [],I 0,Str []] 102] _
 refine vG (qAF (i:=3) (l:= [.int .u64 0,Str [],Str [],I 0,Str []]) (vs:= [N64 (v),Str (o),Str (r),I (h),Str (p)]) O O O O O qBF O O) O O λ_ _=>?_
 change J _ _ _ [_,_,_,blk g9 [N64 (v),Str (o),Str (r),I (h),Str (p)] 102] _
 refine yh O<|yi C7 ?_
 refine ym λ_ C8=>yl λ_ C9=>yh O<|yj ((qAQ O O O).no xC) O<|yi C9 ?_
 refine vC ?_
 refine yy C8 ?_
 refine yl λ_ C10=>yh O<|yp (qAJ O O ent (Ct.use (new:=λx:(yS×Nat×Hp)×(yS×Nat×Hp)=> [x.1.2.2,x.2.2.2]) (λF' hF=>qUB F' ((u2 s).textS) i ch pt hi h35 hn6 hc16 hp16 hs))) O ?_
 rintro⟨⟨A37,c37,m37⟩,⟨B37,d37,n37⟩⟩ ⟨h37,k37⟩
 change J _ ((37,.tuple #[.agg #[I (i:Nat),.slice A37 ch.length c37,.slice B37 pt.length d37],I 0])::_) _ [_,_,_,_,m37,n37] _
 refine yn 3 O<|yp (qAO (l:= [I 0,.slice none 0 0,.slice none 0 0]) O qIQ O) O λg11 _=>?_
 change J _ _ _ [_,_,_,_,_,_,blk g11 [I 0,.slice none 0 0,.slice none 0 0] 106] _
 refine vG (qAF (i:=6) (l:= [I 0,.slice none 0 0,.slice none 0 0]) (vs:= [I (i:Nat),.slice A37 ch.length c37,.slice B37 pt.length d37]) O O O O O qCg O O) O O λ_ _=>?_
 change J _ _ _ [_,_,_,_,_,_,blk g11 [I (i:Nat),.slice A37 ch.length c37,.slice B37 pt.length d37] 106] _
 refine yh O<|yi C10 ?_
 refine ym λ_ C11=>yl λ_ C12=>yh O<|yj ((qAQ O O O).no xC) O<|yi C12 ?_
 refine vC ?_
 refine yy C11 ?_
 refine yl λ_ C13=>yh O<|vT 3 qBz qBF O O O O O<|vT 6 qGe qCg O O O O O<|yj (qAK (l:= [(0,.tmp 44),(1,.tmp 45),(2,.tmp 46)]) (vs:= [Str ((⟨s,0⟩:RS).textS),.agg #[N64 (v),Str (o),Str (r),I (h),Str (p)],.agg #[I (i:Nat),.slice A37 ch.length c37,.slice B37 pt.length d37]]) (places:= [(0,1),(1,5),(6,3)]) (r:= [Str ((⟨s,0⟩:RS).textS),N64 (v),Str (o),Str (r),I (h),Str (p),I (i:Nat),.slice A37 ch.length c37,.slice B37 pt.length d37]) O O O qCN qLg (λ_=>xH) xH) O<|vG (qAF (i:=1) (l:= [Str [],.int .u64 0,Str [],Str [],I 0,Str [],I 0,.slice none 0 0,.slice none 0 0]) (vs:= [Str ((⟨s,0⟩:RS).textS),N64 (v),Str (o),Str (r),I (h),Str (p),I (i:Nat),.slice A37 ch.length c37,.slice B37 pt.length d37]) O O O O O qD6 O O) O O λ_ _=>?_
 change J _ _ _ [_,blk g2 [Str ((⟨s,0⟩:RS).textS),N64 (v),Str (o),Str (r),I (h),Str (p),I (i:Nat),.slice A37 ch.length c37,.slice B37 pt.length d37] 108,_,_,_,_,_] _
 refine yh O<|yi C13 ?_
 exact yr<|vH hw0 (λ_ _ h=>h) (rv2 O (RV.blkA 1 O O qGd qD6) O) (qAf ((A37,c37,m37),(B37,d37,n37)) (by rw [hl];rfl) ⟨h37,k37⟩ [0,4,5] O xC)
end Go.Proofs.YtmemgokiolfdoaaGreatDoor