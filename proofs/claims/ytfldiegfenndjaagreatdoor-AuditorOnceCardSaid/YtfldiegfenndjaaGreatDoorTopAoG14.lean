/- A part of the proof. -/
import Derived.Test.YtfldiegfenndjaaGreatDoorTopAoG8
import Derived.Test.YtfldiegfenndjaaGreatDoorTopAoG11
import Derived.Test.YtfldiegfenndjaaGreatDoorTopAoG6
import Derived.Test.YtfldiegfenndjaaGreatDoorTopAoG13
set_option linter.unusedSimpArgs false
set_option linter.unusedVariables false
namespace Go.Proofs.YtfldiegfenndjaaGreatDoor
open Go Go.Fw Go.Proofs.Tryz
set_option maxRecDepth 100000
set_option maxHeartbeats 1000000
namespace Sb
def isLf(s:List UInt8):Prop:=s≠ []∧s.take 1= [1]
instance (s:List UInt8):Decidable (isLf s):=by unfold isLf;infer_instance
def join(a b:List UInt8):List UInt8:=if a= [0]∧(b= [0]∨isLf b) then b else if b= [0]∧isLf a then a else 2::Sha.tagged 10 [a,b]
def leafN(k v:List UInt8):List UInt8:=1::Sha.tagged 9 [k,v]
end Sb
def cnt(d:Int):Nat:=if d<0∨4<d then 0 else 2^d.toNat
theorem qH0{d:Int}:cnt d=0↔(d<0∨4<d):=by
  unfold cnt
  split
  · exact⟨λ_=>by assumption,λ_=>rfl⟩
  · rename_i h
    exact⟨λe=>absurd e (Nat.ne_of_gt (zA _)),λe=>absurd e h⟩
theorem qRD(d:Int):cnt d≤16:=by
 unfold cnt
 split
 · omega
 · exact jd (jg (by decide) (show d.toNat≤4 by omega)) (by decide)
attribute [local irreducible] Sha.tagged Sb.join
theorem qHO(F:Hp)(s:List UInt8):Ct prog 214 [Str s] [F] (λ_:Unit=> .bool (decide (Sb.isLf s))) (λ_=>True) (λ_=> [F]):=by
 refine Ct.walk func214 rfl ntmps214 rfl (λw0 hw0=>?_)
 refine J.g λK1 hK1=>J.b V<|J.c hK1<|J.A 0 ?_
 refine J.g λK2 hK2=>J.b V<|J.f (qBv V V V) V<|J.b V<|J.c6 (d:=5) V (λh5=>?_) (λh5=>?_)
 ·
  refine J.b V<|J.T ((qA3 (l:=0) (h:=1) u9_ V V V V ⟨by omega,by have:s.length≠0:=λe=>h5 (je e);omega⟩).as (congrArg Str zW)) V<|J.T (qBb V V V) V<|J.j 2 V<|J.c hK2<|J.A 2 ?_
  exact J.D<|J.Z hw0 V () (congrArg Value.bool (decide_eq_decide.2 ⟨λh=>⟨h5,h⟩,λh=>h.2⟩)) trivial [0] V (by decide)
 refine J.j 5 V<|J.c hK2<|J.A 2 ?_
 exact J.D<|J.Z hw0 V () (congrArg Value.bool (decide_eq_false (λh=>h5 h.1)).symm) trivial [0] V (by decide)
theorem qFQ(F:Hp)(hK:KF F)(k v:List UInt8)(hk:k.length≤1048576)(hv:v.length≤1048576):Ct prog 176 [Str k,Str v] [F] (λ_:Unit=>Str (Sb.leafN k v)) (λ_=>True) (λ_=> [F]):=by
 refine Ct.walk func176 rfl ntmps176 rfl (λw0 hw0=>?_)
 refine J.g λK1 hK1=>J.b V<|J.c hK1<|J.E 0 1 ?_
 refine J.g λK2 hK2=>J.j 2 V<|J.q (qAJ (l:= [.tmp 5,.tmp 6]) (xs:= [[Str (k)],[Str (v)]]) V V V V qAh el9 V (by decide) (by decide) (by simp)) rfl λg7 _=>J.q (qAB rfl rfl ent44 (Ct.use0 (λF' hF=>qA7 F' (hK.mono (hF _ (by simp))) 9 (some ⟨g7,0,none⟩) 2 2 [k,v] ((slS [k,v] rfl).mono (hF (blk g7 (([k,v]:List (List UInt8)).map λs=>Str s) 9) (by simp))) (by simp;omega) (by decide)))) rfl λg8 _=>J.f ((qBT rfl rfl rfl (by simp only [jA,Sha.tagged_length];decide))) rfl<|J.b rfl<|J.c hK2<|J.A 4 ?_
 exact J.D<|J.Z hw0 V () V trivial [0] V (by decide)
theorem qCD(F:Hp)(hK:KF F)(a b:List UInt8)(ha:a.length≤1048576)(hb:b.length≤1048576):Ct prog 177 [Str a,Str b] [F] (λ_:Unit=>Str (Sb.join a b)) (λ_=>True) (λ_=> [F]):=by
 refine Ct.walk func177 rfl ntmps177 rfl (λw0 hw0=>?_)
 refine J.g λK1 hK1=>J.b V<|J.c hK1<|J.E 0 1 ?_
 refine J.k λK2 hK2=>J.a1<|J.g λK3 hK3=>J.b V<|J.f (qBb V V V) V<|J.b V<|J.c6 (d:=8) V (λh8=>?_) (λh8=>?_)
 ·
  refine J.b V<|J.T (qBb V V V) V<|J.b V<|J.c6 (d:=11) V (λh11=>?_) (λh11=>?_)
  ·
   refine J.j 5 V<|J.c hK3<|J.G 0 1 5 ?_
   refine J.c7 ?_
   refine J.g λK4 hK4=>J.j 2 V<|J.c hK4<|J.A 4 ?_
   exact J.D<|J.b6<|J.a7<|J.Z hw0 V () (congrArg Str (by unfold Sb.join;rw [if_pos ⟨h8,.inl h11⟩])) trivial [0] rfl (by decide)
  refine J.b V<|J.e0 (qAB V V ent214 (Ct.use0 (λF' hF=>qHO F' b))) V λg13 _=>J.j 3 V<|J.c hK3<|J.G 0 1 5 ?_
  refine J.a4 V (λh5=>?_) (λh5=>?_)
  ·
   refine J.g λK5 hK5=>J.j 2 V<|J.c hK5<|J.A 4 ?_
   exact J.D<|J.b6<|J.a7<|J.Z hw0 V () (congrArg Str (by unfold Sb.join;rw [if_pos ⟨h8,.inr h5⟩])) trivial [0] rfl (by decide)
  refine J.g λK6 hK6=>J.b V<|J.f (qBb V V V) V<|J.b V<|J.c6 (d:=20) V (λh20=>?_) (λh20=>?_)
  ·
   refine J.b V<|J.e0 (qAB V V ent214 (Ct.use0 (λF' hF=>qHO F' a))) V λg22 _=>J.j 2 V<|J.c hK6<|J.G 0 1 17 ?_
   refine J.a4 V (λh17=>?_) (λh17=>?_)
   ·
    refine J.g λK7 hK7=>J.j 2 V<|J.c hK7<|J.A 4 ?_
    exact J.D<|J.b6<|J.a7<|J.Z hw0 V () (absurd h20 h11) trivial [0] V (by decide)
   refine J.c0<|J.b0<|J.u (J.M hK2 ?_)
   refine J.E 0 1 ?_
   refine J.g λK8 hK8=>J.j 2 V<|J.q (qAJ (l:= [.tmp 25,.tmp 26]) (xs:= [[Str (a)],[Str (b)]]) V V V V qAh el9 V (by decide) (by decide) (by simp)) rfl λg27 _=>J.q (qAB rfl rfl ent44 (Ct.use0 (λF' hF=>qA7 F' (hK.mono (hF _ (by simp))) 10 (some ⟨g27,0,none⟩) 2 2 [a,b] ((slS [a,b] rfl).mono (hF (blk g27 (([a,b]:List (List UInt8)).map λs=>Str s) 9) (by simp))) (by simp;omega) (by decide)))) rfl λg28 _=>J.f ((qBT rfl rfl rfl (by simp only [jA,Sha.tagged_length];decide))) rfl<|J.b rfl<|J.c hK8<|J.A 4 ?_
   exact J.D<|J.Z hw0 V () (absurd h20 h11) trivial [0] V (by decide)
  refine J.j 4 V<|J.c hK6<|J.G 0 1 17 ?_
  refine J.a5 ?_
  refine J.c0<|J.b0<|J.u (J.M hK2 ?_)
  refine J.E 0 1 ?_
  refine J.g λK9 hK9=>J.j 2 V<|J.q (qAJ (l:= [.tmp 25,.tmp 26]) (xs:= [[Str (a)],[Str (b)]]) V V V V qAh el9 V (by decide) (by decide) (by simp)) rfl λg27 _=>J.q (qAB rfl rfl ent44 (Ct.use0 (λF' hF=>qA7 F' (hK.mono (hF _ (by simp))) 10 (some ⟨g27,0,none⟩) 2 2 [a,b] ((slS [a,b] rfl).mono (hF (blk g27 (([a,b]:List (List UInt8)).map λs=>Str s) 9) (by simp))) (by simp;omega) (by decide)))) rfl λg28 _=>J.f ((qBT rfl rfl rfl (by simp only [jA,Sha.tagged_length];decide))) rfl<|J.b rfl<|J.c hK9<|J.A 4 ?_
  exact J.D<|J.Z hw0 V () (congrArg Str (by unfold Sb.join;rw [if_neg (λh=>h.2.elim h11 h5),if_neg (λh=>h20 h.1)];rfl)) trivial [0] rfl (by decide)
 refine J.j 3 V<|J.d7 (Wan.un V V V V) V V ?_
 refine J.d7 (Wan.un V V V V) V V ?_
 refine J.j 3 V<|J.c hK3<|J.G 0 1 5 ?_
 refine J.a5 ?_
 refine J.g λK10 hK10=>J.b V<|J.f (qBb V V V) V<|J.b V<|J.c6 (d:=20) V (λh20=>?_) (λh20=>?_)
 ·
  refine J.b V<|J.e0 (qAB V V ent214 (Ct.use0 (λF' hF=>qHO F' a))) V λg22 _=>J.j 2 V<|J.c hK10<|J.G 0 1 17 ?_
  refine J.a4 V (λh17=>?_) (λh17=>?_)
  ·
   refine J.g λK11 hK11=>J.j 2 V<|J.c hK11<|J.A 4 ?_
   exact J.D<|J.b6<|J.a7<|J.Z hw0 V () (congrArg Str (by unfold Sb.join;rw [if_neg (λh=>h8 h.1),if_pos ⟨h20,h17⟩])) trivial [0] rfl (by decide)
  refine J.c0<|J.b0<|J.u (J.M hK2 ?_)
  refine J.E 0 1 ?_
  refine J.g λK12 hK12=>J.j 2 V<|J.q (qAJ (l:= [.tmp 25,.tmp 26]) (xs:= [[Str (a)],[Str (b)]]) V V V V qAh el9 V (by decide) (by decide) (by simp)) rfl λg27 _=>J.q (qAB rfl rfl ent44 (Ct.use0 (λF' hF=>qA7 F' (hK.mono (hF _ (by simp))) 10 (some ⟨g27,0,none⟩) 2 2 [a,b] ((slS [a,b] rfl).mono (hF (blk g27 (([a,b]:List (List UInt8)).map λs=>Str s) 9) (by simp))) (by simp;omega) (by decide)))) rfl λg28 _=>J.f ((qBT rfl rfl rfl (by simp only [jA,Sha.tagged_length];decide))) rfl<|J.b rfl<|J.c hK12<|J.A 4 ?_
  exact J.D<|J.Z hw0 V () (congrArg Str (by unfold Sb.join;rw [if_neg (λh=>h8 h.1),if_neg (λh=>h17 h.2)];rfl)) trivial [0] rfl (by decide)
 refine J.j 4 V<|J.c hK10<|J.G 0 1 17 ?_
 refine J.a5 ?_
 refine J.c0<|J.b0<|J.u (J.M hK2 ?_)
 refine J.E 0 1 ?_
 refine J.g λK13 hK13=>J.j 2 V<|J.q (qAJ (l:= [.tmp 25,.tmp 26]) (xs:= [[Str (a)],[Str (b)]]) V V V V qAh el9 V (by decide) (by decide) (by simp)) rfl λg27 _=>J.q (qAB rfl rfl ent44 (Ct.use0 (λF' hF=>qA7 F' (hK.mono (hF _ (by simp))) 10 (some ⟨g27,0,none⟩) 2 2 [a,b] ((slS [a,b] rfl).mono (hF (blk g27 (([a,b]:List (List UInt8)).map λs=>Str s) 9) (by simp))) (by simp;omega) (by decide)))) rfl λg28 _=>J.f ((qBT rfl rfl rfl (by simp only [jA,Sha.tagged_length];decide))) rfl<|J.b rfl<|J.c hK13<|J.A 4 ?_
 exact J.D<|J.Z hw0 V () (congrArg Str (by unfold Sb.join;rw [if_neg (λh=>h8 h.1),if_neg (λh=>h20 h.1)];rfl)) trivial [0] rfl (by decide)
end Go.Proofs.YtfldiegfenndjaaGreatDoor
namespace Go.Proofs.YtfldiegfenndjaaGreatDoor
open Go Go.Fw Go.Proofs.Tryz
set_option maxRecDepth 100000
set_option maxHeartbeats 1000000
namespace Sm
def kv:List UInt8→Nat
 | []=>0
 |b::r=>b.toNat*256^r.length+kv r
theorem kv_lt: ∀k:List UInt8,kv k<256^k.length
 | []=>Nat.one_pos
 |b::r=>by
  have h1:=kv_lt r
  have h2:=b.toNat_lt
  have h3:b.toNat*256^r.length≤255*256^r.length:=zF _ (by omega)
  rw [kv,jD,zC]
  omega
theorem qQ2: ∀{a b:List UInt8},a.length=b.length→kv a=kv b→a=b
 | [],[],_,_=>rfl
 | [],_::_,h,_=>by simp at h
 |_::_,[],h,_=>by simp at h
 |x::a,y::b,h,e=>by
  have hl:a.length=b.length:=by simpa using h
  rw [kv,kv,hl] at e
  have h1:=kv_lt a
  have h2:=kv_lt b
  rw [hl] at h1
  have hp:0<256^b.length:=Nat.pow_pos (by decide)
  have e1:x.toNat=y.toNat:=by
   have:=congrArg (· /256^b.length) e
   simp only [zU _ (256^b.length),Nat.mul_add_div hp,j8 h1,j8 h2,zO] at this
   exact this
  have e2:kv a=kv b:=by rw [e1] at e;omega
  rw [UInt8.toNat_inj.1 e1,qQ2 hl e2]
theorem qK8: ∀{a b:List UInt8},a.length=b.length→a<b→kv a<kv b
  | [],[],_,h=>absurd h (List.lt_irrefl _)
  | [],_::_,h,_=>by simp at h
  |_::_,[],h,_=>by simp at h
  |x::a,y::b,h,e=>by
    have hl:a.length=b.length:=by simpa using h
    have h1:=kv_lt a
    have h2:=kv_lt b
    rw [hl] at h1
    rw [kv,kv,hl]
    rcases List.cons_lt_cons_iff.1 e with h5|⟨h4,h5⟩
    · have:x.toNat+1≤y.toNat:=UInt8.lt_iff_toNat_lt.1 h5
      have h3:=zF (256^b.length) this
      rw [zV] at h3
      omega
    · have:=qK8 hl h5;rw [h4];omega
theorem qQ3: ∀{k:List UInt8} {q:Nat},q<k.length→(k.getD q 0).toNat=kv k/256^(k.length-1-q)%256
 | [],_,h=>by simp at h
 |b::r,0,_=>by
  have h1:=kv_lt r
  have hp:0<256^r.length:=Nat.pow_pos (by decide)
  have h2:=b.toNat_lt
  rw [kv,jD,Nat.add_sub_cancel,Nat.sub_zero,zU,Nat.mul_add_div hp,j8 h1,zO,ja (by omega)]
  rfl
 |b::r,q+1,h=>by
  have h':q<r.length:=by simpa using h
  rw [List.getD_cons_succ,qQ3 h',kv,jD]
  obtain ⟨m,hm⟩: ∃m,r.length=m+1+q:=⟨r.length-1-q,by omega⟩
  rw [show r.length+1-1-(q+1)=m by omega,show r.length-1-q=m by omega,hm,show m+1+q=m+(q+1) by omega,Nat.pow_add,show b.toNat*(256^m*256^(q+1))=256^m*(b.toNat*256^q*256) by rw [zC,Nat.mul_left_comm,Nat.mul_assoc],
   Nat.mul_add_div (Nat.pow_pos (by decide)),Nat.add_mod,Nat.mul_mod_left,jn,Nat.mod_mod]
def bit(k:List UInt8)(d:Nat):Nat:=if d<8*k.length then(k.getD (d/8) 0).toNat/2^(7-d%8)%2 else 0
theorem bit_le(k:List UInt8)(d:Nat):bit k d<2:=by unfold bit;split<;>omega
theorem qJz(x j:Nat)(h:j≤7):x%256/2^j%2=x/2^j%2:=by
 have h0:j=0∨j=1∨j=2∨j=3∨j=4∨j=5∨j=6∨j=7:=by omega
 rcases h0 with rfl|rfl|rfl|rfl|rfl|rfl|rfl|rfl<;>simp only [Nat.reducePow]<;>omega
theorem bit_kv{k:List UInt8}(h:k.length=16){d:Nat}(hd:d<128):bit k d=kv k/2^(127-d)%2:=by
 unfold bit
 rw [if_pos (by omega),qQ3 (by omega),h,qJz _ _ (by omega),zm,show(256:Nat)=2^8 from rfl,←Nat.pow_mul,←Nat.pow_add,show 8*(16-1-d/8)+(7-d%8)=127-d by omega]
theorem pre_succ(x f:Nat):x/2^f=2*(x/2^(f+1))+x/2^f%2:=by
 rw [zC,←zm];omega
abbrev PR:=List UInt8×List UInt8
def side(f:Nat)(b:Bool)(l:List PR):List PR:=l.filter λp=>decide (kv p.1/2^f%2=0)==b
def nd:Nat→List PR→List UInt8
 |_,[]=> [0]
 |_,[p]=>Sb.leafN p.1 p.2
 |0,_=> []
 |f+1,l=>Sb.join (nd f (side f true l)) (nd f (side f false l))
theorem nd_nil(f:Nat):nd f []= [0]:=by cases f<;>rfl
theorem nd_one(f:Nat)(p:PR):nd f [p]=Sb.leafN p.1 p.2:=by cases f<;>rfl
theorem nd_two(f:Nat){l:List PR}(h:2≤l.length):nd (f+1) l=Sb.join (nd f (side f true l)) (nd f (side f false l)):=by
 match l,h with
 |a::b::r,_=>rfl
def WF(f:Nat)(l:List PR):Prop:=l.Pairwise (λp q=>p.1≠q.1)∧(∀p∈l,p.1.length=16)∧ ∀p∈l,∀q∈l,kv p.1/2^f=kv q.1/2^f
theorem WF.nil(f:Nat):WF f []:=⟨List.Pairwise.nil,by simp,by simp⟩
theorem WF.side{f:Nat}{l:List PR}(h:WF (f+1) l)(b:Bool):WF f (side f b l):=by
 refine⟨h.1.sublist List.filter_sublist,λp hp=>h.2.1 p (List.mem_filter.1 hp).1,λp hp q hq=>?_⟩
 obtain ⟨h1,h2⟩:=List.mem_filter.1 hp
 obtain ⟨h3,h4⟩:=List.mem_filter.1 hq
 have h5:=h.2.2 p h1 q h3
 rw [beq_iff_eq] at h2 h4
 have e1:=pre_succ (kv p.1) f
 have e2:=pre_succ (kv q.1) f
 have e3:kv p.1/2^f%2=kv q.1/2^f%2:=by
  have h6:decide (kv p.1/2^f%2=0)=decide (kv q.1/2^f%2=0):=h2.trans h4.symm
  have h7:=decide_eq_decide.1 h6
  omega
 omega
theorem WF.short{l:List PR}(h:WF 0 l):l.length≤1:=by
 match l,h with
 | [],_=>exact jF _
 | [_],_=>exact jJ _
 |a::b::r,h=>
  exfalso
  have h1:=h.2.2 a (.head _) b (.tail _ (.head _))
  rw [Nat.pow_zero,Nat.div_one,Nat.div_one] at h1
  exact(List.pairwise_cons.1 h.1).1 b (.head _) (qQ2 ((h.2.1 a (.head _)).trans (h.2.1 b (.tail _ (.head _))).symm) h1)
theorem WF.top{l:List PR}(h1:l.Pairwise (λp q=>p.1≠q.1))(h2: ∀p∈l,p.1.length=16):WF 128 l:=
 ⟨h1,h2,λp hp q hq=>by
  have e1:=kv_lt p.1
  have e2:=kv_lt q.1
  rw [h2 p hp] at e1
  rw [h2 q hq] at e2
  rw [j8 (yC e1 (by decide)),j8 (yC e2 (by decide))]⟩
theorem WF.perm{f:Nat}{l l':List PR}(h:WF f l)(hp:l.Perm l'):WF f l':=
 ⟨(hp.pairwise_iff (λh=>h.symm)).1 h.1,λp q=>h.2.1 p (hp.mem_iff.2 q),λp hp1 q hq1=>h.2.2 p (hp.mem_iff.2 hp1) q (hp.mem_iff.2 hq1)⟩
theorem side_len(f:Nat)(l:List PR):(side f true l).length+(side f false l).length=l.length:=by
 induction l with
 |nil=>rfl
 |cons p r ih=>
  unfold side at ih⊢
  rw [jj,jj]
  rcases h:decide (kv p.1/2^f%2=0) with _|_
  · rw [if_neg (by decide),if_pos (by decide),jD,jD];omega
  · rw [if_pos (by decide),if_neg (by decide),jD,jD];omega
theorem nd_perm: ∀(f:Nat) {l l':List PR},WF f l→l.Perm l'→nd f l=nd f l'
 |f,[],l',_,hp=>by rw [hp.nil_eq]
 |f,[p],l',_,hp=>by rw [List.singleton_perm.1 hp]
 |0,a::b::r,l',h,hp=>by have:=h.short;simp at this
 |f+1,a::b::r,l',h,hp=>by
  have hl:=hp.length_eq
  rw [nd_two f (by simp),nd_two f (by rw [←hl];simp),nd_perm f (h.side true) (hp.filter _),nd_perm f (h.side false) (hp.filter _)];rfl
theorem qK6(k v:List UInt8):Sb.isLf (Sb.leafN k v):=⟨by simp [Sb.leafN],by simp [Sb.leafN]⟩
theorem qK5(k v:List UInt8):Sb.leafN k v≠ [0]:=λh=>by
 have:=(qK6 k v).2
 rw [h] at this;cases this
theorem qSo{a b:List UInt8}(h:a≠ [0]∨b≠ [0]):Sb.join a b≠ [0]:=by
  unfold Sb.join
  split
  · rename_i h1
    rcases h with h|h
    · exact absurd h1.1 h
    · exact h
  · split
    · rename_i h1
      rcases h with h|h
      · exact h
      · exact absurd h1.1 h
    · intro e;injection e with e _;cases e
theorem qSS: ∀(f:Nat) {l:List PR},WF f l→l≠ []→nd f l≠ [0]
  |f,[],_,h=>absurd rfl h
  |f,[p],_,_=>by rw [nd_one];exact qK5 _ _
  |0,a::b::r,h,_=>by have:=h.short;simp at this
  |f+1,a::b::r,h,_=>by
    rw [nd_two f (by simp)]
    refine qSo ?_
    have hl:=side_len f (a::b::r)
    simp only [jD] at hl
    by_cases h1:side f true (a::b::r)= []
    · refine .inr (qSS f (h.side false) λh2=>?_)
      rw [h1,h2] at hl;simp at hl
    · exact .inl (qSS f (h.side true) h1)
theorem nd_eq0{f:Nat}{l:List PR}(h:WF f l):nd f l= [0]↔l= []:=
 ⟨λe=>Decidable.by_contra λhn=>qSS f h hn e,λe=>by rw [e,nd_nil]⟩
theorem nd_small: ∀(f:Nat) (l:List PR),(nd f l).length≤17
  |f,[]=>by rw [nd_nil];decide
  |f,[p]=>by rw [nd_one];unfold Sb.leafN;rw [jD,Sha.tagged_length];decide
  |0,a::b::r=>jF _
  |f+1,a::b::r=>by
    rw [nd_two f (by simp)]
    unfold Sb.join
    split
    · exact nd_small f _
    · split
      · exact nd_small f _
      · rw [jD,Sha.tagged_length];decide
def Up(l:List PR):Prop:=l.Pairwise (λp q=>kv p.1<kv q.1)
theorem Up.sub{l l':List PR}(h:Up l)(hs:l'.Sublist l):Up l':=h.sublist hs
theorem up_bits{f:Nat}{l:List PR}(h:WF (f+1) l)(hu:Up l){k:Nat}(hk: ∀j (hj:j<l.length),j<k→kv l[j].1/2^f%2=0)(hn: ∀(hj:k<l.length),kv l[k].1/2^f%2≠0):l.take k=side f true l∧l.drop k=side f false l:=by
  have h1: ∀p∈l.take k,kv p.1/2^f%2=0:=λp hp=>by
    obtain ⟨j,hj,rfl⟩:=List.getElem_of_mem hp
    rw [jE] at hj
    rw [List.getElem_take]
    exact hk j (by omega) (by omega)
  have h2: ∀p∈l.drop k,kv p.1/2^f%2≠0:=λp hp=>by
    obtain ⟨j,hj,rfl⟩:=List.getElem_of_mem hp
    rw [jL] at hj
    rw [List.getElem_drop]
    have hkl:k<l.length:=by omega
    have hb:=hn hkl
    rcases Nat.eq_zero_or_pos j with rfl|hj0
    · exact hb
    · have hlt:kv l[k].1<kv l[k+j].1:=List.pairwise_iff_getElem.1 hu k (k+j) hkl (by omega) (by omega)
      have e:=h.2.2 _ (jc hkl) _ (jc (show k+j<l.length by omega))
      have e1:=pre_succ (kv l[k].1) f
      have e2:=pre_succ (kv l[k+j].1) f
      have e3:=Nat.div_le_div_right (c:=2^f) (Nat.le_of_lt hlt)
      omega
  have h3:side f true l=side f true (l.take k)++side f true (l.drop k):=by unfold side;rw [←zM,jy]
  have h4:side f false l=side f false (l.take k)++side f false (l.drop k):=by unfold side;rw [←zM,jy]
  constructor
  · rw [h3,show side f true (l.take k)=l.take k from List.filter_eq_self.2 λp hp=>by rw [decide_eq_true (h1 p hp)];rfl,show side f true (l.drop k)= [] from List.filter_eq_nil_iff.2 λp hp=>by rw [decide_eq_false (h2 p hp)];simp,jS]
  · rw [h4,show side f false (l.take k)= [] from List.filter_eq_nil_iff.2 λp hp=>by rw [decide_eq_true (h1 p hp)];simp,show side f false (l.drop k)=l.drop k from List.filter_eq_self.2 λp hp=>by rw [decide_eq_false (h2 p hp)];rfl,jp]
def putP:List PR→List UInt8→List UInt8→List PR
 | [],k,v=> [(k,v)]
 |p::r,k,v=>if p.1=k then(k,v)::r else p::putP r k v
def getP:List PR→List UInt8→Option (List UInt8)
 | [],_=>none
 |p::r,k=>if p.1=k then some p.2 else getP r k
def setP(l:List PR)(k v:List UInt8):List PR:=l.filter (λp=>decide (p.1≠k))++ [(k,v)]
def Once(l:List PR):Prop:=l.Pairwise (λp q=>p.1≠q.1)
theorem Once.perm{l l':List PR}(h:Once l)(hp:l.Perm l'):Once l':=(hp.pairwise_iff (λh=>h.symm)).1 h
theorem qOL{l:List PR}{k:List UInt8}(h: ∀p∈l,p.1≠k):l.filter (λp=>decide (p.1≠k))=l:=List.filter_eq_self.2 λp hp=>decide_eq_true (h p hp)
theorem putP_perm: ∀{l:List PR} (k v:List UInt8),Once l→(putP l k v).Perm (setP l k v)
  | [],k,v,_=>List.Perm.refl _
  |p::r,k,v,h=>by
    obtain ⟨h1,h2⟩:=List.pairwise_cons.1 h
    unfold putP setP
    by_cases e:p.1=k
    · rw [if_pos e,jj,if_neg (by simp [e]),qOL (λq hq e2=>h1 q hq (e.trans e2.symm))]
      exact(ju _ _).symm
    · rw [if_neg e,jj,if_pos (by simp [e]),List.cons_append]
      exact(putP_perm k v h2).cons p
theorem setP_perm{l l':List PR}(k v:List UInt8)(h:l.Perm l'):(setP l k v).Perm (setP l' k v):=(h.filter _).append_right _
theorem setP_once{l:List PR}(k v:List UInt8)(h:Once l):Once (setP l k v):=by
 unfold setP Once
 rw [jQ]
 refine⟨h.sublist List.filter_sublist,by simp,λp hp q hq=>?_⟩
 rw [List.mem_singleton.1 hq]
 simpa using (List.mem_filter.1 hp).2
theorem setP_mem{l:List PR}{k v:List UInt8}{p:PR}(h:p∈setP l k v):p∈l∨p=(k,v):=by
 unfold setP at h
 rcases List.mem_append.1 h with h|h
 · exact .inl (List.mem_filter.1 h).1
 · exact .inr (List.mem_singleton.1 h)
theorem getP_mem{l:List PR}(h:Once l){p:PR}(hp:p∈l):getP l p.1=some p.2:=by
 induction l with
 |nil=>cases hp
 |cons q r ih=>
  obtain ⟨h1,h2⟩:=List.pairwise_cons.1 h
  rcases List.mem_cons.1 hp with rfl|hp
  · rw [getP,if_pos rfl]
  · rw [getP,if_neg (h1 p hp),ih h2 hp]
theorem getP_some{l:List PR}{k v:List UInt8}(h:getP l k=some v):(k,v)∈l:=by
  induction l with
  |nil=>cases h
  |cons p r ih=>
    rw [getP] at h
    split at h
    · rename_i e
      injection h with h
      rw [←e,←h];exact .head _
    · exact .tail _ (ih h)
theorem putP_len(l:List PR)(k v:List UInt8):(putP l k v).length≤l.length+1:=by
 induction l with
 |nil=>exact jJ _
 |cons p r ih=>
  rw [putP]
  split
  · simp
  · simp only [jD];omega
def srt(l:List (List UInt8)):List (List UInt8):=l.mergeSort (λx y=>decide (x≤y))
theorem qDb(l:List (List UInt8)):(srt l).Perm l:=List.mergeSort_perm l _
theorem srt_len(l:List (List UInt8)):(srt l).length=l.length:=(qDb l).length_eq
theorem qM6(l:List (List UInt8)):(srt l).Pairwise (λx y=>x≤y):=by
 have h:=List.pairwise_mergeSort (le:=λ(x y:List UInt8)=>decide (x≤y)) (λa b c h1 h2=>by
  simp only [decide_eq_true_eq] at*;exact List.le_trans h1 h2) (λa b=>by
  simp only [Bool.or_eq_true,decide_eq_true_eq];exact List.le_total a b) l
 exact h.imp λh=>by simpa using h
theorem srt_eq{l l':List (List UInt8)}(h:l.Perm l'):srt l=srt l':=
 List.Perm.eq_of_pairwise (λa b _ _ h1 h2=>List.le_antisymm h1 h2) (qM6 l) (qM6 l') ((qDb l).trans (h.trans (qDb l').symm))
def keysS(l:List PR):List (List UInt8):=srt (l.map (·.1))
theorem keysS_len(l:List PR):(keysS l).length=l.length:=by unfold keysS;rw [srt_len,jK]
theorem keysS_mem{l:List PR}{k:List UInt8}:k∈keysS l↔ ∃v,(k,v)∈l:=by
 unfold keysS
 rw [(qDb _).mem_iff,zd]
 exact⟨λ⟨p,hp,e⟩=>⟨p.2,e▸hp⟩,λ⟨v,hv⟩=>⟨_,hv,rfl⟩⟩
def prs(l:List PR)(ks:List (List UInt8)):List PR:=ks.map λk=>(k,(getP l k).getD [])
theorem qPV{l l':List PR}(h:Once l)(hs: ∀p∈l',p∈l):prs l (l'.map (·.1))=l':=by
 unfold prs
 rw [zy]
 conv=>rhs;rw [←List.map_id l']
 refine List.map_congr_left λp hp=>?_
 show(p.1,(getP l p.1).getD [])=p
 rw [getP_mem h (hs p hp)];rfl
theorem prs_perm{l:List PR}(h:Once l):(prs l (keysS l)).Perm l:=by
 have h1:(prs l (keysS l)).Perm (prs l (l.map (·.1))):=(qDb _).map _
 rwa [qPV h (λ_ h=>h)] at h1
theorem qMI{l:List PR}(h:Once l):(keysS l).Pairwise (· ≠ ·):=((qDb _).symm.pairwise_iff (λh=>h.symm)).1 (List.pairwise_map.2 h)
theorem qP0{l:List PR}(h:Once l):(keysS l).Pairwise (· < ·):=by
 have h1:=qM6 (l.map (·.1))
 exact(h1.and (qMI h)).imp λ⟨h1,h2⟩=>Decidable.by_contra λh3=>h2 (List.le_antisymm h1 (List.not_lt.1 h3))
theorem prs_up{l:List PR}(h:Once l)(hl: ∀p∈l,p.1.length=16):Up (prs l (keysS l)):=by
 unfold Up prs
 rw [List.pairwise_map]
 refine(qP0 h).imp_of_mem λha hb hab=>?_
 obtain ⟨v,hv⟩:=keysS_mem.1 ha
 obtain ⟨u,hu⟩:=keysS_mem.1 hb
 exact qK8 ((hl _ hv).trans (hl _ hu).symm) hab
theorem prs_take(l:List PR)(ks:List (List UInt8))(k:Nat):prs l (ks.take k)=(prs l ks).take k:=by unfold prs;rw [z8]
theorem prs_drop(l:List PR)(ks:List (List UInt8))(k:Nat):prs l (ks.drop k)=(prs l ks).drop k:=by unfold prs;rw [List.map_drop]
theorem prs_filter(l:List PR)(ks:List (List UInt8))(q:List UInt8→Bool):prs l (ks.filter q)=(prs l ks).filter (λp=>q p.1):=by
 unfold prs
 rw [List.filter_map];rfl
theorem prs_len(l:List PR)(ks:List (List UInt8)):(prs l ks).length=ks.length:=by unfold prs;rw [jK]
theorem prs_get(l:List PR)(ks:List (List UInt8)){j:Nat}(h:j<(prs l ks).length)(h':j<ks.length):(prs l ks)[j]=(ks[j],(getP l ks[j]).getD []):=List.getElem_map ..
def belowB(k b:List UInt8)(d:Nat):Bool:=(List.range d).all λi=>decide (bit k i=bit b i)
theorem belowB_succ(k b:List UInt8)(d:Nat):belowB k b (d+1)=(belowB k b d&&decide (bit k d=bit b d)):=by
 unfold belowB;rw [zB,List.all_append];simp
theorem belowB_no{k b:List UInt8}{d i:Nat}(hi:i<d)(h:bit k i≠bit b i):belowB k b d=false:=by
 rw [Bool.eq_false_iff]
 intro h1
 exact h (of_decide_eq_true (List.all_eq_true.1 h1 i (List.mem_range.2 hi)))
theorem belowB_yes{k b:List UInt8}{d:Nat}(h: ∀i<d,bit k i=bit b i):belowB k b d=true:=List.all_eq_true.2 λi hi=>decide_eq_true (h i (List.mem_range.1 hi))
theorem belowB_kv{k b:List UInt8}(hk:k.length=16)(hb:b.length=16): ∀{d:Nat},d≤128→(belowB k b d=true↔kv k/2^(128-d)=kv b/2^(128-d))
 |0,_=>by
  have h1:=kv_lt k
  have h2:=kv_lt b
  rw [hk] at h1
  rw [hb] at h2
  rw [j8 (yC h1 (by decide)),j8 (yC h2 (by decide))]
  exact⟨λ_=>rfl,λ_=>rfl⟩
 |d+1,hd=>by
  have ih:=belowB_kv hk hb (d:=d) (by omega)
  have e1:=pre_succ (kv k) (127-d)
  have e2:=pre_succ (kv b) (127-d)
  rw [show 127-d+1=128-d by omega] at e1 e2
  rw [belowB_succ,jh,ih,decide_eq_true_eq,bit_kv hk (by omega),bit_kv hb (by omega),show 128-(d+1)=127-d by omega]
  constructor
  · rintro⟨h1,h2⟩;omega
  · intro h1;omega
def bel(l:List PR)(b:List UInt8)(d:Nat):List PR:=l.filter λp=>belowB p.1 b d
theorem bel_wf{l:List PR}(h:Once l)(hl: ∀p∈l,p.1.length=16){b:List UInt8}(hb:b.length=16){d:Nat}(hd:d≤128):WF (128-d) (bel l b d):=
 ⟨h.sublist List.filter_sublist,λp hp=>hl p (List.mem_filter.1 hp).1,λp hp q hq=>by
  obtain ⟨h1,h2⟩:=List.mem_filter.1 hp
  obtain ⟨h3,h4⟩:=List.mem_filter.1 hq
  rw [(belowB_kv (hl p h1) hb hd).1 h2,(belowB_kv (hl q h3) hb hd).1 h4]⟩
theorem bel_zero(l:List PR)(b:List UInt8):bel l b 0=l:=List.filter_eq_self.2 λ_ _=>rfl
theorem qST{f:Nat}{l:List PR}(h:WF (f+1) l):Sb.join (nd f (side f true l)) (nd f (side f false l))=nd (f+1) l:=by
  match l,h with
  | [],_=>rw [show side f true []= [] from rfl,show side f false []= [] from rfl,nd_nil,nd_nil];rfl
  | [p],_=>
    have hl:=qK6 p.1 p.2
    rcases hb:decide (kv p.1/2^f%2=0) with _|_
    · rw [show side f true [p]= [] by unfold side;rw [jj,if_neg (by rw [hb];decide)];rfl,show side f false [p]= [p] by unfold side;rw [jj,if_pos (by rw [hb];decide)];rfl,nd_nil,nd_one,nd_one]
      unfold Sb.join
      rw [if_pos ⟨rfl,.inr hl⟩]
    · rw [show side f true [p]= [p] by unfold side;rw [jj,if_pos (by rw [hb];decide)];rfl,show side f false [p]= [] by unfold side;rw [jj,if_neg (by rw [hb];decide)];rfl,nd_nil,nd_one,nd_one]
      unfold Sb.join
      rw [if_neg (λh=>qK5 _ _ h.1),if_pos ⟨rfl,hl⟩]
  |a::b::r,_=>rfl
theorem bel_half{l:List PR}(hl: ∀p∈l,p.1.length=16){b c:List UInt8}(hb:b.length=16)(hc:c.length=16){d:Nat}(hd:d<128)(t:Bool)(h:kv c/2^(127-d)=2*(kv b/2^(128-d))+(if t=true then 0 else 1)):
    bel l c (d+1)=side (127-d) t (bel l b d):=by
  unfold bel side
  rw [ze]
  refine zZ λp hp=>?_
  have h1:=belowB_kv (hl p hp) hc (d:=d+1) (by omega)
  have h2:=belowB_kv (hl p hp) hb (d:=d) (by omega)
  have e1:=pre_succ (kv p.1) (127-d)
  rw [show 127-d+1=128-d by omega] at e1
  rw [show 128-(d+1)=127-d by omega,h] at h1
  rw [Bool.eq_iff_iff,h1,jh,h2,beq_iff_eq]
  cases t
  · rw [if_neg (by decide),decide_eq_false_iff_not]
    constructor
    · intro h;omega
    · rintro⟨h3,h4⟩;omega
  · rw [if_pos rfl,decide_eq_true_eq]
    constructor
    · intro h;omega
    · rintro⟨h3,h4⟩;omega
def ndB(l:List PR)(b:List UInt8)(d:Nat):List UInt8:=nd (128-d) (bel l b d)
theorem ndB_join{l:List PR}(h:Once l)(hl: ∀p∈l,p.1.length=16){b c e:List UInt8}(hb:b.length=16)(hc:c.length=16)(he:e.length=16){d:Nat}(hd:d<128)
    (h0:kv c/2^(127-d)=2*(kv b/2^(128-d))) (h1:kv e/2^(127-d)=2*(kv b/2^(128-d))+1):Sb.join (ndB l c (d+1)) (ndB l e (d+1))=ndB l b d:=by
  unfold ndB
  have hw:=bel_wf h hl hb (d:=d) (by omega)
  rw [bel_half hl hb hc hd true (by rw [if_pos rfl];exact h0),bel_half hl hb he hd false (by rw [if_neg (by decide)];exact h1),show 128-d=127-d+1 by omega,show 128-(d+1)=127-d by omega]
  exact qST (by rw [show 127-d+1=128-d by omega];exact hw)
theorem ndB_perm{l l':List PR}(h:Once l)(hl: ∀p∈l,p.1.length=16)(hp:l.Perm l'){b:List UInt8}(hb:b.length=16){d:Nat}(hd:d≤128):ndB l b d=ndB l' b d:=
 nd_perm _ (bel_wf h hl hb hd) (hp.filter _)
end Sm
end Go.Proofs.YtfldiegfenndjaaGreatDoor
namespace Go.Proofs.YtfldiegfenndjaaGreatDoor
open Go Go.Fw Go.Proofs.Tryz
set_option maxRecDepth 100000
set_option maxHeartbeats 1000000
structure Pr where
 k:List UInt8
 v:List UInt8
 deriving DecidableEq
def toP(p:Pr):Sm.PR:=(p.k,p.v)
abbrev ssM(l:List Sm.PR):MP:=l.map λp=>(p.1,Str p.2)
theorem qJ4: ∀(l:List Sm.PR) (k:List UInt8),qOF (ssM l) k=(Sm.getP l k).map Str
 | [],_=>rfl
 |p::r,k=>by
  show(if p.1=k then some (Str p.2) else qOF (ssM r) k)=_
  rw [Sm.getP]
  by_cases h:p.1=k
  · rw [if_pos h,if_pos h];rfl
  · rw [if_neg h,if_neg h];exact qJ4 r k
theorem qNQ: ∀(l:List Sm.PR) (k v:List UInt8),qOv (ssM l) k (Str v)=ssM (Sm.putP l k v)
 | [],_,_=>rfl
 |p::r,k,v=>by
  show(if p.1=k then(k,Str v)::ssM r else(p.1,Str p.2)::qOv (ssM r) k (Str v))=_
  rw [Sm.putP]
  by_cases h:p.1=k
  · rw [if_pos h,if_pos h];rfl
  · rw [if_neg h,if_neg h,qNQ r k v];rfl
theorem qOH(o:Option (List UInt8)):(o.map Str).getD (Str [])=Str (o.getD []):=by cases o<;>rfl
def qDm(m:Hp)(g:Nat)(l:List Sm.PR):Prop:= ∃gm,qAP m ⟨g,0,none⟩ [.map (some gm)]∧qFM m gm (ssM l)
def qJO(m:Hp)(g:Nat)(l:List Sm.PR):Prop:= ∃gm mm,m=U [blk g [.map (some gm)] 166,mm]∧Dj (blk g [.map (some gm)] 166) mm∧qQc mm gm (ssM l)
theorem qDm.mono{m m':Hp}{g:Nat}{l:List Sm.PR}(h:qDm m g l)(hl:Le m m'):qDm m' g l:=by
 obtain ⟨gm,h1,h2⟩:=h
 exact⟨gm,h1.mono hl,h2.mono hl⟩
theorem qJO.at{m:Hp}{g:Nat}{l:List Sm.PR}(h:qJO m g l):qDm m g l:=by
 obtain ⟨gm,mm,rfl,hd,h2⟩:=h
 have hdd:Djs [blk g [.map (some gm)] 166,mm]:=qAW.2 (by simpa using hd)
 exact⟨gm,qAP.blk0.mono (qG2 hdd (.head _)),h2.at.mono (qG2 hdd (.tail _ (.head _)))⟩
namespace Sha
end Sha
attribute [local irreducible] Sha.tagB
end Go.Proofs.YtfldiegfenndjaaGreatDoor
namespace Go.Proofs.YtfldiegfenndjaaGreatDoor
open Go Go.Fw Go.Proofs.Tryz
set_option maxRecDepth 100000
set_option maxHeartbeats 1000000
theorem ent147:qAE prog 147:=qAE.of func147 rfl (by kernel_rfl)
theorem gsome{s:List UInt8}{i:Nat}(h:i<s.length):s[i]?=some (s.getD i 0):=qAd 0 h
theorem qFC(F:Hp)(k:List UInt8)(hk:k.length≤1000000)(d:Nat)(hd:d≤1000000):Ct prog 147 [Str (k),I ((d:Nat):Int)] [F] (λ_:Unit=>I ((Sm.bit k d:Nat):Int)) (λ_=>True) (λ_=> [F]):=by
 refine Ct.walk func147 rfl ntmps147 rfl (λw0 hw0=>?_)
 refine J.g λK1 hK1=>J.b V<|J.c hK1<|J.E 0 1 ?_
 refine J.k λK2 hK2=>J.g λK3 hK3=>J.b V<|J.f (qAT V V V) V<|J.b V<|J.c6 (d:=7) V (λh7=>?_) (λh7=>?_)
 ·
  refine J.j 6 V<|J.c hK3<|J.G 0 1 13 ?_
  refine J.c7 ?_
  refine J.g λK4 hK4=>J.b V<|J.c hK4<|J.A 4 ?_
  exact J.D<|J.a7<|J.Z hw0 V () (by unfold Sm.bit;rw [if_neg (by omega)];rfl) trivial [0] rfl (by decide)
 refine J.j 2 V<|J.T (qAg u9_ V V) V<|J.T ((qB6 V V V (by first|omega|(have h8:=(UInt8.ofNat ((k.getD (d/8) 0).toNat/2^(7-d%8))).toNat_lt;omega))).nat (8*k.length) (by omega)) V<|J.T (qA9 V V V) V<|J.b V<|J.c hK3<|J.G 0 1 13 ?_
 refine J.a4 V (λh13=>?_) (λh13=>?_)
 ·
  refine J.g λK5 hK5=>J.b V<|J.c hK5<|J.A 4 ?_
  exact J.D<|J.a7<|J.Z hw0 V () (by unfold Sm.bit;rw [if_neg (by omega)];rfl) trivial [0] rfl (by decide)
 refine J.W hK2<|J.E 0 1 ?_
 refine J.k λK6 hK6=>?_
 have hb8:((k.getD (d/8) 0).toNat/2^(7-d%8))<256:=zG (za _ _) (k.getD (d/8) 0).toNat_lt
 have hbe:(UInt8.ofNat ((k.getD (d/8) 0).toNat/2^(7-d%8))).toNat&&&1=Sm.bit k d:=by
  unfold Sm.bit
  rw [if_pos (by omega),UInt8.toNat_ofNat_of_lt' hb8,Nat.and_one_is_mod]
 refine J.H<|J.j 2 V<|J.f ((qGv V V V (by first|omega|(have h8:=(UInt8.ofNat ((k.getD (d/8) 0).toNat/2^(7-d%8))).toNat_lt;omega))).nat (d/8) (by omega)) V<|J.f (qBK u9_ V V V (gsome (by omega))) V<|J.b V<|J.f ((qKo V V V (by first|omega|(have h8:=(UInt8.ofNat ((k.getD (d/8) 0).toNat/2^(7-d%8))).toNat_lt;omega))).nat (d%8) (by omega)) V<|J.f ((qAn V V V (by omega)).nat (7-d%8) (by omega)) V<|J.f ((qJq V V V).as (v':=B8 (UInt8.ofNat ((k.getD (d/8) 0).toNat/2^(7-d%8)))) (by rw [jl (by omega)])) rfl<|J.f (qBO rfl rfl u5_ u3_) rfl<|J.f (qJt (a:=(UInt8.ofNat ((k.getD (d/8) 0).toNat/2^(7-d%8))).toNat) (b:=1) rfl rfl rfl (by first|omega|(have h8:=(UInt8.ofNat ((k.getD (d/8) 0).toNat/2^(7-d%8))).toNat_lt;omega))) rfl<|J.b rfl<|J.c hK6<|J.A 4 ?_
 exact J.D<|J.Z hw0 V () (by rw [hbe]) trivial [0] rfl (by decide)
theorem qEb(F:Hp)(k:List UInt8)(hk:k.length≤1000000)(b:List UInt8)(hb:b.length≤1000000)(d:Int):Ct prog 100 [Str (k),Str (b),I (d)] [F] (λ_:Unit=> .bool (Sm.belowB k b (min d.toNat 128))) (λ_=>True) (λ_=> [F]):=by
 refine Ct.walk func100 rfl ntmps100 rfl (λw0 hw0=>?_)
 refine J.g λK1 hK1=>J.b V<|J.c hK1<|J.G 0 1 2 ?_
 refine J.k λK2 hK2=>J.g λK3 hK3=>J.b V<|J.f ((qGw V V V).nat (d.toNat) (by omega)) V<|J.f ((qDq V V V).nat (min d.toNat 128) (by omega)) V<|J.b V<|J.c hK3<|J.O 0 1 10 11 ?_
 refine J.a1<|J.c1 (X:=Nat) (λζ=> [(0,Str (k)),(1,Str (b)),(10,I ((min d.toNat 128:Nat):Int)),(11,I ((ζ:Nat):Int))]) (λζ=> [F]) (λζ=>ζ≤min d.toNat 128∧ ∀j<ζ,Sm.bit k j=Sm.bit b j) (λζ=>min d.toNat 128-ζ) 0 (⟨jF _,λj h=>absurd h (jz j)⟩) ⟨V,V,V,V,trivial⟩ (λ_ h=>h) ?_
 rintro i ⟨hi,hs⟩ I0 hI0
 refine J.g λK4 hK4=>J.f (qAT V V V) V<|J.c hK4<|J.a0 0 1 10 11 12 ?_
 refine J.k λK5 hK5=>J.a4 V (λh12=>?_) (λh12=>?_)
 ·
  refine J.W hK5<|J.O 0 1 10 11 ?_
  refine J.k λK6 hK6=>J.a1<|J.g λK7 hK7=>J.j 2 V<|J.c hK7<|J.a0 0 1 7 10 11 ?_
  refine J.g λK8 hK8=>J.j 2 V<|J.q (qAB V V ent147 (Ct.use0 (λF' hF=>qFC F' k (by first|omega|exact hsm _) i (by omega)))) V λg16 _=>J.j 2 V<|J.q (qAB V V ent147 (Ct.use0 (λF' hF=>qFC F' b (by first|omega|exact hsm _) i (by omega)))) V λg19 _=>J.f (qAU V V V) V<|J.c hK8<|J.a0 0 1 10 11 20 ?_
  refine J.a4 V (λh20=>?_) (λh20=>?_)
  ·
   refine J.g λK9 hK9=>J.b V<|J.c hK9<|J.A 6 ?_
   exact J.D<|J.b6<|J.a7<|J.a7<|J.b6<|J.a7<|J.Z hw0 V () (by rw [Sm.belowB_no (i:=i) (by omega) (by omega)]) trivial [0] rfl (by decide)
  refine J.c0<|J.b0<|J.u (J.M hK6 ?_)
  refine J.O 0 1 10 11 ?_
  exact J.H<|J.f ((qAQ V V V (by omega)).nat (i+1) (by omega)) V<|J.b V<|J.a8<|J.u<|J.a9 (i+1) (λη (hη:_∧min d.toNat 128-η<min d.toNat 128-i)=>hI0 η hη.1 hη.2) ⟨⟨by omega,λj hj=>by rcases Nat.lt_succ_iff_lt_or_eq.1 hj with h|rfl;exact hs j h;omega⟩,by first|omega|(dsimp only;omega)⟩ ⟨rfl,rfl,rfl,rfl,trivial⟩ (λ_ h=>h)
 refine J.b8<|J.a6<|J.a6<|J.b9 ?_
 refine J.u (J.M hK2 ?_)
 refine J.d0 [] trivial<|J.g λK10 hK10=>J.b V<|J.c hK10<|J.A 6 ?_
 exact J.D<|J.Z hw0 V () (by rw [Sm.belowB_yes (λj hj=>hs j (by omega))]) trivial [0] rfl (by decide)
theorem qRY(F:Hp):Ct prog 31 [] [F] (λx:Nat×Hp=>Ptr x.1) (λx=>qJO x.2 x.1 ([])) (λx=> [x.2,F]):=by
 refine Ct.walk func31 rfl ntmps31 rfl (λw0 hw0=>?_)
 refine J.g λK1 hK1=>J.b V<|J.c hK1<|J.d0 [] trivial<|J.g λK2 hK2=>J.q (qEq V) V ?_
 rintro g1 _
 refine J.f (qAK (places:= [(0,1)]) (r:= [.map (some g1)]) V V V qJd zeroValue166 (λ_=>by kernel_rfl) V) V<|J.q (qAi V V V) V λg3 _=>J.b V<|J.c hK2<|J.A 0 ?_
 exact J.D<|J.b4 hw0 (λ_ _ h=>h) (qJW V V) (qDp (g3,U [blk g3 [.map (some g1)] 166,qAM g1 (.map #[] 0)]) (V) (λhd=>⟨g1,qAM g1 (.map #[] 0),V,hd,(qQc.nil g1)⟩) [2,1,0] V V (by decide))
theorem qRa(F:Hp)(g:Nat)(l:List Sm.PR)(hT:qDm F g l)(k:List UInt8):Ct prog 102 [Ptr g,Str (k)] [F] (λ_:Unit=> .tuple #[Str ((Sm.getP l k).getD []),.bool ((Sm.getP l k).isSome)]) (λ_=>True) (λ_=> [F]):=by
 have hT0:=hT
 obtain ⟨gm,hc,hm⟩:=hT0
 refine Ct.walk func102 rfl ntmps102 rfl (λw0 hw0=>?_)
 refine J.g λK1 hK1=>J.j 2 V<|J.c hK1<|J.E 0 1 ?_
 refine J.k λK2 hK2=>J.g λK3 hK3=>J.b V<|J.f ((qA1 qTK V V V).as (v':= .bool false) V) V<|J.c hK3<|J.G 0 1 9 ?_
 refine J.a5 ?_
 refine J.W hK2<|J.E 0 1 ?_
 refine J.g λK4 hK4=>J.b V<|J.f (qAC V V) V<|J.a2 0 qJd sizeOf164 V V V V V<|J.f (qAL V V isAgg164 (m:=F) (by simp) (hc)) rfl<|J.b rfl<|J.f ((qL6 rfl rfl rfl qMq u9_ e9_ (m:=F) (by simp) hm).as (v':= .tuple #[Str ((Sm.getP l k).getD []),.bool ((Sm.getP l k).isSome)]) (by rw [qJ4,qOH,Option.isSome_map])) rfl<|J.j 5 rfl<|J.c hK4<|J.E 6 7 ?_
 refine J.g λK5 hK5=>J.j 4 V<|J.c hK5<|J.E 4 5 ?_
 exact J.D<|J.b4 hw0 (λ_ _ h=>h) (qDe V V V) (qAj () V trivial [0] V (by decide))
theorem qMv(F m:Hp)(g:Nat)(l:List Sm.PR)(hb:qJO m g l)(k v:List UInt8)(hk:k.length=16):Ct prog 57 [Ptr g,Str (k),Str (v)] [m,F] (λ_:Hp=>I ((0:Nat):Int)) (λm'=>qJO m' g (Sm.putP l k v)) (λm'=> [m',F]):=by
 obtain ⟨gm,mm,rfl,hd,hmp⟩:=hb
 refine Ct.walk func57 rfl ntmps57 rfl (λw0 hw0=>?_)
 refine J.g5 hd ?_
 refine J.g λK1 hK1=>J.b V<|J.c hK1<|J.G 0 1 2 ?_
 refine J.k λK2 hK2=>J.a1<|J.g λK3 hK3=>J.b V<|J.f (qA1 qTK V V V) V<|J.b V<|J.c hK3<|J.O 0 1 2 7 ?_
 refine J.a5 ?_
 refine J.g λK4 hK4=>J.b V<|J.f (qAg u9_ V V) V<|J.f ((qAU V V V).no (by omega)) V<|J.b V<|J.c hK4<|J.O 0 1 2 10 ?_
 refine J.a5 ?_
 refine J.c0<|J.b0<|J.u (J.M hK2 ?_)
 refine J.G 0 1 2 ?_
 refine J.g λK5 hK5=>J.b V<|J.f (qAC V V) V<|J.a2 0 qJd sizeOf164 V V V V V<|J.c2 0 isAgg164 V V V V V<|J.j 2 V<|J.b1 (qIi (i:=1) V V V V qMq u9_ V hmp) V V ?_
 rintro m5_1 hm5_1
 rw [qNQ] at hm5_1
 refine J.c hK5<|J.d0 [] trivial<|J.g λK6 hK6=>J.b V<|J.c hK6<|J.A 6 ?_
 exact J.D<|J.b4 hw0 (λ_ _ h=>h) (qJW V V) (qDp (U [blk g [.map (some gm)] 166,m5_1]) (V) (λhd=>⟨gm,m5_1,V,hd,hm5_1⟩) [0,1,2] V V (by decide))
end Go.Proofs.YtfldiegfenndjaaGreatDoor
