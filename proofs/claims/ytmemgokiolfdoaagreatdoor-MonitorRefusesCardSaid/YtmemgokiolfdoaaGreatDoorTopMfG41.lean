/- A part of the proof. -/
import Derived.Test.YtmemgokiolfdoaaGreatDoorTopMfG13
import Derived.Test.YtmemgokiolfdoaaGreatDoorTopMfG20
set_option maxRecDepth 100000
set_option maxHeartbeats 1000000
set_option linter.unusedSimpArgs false
set_option linter.unusedVariables false
namespace Go.Proofs.YtmemgokiolfdoaaGreatDoor
open Go Go.Fw Go.Proofs.Tryz
attribute [local irreducible] SN.tagN Sha.tagged
namespace Tn
open SN (forceL qA9)
abbrev nat(l:xA):List Nat:=l.map UInt8.toNat
theorem nat_inj{a b:xA}:nat a=nat b↔a=b:=⟨SN.of_toNat,λh=>by rw [h]⟩
def kvN:List Nat→Nat
 | []=>0
 |b::r=>b*256^r.length+kvN r
theorem qVa: ∀k:xA,kvN (nat k)=Sm.kv k
 | []=>rfl
 |b::r=>by
  show b.toNat*256^(nat r).length+kvN (nat r)=_
  rw [qVa r,show(nat r).length=r.length from jQ _,Sm.kv]
def qO1(s:List Nat):Prop:=s≠ []∧s.take 1= [1]
instance (s:List Nat):Decidable (qO1 s):=by unfold qO1;infer_instance
theorem qXW(s:xA):qO1 (nat s)↔Sb.isLf s:=by
 unfold qO1 Sb.isLf
 cases s with
 |nil=>simp
 |cons a r=>
  simp only [nat,ja,List.take_succ_cons,zd,ne_eq,reduceCtorEq,not_false_eq_true,true_and,List.cons.injEq,and_true]
  constructor
  · intro h;exact UInt8.toNat_inj.1 h
  · intro h;rw [h];rfl
noncomputable def joinN(a b:List Nat):List Nat:=forceL a λa=>forceL b λb=>if a= [0]∧(b= [0]∨qO1 b) then b else if b= [0]∧qO1 a then a else 2::SN.tagN 10 [a,b]
theorem qVn(s:xA):nat s= [0]↔s= [0]:=nat_inj (b:= [0])
theorem qUM(a b:xA)(ha:a.length≤1000)(hb:b.length≤1000):joinN (nat a) (nat b)=nat (Sb.join a b):=by
  unfold joinN Sb.join
  rw [qA9,qA9]
  simp only [qVn,qXW]
  split
  · rfl
  · split
    · rfl
    · have:=SN.tagN_eq 10 [a,b] (by simp only [jb,jt,jP,jA,jD,jF];omega)
      show 2::SN.tagN 10 [nat a,nat b]=nat (2::Sha.tagged 10 [a,b])
      exact congrArg (List.cons 2) this
abbrev PN:=List Nat×List Nat
def natP(p:Sm.PR):PN:=(nat p.1,nat p.2)
def qOW(f:Nat)(b:Bool)(l:List PN):List PN:=l.filter λp=>decide (kvN p.1/2^f%2=0)==b
theorem qM1(f:Nat)(b:Bool)(l:List Sm.PR):qOW f b (l.map natP)=(Sm.side f b l).map natP:=by
 unfold qOW Sm.side
 rw [List.filter_map]
 congr 1
 apply zu
 intro p _
 show(decide (kvN (nat p.1)/2^f%2=0)==b)=_
 rw [qVa]
noncomputable def ndN:Nat→List PN→List Nat
 |_,[]=> [0]
 |_,[p]=>1::SN.tagN 9 [p.1,p.2]
 |0,_=> []
 |f+1,l=>joinN (ndN f (qOW f true l)) (ndN f (qOW f false l))
theorem qXG(f:Nat)(p q:PN)(r:List PN):ndN (f+1) (p::q::r)=joinN (ndN f (qOW f true (p::q::r))) (ndN f (qOW f false (p::q::r))):=by
 rw [ndN]
 · intro h;cases h
 · intro x h;cases h
def small(l:List Sm.PR):Prop:= ∀p∈l,p.1.length≤1000∧p.2.length≤1000
theorem qTx: ∀(f:Nat) (l:List Sm.PR),(Sm.nd f l).length≤17
  |f,[]=>by rw [Sm.nd_nil];decide
  |f,[p]=>by rw [Sm.nd_one];unfold Sb.leafN;rw [jD,Sha.tagged_length];decide
  |0,p::q::r=>jG _
  |f+1,p::q::r=>by
    rw [Sm.nd_two f xD]
    unfold Sb.join
    have h1:=qTx f (Sm.side f true (p::q::r))
    have h2:=qTx f (Sm.side f false (p::q::r))
    split
    · exact h2
    · split
      · exact h1
      · rw [jD,Sha.tagged_length];decide
theorem ndN_eq: ∀(f:Nat) (l:List Sm.PR),small l→ndN f (l.map natP)=nat (Sm.nd f l)
 |f,[],_=>by rw [Sm.nd_nil];cases f<;>rfl
 |f,[p],h=>by
  have h1:=h p (.head _)
  have:=SN.tagN_eq 9 [p.1,p.2] (by simp only [jb,jt,jP,jA,jD,jF];omega)
  rw [Sm.nd_one]
  have e:ndN f [natP p]=1::SN.tagN 9 [nat p.1,nat p.2]:=by cases f<;>rfl
  show ndN f [natP p]=_
  rw [e]
  show _=nat (1::Sha.tagged 9 [p.1,p.2])
  exact congrArg (List.cons 1) this
 |0,p::q::r,_=>rfl
 |f+1,p::q::r,h=>by
  have hs: ∀b,small (Sm.side f b (p::q::r)):=λb x hx=>h x (List.mem_filter.1 hx).1
  rw [Sm.nd_two f xD,ja,ja,qXG,←ja,←ja,qM1,qM1,ndN_eq f _ (hs true),ndN_eq f _ (hs false)]
  exact qUM _ _ (jX (qTx _ _) xC) (jX (qTx _ _) xC)
end Tn
end Go.Proofs.YtmemgokiolfdoaaGreatDoor