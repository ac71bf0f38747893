/- A part of the proof. -/
import Derived.Test.YtfldiegfenndjaaGreatDoorTopAoG14
import Derived.Test.YtfldiegfenndjaaGreatDoorTopAoG24
set_option linter.unusedSimpArgs false
set_option linter.unusedVariables false
namespace Go.Proofs.YtfldiegfenndjaaGreatDoor
open Go Go.Fw Go.Proofs.Tryz
set_option maxRecDepth 100000
set_option maxHeartbeats 1000000
attribute [local irreducible] SN.tagN Sha.tagged
namespace Tn
open SN (forceL qCq)
abbrev nat(l:List UInt8):List Nat:=l.map UInt8.toNat
theorem qSc{a b:List UInt8}:nat a=nat b↔a=b:=⟨SN.of_toNat,λh=>by rw [h]⟩
def kvN:List Nat→Nat
 | []=>0
 |b::r=>b*256^r.length+kvN r
theorem qQ4: ∀k:List UInt8,kvN (nat k)=Sm.kv k
 | []=>rfl
 |b::r=>by
  show b.toNat*256^(nat r).length+kvN (nat r)=_
  rw [qQ4 r,show(nat r).length=r.length from jK _,Sm.kv]
def qMK(s:List Nat):Prop:=s≠ []∧s.take 1= [1]
instance (s:List Nat):Decidable (qMK s):=by unfold qMK;infer_instance
theorem qSq(s:List UInt8):qMK (nat s)↔Sb.isLf s:=by
 unfold qMK Sb.isLf
 cases s with
 |nil=>simp
 |cons a r=>
  simp only [nat,jR,List.take_succ_cons,zx,ne_eq,reduceCtorEq,not_false_eq_true,true_and,yB,and_true]
  constructor
  · intro h;exact UInt8.toNat_inj.1 h
  · intro h;rw [h];rfl
noncomputable def joinN(a b:List Nat):List Nat:=forceL a λa=>forceL b λb=>if a= [0]∧(b= [0]∨qMK b) then b else if b= [0]∧qMK a then a else 2::SN.tagN 10 [a,b]
theorem qRM(s:List UInt8):nat s= [0]↔s= [0]:=qSc (b:= [0])
theorem qP4(a b:List UInt8)(ha:a.length≤1000)(hb:b.length≤1000):joinN (nat a) (nat b)=nat (Sb.join a b):=by
  unfold joinN Sb.join
  rw [qCq,qCq]
  simp only [qRM,qSq]
  split
  · rfl
  · split
    · rfl
    · have:=SN.tagN_eq 10 [a,b] (by simp only [jW,jw,jS,jA,jD,jH];omega)
      show 2::SN.tagN 10 [nat a,nat b]=nat (2::Sha.tagged 10 [a,b])
      exact congrArg (List.cons 2) this
abbrev PN:=List Nat×List Nat
def natP(p:Sm.PR):PN:=(nat p.1,nat p.2)
def qLs(f:Nat)(b:Bool)(l:List PN):List PN:=l.filter λp=>decide (kvN p.1/2^f%2=0)==b
theorem sideN_eq(f:Nat)(b:Bool)(l:List Sm.PR):qLs f b (l.map natP)=(Sm.side f b l).map natP:=by
 unfold qLs Sm.side
 rw [List.filter_map]
 congr 1
 apply zZ
 intro p _
 show(decide (kvN (nat p.1)/2^f%2=0)==b)=_
 rw [qQ4]
noncomputable def ndN:Nat→List PN→List Nat
 |_,[]=> [0]
 |_,[p]=>1::SN.tagN 9 [p.1,p.2]
 |0,_=> []
 |f+1,l=>joinN (ndN f (qLs f true l)) (ndN f (qLs f false l))
theorem qSa(f:Nat)(p q:PN)(r:List PN):ndN (f+1) (p::q::r)=joinN (ndN f (qLs f true (p::q::r))) (ndN f (qLs f false (p::q::r))):=by
 rw [ndN]
 · intro h;cases h
 · intro x h;cases h
def small(l:List Sm.PR):Prop:= ∀p∈l,p.1.length≤1000∧p.2.length≤1000
theorem qPk: ∀(f:Nat) (l:List Sm.PR),(Sm.nd f l).length≤17
  |f,[]=>by rw [Sm.nd_nil];decide
  |f,[p]=>by rw [Sm.nd_one];unfold Sb.leafN;rw [jD,Sha.tagged_length];decide
  |0,p::q::r=>jF _
  |f+1,p::q::r=>by
    rw [Sm.nd_two f (by simp)]
    unfold Sb.join
    have h1:=qPk f (Sm.side f true (p::q::r))
    have h2:=qPk f (Sm.side f false (p::q::r))
    split
    · exact h2
    · split
      · exact h1
      · rw [jD,Sha.tagged_length];decide
theorem ndN_eq: ∀(f:Nat) (l:List Sm.PR),small l→ndN f (l.map natP)=nat (Sm.nd f l)
 |f,[],_=>by rw [Sm.nd_nil];cases f<;>rfl
 |f,[p],h=>by
  have h1:=h p (.head _)
  have:=SN.tagN_eq 9 [p.1,p.2] (by simp only [jW,jw,jS,jA,jD,jH];omega)
  rw [Sm.nd_one]
  have e:ndN f [natP p]=1::SN.tagN 9 [nat p.1,nat p.2]:=by cases f<;>rfl
  show ndN f [natP p]=_
  rw [e]
  show _=nat (1::Sha.tagged 9 [p.1,p.2])
  exact congrArg (List.cons 1) this
 |0,p::q::r,_=>rfl
 |f+1,p::q::r,h=>by
  have hs: ∀b,small (Sm.side f b (p::q::r)):=λb x hx=>h x (List.mem_filter.1 hx).1
  rw [Sm.nd_two f (by simp),jR,jR,qSa,←jR,←jR,sideN_eq,sideN_eq,ndN_eq f _ (hs true),ndN_eq f _ (hs false)]
  exact qP4 _ _ (jd (qPk _ _) (by decide)) (jd (qPk _ _) (by decide))
end Tn
end Go.Proofs.YtfldiegfenndjaaGreatDoor
