/- A part of the proof. -/
import Derived.Test.YtcgcjaflllmlpaaGreatDoorTopCkG14
import Derived.Test.YtcgcjaflllmlpaaGreatDoorTopCkG16
set_option maxRecDepth 100000
set_option maxHeartbeats 1000000
set_option linter.unusedSimpArgs false
set_option linter.unusedVariables false
namespace Go.Proofs.YtcgcjaflllmlpaaGreatDoor
attribute [local irreducible] SN.tagN Sha.tagged Xm.root Wo.opn Sm.nd
def qAP(i:Nat):List UInt8:= [97,117,100,105,116,111,114,UInt8.ofNat (97+i)]
def qBq(i:Nat):List UInt8:=Sha.tagged 15 [[0,UInt8.ofNat i]]
def qCF(i:Nat):List UInt8:=Sha.tagged 16 [[120,UInt8.ofNat (97+i)],Wo.opn (qAP i)++Xm.root (qAP i) 2++ [2]]
def qAN(a:Nat):List Sm.PR:=(List.range a).map λi=>(qBq i,qCF i)
theorem qI6(s:List UInt8)(h:s.length≤1000):(Wo.opn s).map UInt8.toNat=SN.tagN 3 [s.map UInt8.toNat]:=by
 unfold Wo.opn
 exact(SN.tagN_eq 3 [s] (by simp only [List.flatten_cons,List.flatten_nil,List.append_nil,List.length_cons,List.length_nil];omega)).symm
theorem qF9:Tn.natP (qBq 0,qCF 0)=([105,72,128,237,61,5,50,182,223,75,24,94,147,245,19,39],[81,101,123,141,114,225,175,9,201,238,186,21,217,190,45,19]):=by
 have hk:(qBq 0).map UInt8.toNat= [105,72,128,237,61,5,50,182,223,75,24,94,147,245,19,39]:=by
  rw [show(qBq 0).map UInt8.toNat=SN.tagN 15 [[0,0]] from(SN.tagN_eq 15 [[0,UInt8.ofNat 0]] (by decide)).symm]
  decide+kernel
 have hv:(qCF 0).map UInt8.toNat= [81,101,123,141,114,225,175,9,201,238,186,21,217,190,45,19]:=by
  have h:=SN.tagN_eq 16 [[120,UInt8.ofNat (97+0)],Wo.opn (qAP 0)++Xm.root (qAP 0) 2++ [2]] (by
   have h1:(Wo.opn (qAP 0)).length=16:=Wo.opn_length _
   have h2:=congrArg List.length qIy
   rw [List.length_map] at h2
   have h3:(Xm.root (qAP 0) 2).length=16:=h2
   simp only [List.flatten_cons,List.flatten_nil,List.append_nil,List.length_append,List.length_cons,List.length_nil,h1,h3]
   decide)
  unfold qCF
  rw [←h]
  have e:(Wo.opn (qAP 0)++Xm.root (qAP 0) 2++ [2]).map UInt8.toNat=SN.tagN 3 [(qAP 0).map UInt8.toNat]++ [22,164,247,0,48,253,180,71,220,85,164,252,188,160,204,90]++ [2]:=by
   rw [List.map_append,List.map_append,qI6 _ (by decide)]
   exact congrArg (λz=>SN.tagN 3 [(qAP 0).map UInt8.toNat]++z++ [2]) qIy
  show SN.tagN 16 [[120,UInt8.ofNat (97+0)].map UInt8.toNat,(Wo.opn (qAP 0)++Xm.root (qAP 0) 2++ [2]).map UInt8.toNat]=_
  rw [e]
  decide+kernel
 exact Prod.ext hk hv
theorem qI4:Tn.natP (qBq 1,qCF 1)=([88,245,185,155,41,107,180,138,125,166,83,171,115,216,18,165],[87,177,97,52,61,74,170,120,191,124,176,213,59,31,0,126]):=by
 have hk:(qBq 1).map UInt8.toNat= [88,245,185,155,41,107,180,138,125,166,83,171,115,216,18,165]:=by
  rw [show(qBq 1).map UInt8.toNat=SN.tagN 15 [[0,1]] from(SN.tagN_eq 15 [[0,UInt8.ofNat 1]] (by decide)).symm]
  decide+kernel
 have hv:(qCF 1).map UInt8.toNat= [87,177,97,52,61,74,170,120,191,124,176,213,59,31,0,126]:=by
  have h:=SN.tagN_eq 16 [[120,UInt8.ofNat (97+1)],Wo.opn (qAP 1)++Xm.root (qAP 1) 2++ [2]] (by
   have h1:(Wo.opn (qAP 1)).length=16:=Wo.opn_length _
   have h2:=congrArg List.length qIx
   rw [List.length_map] at h2
   have h3:(Xm.root (qAP 1) 2).length=16:=h2
   simp only [List.flatten_cons,List.flatten_nil,List.append_nil,List.length_append,List.length_cons,List.length_nil,h1,h3]
   decide)
  unfold qCF
  rw [←h]
  have e:(Wo.opn (qAP 1)++Xm.root (qAP 1) 2++ [2]).map UInt8.toNat=SN.tagN 3 [(qAP 1).map UInt8.toNat]++ [101,12,161,181,223,198,74,60,112,220,105,68,168,64,74,68]++ [2]:=by
   rw [List.map_append,List.map_append,qI6 _ (by decide)]
   exact congrArg (λz=>SN.tagN 3 [(qAP 1).map UInt8.toNat]++z++ [2]) qIx
  show SN.tagN 16 [[120,UInt8.ofNat (97+1)].map UInt8.toNat,(Wo.opn (qAP 1)++Xm.root (qAP 1) 2++ [2]).map UInt8.toNat]=_
  rw [e]
  decide+kernel
 exact Prod.ext hk hv
theorem qT6:Tn.natP (qBq 2,qCF 2)=([93,80,203,230,14,126,127,19,21,244,174,144,89,226,94,228],[211,171,142,237,106,8,105,31,51,110,5,136,202,130,194,228]):=by
 have hk:(qBq 2).map UInt8.toNat= [93,80,203,230,14,126,127,19,21,244,174,144,89,226,94,228]:=by
  rw [show(qBq 2).map UInt8.toNat=SN.tagN 15 [[0,2]] from(SN.tagN_eq 15 [[0,UInt8.ofNat 2]] (by decide)).symm]
  decide+kernel
 have hv:(qCF 2).map UInt8.toNat= [211,171,142,237,106,8,105,31,51,110,5,136,202,130,194,228]:=by
  have h:=SN.tagN_eq 16 [[120,UInt8.ofNat (97+2)],Wo.opn (qAP 2)++Xm.root (qAP 2) 2++ [2]] (by
   have h1:(Wo.opn (qAP 2)).length=16:=Wo.opn_length _
   have h2:=congrArg List.length qIw
   rw [List.length_map] at h2
   have h3:(Xm.root (qAP 2) 2).length=16:=h2
   simp only [List.flatten_cons,List.flatten_nil,List.append_nil,List.length_append,List.length_cons,List.length_nil,h1,h3]
   decide)
  unfold qCF
  rw [←h]
  have e:(Wo.opn (qAP 2)++Xm.root (qAP 2) 2++ [2]).map UInt8.toNat=SN.tagN 3 [(qAP 2).map UInt8.toNat]++ [146,83,211,224,30,128,154,79,165,236,208,225,73,13,246,50]++ [2]:=by
   rw [List.map_append,List.map_append,qI6 _ (by decide)]
   exact congrArg (λz=>SN.tagN 3 [(qAP 2).map UInt8.toNat]++z++ [2]) qIw
  show SN.tagN 16 [[120,UInt8.ofNat (97+2)].map UInt8.toNat,(Wo.opn (qAP 2)++Xm.root (qAP 2) 2++ [2]).map UInt8.toNat]=_
  rw [e]
  decide+kernel
 exact Prod.ext hk hv
theorem qLl(a:Nat):Tn.small (qAN a):=λp hp=>by
 obtain ⟨i,_,rfl⟩:=List.mem_map.1 hp
 exact⟨Nat.le_trans (Nat.le_of_eq (Sha.tagged_length _ _)) (by decide),Nat.le_trans (Nat.le_of_eq (Sha.tagged_length _ _)) (by decide)⟩
theorem qQy:(qAN 1).map Tn.natP= [([105,72,128,237,61,5,50,182,223,75,24,94,147,245,19,39],[81,101,123,141,114,225,175,9,201,238,186,21,217,190,45,19])]:=by
 show [Tn.natP (qBq 0,qCF 0)]=_
 rw [qF9]
theorem qZP:Tn.nat (Sm.nd 128 (qAN 1))= [1,238,227,159,201,246,222,37,82,179,40,184,102,102,32,228,23]:=by
 rw [←Tn.ndN_eq 128 _ (qLl 1),qQy]
 decide+kernel
theorem qQx:(qAN 2).map Tn.natP= [([105,72,128,237,61,5,50,182,223,75,24,94,147,245,19,39],[81,101,123,141,114,225,175,9,201,238,186,21,217,190,45,19]),([88,245,185,155,41,107,180,138,125,166,83,171,115,216,18,165],[87,177,97,52,61,74,170,120,191,124,176,213,59,31,0,126])]:=by
 show [Tn.natP (qBq 0,qCF 0),Tn.natP (qBq 1,qCF 1)]=_
 rw [qF9,qI4]
theorem qZO:Tn.nat (Sm.nd 128 (qAN 2))= [2,130,35,49,183,102,82,165,250,168,254,82,193,186,49,175,116]:=by
 rw [←Tn.ndN_eq 128 _ (qLl 2),qQx]
 decide+kernel
theorem qQw:(qAN 3).map Tn.natP= [([105,72,128,237,61,5,50,182,223,75,24,94,147,245,19,39],[81,101,123,141,114,225,175,9,201,238,186,21,217,190,45,19]),([88,245,185,155,41,107,180,138,125,166,83,171,115,216,18,165],[87,177,97,52,61,74,170,120,191,124,176,213,59,31,0,126]),([93,80,203,230,14,126,127,19,21,244,174,144,89,226,94,228],[211,171,142,237,106,8,105,31,51,110,5,136,202,130,194,228])]:=by
 show [Tn.natP (qBq 0,qCF 0),Tn.natP (qBq 1,qCF 1),Tn.natP (qBq 2,qCF 2)]=_
 rw [qF9,qI4,qT6]
theorem qZN:Tn.nat (Sm.nd 128 (qAN 3))= [2,148,32,134,241,150,96,103,162,143,48,199,58,226,85,100,187]:=by
 rw [←Tn.ndN_eq 128 _ (qLl 3),qQw]
 decide+kernel
end Go.Proofs.YtcgcjaflllmlpaaGreatDoor