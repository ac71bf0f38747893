/- A part of the proof. -/
import Derived.Test.YtfldiegfenndjaaGreatDoorTopCcG8
import Derived.Test.YtfldiegfenndjaaGreatDoorTopCcG9
import Derived.Test.YtfldiegfenndjaaGreatDoorTopCcG10
set_option linter.unusedSimpArgs false
set_option linter.unusedVariables false
namespace Go.Proofs.YtfldiegfenndjaaGreatDoor
open Go Go.Fw Go.Proofs.Tryz
set_option maxRecDepth 100000
set_option maxHeartbeats 1000000
theorem qRv : ∀ r : Fin 32, 1 ≤ r.val → ((UInt64.ofNat (18446744073709551616 - r.val)).toNat &&& 31) = 32 - r.val := by decide +kernel
theorem qUP (n : UInt64) (size : Nat) (j : Nat) (hj : j < size) : (Sha.numB n size)[j]? = some (UInt64.ofNat (n.toNat / 2 ^ min (8 * (size - 1 - j)) 64)).toUInt8 := by
 simp [Sha.numB, hj]
def qF0 (l : List UInt8) (k : Nat) : List Value := (l.take k).map B8 ++ List.replicate (l.length - k) (.int .u8 0)
theorem qLC (l : List UInt8) (size : Nat) (h : l.length = size) : (List.replicate size [Value.int .u8 0]).flatten = qF0 l 0 := by
 subst h
 unfold qF0
 induction l with
 | nil => rfl
 | cons a l ih => simp only [List.length_cons, List.replicate_succ, List.flatten_cons]; rw [ih]; simp [List.replicate_succ]
theorem qM7 (l : List UInt8) (k : Nat) (h : k ≤ l.length) : (qF0 l k).length = l.length := by simp [qF0]; omega
theorem qIq {α : Type} (a : List α) (v : α) (n : Nat) (x : α) : (a ++ List.replicate (n + 1) v).take a.length ++ [x] ++ (a ++ List.replicate (n + 1) v).drop (a.length + 1) = (a ++ [x]) ++ List.replicate n v := by
 rw [List.take_left, List.drop_append]
 simp [List.replicate_succ]
theorem qLD (l : List UInt8) (k : Nat) (v : UInt8) (h : l[k]? = some v) : qAw (qF0 l k) k [B8 v] = qF0 l (k + 1) := by
 obtain ⟨hk, rfl⟩ := List.getElem?_eq_some_iff.1 h
 have e : l.length - k = (l.length - (k + 1)) + 1 := by omega
 have h2 := qIq ((l.take k).map B8) (Value.int .u8 0) (l.length - (k + 1)) (B8 l[k])
 have h3 : ((l.take k).map B8).length = k := by simp; omega
 rw [h3] at h2
 unfold qAw qF0
 rw [e, List.length_singleton, h2, List.take_succ_eq_append_getElem hk, List.map_append]
 rfl
theorem qM8 (l : List UInt8) (k : Nat) (h : l.length ≤ k) : qF0 l k = (qAX l).flatten := by
 unfold qF0 qAX
 rw [qA6, List.take_of_length_le h, show l.length - k = 0 by omega]; simp
theorem el246 : qDV prog 246 [.int .u32 0] 4 := qDV.of (by kernel_rfl) rfl
theorem ent180 : qAC prog 180 := qAC.of func180 rfl (by kernel_rfl)
theorem ent87 : qAC prog 87 := qAC.of func87 rfl (by kernel_rfl)
theorem ent141 : qAC prog 141 := qAC.of func141 rfl (by kernel_rfl)
theorem ent179 : qAC prog 179 := qAC.of func179 rfl (by kernel_rfl)
theorem ent142 : qAC prog 142 := qAC.of func142 rfl (by kernel_rfl)
theorem ent88 : qAC prog 88 := qAC.of func88 rfl (by kernel_rfl)
theorem ent44 : qAC prog 44 := qAC.of func44 rfl (by kernel_rfl)
theorem qD7 (F : Hp) (n : UInt64) (size : Nat) (hs : size ≤ 8) :
    Ct prog 87 [W64 n, I size] [F] (fun x : Option Addr × Nat × Hp => .slice x.1 size x.2.1) (fun x => Row x.2.2 5 1 x.1 size x.2.1 (qAX (Sha.numB n size))) (fun x => [F, x.2.2]) := by
  have hlen := Sha.numB_length n size
  refine Ct.walk func87 rfl ntmps87 rfl (fun w0 hw0 => ?_)
  change J _ [(0, _), (1, _)] _ _ _
  refine J.g fun K1 hK1 => J.b rfl <| J.c hK1 <| J.M 0 1 ?_
  refine J.g fun K2 hK2 => J.b rfl <| J.u (qBi (n' := size) rfl rfl qBP el5 (by omega) (by omega)) rfl fun g8 _ => ?_
  change J _ _ _ [F, _] _
  refine J.b rfl <| J.c hK2 <| J.V 0 1 5 ?_
  refine J.k fun K3 hK3 => J.g fun K4 hK4 => J.b rfl <| J.f (qAZ qBP rfl rfl) rfl <| J.b rfl <| J.c hK4 <| J.a3 0 1 5 10 11 ?_
  refine J.T <| J.b2 (fun k : Nat => [(0, W64 n), (1, I size), (5, .slice (some ⟨g8, 0, none⟩) size size), (10, I size), (11, I k)]) (fun k => [F, blk g8 (qF0 (Sha.numB n size) k) 5]) (fun k => k ≤ size) (fun k => size - k) 0 (Nat.zero_le _) ⟨rfl, rfl, rfl, rfl, rfl, trivial⟩ (fun _ h => by rw [← qLC _ size hlen]; exact h) ?_
  intro k hk I0 hI0
  refine J.g fun K5 hK5 => J.f (qAS rfl rfl rfl) rfl <| J.c hK5 <| J.a9 0 1 5 10 11 12 ?_
  refine J.k fun K6 hK6 => J.a0 rfl (fun h12 => ?_) (fun h12 => ?_)
  ·
    refine J.a1 hK6 <| J.a3 0 1 5 10 11 ?_
    refine J.k fun K7 hK7 => J.T <| J.g fun K8 hK8 => J.p 2 rfl <| J.c hK8 <| J.a9 0 1 5 6 10 11 ?_
    refine J.E <| J.p 4 rfl <| J.f (qAs rfl rfl rfl (by omega)) rfl <| J.b rfl <| J.f (qAs rfl rfl rfl (by omega)) rfl <| J.f (qCD rfl rfl rfl (by omega)) rfl <| J.f (qG3 (m := 8 * (size - 1 - k)) rfl rfl (by show some _ = some _; congr 2; omega)) rfl <| J.f (qDB rfl rfl qDu u5_) rfl <| J.f (qAJ (j := k) rfl rfl rfl qBP z5_ (by omega) (by omega)) rfl <| J.c1 (qAc (i := 1) (vs := [B8 _]) rfl rfl rfl rfl rfl z5_ rfl (by rw [qM7 (Sha.numB n size) k (by omega)]; show k + 1 ≤ _; omega)) rfl rfl fun _ _ => ?_
    change J _ _ _ [F, _] _
    refine J.a2 <| J.a4 <| J.q (J.H hK7 ?_)
    refine J.a3 0 1 5 10 11 ?_
    exact J.E <| J.f (qAO rfl rfl rfl (by omega)) rfl <| J.b rfl <| J.a2 <| J.q <| J.a6 (k + 1) (fun x (hx : x ≤ size ∧ size - x < size - k) => hI0 x hx.1 hx.2) ⟨by omega, by omega⟩ ⟨rfl, rfl, rfl, rfl, rfl, trivial⟩ (fun _ h => by rw [← qLD _ k _ (qUP n size k (by omega))]; exact h)
  refine J.b0 <| J.Z <| J.Z <| J.b1 ?_
  refine J.q (J.H hK3 ?_)
  refine J.A 5 ?_
  refine J.g fun K9 hK9 => J.p 2 rfl <| J.c hK9 <| J.A 4 ?_
  exact J.D <| J.L hw0 rfl (some ⟨g8, 0, none⟩, size, blk g8 (qAX (Sha.numB n size)).flatten 5) rfl (qAr (by simp [qAX, hlen]) (by simp [qAX])) [0, 1] (by rw [qM8 (Sha.numB n size) k (by omega)]; rfl) (by decide)
theorem qDZ (F : Hp) (x : UInt32) (r : Nat) (h1 : 1 ≤ r) (h2 : r < 32) :
    Ct prog 180 [W32 x, I (-(r : Int))] [F] (fun _ : Unit => W32 (Sha.rotr x r)) (fun _ => True) (fun _ => [F]) := by
  have hr := qRv ⟨r, h2⟩ h1
  have e1 : ((-(r : Int)) % 18446744073709551616).toNat = 18446744073709551616 - r := by omega
  have e3 : IntKind.u64.wrap (32 - ((32 - r : Nat) : Int)) = (r : Int) := by simp [IntKind.wrap, IntKind.bits, IntKind.signed]; omega
  refine Ct.walk func180 rfl ntmps180 rfl (fun w0 hw0 => ?_)
  change J _ [(0, _), (1, _)] _ _ _
  refine J.g fun K1 hK1 => J.b rfl <| J.c hK1 <| J.M 0 1 ?_
  refine J.g fun K2 hK2 => J.b rfl <| J.f ((qBx rfl rfl u3_ qTO).as (congrArg (fun z => W64 (UInt64.ofNat z)) e1)) rfl <| J.f ((qJ0 (b := 31) rfl rfl rfl).as (v' := .int .u64 ((32 - r : Nat) : Int)) (by show Value.int .u64 _ = _; rw [UInt64.toNat_and]; exact congrArg (fun z : Nat => Value.int .u64 (z : Int)) hr)) rfl <| J.b rfl <| J.c hK2 <| J.M 0 5 ?_
  refine J.g fun K3 hK3 => J.p 2 rfl <| J.f (qEo (m := 32 - r) rfl rfl rfl) rfl <| J.p 2 rfl <| J.f (qGO (r := (r : Int)) rfl rfl rfl e3.symm) rfl <| J.f (qG4 (m := r) rfl rfl rfl) rfl <| J.f (qG7 rfl rfl rfl) rfl <| J.b rfl <| J.c hK3 <| J.A 4 ?_
  exact J.D <| J.L hw0 rfl () rfl trivial [0] rfl (by decide)
theorem qQF (F : Hp) : Ct prog 141 [] [F] (fun _ : Unit => .agg (Sha.init.list.map W32).toArray) (fun _ => True) (fun _ => [F]) := by
 refine Ct.walk func141 rfl ntmps141 rfl (fun w0 hw0 => ?_)
 change J _ [] _ _ _
 refine J.g fun K1 hK1 => J.u (qAf rfl zeroValue248 rfl) rfl fun g0 _ => ?_
 change J _ _ _ [F, blk g0 _ 248] _
 refine J.c hK1 <| J.A 0 ?_
 refine J.g fun K2 hK2 => J.f (qDi (l := [.const (.int .u32 1779033703), .const (.int .u32 3144134277), .const (.int .u32 1013904242), .const (.int .u32 2773480762), .const (.int .u32 1359893119), .const (.int .u32 2600822924), .const (.int .u32 528734635), .const (.int .u32 1541459225)]) rfl rfl rfl qEi el246 zeroValue248 rfl rfl (by simp [Value.cells]) (r := Sha.init.list.map W32) rfl) rfl <| J.c1 (qAc (i := 1) (vs := Sha.init.list.map W32) rfl rfl rfl rfl rfl sizeOf248 rfl (by decide)) rfl rfl fun _ _ => ?_
 change J _ _ _ [_, blk g0 (Sha.init.list.map W32) 248] _
 refine J.c hK2 <| J.A 0 ?_
 exact J.D <| J.c2 hw0 (fun _ _ h => h) (rv1 rfl (RV.blkA 1 rfl rfl isAgg248 sizeOf248)) (qBD () rfl trivial [0] rfl (by decide))
def qDh (l : List UInt32) : List Value := l.map W32 ++ List.replicate (64 - l.length) (.int .u32 0)
theorem qFI (l : List UInt32) (h : l.length ≤ 64) : (qDh l).length = 64 := by simp [qDh]; omega
theorem qDz (l : List UInt32) (i : Nat) (h : i < l.length) : (qDh l)[i]? = some (W32 (l.getD i 0)) := by
 unfold qDh
 rw [List.getElem?_append_left (by simpa using h), List.getElem?_map, List.getElem?_eq_getElem h, List.getD_eq_getElem?_getD, List.getElem?_eq_getElem h]
 rfl
theorem qGK (l : List UInt32) (x : UInt32) (h : l.length < 64) : qAw (qDh l) l.length [W32 x] = qDh (l ++ [x]) := by
 have e : 64 - l.length = (64 - (l.length + 1)) + 1 := by omega
 have h2 := qIq (l.map W32) (Value.int .u32 0) (64 - (l.length + 1)) (W32 x)
 rw [List.length_map] at h2
 unfold qAw qDh
 rw [e, List.length_singleton, h2, List.map_append, List.length_append]
 rfl
theorem qM6 (l : List UInt32) (j : Nat) (hj : l.length = 16 + j) (h : j < 48) : qAw (qDh l) (16 + j) [W32 (l.getD j 0 + Sha.sg0 (l.getD (j + 1) 0) + l.getD (j + 9) 0 + Sha.sg1 (l.getD (j + 14) 0))] = qDh (Sha.ext l) := by
 have h2 := qGK l (l.getD j 0 + Sha.sg0 (l.getD (j + 1) 0) + l.getD (j + 9) 0 + Sha.sg1 (l.getD (j + 14) 0)) (by omega)
 rw [hj] at h2
 rw [h2]
 unfold Sha.ext
 rw [hj, show 16 + j - 16 = j by omega, show 16 + j - 15 = j + 1 by omega, show 16 + j - 7 = j + 9 by omega, show 16 + j - 2 = j + 14 by omega]
theorem firsts_succ (b : List UInt8) (k : Nat) : Sha.firsts b (k + 1) = Sha.firsts b k ++ [Sha.word b k] := by simp [Sha.firsts, List.range_succ]
theorem qLB (l : List UInt32) (h : l.length = 64) : qDh l = l.map W32 := by simp [qDh, h]
theorem qSS (l : List UInt32) : (l.map W32).all Value.oneCell' = true := by simp [Value.oneCell']
theorem getB {b : List UInt8} {j : Nat} (h : j < b.length) : b[j]? = some (b.getD j 0) := by rw [List.getD_eq_getElem?_getD, List.getElem?_eq_getElem h]; rfl
theorem qIr (F : Hp) (A : Option Addr) (n c : Nat) (b : List UInt8) (hl : Sl F 1 A n c (qAX b)) (h64 : 64 ≤ n) :
    Ct prog 179 [.slice A n c] [F] (fun _ : Unit => .agg ((Sha.sched b).map W32).toArray) (fun _ => True) (fun _ => [F]) := by
  have hn : b.length = n := by have := hl.1; simpa [qAX] using this
  have hb : ∀ j, j < n → b[j]? = some (b.getD j 0) := fun j hj => getB (by omega)
  refine Ct.walk func179 rfl ntmps179 rfl (fun w0 hw0 => ?_)
  change J _ [(0, _)] _ _ _
  refine J.g fun K1 hK1 => J.u (qAf rfl zeroValue284 rfl) rfl fun g2 _ => ?_
  change J _ _ _ [F, blk g2 _ 284] _
  refine J.c hK1 <| J.M 0 2 ?_
  refine J.g fun K2 hK2 => J.u (qAf rfl zeroValue284 rfl) rfl fun g3 _ => ?_
  change J _ _ _ [_, _, blk g3 _ 284] _
  refine J.c hK2 <| J.V 0 2 3 ?_
  refine J.k fun K3 hK3 => J.g fun K4 hK4 => J.b rfl <| J.c hK4 <| J.W 0 2 3 10 ?_
  refine J.T <| J.b2 (fun k : Nat => [(0, .slice A n c), (2, Ptr g2), (3, Ptr g3), (10, I k)]) (fun k => [F, blk g2 (List.replicate 64 (.int .u32 0)) 284, blk g3 (qDh (Sha.firsts b k)) 284]) (fun k => k ≤ 16) (fun k => 16 - k) 0 (Nat.zero_le _) ⟨rfl, rfl, rfl, rfl, trivial⟩ (fun _ h => h) ?_
  intro k hk I0 hI0
  refine J.g fun K5 hK5 => J.f (qAS rfl rfl rfl) rfl <| J.c hK5 <| J.a3 0 2 3 10 11 ?_
  refine J.k fun K6 hK6 => J.a0 rfl (fun h11 => ?_) (fun h11 => ?_)
  ·
    refine J.a1 hK6 <| J.W 0 2 3 10 ?_
    refine J.k fun K7 hK7 => J.T <| J.g fun K8 hK8 => J.p 2 rfl <| J.c hK8 <| J.a3 0 2 3 4 10 ?_
    refine J.b5 [F] [35] (.y 0 (.y 1 (.y 2 (.y 3 (.y 4 (.y 5 (.y 6 (.y 7 (.y 8 (.y 9 (.y 10 (.y 11 (.y 12 (.y 13 (.y 14 (.y 15 (.y 16 (.y 17 (.y 18 (.y 19 (.y 20 (.y 21 (.y 22 (.y 23 (.y 24 (.y 25 (.y 26 (.y 27 (.y 28 (.y 29 (.y 30 (.y 31 (.y 32 (.y 33 (.y 34 (.e 35 .nil)))))))))))))))))))))))))))))))))))) Tryz.wide (by decide +kernel) (by simp) ?_
    iterate 3 refine J.G ?_
    refine J.j rfl ((qCD (a := 4) rfl rfl rfl (by omega)).nat (4 * k) (by omega)) rfl rfl <| J.j rfl (qAG (i := 4 * k) rfl rfl rfl qBP z5_ hl (by omega)) rfl rfl <| J.j rfl (qAK rfl rfl b5_ (m := F) (by simp) (hl.elem (qBj (hb (4 * k) (by omega))))) rfl rfl <| J.j rfl (qCM rfl rfl u5_ qHh) rfl rfl <| J.j rfl (qEo (m := 24) rfl rfl rfl) rfl rfl <| J.G ?_
    refine J.G ?_
    refine J.j rfl ((qCD (a := 4) rfl rfl rfl (by omega)).nat (4 * k) (by omega)) rfl rfl <| J.j rfl ((qAO rfl rfl rfl (by omega)).nat (4 * k + 1) (by omega)) rfl rfl <| J.j rfl (qAG (i := 4 * k + 1) rfl rfl rfl qBP z5_ hl (by omega)) rfl rfl <| J.j rfl (qAK rfl rfl b5_ (m := F) (by simp) (hl.elem (qBj (hb (4 * k + 1) (by omega))))) rfl rfl <| J.j rfl (qCM rfl rfl u5_ qHh) rfl rfl <| J.j rfl (qEo (m := 16) rfl rfl rfl) rfl rfl <| J.j rfl (qG7 rfl rfl rfl) rfl rfl <| J.G ?_
    refine J.G ?_
    refine J.j rfl ((qCD (a := 4) rfl rfl rfl (by omega)).nat (4 * k) (by omega)) rfl rfl <| J.j rfl ((qAO rfl rfl rfl (by omega)).nat (4 * k + 2) (by omega)) rfl rfl <| J.j rfl (qAG (i := 4 * k + 2) rfl rfl rfl qBP z5_ hl (by omega)) rfl rfl <| J.j rfl (qAK rfl rfl b5_ (m := F) (by simp) (hl.elem (qBj (hb (4 * k + 2) (by omega))))) rfl rfl <| J.j rfl (qCM rfl rfl u5_ qHh) rfl rfl <| J.j rfl (qEo (m := 8) rfl rfl rfl) rfl rfl <| J.j rfl (qG7 rfl rfl rfl) rfl rfl <| J.G ?_
    refine J.G ?_
    refine J.j rfl ((qCD (a := 4) rfl rfl rfl (by omega)).nat (4 * k) (by omega)) rfl rfl <| J.j rfl ((qAO rfl rfl rfl (by omega)).nat (4 * k + 3) (by omega)) rfl rfl <| J.j rfl (qAG (i := 4 * k + 3) rfl rfl rfl qBP z5_ hl (by omega)) rfl rfl <| J.j rfl (qAK rfl rfl b5_ (m := F) (by simp) (hl.elem (qBj (hb (4 * k + 3) (by omega))))) rfl rfl <| J.j rfl (qCM rfl rfl u5_ qHh) rfl rfl <| J.j rfl (qG7 rfl rfl rfl) rfl rfl <| J.j rfl (qAY (i := k) (j := k) rfl rfl rfl qHg qBz (by omega) (by omega)) rfl rfl <| J.c8 rfl (qAc (i := 2) (vs := [W32 _]) rfl rfl rfl rfl rfl qBz rfl (by rw [qFI (Sha.firsts b k) (by rw [Sha.firsts_length]; omega)]; show k + 1 ≤ _; omega)) rfl rfl rfl fun _ _ => ?_
    change J _ _ _ [F, _, _] _
    refine J.b4 <| J.a4 <| J.q (J.H hK7 ?_)
    refine J.W 0 2 3 10 ?_
    exact J.E <| J.f (qAO rfl rfl rfl (by omega)) rfl <| J.b rfl <| J.a2 <| J.q <| J.a6 (k + 1) (fun x (hx : x ≤ 16 ∧ 16 - x < 16 - k) => hI0 x hx.1 hx.2) ⟨by omega, by omega⟩ ⟨rfl, rfl, rfl, rfl, trivial⟩ (fun _ h => by rw [firsts_succ, ← qGK _ _ (by rw [Sha.firsts_length]; omega), Sha.firsts_length]; exact h)
  refine J.b0 <| J.Z <| J.Z <| J.b1 ?_
  refine J.q (J.H hK3 ?_)
  refine J.M 2 3 ?_
  refine J.k fun K9 hK9 => J.g fun K10 hK10 => J.b rfl <| J.c hK10 <| J.V 2 3 5 ?_
  refine J.T <| J.b2 (fun j : Nat => [(2, Ptr g2), (3, Ptr g3), (5, I ((16 + j : Nat) : Int))]) (fun j => [F, blk g2 (List.replicate 64 (.int .u32 0)) 284, blk g3 (qDh (Sha.exts j (Sha.firsts b 16))) 284]) (fun j => j ≤ 48) (fun j => 48 - j) 0 (Nat.zero_le _) ⟨rfl, rfl, rfl, trivial⟩ (fun _ h => by rw [show k = 16 by omega] at h; exact h) ?_
  intro j hj I1 hI1
  have hlj : (Sha.exts j (Sha.firsts b 16)).length = 16 + j := by rw [Sha.exts_length, Sha.firsts_length]
  refine J.k fun K11 hK11 => J.g fun K12 hK12 => J.b rfl <| J.f (qAS rfl rfl rfl) rfl <| J.c hK12 <| J.W 2 3 5 50 ?_
  refine J.a0 rfl (fun h50 => ?_) (fun h50 => ?_)
  ·
    refine J.a1 hK11 <| J.V 2 3 5 ?_
    refine J.k fun K13 hK13 => J.T <| J.k fun K14 hK14 => J.b5 [blk g3 (qDh (Sha.exts j (Sha.firsts b 16))) 284] [] (.y 0 (.y 1 (.y 2 (.y 3 (.y 4 (.y 5 (.y 6 (.y 7 (.y 8 (.y 9 .nil)))))))))) Tryz.wide (by decide +kernel) (by simp) ?_
    refine J.G ?_
    refine J.j rfl ((qAs rfl rfl rfl (by omega)).nat (j + 1) (by omega)) rfl rfl <| J.j rfl (qAY (i := j + 1) (j := j + 1) rfl rfl rfl qHg qBz (by omega) (by omega)) rfl rfl <| J.j rfl (qAF 0 rfl rfl rfl qCo (qDz (Sha.exts j (Sha.firsts b 16)) (j + 1) (by omega))) rfl rfl <| J.G ?_
    refine J.j rfl ((qAs rfl rfl rfl (by omega)).nat (j + 14) (by omega)) rfl rfl <| J.j rfl (qAY (i := j + 14) (j := j + 14) rfl rfl rfl qHg qBz (by omega) (by omega)) rfl rfl <| J.j rfl (qAF 0 rfl rfl rfl qCo (qDz (Sha.exts j (Sha.firsts b 16)) (j + 14) (by omega))) rfl rfl <| J.c0 ?_
    refine J.c0 ?_
    refine J.b4 <| J.q (J.H hK14 ?_)
    refine J.a3 2 3 5 6 7 ?_
    refine J.g fun K15 hK15 => J.b rfl <| J.u (qAB rfl rfl ent180 (Ct.use0 (fun F' _ => qDZ F' _ 7 (by decide) (by decide)))) rfl fun g62 _ => J.b rfl <| J.u (qAB rfl rfl ent180 (Ct.use0 (fun F' _ => qDZ F' _ 18 (by decide) (by decide)))) rfl fun g64 _ => J.f (qBl rfl rfl rfl) rfl <| J.b rfl <| J.f (qG4 (m := 3) rfl rfl rfl) rfl <| J.f (qBl rfl rfl rfl) rfl <| J.b rfl <| J.c hK15 <| J.a3 2 3 5 7 8 ?_
    refine J.g fun K16 hK16 => J.b rfl <| J.u (qAB rfl rfl ent180 (Ct.use0 (fun F' _ => qDZ F' _ 17 (by decide) (by decide)))) rfl fun g70 _ => J.b rfl <| J.u (qAB rfl rfl ent180 (Ct.use0 (fun F' _ => qDZ F' _ 19 (by decide) (by decide)))) rfl fun g72 _ => J.f (qBl rfl rfl rfl) rfl <| J.b rfl <| J.f (qG4 (m := 10) rfl rfl rfl) rfl <| J.f (qBl rfl rfl rfl) rfl <| J.b rfl <| J.c hK16 <| J.a3 2 3 5 8 9 ?_
    refine J.b5 [blk g3 (qDh (Sha.exts j (Sha.firsts b 16))) 284] [15] (.y 0 (.y 1 (.y 2 (.y 3 (.y 4 (.y 5 (.y 6 (.y 7 (.y 8 (.y 9 (.y 10 (.y 11 (.y 12 (.y 13 (.y 14 (.e 15 .nil)))))))))))))))) Tryz.wide (by decide +kernel) (by simp) ?_
    refine J.G ?_
    refine J.G ?_
    refine J.j rfl ((qAs rfl rfl rfl (by omega)).nat (j) (by omega)) rfl rfl <| J.j rfl (qAY (i := j) (j := j) rfl rfl rfl qHg qBz (by omega) (by omega)) rfl rfl <| J.j rfl (qAF 0 rfl rfl rfl qCo (qDz (Sha.exts j (Sha.firsts b 16)) (j) (by omega))) rfl rfl <| J.G ?_
    refine J.j rfl (qBn rfl rfl rfl) rfl rfl <| J.G ?_
    refine J.j rfl ((qAs rfl rfl rfl (by omega)).nat (j + 9) (by omega)) rfl rfl <| J.j rfl (qAY (i := j + 9) (j := j + 9) rfl rfl rfl qHg qBz (by omega) (by omega)) rfl rfl <| J.j rfl (qAF 0 rfl rfl rfl qCo (qDz (Sha.exts j (Sha.firsts b 16)) (j + 9) (by omega))) rfl rfl <| J.j rfl (qBn rfl rfl rfl) rfl rfl <| J.G ?_
    refine J.j rfl (qBn rfl rfl rfl) rfl rfl <| J.j rfl (qAY (i := 16 + j) (j := 16 + j) rfl rfl rfl qHg qBz (by omega) (by omega)) rfl rfl <| J.c8 rfl (qAc (i := 2) (vs := [W32 _]) rfl rfl rfl rfl rfl qBz rfl (by rw [qFI (Sha.exts j (Sha.firsts b 16)) (by omega)]; show 16 + j + 1 ≤ _; omega)) rfl rfl rfl fun _ _ => ?_
    change J _ _ _ [F, _, _] _
    refine J.b4 <| J.a4 <| J.q (J.H hK13 ?_)
    refine J.V 2 3 5 ?_
    exact J.E <| J.b rfl <| J.f (qAO rfl rfl rfl (by omega)) rfl <| J.b rfl <| J.a2 <| J.q <| J.a6 (j + 1) (fun x (hx : x ≤ 48 ∧ 48 - x < 48 - j) => hI1 x hx.1 hx.2) ⟨by omega, by omega⟩ ⟨rfl, rfl, rfl, trivial⟩ (fun _ h => by rw [Sha.exts, ← qM6 _ j hlj (by omega)]; exact h)
  refine J.b0 <| J.Z <| J.Z <| J.b1 ?_
  refine J.q (J.H hK9 ?_)
  refine J.M 2 3 ?_
  refine J.k fun K17 hK17 => ?_
  have hj48 : j = 48 := by omega
  subst hj48
  refine J.E <| J.f (qAk 2 rfl rfl rfl isAgg284 sizeOf284 (qFI (Sha.exts 48 (Sha.firsts b 16)) (by rw [Sha.exts_length, Sha.firsts_length]; decide))) rfl <| J.c1 (qAR (i := 1) (vs := (Sha.sched b).map W32) rfl rfl rfl rfl (by show Array.mk _ = _; exact congrArg _ (qLB _ (Sha.sched_length b))) (fun w => by rw [List.length_map, Sha.sched_length]; exact sizeOf284 w) (qSS _) (by rw [List.length_map, Sha.sched_length]; rfl)) rfl rfl fun _ _ => ?_
  change J _ _ _ [F, blk g2 ((Sha.sched b).map W32) 284, _] _
  refine J.c hK17 <| J.A 2 ?_
  exact J.D <| J.c2 hw0 (fun _ _ h => h) (rv1 rfl (RV.blkA 1 rfl rfl isAgg284 (fun w => by rw [List.length_map, Sha.sched_length]; exact sizeOf284 w))) (qBD () rfl trivial [0] rfl (by decide))
theorem Sha.rnds_succ (ws : List UInt32) (s : Sha.St8) (i : Nat) : Sha.rnds ws s (i + 1) = Sha.rnd (ws.getD i 0) (Sha.K.getD i 0) (Sha.rnds ws s i) := rfl
theorem Sha.mix_eq (s : Sha.St8) (b : List UInt8) : Sha.mix s b = s.add (Sha.rnds (Sha.sched b) s 64) := rfl
theorem Sha.rnds_zero (ws : List UInt32) (s : Sha.St8) : Sha.rnds ws s 0 = s := rfl
attribute [local irreducible] Sha.rnds Sha.sched Sha.mix
theorem qS8 {m : Hp} {g off : Nat} {vs : List Value} {i : Nat} {v : Value} (h : qAV m ⟨g, off, none⟩ vs) (hi : vs[i]? = some v) : qAV m ⟨g, off + i, none⟩ [v] := by
 have := h.sub i 1
 rw [Addr.add_lit] at this
 obtain ⟨hk, rfl⟩ := List.getElem?_eq_some_iff.1 hi
 rw [List.drop_eq_getElem_cons hk] at this
 exact this
theorem getW {l : List UInt32} {i : Nat} (h : i < l.length) : (l.map W32)[i]? = some (W32 (l.getD i 0)) := by
 rw [List.getElem?_map, List.getElem?_eq_getElem h, List.getD_eq_getElem?_getD, List.getElem?_eq_getElem h]; rfl
def Sha.St8.adds (s t : Sha.St8) (k : Nat) : List UInt32 := (s.add t).list.take k ++ s.list.drop k
theorem qQb (s t : Sha.St8) (k : Nat) (hk : k ≤ 8) : (s.adds t k).length = 8 := by simp [Sha.St8.adds, Sha.St8.list]; omega
theorem qQc (s t : Sha.St8) : ∀ k, k < 8 → (s.adds t k)[k]? = some (s.list.getD k 0)
 | 0, _ => rfl | 1, _ => rfl | 2, _ => rfl | 3, _ => rfl | 4, _ => rfl | 5, _ => rfl | 6, _ => rfl | 7, _ => rfl
 | n + 8, h => by omega
theorem qQa (s t : Sha.St8) : ∀ k, k < 8 → qAw ((s.adds t k).map W32) k [W32 (s.list.getD k 0 + t.list.getD k 0)] = (s.adds t (k + 1)).map W32
 | 0, _ => rfl | 1, _ => rfl | 2, _ => rfl | 3, _ => rfl | 4, _ => rfl | 5, _ => rfl | 6, _ => rfl | 7, _ => rfl
 | n + 8, h => by omega
theorem qQd (s t : Sha.St8) : s.adds t 8 = (s.add t).list := rfl
theorem qKA (t : Sha.St8) : ∀ k, k < 8 → (t.list.map W32)[k]? = some (W32 (t.list.getD k 0))
 | 0, _ => rfl | 1, _ => rfl | 2, _ => rfl | 3, _ => rfl | 4, _ => rfl | 5, _ => rfl | 6, _ => rfl | 7, _ => rfl
 | n + 8, h => by omega
abbrev KF (F : Hp) : Prop := qAV F ⟨0, 0, none⟩ (Sha.K.map W32)
theorem qT3 (F : Hp) (hK : KF F) (g : Nat) (s : Sha.St8) (A : Option Addr) (n c : Nat) (b : List UInt8) (hl : Sl F 1 A n c (qAX b)) (h64 : 64 ≤ n) :
    Ct prog 142 [Ptr g, .slice A n c] [blk g (s.list.map W32) 248, F] (fun _ : Unit => .tuple #[]) (fun _ => True) (fun _ => [blk g ((Sha.mix s b).list.map W32) 248, F]) := by
  refine Ct.walk func142 rfl ntmps142 rfl (fun w0 hw0 => ?_)
  change J _ [(0, _), (1, _)] _ _ _
  refine J.g fun K1 hK1 => J.b rfl <| J.u (qAB rfl rfl ent179 (Ct.use0 (fun F' hF => qIr F' A n c b (hl.mono (hF _ (by simp))) h64))) rfl fun g21 _ => ?_
  change J _ _ _ [blk g (s.list.map W32) 248, F] _
  refine J.u (qAf rfl zeroValue284 rfl) rfl fun g4 _ => ?_
  change J _ _ _ [_, _, blk g4 _ 284] _
  refine J.c1 (qAR (i := 2) (vs := (Sha.sched b).map W32) rfl rfl rfl rfl rfl (fun w => by rw [List.length_map, Sha.sched_length]; exact sizeOf284 w) (qSS _) (by rw [List.length_map, Sha.sched_length]; rfl)) rfl rfl fun _ _ => ?_
  change J _ _ _ [_, _, blk g4 ((Sha.sched b).map W32) 284] _
  refine J.c hK1 <| J.M 0 4 ?_
  refine J.k fun K2 hK2 => J.b5 [blk g (s.list.map W32) 248] [] (.y 0 (.y 1 (.y 2 (.y 3 (.y 4 (.y 5 (.y 6 (.y 7 (.y 8 (.y 9 (.y 10 (.y 11 (.y 12 (.y 13 (.y 14 (.y 15 (.y 16 (.y 17 (.y 18 (.y 19 (.y 20 (.y 21 (.y 22 (.y 23 (.y 24 (.y 25 (.y 26 (.y 27 (.y 28 (.y 29 (.y 30 (.y 31 (.y 32 (.y 33 (.y 34 (.y 35 (.y 36 (.y 37 (.y 38 (.y 39 .nil)))))))))))))))))))))))))))))))))))))))) Tryz.wide (by decide +kernel) (by simp) ?_
  refine J.G ?_
  refine J.j rfl (qAE rfl rfl) rfl rfl <| J.j rfl (qAY (i := 0) (j := 0) rfl rfl rfl qEi qBz (by decide) rfl) rfl rfl <| J.j rfl (qAF 0 rfl rfl rfl qCo rfl) rfl rfl <| J.G ?_
  refine J.j rfl (qAE rfl rfl) rfl rfl <| J.j rfl (qAY (i := 1) (j := 1) rfl rfl rfl qEi qBz (by decide) rfl) rfl rfl <| J.j rfl (qAF 0 rfl rfl rfl qCo rfl) rfl rfl <| J.G ?_
  refine J.j rfl (qAE rfl rfl) rfl rfl <| J.j rfl (qAY (i := 2) (j := 2) rfl rfl rfl qEi qBz (by decide) rfl) rfl rfl <| J.j rfl (qAF 0 rfl rfl rfl qCo rfl) rfl rfl <| J.G ?_
  refine J.j rfl (qAE rfl rfl) rfl rfl <| J.j rfl (qAY (i := 3) (j := 3) rfl rfl rfl qEi qBz (by decide) rfl) rfl rfl <| J.j rfl (qAF 0 rfl rfl rfl qCo rfl) rfl rfl <| J.G ?_
  refine J.j rfl (qAE rfl rfl) rfl rfl <| J.j rfl (qAY (i := 4) (j := 4) rfl rfl rfl qEi qBz (by decide) rfl) rfl rfl <| J.j rfl (qAF 0 rfl rfl rfl qCo rfl) rfl rfl <| J.G ?_
  refine J.j rfl (qAE rfl rfl) rfl rfl <| J.j rfl (qAY (i := 5) (j := 5) rfl rfl rfl qEi qBz (by decide) rfl) rfl rfl <| J.j rfl (qAF 0 rfl rfl rfl qCo rfl) rfl rfl <| J.G ?_
  refine J.j rfl (qAE rfl rfl) rfl rfl <| J.j rfl (qAY (i := 6) (j := 6) rfl rfl rfl qEi qBz (by decide) rfl) rfl rfl <| J.j rfl (qAF 0 rfl rfl rfl qCo rfl) rfl rfl <| J.G ?_
  refine J.j rfl (qAE rfl rfl) rfl rfl <| J.j rfl (qAY (i := 7) (j := 7) rfl rfl rfl qEi qBz (by decide) rfl) rfl rfl <| J.j rfl (qAF 0 rfl rfl rfl qCo rfl) rfl rfl <| J.c0 ?_
  iterate 7 refine J.c0 ?_
  refine J.b4 <| J.q (J.H hK2 ?_)
  refine J.e0 0 4 5 6 7 8 9 10 11 12 ?_
  refine J.k fun K3 hK3 => J.g fun K4 hK4 => J.b rfl <| J.c hK4 <| J.d5 0 4 5 6 7 8 9 10 11 12 54 ?_
  refine J.T <| J.b2 (fun i : Nat => [(0, Ptr g), (4, Ptr g4), (5, W32 (Sha.rnds (Sha.sched b) s i).a), (6, W32 (Sha.rnds (Sha.sched b) s i).b), (7, W32 (Sha.rnds (Sha.sched b) s i).c), (8, W32 (Sha.rnds (Sha.sched b) s i).d), (9, W32 (Sha.rnds (Sha.sched b) s i).e), (10, W32 (Sha.rnds (Sha.sched b) s i).f), (11, W32 (Sha.rnds (Sha.sched b) s i).g), (12, W32 (Sha.rnds (Sha.sched b) s i).h), (54, I i)]) (fun _ => [blk g (s.list.map W32) 248, F, blk g4 ((Sha.sched b).map W32) 284]) (fun i => i ≤ 64) (fun i => 64 - i) 0 (Nat.zero_le _) ⟨rfl, rfl, by rw [Sha.rnds_zero]; rfl, by rw [Sha.rnds_zero]; rfl, by rw [Sha.rnds_zero]; rfl, by rw [Sha.rnds_zero]; rfl, by rw [Sha.rnds_zero]; rfl, by rw [Sha.rnds_zero]; rfl, by rw [Sha.rnds_zero]; rfl, by rw [Sha.rnds_zero]; rfl, rfl, trivial⟩ (fun _ h => h) ?_
  intro i hi I0 hI0
  refine J.g fun K5 hK5 => J.f (qAS rfl rfl rfl) rfl <| J.c hK5 <| J.e2 0 4 5 6 7 8 9 10 11 12 54 55 ?_
  refine J.k fun K6 hK6 => J.a0 rfl (fun h55 => ?_) (fun h55 => ?_)
  ·
    refine J.a1 hK6 <| J.d5 0 4 5 6 7 8 9 10 11 12 54 ?_
    refine J.k fun K7 hK7 => J.T <| J.g fun K8 hK8 => J.p 2 rfl <| J.c hK8 <| J.e2 0 4 5 6 7 8 9 10 11 12 13 54 ?_
    refine J.g fun K9 hK9 => J.b rfl <| J.u (qAB rfl rfl ent180 (Ct.use0 (fun F' _ => qDZ F' _ 6 (by decide) (by decide)))) rfl fun g58 _ => J.b rfl <| J.u (qAB rfl rfl ent180 (Ct.use0 (fun F' _ => qDZ F' _ 11 (by decide) (by decide)))) rfl fun g60 _ => J.f (qBl rfl rfl rfl) rfl <| J.b rfl <| J.u (qAB rfl rfl ent180 (Ct.use0 (fun F' _ => qDZ F' _ 25 (by decide) (by decide)))) rfl fun g63 _ => J.f (qBl rfl rfl rfl) rfl <| J.b rfl <| J.c hK9 <| J.i2 0 4 5 6 7 8 9 10 11 12 13 14 54 ?_
    refine J.k fun K10 hK10 => ?_
    have hiK : i < Sha.K.length := by show i < 64; omega
    refine J.b5 [blk g (s.list.map W32) 248, F, blk g4 ((Sha.sched b).map W32) 284] [] (.y 0 (.y 1 (.y 2 (.y 3 (.y 4 (.y 5 (.y 6 (.y 7 (.y 8 (.y 9 (.y 10 (.y 11 (.y 12 (.y 13 (.y 14 (.y 15 (.y 16 (.y 17 (.y 18 (.y 19 (.y 20 .nil))))))))))))))))))))) Tryz.wide (by decide +kernel) (by simp) ?_
    refine J.G ?_
    refine J.G ?_
    refine J.j rfl (qBn rfl rfl rfl) rfl rfl <| J.G ?_
    refine J.G ?_
    refine J.j rfl (qD6 rfl rfl rfl) rfl rfl <| J.G ?_
    refine J.j rfl (qPW rfl rfl) rfl rfl <| J.G ?_
    refine J.j rfl (qD6 rfl rfl rfl) rfl rfl <| J.j rfl (qBl rfl rfl rfl) rfl rfl <| J.j rfl (qBn rfl rfl rfl) rfl rfl <| J.G ?_
    refine J.j rfl (qAY (i := i) (j := i) rfl rfl rfl qHg qBz (by omega) (by omega)) rfl rfl <| J.j rfl (qPU 1 rfl rfl qCo rfl (by have h := qS8 hK (getW (l := Sha.K) (i := i) hiK); rw [Nat.zero_add] at h; exact h)) rfl rfl <| J.j rfl (qBn rfl rfl rfl) rfl rfl <| J.G ?_
    refine J.j rfl (qAY (i := i) (j := i) rfl rfl rfl qHg qBz (by omega) (by omega)) rfl rfl <| J.j rfl (qAF 2 rfl rfl rfl qCo (getW (l := Sha.sched b) (i := i) (by rw [Sha.sched_length]; omega))) rfl rfl <| J.j rfl (qBn rfl rfl rfl) rfl rfl <| J.c0 ?_
    refine J.b4 <| J.q (J.H hK10 ?_)
    refine J.d5 0 4 5 6 7 8 9 10 11 15 54 ?_
    refine J.g fun K11 hK11 => J.b rfl <| J.u (qAB rfl rfl ent180 (Ct.use0 (fun F' _ => qDZ F' _ 2 (by decide) (by decide)))) rfl fun g86 _ => J.b rfl <| J.u (qAB rfl rfl ent180 (Ct.use0 (fun F' _ => qDZ F' _ 13 (by decide) (by decide)))) rfl fun g88 _ => J.f (qBl rfl rfl rfl) rfl <| J.b rfl <| J.u (qAB rfl rfl ent180 (Ct.use0 (fun F' _ => qDZ F' _ 22 (by decide) (by decide)))) rfl fun g91 _ => J.f (qBl rfl rfl rfl) rfl <| J.b rfl <| J.c hK11 <| J.e2 0 4 5 6 7 8 9 10 11 15 16 54 ?_
    refine J.g fun K12 hK12 => J.p 3 rfl <| J.f (qD6 rfl rfl rfl) rfl <| J.p 2 rfl <| J.f (qD6 rfl rfl rfl) rfl <| J.f (qBl rfl rfl rfl) rfl <| J.p 2 rfl <| J.f (qD6 rfl rfl rfl) rfl <| J.f (qBl rfl rfl rfl) rfl <| J.f (qBn rfl rfl rfl) rfl <| J.b rfl <| J.c hK12 <| J.e2 0 4 5 6 7 8 9 10 11 15 17 54 ?_
    refine J.E <| J.p 5 rfl <| J.f (qBn rfl rfl rfl) rfl <| J.p 5 rfl <| J.f (qBn rfl rfl rfl) rfl <| J.p 8 rfl <| J.a2 <| J.a4 <| J.q (J.H hK7 ?_)
    refine J.d5 0 4 5 6 7 8 9 10 11 12 54 ?_
    exact J.E <| J.f (qAO rfl rfl rfl (by omega)) rfl <| J.b rfl <| J.a2 <| J.q <| J.a6 (i + 1) (fun x (hx : x ≤ 64 ∧ 64 - x < 64 - i) => hI0 x hx.1 hx.2) ⟨by omega, by omega⟩ ⟨rfl, rfl, by rw [Sha.rnds_succ]; rfl, by rw [Sha.rnds_succ]; rfl, by rw [Sha.rnds_succ]; rfl, by rw [Sha.rnds_succ]; rfl, by rw [Sha.rnds_succ]; rfl, by rw [Sha.rnds_succ]; rfl, by rw [Sha.rnds_succ]; rfl, by rw [Sha.rnds_succ]; rfl, rfl, trivial⟩ (fun _ h => h)
  refine J.b0 <| J.Z <| J.Z <| J.b1 ?_
  refine J.q (J.H hK3 ?_)
  refine J.d8 0 5 6 7 8 9 10 11 12 ?_
  refine J.k fun K13 hK13 => ?_
  have hi64 : i = 64 := by omega
  subst hi64
  refine J.E <| J.p 8 rfl <| J.f (qDi (l := [.tmp 119, .tmp 120, .tmp 121, .tmp 122, .tmp 123, .tmp 124, .tmp 125, .tmp 126]) rfl rfl rfl underlying247 el246 zeroValue247 rfl rfl (by simp [Value.cells]) (r := (Sha.rnds (Sha.sched b) s 64).list.map W32) rfl) rfl <| J.b rfl <| J.c hK13 <| J.V 0 127 128 ?_
  refine J.T <| J.b2 (fun k : Nat => [(0, Ptr g), (127, .agg ((Sha.rnds (Sha.sched b) s 64).list.map W32).toArray), (128, I k)]) (fun k => [blk g ((s.adds (Sha.rnds (Sha.sched b) s 64) k).map W32) 248, F, blk g4 ((Sha.sched b).map W32) 284]) (fun k => k ≤ 8) (fun k => 8 - k) 0 (Nat.zero_le _) ⟨rfl, rfl, rfl, trivial⟩ (fun _ h => h) ?_
  intro k hk I2 hI2
  refine J.g fun K14 hK14 => J.f (qAS rfl rfl rfl) rfl <| J.c hK14 <| J.W 0 127 128 129 ?_
  refine J.k fun K15 hK15 => J.a0 rfl (fun h129 => ?_) (fun h129 => ?_)
  ·
    refine J.a1 hK15 <| J.V 0 127 128 ?_
    refine J.k fun K16 hK16 => J.T <| J.g fun K17 hK17 => J.b rfl <| J.f (qG9 (i := k) (v := W32 ((Sha.rnds (Sha.sched b) s 64).list.getD k 0)) rfl rfl rfl underlying247 qBz qCo (by omega) (by rw [Nat.mul_one, List.getElem?_toArray]; exact qKA _ k (by omega))) rfl ?_
    refine J.p 2 rfl <| J.c hK17 <| J.a3 0 18 19 127 128 ?_
    refine J.b5 [blk g ((s.adds (Sha.rnds (Sha.sched b) s 64) k).map W32) 248] [9] (.y 0 (.y 1 (.y 2 (.y 3 (.y 4 (.y 5 (.y 6 (.y 7 (.y 8 (.e 9 .nil)))))))))) Tryz.wide (by decide +kernel) (by simp) ?_
    refine J.G ?_
    refine J.G ?_
    refine J.j rfl (qAE rfl rfl) rfl rfl <| J.j rfl (qAY (i := k) (j := k) rfl rfl rfl qEi qBz (by omega) (by omega)) rfl rfl <| J.j rfl (qAF 0 rfl rfl rfl qCo (v := W32 (s.list.getD k 0)) (by rw [List.getElem?_map, qQc s (Sha.rnds (Sha.sched b) s 64) k (by omega)]; rfl)) rfl rfl ?_
    refine J.G ?_
    refine J.j rfl (qBn rfl rfl rfl) rfl rfl <| J.j rfl (qAE rfl rfl) rfl rfl <| J.j rfl (qAY (i := k) (j := k) rfl rfl rfl qEi qBz (by omega) (by omega)) rfl rfl <| J.c8 rfl (qAc (i := 0) (vs := [W32 _]) rfl rfl rfl rfl rfl qBz rfl (by rw [List.length_map, qQb s (Sha.rnds (Sha.sched b) s 64) k (by omega)]; show k + 1 ≤ _; omega)) rfl rfl rfl fun _ _ => ?_
    change J _ _ _ [_, F, blk g4 ((Sha.sched b).map W32) 284] _
    refine J.b4 <| J.a4 <| J.q (J.H hK16 ?_)
    refine J.V 0 127 128 ?_
    exact J.E <| J.f (qAO rfl rfl rfl (by omega)) rfl <| J.b rfl <| J.a2 <| J.q <| J.a6 (k + 1) (fun x (hx : x ≤ 8 ∧ 8 - x < 8 - k) => hI2 x hx.1 hx.2) ⟨by omega, by omega⟩ ⟨rfl, rfl, rfl, trivial⟩ (fun _ h => by rw [← qQa s (Sha.rnds (Sha.sched b) s 64) k (by omega)]; exact h)
  refine J.b0 <| J.Z <| J.Z <| J.b1 ?_
  have hk8 : k = 8 := by omega
  subst hk8
  exact J.e4 hw0 (fun _ _ h => h) (qLx rfl) (qBD () rfl trivial [0, 1] (by rw [qQd, ← Sha.mix_eq]; rfl) (by decide))
end Go.Proofs.YtfldiegfenndjaaGreatDoor
namespace Go.Proofs.YtfldiegfenndjaaGreatDoor
open Go Go.Fw Go.Proofs.Tryz
set_option maxRecDepth 100000
set_option maxHeartbeats 1000000
theorem qP8 (F : Hp) (A : Option Addr) (n c : Nat) (ls : List (List UInt8)) (hl : Sl F 1 A n c (qAL ls)) (htot : ls.flatten.length ≤ 35184372088832) (hn47 : n ≤ 70368744177664) :
    Ct prog 140 [.slice A n c, Str []] [F] (fun _ : Unit => Str ls.flatten) (fun _ => True) (fun _ => [F]) := by
  have h := qSn F A n c ls [] hl (by rw [qIC]; exact htot) hn47
  rw [qIC] at h; exact h
theorem qDR (a b : List UInt8) : qAX (a ++ b) = qAX a ++ qAX b := by simp [qAX]
theorem qGZ (a : List UInt8) : (qAX a).all (fun x => x.all Value.oneCell') = true := by simp [qAX, Value.oneCell']
theorem qLn (p : List UInt8) (k N : Nat) (hN : p.length = N) : ((qAX (p.drop (64 * k))).take (N - 64 * k)).drop 64 = qAX (p.drop (64 * (k + 1))) := by
 rw [List.take_of_length_le (by simp [qAX, hN])]
 unfold qAX
 rw [← List.map_drop, List.drop_drop, Nat.mul_add]
def Sha.outs (t : Sha.St8) (k : Nat) : List UInt8 := (t.list.take k).flatMap fun x => Sha.numB x.toUInt64 4
theorem outs_succ (t : Sha.St8) : ∀ k, k < 8 → Sha.outs t (k + 1) = Sha.outs t k ++ Sha.numB (t.list.getD k 0).toUInt64 4
 | 0, _ => rfl | 1, _ => rfl | 2, _ => rfl | 3, _ => rfl | 4, _ => rfl | 5, _ => rfl | 6, _ => rfl | 7, _ => rfl
 | n + 8, h => by omega
attribute [local irreducible] Sha.sum Sha.pad Sha.mixes Sha.numB
theorem qQt (F : Hp) (hK : KF F) (A : Option Addr) (n c : Nat) (ls : List (List UInt8)) (hl : Sl F 1 A n c (qAL ls)) (htot : ls.flatten.length ≤ 17592186044416) (hn47 : n ≤ 70368744177664) :
    Ct prog 88 [.slice A n c] [F] (fun _ : Unit => Str (Sha.sum ls.flatten)) (fun _ => True) (fun _ => [F]) := by
  obtain ⟨l, hL⟩ : ∃ l, l = ls.flatten := ⟨_, rfl⟩
  have hJ := qP8 F A n c ls hl (by omega) hn47
  rw [← hL] at hJ htot ⊢
  have hpad := Sha.pad_length l
  have hpm := Sha.pad_mod l
  obtain ⟨p, hp⟩ : ∃ p, p = Sha.pad l := ⟨_, rfl⟩
  rw [← hp] at hpad hpm
  have hsum : Sha.sum l = Sha.out (Sha.mixes Sha.init p (p.length / 64)) := by rw [hp]; unfold Sha.sum; rfl
  have hpd : p = l ++ [128] ++ List.replicate ((119 - l.length % 64) % 64) 0 ++ Sha.numB (8 * UInt64.ofNat l.length) 8 := by rw [hp]; unfold Sha.pad; rfl
  refine Ct.walk func88 rfl ntmps88 rfl (fun w0 hw0 => ?_)
  refine J.g fun K1 hK1 => J.b rfl <| J.c hK1 <| J.A 0 ?_
  refine J.g fun K2 hK2 => J.b rfl <| J.u (qAB rfl rfl ent140 hJ) rfl fun g10 _ => J.u (qGM rfl rfl u9_ qBP u5_) rfl ?_
  rintro ⟨g11, c11, m11⟩ h11
  try dsimp only at h11
  refine J.b rfl <| J.c hK2 <| J.A 3 ?_
  refine J.g fun K3 hK3 => J.b rfl <| J.f (qAZ qBP rfl rfl) rfl <| J.f (qBL rfl rfl u3_ qDu (by omega)) rfl <| J.b rfl <| J.c hK3 <| J.M 3 4 ?_
  refine J.g fun K4 hK4 => J.b rfl <| J.u (qAH (l := [.const ((Value.int IntKind.u8 128))]) (xs := [[B8 128]]) rfl rfl rfl rfl qBP el5 rfl (by decide) (by decide) (by simp)) rfl fun g16 _ => J.u (qAb (i := 1) (m2 := blk g16 [B8 128] 5) rfl rfl rfl qBP qBP el5 rfl h11 (by simp) (qAr (q := True) (xs := [[B8 128]]) rfl (by simp)).sl rfl (by omega) (by omega)) rfl ?_
  rintro ⟨A17, c17, m17⟩ h17
  try dsimp only at h17
  rw [show [[B8 128]] = qAX [128] from rfl, ← qDR] at h17
  refine J.c5 [0, 1] [F, m17] rfl (by decide) <| J.b rfl <| J.c hK4 <| J.M 3 4 ?_
  refine J.k fun K5 hK5 => J.T <| J.b2 (X := Nat × Option Addr × Nat × Hp) (fun x => [(3, .slice x.2.1 (l.length + 1 + x.1) x.2.2.1), (4, W64 (UInt64.ofNat l.length))]) (fun x => [F, x.2.2.2]) (fun x => x.1 ≤ (119 - l.length % 64) % 64 ∧ Row x.2.2.2 5 1 x.2.1 (l.length + 1 + x.1) x.2.2.1 (qAX (l ++ [128] ++ List.replicate x.1 0))) (fun x => (119 - l.length % 64) % 64 - x.1) (0, A17, c17, m17) (⟨Nat.zero_le _, by simpa using h17⟩) ⟨rfl, rfl, trivial⟩ (fun _ h => h) ?_
  rintro ⟨k, A1, c1, m⟩ ⟨hk, hrow⟩ I0 hI0
  dsimp only at hk hrow ⊢
  refine J.k fun K6 hK6 => J.g fun K7 hK7 => J.b rfl <| J.f (qAZ qBP rfl rfl) rfl <| J.f (qFS rfl rfl rfl (by omega)) rfl <| J.f (qAx rfl rfl rfl) rfl <| J.c hK7 <| J.V 3 4 21 ?_
  refine J.a0 rfl (fun h21 => ?_) (fun h21 => ?_)
  ·
    refine J.a1 hK6 <| J.M 3 4 ?_
    refine J.T <| J.E <| J.b rfl <| J.u (qAH (l := [.const ((Value.int IntKind.u8 0))]) (xs := [[B8 0]]) rfl rfl rfl rfl qBP el5 rfl (by decide) (by decide) (by simp)) rfl fun g23 _ => J.u (qAb (i := 1) (m2 := blk g23 [B8 0] 5) rfl rfl rfl qBP qBP el5 rfl hrow (by simp) (qAr (q := True) (xs := [[B8 0]]) rfl (by simp)).sl rfl (by omega) (by omega)) rfl ?_
    rintro ⟨A24, c24, m24⟩ h24
    try dsimp only at h24
    rw [show [[B8 0]] = qAX [0] from rfl, ← qDR] at h24
    refine J.c5 [0, 1] [F, m24] rfl (by decide) <| J.b rfl <| J.a2 <| J.a4 <| J.q <| J.a6 (k + 1, A24, c24, m24) (fun x (hx : _ ∧ (119 - l.length % 64) % 64 - x.1 < (119 - l.length % 64) % 64 - k) => hI0 x hx.1 hx.2) ⟨⟨by dsimp only; omega, by rw [List.replicate_succ', ← List.append_assoc]; exact h24⟩, by dsimp only; omega⟩ ⟨rfl, rfl, trivial⟩ (fun _ h => h)
  refine J.b0 <| J.Z <| J.Z <| J.b1 ?_
  refine J.q (J.H hK5 ?_)
  refine J.M 3 4 ?_
  refine J.k fun K8 hK8 => ?_
  have hkz : k = (119 - l.length % 64) % 64 := by omega
  refine J.E <| J.p 2 rfl <| J.f (qJw (a := 8) rfl rfl rfl) rfl <| J.u (qAB rfl rfl ent87 (Ct.use (fun F' _ => qD7 F' _ 8 (by decide)))) rfl ?_
  rintro ⟨A28, c28, m28⟩ h28
  try dsimp only at h28
  refine J.u (qAb (i := 1) (m2 := m28) rfl rfl rfl qBP qBP el5 rfl hrow (by simp) h28.sl (qGZ _) (by omega) (by omega)) rfl ?_
  rintro ⟨A29, c29, m29⟩ h29
  try dsimp only at h29
  rw [← qDR] at h29
  refine J.c5 [0, 1] [F, m29] rfl (by decide) <| J.b rfl <| J.c hK8 <| J.A 3 ?_
  refine J.k fun K9 hK9 => ?_
  rw [hkz, ← hpd] at h29
  rw [hkz, show l.length + 1 + (119 - l.length % 64) % 64 + 8 = p.length by omega] at *
  refine J.E <| J.u (qAB rfl rfl ent141 (Ct.use0 (fun F' _ => qQF F'))) rfl fun g30 _ => J.u (qAf rfl zeroValue248 rfl) rfl fun g5 _ => J.c1 (qAR (i := 2) (vs := Sha.init.list.map W32) rfl rfl rfl rfl rfl sizeOf248 (qSS _) (by rfl)) rfl rfl fun _ _ => J.c hK9 <| J.M 3 5 ?_
  refine J.k fun K10 hK10 => J.T <| J.b2 (X := Nat × Option Addr × Nat) (fun x => [(3, .slice x.2.1 (p.length - 64 * x.1) x.2.2), (5, Ptr g5)]) (fun x => [F, m29, blk g5 ((Sha.mixes Sha.init p x.1).list.map W32) 248]) (fun x => 64 * x.1 ≤ p.length ∧ Sl m29 1 x.2.1 (p.length - 64 * x.1) x.2.2 (qAX (p.drop (64 * x.1)))) (fun x => p.length - 64 * x.1) (0, A29, c29) (⟨Nat.zero_le _, h29.sl⟩) ⟨rfl, rfl, trivial⟩ (fun _ h => by unfold Sha.mixes; exact h) ?_
  rintro ⟨k, A2, c2⟩ ⟨hk, hsl⟩ I2 hI2
  dsimp only at hk hsl ⊢
  refine J.k fun K11 hK11 => J.g fun K12 hK12 => J.b rfl <| J.f (qAZ qBP rfl rfl) rfl <| J.f (qBJ rfl rfl rfl) rfl <| J.c hK12 <| J.V 3 5 33 ?_
  refine J.a0 rfl (fun h33 => ?_) (fun h33 => ?_)
  ·
    refine J.a1 hK11 <| J.M 3 5 ?_
    refine J.k fun K13 hK13 => J.T ?_
    have hN : 64 ≤ p.length - 64 * k := by omega
    have hc2 := hsl.2.1
    refine J.E <| J.b rfl <| J.u (qAB rfl rfl ent142 (Ct.use1 2 rfl (fun F' hF => qT3 F' (hK.mono (hF _ (by simp))) g5 _ A2 (p.length - 64 * k) c2 (p.drop (64 * k)) (hsl.mono (hF _ (by simp))) (by omega)))) rfl fun g37 _ => J.a2 <| J.a4 <| J.q (J.H hK13 ?_)
    refine J.M 3 5 ?_
    refine J.E <| J.b rfl <| J.f (qCu (l := 64) (h := p.length - 64 * k) rfl rfl qBP z5_ rfl rfl (by omega)) rfl <| J.b rfl <| J.a2 <| J.q ?_
    have hcut := hsl.cut (lo := 64) (hi := p.length - 64 * k) (mx := c2) hN (Nat.le_refl _) hsl.2.1
    rw [qLn p k _ rfl] at hcut
    have hNN : p.length - 64 * k - 64 = p.length - 64 * (k + 1) := by omega
    refine J.a6 (k + 1, _, c2 - 64) (fun x (hx : _ ∧ p.length - 64 * x.1 < p.length - 64 * k) => hI2 x hx.1 hx.2) ⟨⟨by dsimp only; omega, by rw [← hNN]; exact hcut⟩, by dsimp only; omega⟩ ⟨by rw [← hNN]; rfl, rfl, trivial⟩ (fun _ h => by unfold Sha.mixes; exact h)
  refine J.b0 <| J.Z <| J.Z <| J.b1 ?_
  refine J.q (J.H hK10 ?_)
  refine J.A 5 ?_
  refine J.k fun K14 hK14 => ?_
  have hk64 : k = p.length / 64 := by omega
  rw [← hk64] at hsum
  generalize Sha.mixes Sha.init p k = t at hsum ⊢
  refine J.E <| J.b rfl <| J.c hK14 <| J.M 5 6 ?_
  refine J.k fun K15 hK15 => J.g fun K16 hK16 => J.c7 2 isAgg248 sizeOf248 rfl rfl rfl rfl rfl <| J.d6 [0, 3] [F, (fun _ => none)] rfl (by decide) <| J.b rfl <| J.c hK16 <| J.V 6 38 39 ?_
  refine J.T <| J.b2 (X := Nat × Option Addr × Nat × Hp) (fun x => [(6, .slice x.2.1 (4 * x.1) x.2.2.1), (38, .agg (t.list.map W32).toArray), (39, I x.1)]) (fun x => [F, x.2.2.2]) (fun x => x.1 ≤ 8 ∧ Row x.2.2.2 5 1 x.2.1 (4 * x.1) x.2.2.1 (qAX (Sha.outs t x.1))) (fun x => 8 - x.1) (0, none, 0, fun _ => none) (⟨Nat.zero_le _, qB5.nil⟩) ⟨rfl, rfl, rfl, trivial⟩ (fun _ h => h) ?_
  rintro ⟨k, A3, c3, m⟩ ⟨hk, hrow⟩ I4 hI4
  dsimp only at hk hrow ⊢
  refine J.g fun K17 hK17 => J.f (qAS rfl rfl rfl) rfl <| J.c hK17 <| J.W 6 38 39 40 ?_
  refine J.k fun K18 hK18 => J.a0 rfl (fun h40 => ?_) (fun h40 => ?_)
  ·
    refine J.a1 hK18 <| J.V 6 38 39 ?_
    refine J.k fun K19 hK19 => J.T <| J.g fun K20 hK20 => J.f (qG9 rfl rfl rfl qEi qBz qCo (by omega) (by rw [Nat.mul_one, List.getElem?_toArray]; exact qKA _ k (by omega))) rfl ?_
    refine J.b rfl <| J.c hK20 <| J.W 6 8 38 39 ?_
    refine J.E <| J.p 2 rfl <| J.f (qHB rfl rfl qHh qDu) rfl <| J.u (qAB rfl rfl ent87 (Ct.use (fun F' _ => qD7 F' _ 4 (by decide)))) rfl ?_
    rintro ⟨A45, c45, m45⟩ h45
    try dsimp only at h45
    refine J.u (qAb (i := 1) (m2 := m45) rfl rfl rfl qBP qBP el5 rfl hrow (by simp) h45.sl (qGZ _) (by omega) (by omega)) rfl ?_
    rintro ⟨A46, c46, m46⟩ h46
    try dsimp only at h46
    rw [← qDR, ← outs_succ t k (by omega)] at h46
    refine J.c5 [0, 1] [F, m46] rfl (by decide) <| J.b rfl <| J.a2 <| J.a4 <| J.q (J.H hK19 ?_)
    refine J.V 6 38 39 ?_
    refine J.E <| J.f (qAO rfl rfl rfl (by omega)) rfl <| J.b rfl <| J.a2 <| J.q <| J.a6 (k + 1, A46, c46, m46) (fun x (hx : _ ∧ 8 - x.1 < 8 - k) => hI4 x hx.1 hx.2) ⟨⟨by dsimp only; omega, h46⟩, by dsimp only; omega⟩ ⟨rfl, rfl, rfl, trivial⟩ (fun _ h => h)
  refine J.b0 <| J.Z <| J.Z <| J.b1 ?_
  refine J.q (J.H hK15 ?_)
  refine J.A 6 ?_
  refine J.k fun K21 hK21 => ?_
  have hk8 : k = 8 := by omega
  subst hk8
  refine J.E <| J.b rfl <| J.f (qBB rfl rfl qBP u5_ u9_ (m := m) (by simp) hrow.sl) rfl <| J.b rfl <| J.c hK21 <| J.A 2 ?_
  exact J.D <| J.L hw0 rfl () (by rw [hsum]; rfl) trivial [0] rfl (by decide)
namespace Sha
def tagParts (tag : UInt8) (ls : List (List UInt8)) (k : Nat) : List (List UInt8) := [[tag]] ++ (ls.take k).flatMap fun s => [numB (UInt64.ofNat s.length) 4, s]
def tagB (tag : UInt8) (ls : List (List UInt8)) : List UInt8 := [tag] ++ ls.flatMap fun s => numB (UInt64.ofNat s.length) 4 ++ s
def tagged (tag : UInt8) (ls : List (List UInt8)) : List UInt8 := (sum (tagB tag ls)).take 16
theorem tagParts_succ (tag : UInt8) (ls : List (List UInt8)) (k : Nat) {s : List UInt8} (h : ls[k]? = some s) : tagParts tag ls (k + 1) = tagParts tag ls k ++ [numB (UInt64.ofNat s.length) 4, s] := by
 obtain ⟨hk, rfl⟩ := List.getElem?_eq_some_iff.1 h
 unfold tagParts
 rw [List.take_succ_eq_append_getElem hk, List.flatMap_append, ← List.append_assoc]
 simp
theorem tagParts_flat (tag : UInt8) (ls : List (List UInt8)) : (tagParts tag ls ls.length).flatten = tagB tag ls := by
 unfold tagParts tagB
 rw [List.take_length, List.flatten_append]
 congr 1
 induction ls with
 | nil => rfl
 | cons a l ih => rw [List.flatMap_cons, List.flatMap_cons, List.flatten_append, ih]; simp
theorem tagB_length (tag : UInt8) (ls : List (List UInt8)) : (tagB tag ls).length = 1 + 4 * ls.length + ls.flatten.length := by
 unfold tagB
 rw [List.length_append]
 induction ls with
 | nil => rfl
 | cons a l ih => simp only [List.flatMap_cons, List.length_append, numB_length, List.length_cons, List.flatten_cons, List.length_nil] at ih ⊢; omega
theorem tagged_length (tag : UInt8) (ls : List (List UInt8)) : (tagged tag ls).length = 16 := by rw [tagged, List.length_take, sum_length]; rfl
def hi (b : UInt8) : UInt8 := UInt8.ofNat (b.toNat / 2 ^ min 4 8)
end Sha
theorem qB2 (a b : List (List UInt8)) : qAL (a ++ b) = qAL a ++ qAL b := by simp [qAL]
theorem qKB {ls : List (List UInt8)} {k : Nat} {s : List UInt8} (h : ls[k]? = some s) : s.length ≤ ls.flatten.length := by
 have : s ∈ ls := List.mem_of_getElem? h
 induction ls generalizing k with
 | nil => cases this
 | cons a l ih =>
  cases k with
  | zero => simp at h; subst h; simp
  | succ k => simp only [List.flatten_cons, List.length_append]; simp only [List.getElem?_cons_succ] at h; have := ih h (List.mem_of_getElem? h); omega
attribute [local irreducible] Sha.tagParts Sha.tagB
theorem qA5 (F : Hp) (hK : KF F) (tag : UInt8) (A : Option Addr) (n c : Nat) (ls : List (List UInt8)) (hl : Sl F 1 A n c (qAL ls)) (htot : ls.flatten.length ≤ 8796093022208) (hn : n ≤ 1099511627776) :
    Ct prog 44 [B8 tag, .slice A n c] [F] (fun _ : Unit => Str (Sha.tagged tag ls)) (fun _ => True) (fun _ => [F]) := by
  have hlen : ls.length = n := by have := hl.1; simpa [qAL] using this
  have htl := Sha.tagB_length tag ls
  have hfl := Sha.tagParts_flat tag ls
  rw [hlen] at hfl htl
  refine Ct.walk func44 rfl ntmps44 rfl (fun w0 hw0 => ?_)
  refine J.g fun K1 hK1 => J.b rfl <| J.c hK1 <| J.M 0 1 ?_
  refine J.g fun K2 hK2 => J.b rfl <| J.u (qAH (l := [.tmp 8]) (xs := [[B8 tag]]) rfl rfl rfl rfl qBP el5 rfl (by decide) (by decide) (by simp)) rfl fun g9 _ => J.f (qBB (l := [tag]) rfl rfl qBP u5_ u9_ (m := blk g9 [B8 tag] 5) (by simp) (qAr (q := True) (xs := [[B8 tag]]) rfl (by simp)).sl) rfl <| J.u (qAH (l := [.tmp 10]) (xs := [[Str [tag]]]) rfl rfl rfl rfl qAn el9 rfl (by decide) (by decide) (by simp)) rfl fun g11 _ => J.c5 [0, 2] [F, blk g11 [Str [tag]] 9] rfl (by decide) <| J.b rfl <| J.c hK2 <| J.M 1 5 ?_
  refine J.k fun K3 hK3 => J.g fun K4 hK4 => J.b rfl <| J.f (qAZ qAn rfl rfl) rfl <| J.b rfl <| J.c hK4 <| J.W 5 12 13 14 ?_
  refine J.T <| J.b2 (X := Nat × Option Addr × Nat × Hp) (fun x => [(5, .slice x.2.1 (2 * x.1 + 1) x.2.2.1), (12, .slice A n c), (13, I n), (14, I x.1)]) (fun x => [F, x.2.2.2]) (fun x => x.1 ≤ n ∧ Row x.2.2.2 9 1 x.2.1 (2 * x.1 + 1) x.2.2.1 (qAL (Sha.tagParts tag ls x.1))) (fun x => n - x.1) (0, some ⟨g11, 0, none⟩, 1, blk g11 [Str [tag]] 9) (⟨Nat.zero_le _, by unfold Sha.tagParts; exact qAr (xs := qAL [[tag]]) rfl (by simp [qAL])⟩) ⟨rfl, rfl, rfl, rfl, trivial⟩ (fun _ h => h) ?_
  rintro ⟨k, A1, c1, m⟩ ⟨hk, hrow⟩ I0 hI0
  dsimp only at hk hrow ⊢
  refine J.g fun K5 hK5 => J.f (qAS rfl rfl rfl) rfl <| J.c hK5 <| J.a3 5 12 13 14 15 ?_
  refine J.k fun K6 hK6 => J.a0 rfl (fun h15 => ?_) (fun h15 => ?_)
  ·
    refine J.a1 hK6 <| J.W 5 12 13 14 ?_
    refine J.k fun K7 hK7 => J.T <| J.k fun K8 hK8 => ?_
    have hkn : k < n := by omega
    obtain ⟨s, hs⟩ : ∃ s, ls[k]? = some s := ⟨_, List.getElem?_eq_getElem (by omega)⟩
    have hsl := qKB hs
    refine J.E <| J.f (qAG rfl rfl rfl qAn z9_ hl (by omega)) rfl <| J.f (qAK rfl rfl b9_ (by simp) (hl.elem (qAa hs))) rfl <| J.b rfl <| J.c hK8 <| J.a3 5 7 12 13 14 ?_
    refine J.E <| J.p 2 rfl <| J.f (qA0 u9_ rfl rfl) rfl <| J.f (qBL rfl rfl u3_ qDu (by omega)) rfl <| J.u (qAB rfl rfl ent87 (Ct.use (fun F' _ => qD7 F' _ 4 (by decide)))) rfl ?_
    rintro ⟨A22, c22, m22⟩ h22
    try dsimp only at h22
    refine J.f (qBB rfl rfl qBP u5_ u9_ (m := m22) (by simp) h22.sl) rfl <| J.b rfl <| J.u (qAH (l := [.tmp 23, .tmp 24]) (xs := [[Str (Sha.numB (UInt64.ofNat s.length) 4)], [Str s]]) rfl rfl rfl rfl qAn el9 rfl (by decide) (by decide) (by simp)) rfl fun g25 _ => J.u (qAb (i := 1) (m2 := blk g25 [Str (Sha.numB (UInt64.ofNat s.length) 4), Str s] 9) rfl rfl rfl qAn qAn el9 rfl hrow (by simp) (qAr (q := True) (xs := qAL [(Sha.numB (UInt64.ofNat s.length) 4), s]) rfl (by simp [qAL])).sl (by simp [qAL, Value.oneCell']) (by omega) (by omega)) rfl ?_
    rintro ⟨A26, c26, m26⟩ h26
    try dsimp only at h26
    rw [← qB2, ← Sha.tagParts_succ tag ls k hs] at h26
    refine J.c5 [0, 1] [F, m26] rfl (by decide) <| J.b rfl <| J.a2 <| J.a4 <| J.q (J.H hK7 ?_)
    refine J.W 5 12 13 14 ?_
    refine J.E <| J.f (qAO rfl rfl rfl (by omega)) rfl <| J.b rfl <| J.a2 <| J.q <| J.a6 (k + 1, A26, c26, m26) (fun x (hx : _ ∧ n - x.1 < n - k) => hI0 x hx.1 hx.2) ⟨⟨by dsimp only; omega, h26⟩, by dsimp only; omega⟩ ⟨rfl, rfl, rfl, rfl, trivial⟩ (fun _ h => h)
  refine J.b0 <| J.Z <| J.Z <| J.b1 ?_
  refine J.q (J.H hK3 ?_)
  refine J.A 5 ?_
  refine J.k fun K9 hK9 => ?_
  have hkn : n = k := by omega
  subst hkn
  refine J.E <| J.b rfl <| J.u (qAB rfl rfl ent88 (Ct.use0 (fun F' hF => qQt F' (hK.mono (hF _ (by simp))) A1 (2 * n + 1) c1 (Sha.tagParts tag ls n) (hrow.sl.mono (hF _ (by simp))) (by rw [hfl]; omega) (by omega)))) rfl fun g29 _ => J.f (qCC (l := 0) (h := 16) u9_ rfl rfl rfl rfl (by rw [Sha.sum_length]; omega)) rfl <| J.b rfl <| J.c hK9 <| J.A 4 ?_
  exact J.D <| J.L hw0 rfl () (by rw [hfl]; rfl) trivial [0] rfl (by decide)
end Go.Proofs.YtfldiegfenndjaaGreatDoor
namespace Go.Proofs.YtfldiegfenndjaaGreatDoor
open Go Go.Fw Go.Proofs.Tryz
set_option maxRecDepth 100000
set_option maxHeartbeats 1000000
namespace Sha
structure Strm where
 seed : List UInt8
 count : UInt64
 left : List UInt8
def Strm.cells (s : Strm) : List Value := [Str s.seed, W64 s.count, Str s.left]
def Strm.new (seed : List UInt8) : Strm := ⟨seed, 0, []⟩
def Strm.Ok (s : Strm) : Prop := s.left = [] ∨ 8 ≤ s.left.length
def Strm.fill (s : Strm) : Strm := if s.left = [] then ⟨s.seed, s.count + 1, sum (s.seed ++ numB s.count 4)⟩ else s
def val : List UInt8 → Nat → UInt64
 | _, 0 => 0
 | l, k + 1 => UInt64.ofNat ((val l k).toNat * 2 ^ min 8 64) ||| (l.getD k 0).toUInt64
def Strm.num (s : Strm) : UInt64 := val s.fill.left 8
def Strm.next (s : Strm) : Strm := ⟨s.fill.seed, s.fill.count, s.fill.left.drop 8⟩
def stop (n : UInt64) : UInt64 := 18446744073709551615 - 18446744073709551615 % n
def draw (e : UInt64) : Nat → Strm → Option (UInt64 × Strm)
 | 0, _ => none
 | f + 1, s => if s.num.toNat < e.toNat then some (s.num, s.next) else draw e f s.next
theorem Strm.fill_len {s : Strm} (h : s.Ok) : 8 ≤ s.fill.left.length := by
  unfold Strm.fill
  split
  · dsimp only; rw [sum_length]; decide
  · rcases h with h | h
    · contradiction
    · exact h
theorem Strm.fill_seed (s : Strm) : s.fill.seed = s.seed := by unfold Strm.fill; split <;> rfl
def Strm.Ok8 (s : Strm) : Prop := s.left.length % 8 = 0
theorem Strm.Ok8.ok {s : Strm} (h : s.Ok8) : s.Ok := by
 unfold Strm.Ok8 at h
 unfold Strm.Ok
 cases hl : s.left with
 | nil => exact .inl rfl
 | cons a l => rw [hl] at h; simp only [List.length_cons] at h ⊢; right; omega
theorem Strm.Ok8.next {s : Strm} (h : s.Ok8) : s.next.Ok8 := by
 unfold Strm.Ok8 Strm.next Strm.fill at *
 dsimp only
 rw [List.length_drop]
 split
 · dsimp only; rw [sum_length]
 · omega
theorem Strm.next_seed (s : Strm) : s.next.seed = s.seed := s.fill_seed
theorem qNt {e : UInt64} : ∀ {f : Nat} {s : Strm} {k : UInt64} {s' : Strm}, draw e f s = some (k, s') → s.Ok8 → s'.Ok8 ∧ s'.seed = s.seed
  | 0, _, _, _, h, _ => by simp [draw] at h
  | f + 1, s, k, s', h, ho => by
    unfold draw at h
    split at h
    · simp only [Option.some.injEq, Prod.mk.injEq] at h
      obtain ⟨_, rfl⟩ := h
      exact ⟨ho.next, s.next_seed⟩
    · have := qNt h ho.next
      exact ⟨this.1, this.2.trans s.next_seed⟩
end Sha
theorem ent77 : qAC prog 77 := qAC.of func77 rfl (by kernel_rfl)
theorem ent135 : qAC prog 135 := qAC.of func135 rfl (by kernel_rfl)
theorem ent78 : qAC prog 78 := qAC.of func78 rfl (by kernel_rfl)
attribute [local irreducible] Sha.val Sha.Strm.fill
theorem qH7 (F : Hp) (seed : List UInt8) :
    Ct prog 77 [Str seed] [F] (fun g : Nat => Ptr g) (fun _ => True) (fun g => [F, blk g (Sha.Strm.new seed).cells 240]) := by
  refine Ct.walk func77 rfl ntmps77 rfl (fun w0 hw0 => ?_)
  refine J.g fun K1 hK1 => J.b rfl <| J.c hK1 <| J.A 0 ?_
  refine J.g fun K2 hK2 => J.b rfl <| J.f (qAQ (places := [(0, 1), (1, 1), (2, 1)]) (r := (Sha.Strm.new seed).cells) rfl rfl rfl qFw zeroValue240 (fun _ => by kernel_rfl) rfl) rfl <| J.u (qAl rfl rfl rfl) rfl fun g5 _ => J.b rfl <| J.c hK2 <| J.A 2 ?_
  exact J.D <| J.L hw0 rfl g5 rfl trivial [0, 1] rfl (by decide)
theorem qSY (F : Hp) (hK : KF F) (g : Nat) (s : Sha.Strm) (ho : s.Ok) (hs : s.seed.length ≤ 1048576) :
    Ct prog 135 [Ptr g] [blk g s.cells 240, F] (fun _ : Unit => W64 s.num) (fun _ => True) (fun _ => [blk g s.next.cells 240, F]) := by
  have hfl := s.fill_len ho
  refine Ct.walk func135 rfl ntmps135 rfl (fun w0 hw0 => ?_)
  refine J.g fun K1 hK1 => J.b rfl <| J.c hK1 <| J.A 0 ?_
  refine J.e5 (fun _ : Unit => [(0, Ptr g)]) (fun _ => [blk g s.fill.cells 240, F]) (fun _ => True) (fun K2 hK2 => ?_) ?_
  ·
    refine J.g fun K3 hK3 => J.b rfl <| J.f (qAE rfl rfl) rfl <| J.a8 2 qFw z9_ rfl rfl rfl rfl rfl <| J.c4 0 b9_ rfl rfl rfl rfl rfl <| J.f (qBM rfl rfl rfl) rfl <| J.c hK3 <| J.M 0 9 ?_
    refine J.a0 rfl (fun h9 => ?_) (fun h9 => ?_)
    ·
      refine J.k fun K4 hK4 => J.b5 [blk g s.cells 240, F] [15] (.y 0 (.y 1 (.y 2 (.y 3 (.y 4 (.y 5 (.y 6 (.y 7 (.y 8 (.e 9 (.y 10 (.e 11 (.e 12 (.y 13 (.y 14 (.e 15 .nil)))))))))))))))) Tryz.wide (by decide +kernel) (by simp) ?_
      refine J.G ?_
      refine J.G ?_
      refine J.j rfl (qAE rfl rfl) rfl rfl <| J.j rfl (qAA rfl rfl qFw rfl z9_ rfl) rfl rfl <| J.j rfl (qAF 0 rfl rfl rfl b9_ rfl) rfl rfl <| J.G ?_
      refine J.j rfl (qAE rfl rfl) rfl rfl <| J.j rfl (qAA rfl rfl qFw rfl qBQ rfl) rfl rfl <| J.j rfl (qAF 0 rfl rfl rfl qBq rfl) rfl rfl <| J.g0 (fun x => [blk g s.cells 240, F] ++ [x.2.2]) rfl (qAB rfl rfl ent87 (Ct.use (fun F' _ => qD7 F' s.count 4 (by decide)))) rfl rfl rfl (fun _ _ h => List.mem_append_left _ h) (by simp) ?_
      rintro ⟨A19, c19, m19⟩ h19
      try dsimp only at h19
      refine J.j rfl (qBB rfl rfl qBP u5_ u9_ (m := m19) (by simp) h19.sl) rfl rfl <| J.a7 rfl (qAH (l := [.tmp 14, .tmp 20]) (xs := [[Str s.seed], [Str (Sha.numB s.count 4)]]) rfl rfl rfl rfl qAn el9 rfl (by decide) (by decide) (by simp)) rfl (by simp) fun g21 _ => J.a7 rfl (qAB rfl rfl ent88 (Ct.use0 (fun F' hF => qQt F' (hK.mono (hF _ (by simp))) (some ⟨g21, 0, none⟩) 2 2 [s.seed, (Sha.numB s.count 4)] (((qAr (q := True) (xs := qAL [s.seed, (Sha.numB s.count 4)]) rfl (by simp [qAL])).sl (m := blk g21 [Str s.seed, Str (Sha.numB s.count 4)] 9)).mono (hF _ (by simp))) (by simp [Sha.numB_length]; omega) (by decide)))) rfl (by simp) fun g22 _ => J.j rfl (qAE rfl rfl) rfl rfl <| J.j rfl (qAA rfl rfl qFw rfl z9_ rfl) rfl rfl <| J.c8 rfl (qAc (i := 0) rfl rfl rfl rfl rfl z9_ rfl (by show 2 + 1 ≤ 3; decide)) rfl rfl rfl fun _ _ => J.b4 <| J.q (J.H hK4 ?_)
      refine J.A 0 ?_
      refine J.E <| J.b rfl <| J.f (qAE rfl rfl) rfl <| J.a8 1 qFw qBQ rfl rfl rfl rfl rfl <| J.c4 0 qBq rfl rfl rfl rfl rfl <| J.f (qJ1 (b := 1) rfl rfl rfl) rfl <| J.f (qAE rfl rfl) rfl <| J.a8 1 qFw qBQ rfl rfl rfl rfl rfl <| J.c1 (qAc (i := 0) rfl rfl rfl rfl rfl qBQ rfl (by show 1 + 1 ≤ 3; decide)) rfl rfl fun _ _ => J.a2 <| J.q ?_
      have hf : s.fill.cells = [Str s.seed, W64 (s.count + 1), Str (Sha.sum [s.seed, (Sha.numB s.count 4)].flatten)] := by
        unfold Sha.Strm.fill Sha.Strm.cells
        rw [if_pos h9]
        simp
      exact J.a6 () hK2 trivial ⟨rfl, trivial⟩ (fun _ h => by rw [hf]; exact h.pick [0, 1] (by decide))
    refine J.b7 <| J.q ?_
    have hf : s.fill = s := by unfold Sha.Strm.fill; rw [if_neg h9]
    exact J.a6 () hK2 trivial ⟨rfl, trivial⟩ (fun _ h => by rw [hf]; exact h)
  rintro _ _
  refine J.g fun K5 hK5 => J.b rfl <| J.c hK5 <| J.M 0 3 ?_
  refine J.k fun K6 hK6 => J.g fun K7 hK7 => J.b rfl <| J.c hK7 <| J.V 0 3 32 ?_
  refine J.T <| J.b2 (fun k : Nat => [(0, Ptr g), (3, W64 (Sha.val s.fill.left k)), (32, I k)]) (fun _ => [blk g s.fill.cells 240, F]) (fun k => k ≤ 8) (fun k => 8 - k) 0 (Nat.zero_le _) ⟨rfl, by unfold Sha.val; rfl, rfl, trivial⟩ (fun _ h => h) ?_
  intro k hk I0 hI0
  refine J.g fun K8 hK8 => J.f (qAS rfl rfl rfl) rfl <| J.c hK8 <| J.W 0 3 32 33 ?_
  refine J.k fun K9 hK9 => J.a0 rfl (fun h33 => ?_) (fun h33 => ?_)
  ·
    refine J.a1 hK9 <| J.V 0 3 32 ?_
    refine J.k fun K10 hK10 => J.T <| J.g fun K11 hK11 => J.p 2 rfl <| J.c hK11 <| J.W 0 3 4 32 ?_
    have hk8 : k < 8 := by omega
    refine J.E <| J.b rfl <| J.f (qPR rfl rfl rfl) rfl <| J.b rfl <| J.f (qAE rfl rfl) rfl <| J.a8 2 qFw z9_ rfl rfl rfl rfl rfl <| J.c4 0 b9_ rfl rfl rfl rfl rfl <| J.b rfl <| J.f (qBS u9_ rfl rfl rfl (getB (b := s.fill.left) (j := k) (by omega))) rfl <| J.f (qEd rfl rfl u5_ qDu) rfl <| J.f (qSJ rfl rfl rfl) rfl <| J.b rfl <| J.a2 <| J.a4 <| J.q (J.H hK10 ?_)
    refine J.V 0 3 32 ?_
    exact J.E <| J.f (qAO rfl rfl rfl (by omega)) rfl <| J.b rfl <| J.a2 <| J.q <| J.a6 (k + 1) (fun x (hx : x ≤ 8 ∧ 8 - x < 8 - k) => hI0 x hx.1 hx.2) ⟨by omega, by omega⟩ ⟨rfl, by rw [Sha.val]; rfl, rfl, trivial⟩ (fun _ h => h)
  refine J.b0 <| J.Z <| J.Z <| J.b1 ?_
  refine J.q (J.H hK6 ?_)
  refine J.M 0 3 ?_
  refine J.k fun K12 hK12 => ?_
  have hk8 : k = 8 := by omega
  subst hk8
  refine J.E <| J.p 2 rfl <| J.f (qAE rfl rfl) rfl <| J.a8 2 qFw z9_ rfl rfl rfl rfl rfl <| J.c4 0 b9_ rfl rfl rfl rfl rfl <| J.f ((qCC u9_ rfl rfl rfl rfl ⟨hfl, Nat.le_refl _⟩).as (v' := Str s.next.left) (by rw [List.take_length]; rfl)) rfl <| J.f (qAE rfl rfl) rfl <| J.a8 2 qFw z9_ rfl rfl rfl rfl rfl <| J.c1 (qAc (i := 0) rfl rfl rfl rfl rfl z9_ rfl (by show 2 + 1 ≤ 3; decide)) rfl rfl fun _ _ => J.c hK12 <| J.A 3 ?_
  refine J.g fun K13 hK13 => J.p 2 rfl <| J.c hK13 <| J.A 2 ?_
  exact J.D <| J.L hw0 rfl () rfl trivial [0, 1] (by simp only [Sha.Strm.next, Sha.Strm.cells]; rfl) (by decide)
theorem qKy (F : Hp) (hK : KF F) (g : Nat) (s : Sha.Strm) (ho0 : s.Ok8) (hs : s.seed.length ≤ 1048576) (n : UInt64) (hn : 2 ≤ n.toNat) (fuel : Nat) (k : UInt64) (s' : Sha.Strm) (hd : Sha.draw (Sha.stop n) fuel s = some (k, s')) :
    Ct prog 78 [Ptr g, W64 n] [blk g s.cells 240, F] (fun _ : Unit => W64 (k % n)) (fun _ => True) (fun _ => [blk g s'.cells 240, F]) := by
  have hn0 : n ≠ 0 := fun e => by rw [e] at hn; exact absurd hn (by decide)
  refine Ct.walk func78 rfl ntmps78 rfl (fun w0 hw0 => ?_)
  refine J.g fun K1 hK1 => J.b rfl <| J.c hK1 <| J.M 0 1 ?_
  refine J.k fun K2 hK2 => J.g fun K3 hK3 => J.b rfl <| J.f ((qBm underlying177 rfl rfl rfl).as (v' := .bool false) rfl) rfl <| J.p 2 rfl <| J.O ((qAS rfl rfl rfl).no (by omega)) rfl <| J.b rfl <| J.c hK3 <| J.V 0 1 12 ?_
  refine J.b6 ?_
  refine J.a1 hK2 <| J.M 0 1 ?_
  refine J.g fun K4 hK4 => J.b rfl <| J.f (qG6 (a := 18446744073709551615) rfl rfl rfl hn0) rfl <| J.f (qJt (a := 18446744073709551615) rfl rfl rfl) rfl <| J.b rfl <| J.c hK4 <| J.V 0 1 5 ?_
  refine J.T <| J.b2 (X := Nat × Sha.Strm) (fun _ => [(0, Ptr g), (1, W64 n), (5, W64 (Sha.stop n))]) (fun x => [blk g x.2.cells 240, F]) (fun x => Sha.draw (Sha.stop n) x.1 x.2 = some (k, s') ∧ x.2.Ok8 ∧ x.2.seed = s.seed) (fun x => x.1) (fuel, s) (⟨hd, ho0, rfl⟩) ⟨rfl, rfl, rfl, trivial⟩ (fun _ h => h) ?_
  rintro ⟨f, st⟩ ⟨hdr, ho, hsd⟩ I0 hI0
  dsimp only at hdr ho hsd ⊢
  obtain ⟨f, rfl⟩ : ∃ f', f = f' + 1 := by cases f with
    | zero => simp [Sha.draw] at hdr
    | succ f => exact ⟨f, rfl⟩
  unfold Sha.draw at hdr
  refine J.T <| J.g fun K5 hK5 => J.b rfl <| J.u (qAB rfl rfl ent135 (qSY F hK g st ho.ok (by rw [hsd]; exact hs))) rfl fun g17 _ => J.b rfl <| J.c hK5 <| J.W 0 1 5 6 ?_
  refine J.g fun K6 hK6 => J.p 2 rfl <| J.f (qAS rfl rfl rfl) rfl <| J.c hK6 <| J.a3 0 1 5 6 20 ?_
  refine J.a0 rfl (fun h20 => ?_) (fun h20 => ?_)
  ·
    refine J.g fun K7 hK7 => J.p 2 rfl <| J.f (qG6 rfl rfl rfl hn0) rfl <| J.b rfl <| J.c hK7 <| J.A 4 ?_
    refine J.D <| J.b3 <| J.a5 <| J.b3 ?_
    rw [if_pos (by omega)] at hdr
    simp only [Option.some.injEq, Prod.mk.injEq] at hdr
    obtain ⟨hk1, hk2⟩ := hdr
    exact J.L hw0 rfl () (by rw [← hk1]) trivial [0, 1] (by rw [← hk2]; rfl) (by decide)
  refine J.b7 <| J.a4 <| J.q ?_
  rw [if_neg (by omega)] at hdr
  exact J.a6 (f, st.next) (fun x (hx : _ ∧ x.1 < f + 1) => hI0 x hx.1 hx.2) ⟨⟨hdr, ho.next, st.next_seed.trans hsd⟩, Nat.lt_succ_self f⟩ ⟨rfl, rfl, rfl, trivial⟩ (fun _ h => h)
theorem qJM (F : Hp) (g : Nat) (s : Sha.Strm) (n : UInt64) (hn : n.toNat < 2) :
    Ct prog 78 [Ptr g, W64 n] [blk g s.cells 240, F] (fun _ : Unit => W64 0) (fun _ => True) (fun _ => [blk g s.cells 240, F]) := by
  refine Ct.walk func78 rfl ntmps78 rfl (fun w0 hw0 => ?_)
  refine J.g fun K1 hK1 => J.b rfl <| J.c hK1 <| J.M 0 1 ?_
  refine J.k fun K2 hK2 => J.g fun K3 hK3 => J.b rfl <| J.f ((qBm underlying177 rfl rfl rfl).as (v' := .bool false) rfl) rfl <| J.p 2 rfl <| J.O ((qAS rfl rfl rfl).yes (by omega)) rfl <| J.b rfl <| J.c hK3 <| J.V 0 1 12 ?_
  refine J.d1 ?_
  refine J.g fun K4 hK4 => J.b rfl <| J.c hK4 <| J.A 4 ?_
  exact J.D <| J.a5 <| J.L hw0 rfl () rfl trivial [0, 1] rfl (by decide)
end Go.Proofs.YtfldiegfenndjaaGreatDoor
