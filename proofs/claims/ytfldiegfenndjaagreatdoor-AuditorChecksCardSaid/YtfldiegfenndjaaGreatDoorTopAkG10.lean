/- A part of the proof. -/
import Derived.Test.YtfldiegfenndjaaGreatDoorTopAkG7
import Derived.Test.YtfldiegfenndjaaGreatDoorTopAkG8
import Derived.Test.YtfldiegfenndjaaGreatDoorTopAkG9
import Derived.Test.YtfldiegfenndjaaGreatDoorTopAkG3
import Derived.Test.YtfldiegfenndjaaGreatDoorTopAkG4
import Derived.Test.YtfldiegfenndjaaGreatDoorTopAkG5
set_option linter.unusedSimpArgs false
set_option linter.unusedVariables false
namespace Go.Proofs.YtfldiegfenndjaaGreatDoor
open Go Go.Fw Go.Proofs.Tryz
set_option maxRecDepth 100000
set_option maxHeartbeats 1000000
theorem qQL : ∀ r : Fin 32, 1 ≤ r.val → ((UInt64.ofNat (18446744073709551616 - r.val)).toNat &&& 31) = 32 - r.val := by decide +kernel
theorem qSV (n : UInt64) (size : Nat) (j : Nat) (hj : j < size) : (Sha.numB n size)[j]? = some (UInt64.ofNat (n.toNat / 2 ^ min (8 * (size - 1 - j)) 64)).toUInt8 := by
 simp [Sha.numB, hj]
def qFt (l : List UInt8) (k : Nat) : List Value := (l.take k).map B8 ++ List.replicate (l.length - k) (.int .u8 0)
theorem qKj (l : List UInt8) (size : Nat) (h : l.length = size) : (List.replicate size [Value.int .u8 0]).flatten = qFt l 0 := by
 subst h
 unfold qFt
 induction l with
 | nil => rfl
 | cons a l ih => simp only [List.length_cons, List.replicate_succ, List.flatten_cons]; rw [ih]; simp [List.replicate_succ]
theorem qMK (l : List UInt8) (k : Nat) (h : k ≤ l.length) : (qFt l k).length = l.length := by simp [qFt]; omega
theorem qLt {α : Type} (a : List α) (v : α) (n : Nat) (x : α) : (a ++ List.replicate (n + 1) v).take a.length ++ [x] ++ (a ++ List.replicate (n + 1) v).drop (a.length + 1) = (a ++ [x]) ++ List.replicate n v := by
 rw [List.take_left, List.drop_append]
 simp [List.replicate_succ]
theorem qKk (l : List UInt8) (k : Nat) (v : UInt8) (h : l[k]? = some v) : qAs (qFt l k) k [B8 v] = qFt l (k + 1) := by
 obtain ⟨hk, rfl⟩ := List.getElem?_eq_some_iff.1 h
 have e : l.length - k = (l.length - (k + 1)) + 1 := by omega
 have h2 := qLt ((l.take k).map B8) (Value.int .u8 0) (l.length - (k + 1)) (B8 l[k])
 have h3 : ((l.take k).map B8).length = k := by simp; omega
 rw [h3] at h2
 unfold qAs qFt
 rw [e, List.length_singleton, h2, List.take_succ_eq_append_getElem hk, List.map_append]
 rfl
theorem qML (l : List UInt8) (k : Nat) (h : l.length ≤ k) : qFt l k = (qAX l).flatten := by
 unfold qFt qAX
 rw [qA5, List.take_of_length_le h, show l.length - k = 0 by omega]; simp
theorem el246 : qCu prog 246 [.int .u32 0] 4 := qCu.of (by kernel_rfl) rfl
theorem ent180 : qAE prog 180 := qAE.of func180 rfl (by kernel_rfl)
theorem ent87 : qAE prog 87 := qAE.of func87 rfl (by kernel_rfl)
theorem ent141 : qAE prog 141 := qAE.of func141 rfl (by kernel_rfl)
theorem ent179 : qAE prog 179 := qAE.of func179 rfl (by kernel_rfl)
theorem ent142 : qAE prog 142 := qAE.of func142 rfl (by kernel_rfl)
theorem ent88 : qAE prog 88 := qAE.of func88 rfl (by kernel_rfl)
theorem ent44 : qAE prog 44 := qAE.of func44 rfl (by kernel_rfl)
theorem qFT (F : Hp) (n : UInt64) (size : Nat) (hs : size ≤ 8) :
    Ct prog 87 [W64 n, I size] [F] (fun x : Option Addr × Nat × Hp => .slice x.1 size x.2.1) (fun x => Row x.2.2 5 1 x.1 size x.2.1 (qAX (Sha.numB n size))) (fun x => [F, x.2.2]) := by
  have hlen := Sha.numB_length n size
  refine Ct.walk func87 rfl ntmps87 rfl (fun w0 hw0 => ?_)
  change J _ [(0, _), (1, _)] _ _ _
  refine J.g fun K1 hK1 => J.b rfl <| J.c hK1 <| J.E 0 1 ?_
  refine J.g fun K2 hK2 => J.b rfl <| J.p (qC6 (n' := size) rfl rfl qBl el5 (by omega) (by omega)) rfl fun g8 _ => ?_
  change J _ _ _ [F, _] _
  refine J.b rfl <| J.c hK2 <| J.H 0 1 5 ?_
  refine J.k fun K3 hK3 => J.g fun K4 hK4 => J.b rfl <| J.f (qAa qBl rfl rfl) rfl <| J.b rfl <| J.c hK4 <| J.a0 0 1 5 10 11 ?_
  refine J.a1 <| J.c0 (fun k : Nat => [(0, W64 n), (1, I size), (5, .slice (some ⟨g8, 0, none⟩) size size), (10, I size), (11, I k)]) (fun k => [F, blk g8 (qFt (Sha.numB n size) k) 5]) (fun k => k ≤ size) (fun k => size - k) 0 (Nat.zero_le _) ⟨rfl, rfl, rfl, rfl, rfl, trivial⟩ (fun _ h => by rw [← qKj _ size hlen]; exact h) ?_
  intro k hk I0 hI0
  refine J.g fun K5 hK5 => J.f (qAW rfl rfl rfl) rfl <| J.c hK5 <| J.b3 0 1 5 10 11 12 ?_
  refine J.k fun K6 hK6 => J.a5 rfl (fun h12 => ?_) (fun h12 => ?_)
  ·
    refine J.W hK6 <| J.a0 0 1 5 10 11 ?_
    refine J.k fun K7 hK7 => J.a1 <| J.g fun K8 hK8 => J.j 2 rfl <| J.c hK8 <| J.b3 0 1 5 6 10 11 ?_
    refine J.G <| J.j 4 rfl <| J.f (qAp rfl rfl rfl (by omega)) rfl <| J.b rfl <| J.f (qAp rfl rfl rfl (by omega)) rfl <| J.f (qB8 rfl rfl rfl (by omega)) rfl <| J.f (qEv (m := 8 * (size - 1 - k)) rfl rfl (by show some _ = some _; congr 2; omega)) rfl <| J.f (qEZ rfl rfl qEm u5_) rfl <| J.f (qA0 (j := k) rfl rfl rfl qBl z5_ (by omega) (by omega)) rfl <| J.b1 (qAT (i := 1) (vs := [B8 _]) rfl rfl rfl rfl rfl z5_ rfl (by rw [qMK (Sha.numB n size) k (by omega)]; show k + 1 ≤ _; omega)) rfl rfl fun _ _ => ?_
    change J _ _ _ [F, _] _
    refine J.a7 <| J.a9 <| J.A (J.L hK7 ?_)
    refine J.a0 0 1 5 10 11 ?_
    exact J.G <| J.f (qAR rfl rfl rfl (by omega)) rfl <| J.b rfl <| J.a7 <| J.A <| J.b0 (k + 1) (fun x (hx : x ≤ size ∧ size - x < size - k) => hI0 x hx.1 hx.2) ⟨by omega, by omega⟩ ⟨rfl, rfl, rfl, rfl, rfl, trivial⟩ (fun _ h => by rw [← qKk _ k _ (qSV n size k (by omega))]; exact h)
  refine J.b7 <| J.a6 <| J.a6 <| J.b8 ?_
  refine J.A (J.L hK3 ?_)
  refine J.u 5 ?_
  refine J.g fun K9 hK9 => J.j 2 rfl <| J.c hK9 <| J.u 4 ?_
  exact J.D <| J.V hw0 rfl (some ⟨g8, 0, none⟩, size, blk g8 (qAX (Sha.numB n size)).flatten 5) rfl (qAv (by simp [qAX, hlen]) (by simp [qAX])) [0, 1] (by rw [qML (Sha.numB n size) k (by omega)]; rfl) (by decide)
theorem qDV (F : Hp) (x : UInt32) (r : Nat) (h1 : 1 ≤ r) (h2 : r < 32) :
    Ct prog 180 [W32 x, I (-(r : Int))] [F] (fun _ : Unit => W32 (Sha.rotr x r)) (fun _ => True) (fun _ => [F]) := by
  have hr := qQL ⟨r, h2⟩ h1
  have e1 : ((-(r : Int)) % 18446744073709551616).toNat = 18446744073709551616 - r := by omega
  have e3 : IntKind.u64.wrap (32 - ((32 - r : Nat) : Int)) = (r : Int) := by simp [IntKind.wrap, IntKind.bits, IntKind.signed]; omega
  refine Ct.walk func180 rfl ntmps180 rfl (fun w0 hw0 => ?_)
  change J _ [(0, _), (1, _)] _ _ _
  refine J.g fun K1 hK1 => J.b rfl <| J.c hK1 <| J.E 0 1 ?_
  refine J.g fun K2 hK2 => J.b rfl <| J.f ((qCL rfl rfl u3_ qRb).as (congrArg (fun z => W64 (UInt64.ofNat z)) e1)) rfl <| J.f ((qJl (b := 31) rfl rfl rfl).as (v' := .int .u64 ((32 - r : Nat) : Int)) (by show Value.int .u64 _ = _; rw [UInt64.toNat_and]; exact congrArg (fun z : Nat => Value.int .u64 (z : Int)) hr)) rfl <| J.b rfl <| J.c hK2 <| J.E 0 5 ?_
  refine J.g fun K3 hK3 => J.j 2 rfl <| J.f (qEw (m := 32 - r) rfl rfl rfl) rfl <| J.j 2 rfl <| J.f (qHs (r := (r : Int)) rfl rfl rfl e3.symm) rfl <| J.f (qGp (m := r) rfl rfl rfl) rfl <| J.f (qGs rfl rfl rfl) rfl <| J.b rfl <| J.c hK3 <| J.u 4 ?_
  exact J.D <| J.V hw0 rfl () rfl trivial [0] rfl (by decide)
theorem qOn (F : Hp) : Ct prog 141 [] [F] (fun _ : Unit => .agg (Sha.init.list.map W32).toArray) (fun _ => True) (fun _ => [F]) := by
 refine Ct.walk func141 rfl ntmps141 rfl (fun w0 hw0 => ?_)
 change J _ [] _ _ _
 refine J.g fun K1 hK1 => J.p (qAO rfl zeroValue248 rfl) rfl fun g0 _ => ?_
 change J _ _ _ [F, blk g0 _ 248] _
 refine J.c hK1 <| J.u 0 ?_
 refine J.g fun K2 hK2 => J.f (qDg (l := [.const (.int .u32 1779033703), .const (.int .u32 3144134277), .const (.int .u32 1013904242), .const (.int .u32 2773480762), .const (.int .u32 1359893119), .const (.int .u32 2600822924), .const (.int .u32 528734635), .const (.int .u32 1541459225)]) rfl rfl rfl qEn el246 zeroValue248 rfl rfl (by simp [Value.cells]) (r := Sha.init.list.map W32) rfl) rfl <| J.b1 (qAT (i := 1) (vs := Sha.init.list.map W32) rfl rfl rfl rfl rfl sizeOf248 rfl (by decide)) rfl rfl fun _ _ => ?_
 change J _ _ _ [_, blk g0 (Sha.init.list.map W32) 248] _
 refine J.c hK2 <| J.u 0 ?_
 exact J.D <| J.b4 hw0 (fun _ _ h => h) (rv1 rfl (RV.blkA 1 rfl rfl isAgg248 sizeOf248)) (qAj () rfl trivial [0] rfl (by decide))
def qDf (l : List UInt32) : List Value := l.map W32 ++ List.replicate (64 - l.length) (.int .u32 0)
theorem qFM (l : List UInt32) (h : l.length ≤ 64) : (qDf l).length = 64 := by simp [qDf]; omega
theorem qDx (l : List UInt32) (i : Nat) (h : i < l.length) : (qDf l)[i]? = some (W32 (l.getD i 0)) := by
 unfold qDf
 rw [List.getElem?_append_left (by simpa using h), List.getElem?_map, List.getElem?_eq_getElem h, List.getD_eq_getElem?_getD, List.getElem?_eq_getElem h]
 rfl
theorem qGA (l : List UInt32) (x : UInt32) (h : l.length < 64) : qAs (qDf l) l.length [W32 x] = qDf (l ++ [x]) := by
 have e : 64 - l.length = (64 - (l.length + 1)) + 1 := by omega
 have h2 := qLt (l.map W32) (Value.int .u32 0) (64 - (l.length + 1)) (W32 x)
 rw [List.length_map] at h2
 unfold qAs qDf
 rw [e, List.length_singleton, h2, List.map_append, List.length_append]
 rfl
theorem qMJ (l : List UInt32) (j : Nat) (hj : l.length = 16 + j) (h : j < 48) : qAs (qDf l) (16 + j) [W32 (l.getD j 0 + Sha.sg0 (l.getD (j + 1) 0) + l.getD (j + 9) 0 + Sha.sg1 (l.getD (j + 14) 0))] = qDf (Sha.ext l) := by
 have h2 := qGA l (l.getD j 0 + Sha.sg0 (l.getD (j + 1) 0) + l.getD (j + 9) 0 + Sha.sg1 (l.getD (j + 14) 0)) (by omega)
 rw [hj] at h2
 rw [h2]
 unfold Sha.ext
 rw [hj, show 16 + j - 16 = j by omega, show 16 + j - 15 = j + 1 by omega, show 16 + j - 7 = j + 9 by omega, show 16 + j - 2 = j + 14 by omega]
theorem qI7 (b : List UInt8) (k : Nat) : Sha.firsts b (k + 1) = Sha.firsts b k ++ [Sha.word b k] := by simp [Sha.firsts, List.range_succ]
theorem qKi (l : List UInt32) (h : l.length = 64) : qDf l = l.map W32 := by simp [qDf, h]
theorem qQl (l : List UInt32) : (l.map W32).all Value.oneCell' = true := by simp [Value.oneCell']
theorem getB {b : List UInt8} {j : Nat} (h : j < b.length) : b[j]? = some (b.getD j 0) := by rw [List.getD_eq_getElem?_getD, List.getElem?_eq_getElem h]; rfl
theorem qIm (F : Hp) (A : Option Addr) (n c : Nat) (b : List UInt8) (hl : Sl F 1 A n c (qAX b)) (h64 : 64 ≤ n) :
    Ct prog 179 [.slice A n c] [F] (fun _ : Unit => .agg ((Sha.sched b).map W32).toArray) (fun _ => True) (fun _ => [F]) := by
  have hn : b.length = n := by have := hl.1; simpa [qAX] using this
  have hb : ∀ j, j < n → b[j]? = some (b.getD j 0) := fun j hj => getB (by omega)
  refine Ct.walk func179 rfl ntmps179 rfl (fun w0 hw0 => ?_)
  change J _ [(0, _)] _ _ _
  refine J.g fun K1 hK1 => J.p (qAO rfl zeroValue284 rfl) rfl fun g2 _ => ?_
  change J _ _ _ [F, blk g2 _ 284] _
  refine J.c hK1 <| J.E 0 2 ?_
  refine J.g fun K2 hK2 => J.p (qAO rfl zeroValue284 rfl) rfl fun g3 _ => ?_
  change J _ _ _ [_, _, blk g3 _ 284] _
  refine J.c hK2 <| J.H 0 2 3 ?_
  refine J.k fun K3 hK3 => J.g fun K4 hK4 => J.b rfl <| J.c hK4 <| J.M 0 2 3 10 ?_
  refine J.a1 <| J.c0 (fun k : Nat => [(0, .slice A n c), (2, Ptr g2), (3, Ptr g3), (10, I k)]) (fun k => [F, blk g2 (List.replicate 64 (.int .u32 0)) 284, blk g3 (qDf (Sha.firsts b k)) 284]) (fun k => k ≤ 16) (fun k => 16 - k) 0 (Nat.zero_le _) ⟨rfl, rfl, rfl, rfl, trivial⟩ (fun _ h => h) ?_
  intro k hk I0 hI0
  refine J.g fun K5 hK5 => J.f (qAW rfl rfl rfl) rfl <| J.c hK5 <| J.a0 0 2 3 10 11 ?_
  refine J.k fun K6 hK6 => J.a5 rfl (fun h11 => ?_) (fun h11 => ?_)
  ·
    refine J.W hK6 <| J.M 0 2 3 10 ?_
    refine J.k fun K7 hK7 => J.a1 <| J.g fun K8 hK8 => J.j 2 rfl <| J.c hK8 <| J.a0 0 2 3 4 10 ?_
    refine J.c1 [F] [35] (.y 0 (.y 1 (.y 2 (.y 3 (.y 4 (.y 5 (.y 6 (.y 7 (.y 8 (.y 9 (.y 10 (.y 11 (.y 12 (.y 13 (.y 14 (.y 15 (.y 16 (.y 17 (.y 18 (.y 19 (.y 20 (.y 21 (.y 22 (.y 23 (.y 24 (.y 25 (.y 26 (.y 27 (.y 28 (.y 29 (.y 30 (.y 31 (.y 32 (.y 33 (.y 34 (.e 35 .nil)))))))))))))))))))))))))))))))))))) Tryz.wide (by decide +kernel) (by simp) ?_
    iterate 3 refine J.O ?_
    refine J.q rfl ((qB8 (a := 4) rfl rfl rfl (by omega)).nat (4 * k) (by omega)) rfl rfl <| J.q rfl (qAH (i := 4 * k) rfl rfl rfl qBl z5_ hl (by omega)) rfl rfl <| J.q rfl (qAN rfl rfl isAgg5 (m := F) (by simp) (hl.elem (qBQ (hb (4 * k) (by omega))))) rfl rfl <| J.q rfl (qCF rfl rfl u5_ qKT) rfl rfl <| J.q rfl (qEw (m := 24) rfl rfl rfl) rfl rfl <| J.O ?_
    refine J.O ?_
    refine J.q rfl ((qB8 (a := 4) rfl rfl rfl (by omega)).nat (4 * k) (by omega)) rfl rfl <| J.q rfl ((qAR rfl rfl rfl (by omega)).nat (4 * k + 1) (by omega)) rfl rfl <| J.q rfl (qAH (i := 4 * k + 1) rfl rfl rfl qBl z5_ hl (by omega)) rfl rfl <| J.q rfl (qAN rfl rfl isAgg5 (m := F) (by simp) (hl.elem (qBQ (hb (4 * k + 1) (by omega))))) rfl rfl <| J.q rfl (qCF rfl rfl u5_ qKT) rfl rfl <| J.q rfl (qEw (m := 16) rfl rfl rfl) rfl rfl <| J.q rfl (qGs rfl rfl rfl) rfl rfl <| J.O ?_
    refine J.O ?_
    refine J.q rfl ((qB8 (a := 4) rfl rfl rfl (by omega)).nat (4 * k) (by omega)) rfl rfl <| J.q rfl ((qAR rfl rfl rfl (by omega)).nat (4 * k + 2) (by omega)) rfl rfl <| J.q rfl (qAH (i := 4 * k + 2) rfl rfl rfl qBl z5_ hl (by omega)) rfl rfl <| J.q rfl (qAN rfl rfl isAgg5 (m := F) (by simp) (hl.elem (qBQ (hb (4 * k + 2) (by omega))))) rfl rfl <| J.q rfl (qCF rfl rfl u5_ qKT) rfl rfl <| J.q rfl (qEw (m := 8) rfl rfl rfl) rfl rfl <| J.q rfl (qGs rfl rfl rfl) rfl rfl <| J.O ?_
    refine J.O ?_
    refine J.q rfl ((qB8 (a := 4) rfl rfl rfl (by omega)).nat (4 * k) (by omega)) rfl rfl <| J.q rfl ((qAR rfl rfl rfl (by omega)).nat (4 * k + 3) (by omega)) rfl rfl <| J.q rfl (qAH (i := 4 * k + 3) rfl rfl rfl qBl z5_ hl (by omega)) rfl rfl <| J.q rfl (qAN rfl rfl isAgg5 (m := F) (by simp) (hl.elem (qBQ (hb (4 * k + 3) (by omega))))) rfl rfl <| J.q rfl (qCF rfl rfl u5_ qKT) rfl rfl <| J.q rfl (qGs rfl rfl rfl) rfl rfl <| J.q rfl (qAe (i := k) (j := k) rfl rfl rfl qHU qB1 (by omega) (by omega)) rfl rfl <| J.d7 rfl (qAT (i := 2) (vs := [W32 _]) rfl rfl rfl rfl rfl qB1 rfl (by rw [qFM (Sha.firsts b k) (by rw [Sha.firsts_length]; omega)]; show k + 1 ≤ _; omega)) rfl rfl rfl fun _ _ => ?_
    change J _ _ _ [F, _, _] _
    refine J.b5 <| J.a9 <| J.A (J.L hK7 ?_)
    refine J.M 0 2 3 10 ?_
    exact J.G <| J.f (qAR rfl rfl rfl (by omega)) rfl <| J.b rfl <| J.a7 <| J.A <| J.b0 (k + 1) (fun x (hx : x ≤ 16 ∧ 16 - x < 16 - k) => hI0 x hx.1 hx.2) ⟨by omega, by omega⟩ ⟨rfl, rfl, rfl, rfl, trivial⟩ (fun _ h => by rw [qI7, ← qGA _ _ (by rw [Sha.firsts_length]; omega), Sha.firsts_length]; exact h)
  refine J.b7 <| J.a6 <| J.a6 <| J.b8 ?_
  refine J.A (J.L hK3 ?_)
  refine J.E 2 3 ?_
  refine J.k fun K9 hK9 => J.g fun K10 hK10 => J.b rfl <| J.c hK10 <| J.H 2 3 5 ?_
  refine J.a1 <| J.c0 (fun j : Nat => [(2, Ptr g2), (3, Ptr g3), (5, I ((16 + j : Nat) : Int))]) (fun j => [F, blk g2 (List.replicate 64 (.int .u32 0)) 284, blk g3 (qDf (Sha.exts j (Sha.firsts b 16))) 284]) (fun j => j ≤ 48) (fun j => 48 - j) 0 (Nat.zero_le _) ⟨rfl, rfl, rfl, trivial⟩ (fun _ h => by rw [show k = 16 by omega] at h; exact h) ?_
  intro j hj I1 hI1
  have hlj : (Sha.exts j (Sha.firsts b 16)).length = 16 + j := by rw [Sha.exts_length, Sha.firsts_length]
  refine J.k fun K11 hK11 => J.g fun K12 hK12 => J.b rfl <| J.f (qAW rfl rfl rfl) rfl <| J.c hK12 <| J.M 2 3 5 50 ?_
  refine J.a5 rfl (fun h50 => ?_) (fun h50 => ?_)
  ·
    refine J.W hK11 <| J.H 2 3 5 ?_
    refine J.k fun K13 hK13 => J.a1 <| J.k fun K14 hK14 => J.c1 [blk g3 (qDf (Sha.exts j (Sha.firsts b 16))) 284] [] (.y 0 (.y 1 (.y 2 (.y 3 (.y 4 (.y 5 (.y 6 (.y 7 (.y 8 (.y 9 .nil)))))))))) Tryz.wide (by decide +kernel) (by simp) ?_
    refine J.O ?_
    refine J.q rfl ((qAp rfl rfl rfl (by omega)).nat (j + 1) (by omega)) rfl rfl <| J.q rfl (qAe (i := j + 1) (j := j + 1) rfl rfl rfl qHU qB1 (by omega) (by omega)) rfl rfl <| J.q rfl (qAC 0 rfl rfl rfl qCr (qDx (Sha.exts j (Sha.firsts b 16)) (j + 1) (by omega))) rfl rfl <| J.O ?_
    refine J.q rfl ((qAp rfl rfl rfl (by omega)).nat (j + 14) (by omega)) rfl rfl <| J.q rfl (qAe (i := j + 14) (j := j + 14) rfl rfl rfl qHU qB1 (by omega) (by omega)) rfl rfl <| J.q rfl (qAC 0 rfl rfl rfl qCr (qDx (Sha.exts j (Sha.firsts b 16)) (j + 14) (by omega))) rfl rfl <| J.b9 ?_
    refine J.b9 ?_
    refine J.b5 <| J.A (J.L hK14 ?_)
    refine J.a0 2 3 5 6 7 ?_
    refine J.g fun K15 hK15 => J.b rfl <| J.p (qAB rfl rfl ent180 (Ct.use0 (fun F' _ => qDV F' _ 7 (by decide) (by decide)))) rfl fun g62 _ => J.b rfl <| J.p (qAB rfl rfl ent180 (Ct.use0 (fun F' _ => qDV F' _ 18 (by decide) (by decide)))) rfl fun g64 _ => J.f (qBc rfl rfl rfl) rfl <| J.b rfl <| J.f (qGp (m := 3) rfl rfl rfl) rfl <| J.f (qBc rfl rfl rfl) rfl <| J.b rfl <| J.c hK15 <| J.a0 2 3 5 7 8 ?_
    refine J.g fun K16 hK16 => J.b rfl <| J.p (qAB rfl rfl ent180 (Ct.use0 (fun F' _ => qDV F' _ 17 (by decide) (by decide)))) rfl fun g70 _ => J.b rfl <| J.p (qAB rfl rfl ent180 (Ct.use0 (fun F' _ => qDV F' _ 19 (by decide) (by decide)))) rfl fun g72 _ => J.f (qBc rfl rfl rfl) rfl <| J.b rfl <| J.f (qGp (m := 10) rfl rfl rfl) rfl <| J.f (qBc rfl rfl rfl) rfl <| J.b rfl <| J.c hK16 <| J.a0 2 3 5 8 9 ?_
    refine J.c1 [blk g3 (qDf (Sha.exts j (Sha.firsts b 16))) 284] [15] (.y 0 (.y 1 (.y 2 (.y 3 (.y 4 (.y 5 (.y 6 (.y 7 (.y 8 (.y 9 (.y 10 (.y 11 (.y 12 (.y 13 (.y 14 (.e 15 .nil)))))))))))))))) Tryz.wide (by decide +kernel) (by simp) ?_
    refine J.O ?_
    refine J.O ?_
    refine J.q rfl ((qAp rfl rfl rfl (by omega)).nat (j) (by omega)) rfl rfl <| J.q rfl (qAe (i := j) (j := j) rfl rfl rfl qHU qB1 (by omega) (by omega)) rfl rfl <| J.q rfl (qAC 0 rfl rfl rfl qCr (qDx (Sha.exts j (Sha.firsts b 16)) (j) (by omega))) rfl rfl <| J.O ?_
    refine J.q rfl (qBe rfl rfl rfl) rfl rfl <| J.O ?_
    refine J.q rfl ((qAp rfl rfl rfl (by omega)).nat (j + 9) (by omega)) rfl rfl <| J.q rfl (qAe (i := j + 9) (j := j + 9) rfl rfl rfl qHU qB1 (by omega) (by omega)) rfl rfl <| J.q rfl (qAC 0 rfl rfl rfl qCr (qDx (Sha.exts j (Sha.firsts b 16)) (j + 9) (by omega))) rfl rfl <| J.q rfl (qBe rfl rfl rfl) rfl rfl <| J.O ?_
    refine J.q rfl (qBe rfl rfl rfl) rfl rfl <| J.q rfl (qAe (i := 16 + j) (j := 16 + j) rfl rfl rfl qHU qB1 (by omega) (by omega)) rfl rfl <| J.d7 rfl (qAT (i := 2) (vs := [W32 _]) rfl rfl rfl rfl rfl qB1 rfl (by rw [qFM (Sha.exts j (Sha.firsts b 16)) (by omega)]; show 16 + j + 1 ≤ _; omega)) rfl rfl rfl fun _ _ => ?_
    change J _ _ _ [F, _, _] _
    refine J.b5 <| J.a9 <| J.A (J.L hK13 ?_)
    refine J.H 2 3 5 ?_
    exact J.G <| J.b rfl <| J.f (qAR rfl rfl rfl (by omega)) rfl <| J.b rfl <| J.a7 <| J.A <| J.b0 (j + 1) (fun x (hx : x ≤ 48 ∧ 48 - x < 48 - j) => hI1 x hx.1 hx.2) ⟨by omega, by omega⟩ ⟨rfl, rfl, rfl, trivial⟩ (fun _ h => by rw [Sha.exts, ← qMJ _ j hlj (by omega)]; exact h)
  refine J.b7 <| J.a6 <| J.a6 <| J.b8 ?_
  refine J.A (J.L hK9 ?_)
  refine J.E 2 3 ?_
  refine J.k fun K17 hK17 => ?_
  have hj48 : j = 48 := by omega
  subst hj48
  refine J.G <| J.f (qAi 2 rfl rfl rfl isAgg284 sizeOf284 (qFM (Sha.exts 48 (Sha.firsts b 16)) (by rw [Sha.exts_length, Sha.firsts_length]; decide))) rfl <| J.b1 (qAG (i := 1) (vs := (Sha.sched b).map W32) rfl rfl rfl rfl (by show Array.mk _ = _; exact congrArg _ (qKi _ (Sha.sched_length b))) (fun w => by rw [List.length_map, Sha.sched_length]; exact sizeOf284 w) (qQl _) (by rw [List.length_map, Sha.sched_length]; rfl)) rfl rfl fun _ _ => ?_
  change J _ _ _ [F, blk g2 ((Sha.sched b).map W32) 284, _] _
  refine J.c hK17 <| J.u 2 ?_
  exact J.D <| J.b4 hw0 (fun _ _ h => h) (rv1 rfl (RV.blkA 1 rfl rfl isAgg284 (fun w => by rw [List.length_map, Sha.sched_length]; exact sizeOf284 w))) (qAj () rfl trivial [0] rfl (by decide))
theorem Sha.rnds_succ (ws : List UInt32) (s : Sha.St8) (i : Nat) : Sha.rnds ws s (i + 1) = Sha.rnd (ws.getD i 0) (Sha.K.getD i 0) (Sha.rnds ws s i) := rfl
theorem Sha.mix_eq (s : Sha.St8) (b : List UInt8) : Sha.mix s b = s.add (Sha.rnds (Sha.sched b) s 64) := rfl
theorem Sha.rnds_zero (ws : List UInt32) (s : Sha.St8) : Sha.rnds ws s 0 = s := rfl
attribute [local irreducible] Sha.rnds Sha.sched Sha.mix
theorem qRE {m : Hp} {g off : Nat} {vs : List Value} {i : Nat} {v : Value} (h : qAQ m ⟨g, off, none⟩ vs) (hi : vs[i]? = some v) : qAQ m ⟨g, off + i, none⟩ [v] := by
 have := h.sub i 1
 rw [Addr.add_lit] at this
 obtain ⟨hk, rfl⟩ := List.getElem?_eq_some_iff.1 hi
 rw [List.drop_eq_getElem_cons hk] at this
 exact this
theorem getW {l : List UInt32} {i : Nat} (h : i < l.length) : (l.map W32)[i]? = some (W32 (l.getD i 0)) := by
 rw [List.getElem?_map, List.getElem?_eq_getElem h, List.getD_eq_getElem?_getD, List.getElem?_eq_getElem h]; rfl
def Sha.St8.adds (s t : Sha.St8) (k : Nat) : List UInt32 := (s.add t).list.take k ++ s.list.drop k
theorem qO2 (s t : Sha.St8) (k : Nat) (hk : k ≤ 8) : (s.adds t k).length = 8 := by simp [Sha.St8.adds, Sha.St8.list]; omega
theorem qO3 (s t : Sha.St8) : ∀ k, k < 8 → (s.adds t k)[k]? = some (s.list.getD k 0)
 | 0, _ => rfl | 1, _ => rfl | 2, _ => rfl | 3, _ => rfl | 4, _ => rfl | 5, _ => rfl | 6, _ => rfl | 7, _ => rfl
 | n + 8, h => by omega
theorem qO1 (s t : Sha.St8) : ∀ k, k < 8 → qAs ((s.adds t k).map W32) k [W32 (s.list.getD k 0 + t.list.getD k 0)] = (s.adds t (k + 1)).map W32
 | 0, _ => rfl | 1, _ => rfl | 2, _ => rfl | 3, _ => rfl | 4, _ => rfl | 5, _ => rfl | 6, _ => rfl | 7, _ => rfl
 | n + 8, h => by omega
theorem qO4 (s t : Sha.St8) : s.adds t 8 = (s.add t).list := rfl
theorem qJv (t : Sha.St8) : ∀ k, k < 8 → (t.list.map W32)[k]? = some (W32 (t.list.getD k 0))
 | 0, _ => rfl | 1, _ => rfl | 2, _ => rfl | 3, _ => rfl | 4, _ => rfl | 5, _ => rfl | 6, _ => rfl | 7, _ => rfl
 | n + 8, h => by omega
abbrev KF (F : Hp) : Prop := qAQ F ⟨0, 0, none⟩ (Sha.K.map W32)
theorem qR5 (F : Hp) (hK : KF F) (g : Nat) (s : Sha.St8) (A : Option Addr) (n c : Nat) (b : List UInt8) (hl : Sl F 1 A n c (qAX b)) (h64 : 64 ≤ n) :
    Ct prog 142 [Ptr g, .slice A n c] [blk g (s.list.map W32) 248, F] (fun _ : Unit => .tuple #[]) (fun _ => True) (fun _ => [blk g ((Sha.mix s b).list.map W32) 248, F]) := by
  refine Ct.walk func142 rfl ntmps142 rfl (fun w0 hw0 => ?_)
  change J _ [(0, _), (1, _)] _ _ _
  refine J.g fun K1 hK1 => J.b rfl <| J.p (qAB rfl rfl ent179 (Ct.use0 (fun F' hF => qIm F' A n c b (hl.mono (hF _ (by simp))) h64))) rfl fun g21 _ => ?_
  change J _ _ _ [blk g (s.list.map W32) 248, F] _
  refine J.p (qAO rfl zeroValue284 rfl) rfl fun g4 _ => ?_
  change J _ _ _ [_, _, blk g4 _ 284] _
  refine J.b1 (qAG (i := 2) (vs := (Sha.sched b).map W32) rfl rfl rfl rfl rfl (fun w => by rw [List.length_map, Sha.sched_length]; exact sizeOf284 w) (qQl _) (by rw [List.length_map, Sha.sched_length]; rfl)) rfl rfl fun _ _ => ?_
  change J _ _ _ [_, _, blk g4 ((Sha.sched b).map W32) 284] _
  refine J.c hK1 <| J.E 0 4 ?_
  refine J.k fun K2 hK2 => J.c1 [blk g (s.list.map W32) 248] [] (.y 0 (.y 1 (.y 2 (.y 3 (.y 4 (.y 5 (.y 6 (.y 7 (.y 8 (.y 9 (.y 10 (.y 11 (.y 12 (.y 13 (.y 14 (.y 15 (.y 16 (.y 17 (.y 18 (.y 19 (.y 20 (.y 21 (.y 22 (.y 23 (.y 24 (.y 25 (.y 26 (.y 27 (.y 28 (.y 29 (.y 30 (.y 31 (.y 32 (.y 33 (.y 34 (.y 35 (.y 36 (.y 37 (.y 38 (.y 39 .nil)))))))))))))))))))))))))))))))))))))))) Tryz.wide (by decide +kernel) (by simp) ?_
  refine J.O ?_
  refine J.q rfl (qAD rfl rfl) rfl rfl <| J.q rfl (qAe (i := 0) (j := 0) rfl rfl rfl qEn qB1 (by decide) rfl) rfl rfl <| J.q rfl (qAC 0 rfl rfl rfl qCr rfl) rfl rfl <| J.O ?_
  refine J.q rfl (qAD rfl rfl) rfl rfl <| J.q rfl (qAe (i := 1) (j := 1) rfl rfl rfl qEn qB1 (by decide) rfl) rfl rfl <| J.q rfl (qAC 0 rfl rfl rfl qCr rfl) rfl rfl <| J.O ?_
  refine J.q rfl (qAD rfl rfl) rfl rfl <| J.q rfl (qAe (i := 2) (j := 2) rfl rfl rfl qEn qB1 (by decide) rfl) rfl rfl <| J.q rfl (qAC 0 rfl rfl rfl qCr rfl) rfl rfl <| J.O ?_
  refine J.q rfl (qAD rfl rfl) rfl rfl <| J.q rfl (qAe (i := 3) (j := 3) rfl rfl rfl qEn qB1 (by decide) rfl) rfl rfl <| J.q rfl (qAC 0 rfl rfl rfl qCr rfl) rfl rfl <| J.O ?_
  refine J.q rfl (qAD rfl rfl) rfl rfl <| J.q rfl (qAe (i := 4) (j := 4) rfl rfl rfl qEn qB1 (by decide) rfl) rfl rfl <| J.q rfl (qAC 0 rfl rfl rfl qCr rfl) rfl rfl <| J.O ?_
  refine J.q rfl (qAD rfl rfl) rfl rfl <| J.q rfl (qAe (i := 5) (j := 5) rfl rfl rfl qEn qB1 (by decide) rfl) rfl rfl <| J.q rfl (qAC 0 rfl rfl rfl qCr rfl) rfl rfl <| J.O ?_
  refine J.q rfl (qAD rfl rfl) rfl rfl <| J.q rfl (qAe (i := 6) (j := 6) rfl rfl rfl qEn qB1 (by decide) rfl) rfl rfl <| J.q rfl (qAC 0 rfl rfl rfl qCr rfl) rfl rfl <| J.O ?_
  refine J.q rfl (qAD rfl rfl) rfl rfl <| J.q rfl (qAe (i := 7) (j := 7) rfl rfl rfl qEn qB1 (by decide) rfl) rfl rfl <| J.q rfl (qAC 0 rfl rfl rfl qCr rfl) rfl rfl <| J.b9 ?_
  iterate 7 refine J.b9 ?_
  refine J.b5 <| J.A (J.L hK2 ?_)
  refine J.f0 0 4 5 6 7 8 9 10 11 12 ?_
  refine J.k fun K3 hK3 => J.g fun K4 hK4 => J.b rfl <| J.c hK4 <| J.e3 0 4 5 6 7 8 9 10 11 12 54 ?_
  refine J.a1 <| J.c0 (fun i : Nat => [(0, Ptr g), (4, Ptr g4), (5, W32 (Sha.rnds (Sha.sched b) s i).a), (6, W32 (Sha.rnds (Sha.sched b) s i).b), (7, W32 (Sha.rnds (Sha.sched b) s i).c), (8, W32 (Sha.rnds (Sha.sched b) s i).d), (9, W32 (Sha.rnds (Sha.sched b) s i).e), (10, W32 (Sha.rnds (Sha.sched b) s i).f), (11, W32 (Sha.rnds (Sha.sched b) s i).g), (12, W32 (Sha.rnds (Sha.sched b) s i).h), (54, I i)]) (fun _ => [blk g (s.list.map W32) 248, F, blk g4 ((Sha.sched b).map W32) 284]) (fun i => i ≤ 64) (fun i => 64 - i) 0 (Nat.zero_le _) ⟨rfl, rfl, by rw [Sha.rnds_zero]; rfl, by rw [Sha.rnds_zero]; rfl, by rw [Sha.rnds_zero]; rfl, by rw [Sha.rnds_zero]; rfl, by rw [Sha.rnds_zero]; rfl, by rw [Sha.rnds_zero]; rfl, by rw [Sha.rnds_zero]; rfl, by rw [Sha.rnds_zero]; rfl, rfl, trivial⟩ (fun _ h => h) ?_
  intro i hi I0 hI0
  refine J.g fun K5 hK5 => J.f (qAW rfl rfl rfl) rfl <| J.c hK5 <| J.e0 0 4 5 6 7 8 9 10 11 12 54 55 ?_
  refine J.k fun K6 hK6 => J.a5 rfl (fun h55 => ?_) (fun h55 => ?_)
  ·
    refine J.W hK6 <| J.e3 0 4 5 6 7 8 9 10 11 12 54 ?_
    refine J.k fun K7 hK7 => J.a1 <| J.g fun K8 hK8 => J.j 2 rfl <| J.c hK8 <| J.e0 0 4 5 6 7 8 9 10 11 12 13 54 ?_
    refine J.g fun K9 hK9 => J.b rfl <| J.p (qAB rfl rfl ent180 (Ct.use0 (fun F' _ => qDV F' _ 6 (by decide) (by decide)))) rfl fun g58 _ => J.b rfl <| J.p (qAB rfl rfl ent180 (Ct.use0 (fun F' _ => qDV F' _ 11 (by decide) (by decide)))) rfl fun g60 _ => J.f (qBc rfl rfl rfl) rfl <| J.b rfl <| J.p (qAB rfl rfl ent180 (Ct.use0 (fun F' _ => qDV F' _ 25 (by decide) (by decide)))) rfl fun g63 _ => J.f (qBc rfl rfl rfl) rfl <| J.b rfl <| J.c hK9 <| J.i5 0 4 5 6 7 8 9 10 11 12 13 14 54 ?_
    refine J.k fun K10 hK10 => ?_
    have hiK : i < Sha.K.length := by show i < 64; omega
    refine J.c1 [blk g (s.list.map W32) 248, F, blk g4 ((Sha.sched b).map W32) 284] [] (.y 0 (.y 1 (.y 2 (.y 3 (.y 4 (.y 5 (.y 6 (.y 7 (.y 8 (.y 9 (.y 10 (.y 11 (.y 12 (.y 13 (.y 14 (.y 15 (.y 16 (.y 17 (.y 18 (.y 19 (.y 20 .nil))))))))))))))))))))) Tryz.wide (by decide +kernel) (by simp) ?_
    refine J.O ?_
    refine J.O ?_
    refine J.q rfl (qBe rfl rfl rfl) rfl rfl <| J.O ?_
    refine J.O ?_
    refine J.q rfl (qD4 rfl rfl rfl) rfl rfl <| J.O ?_
    refine J.q rfl (qOJ rfl rfl) rfl rfl <| J.O ?_
    refine J.q rfl (qD4 rfl rfl rfl) rfl rfl <| J.q rfl (qBc rfl rfl rfl) rfl rfl <| J.q rfl (qBe rfl rfl rfl) rfl rfl <| J.O ?_
    refine J.q rfl (qAe (i := i) (j := i) rfl rfl rfl qHU qB1 (by omega) (by omega)) rfl rfl <| J.q rfl (qOG 1 rfl rfl qCr rfl (by have h := qRE hK (getW (l := Sha.K) (i := i) hiK); rw [Nat.zero_add] at h; exact h)) rfl rfl <| J.q rfl (qBe rfl rfl rfl) rfl rfl <| J.O ?_
    refine J.q rfl (qAe (i := i) (j := i) rfl rfl rfl qHU qB1 (by omega) (by omega)) rfl rfl <| J.q rfl (qAC 2 rfl rfl rfl qCr (getW (l := Sha.sched b) (i := i) (by rw [Sha.sched_length]; omega))) rfl rfl <| J.q rfl (qBe rfl rfl rfl) rfl rfl <| J.b9 ?_
    refine J.b5 <| J.A (J.L hK10 ?_)
    refine J.e3 0 4 5 6 7 8 9 10 11 15 54 ?_
    refine J.g fun K11 hK11 => J.b rfl <| J.p (qAB rfl rfl ent180 (Ct.use0 (fun F' _ => qDV F' _ 2 (by decide) (by decide)))) rfl fun g86 _ => J.b rfl <| J.p (qAB rfl rfl ent180 (Ct.use0 (fun F' _ => qDV F' _ 13 (by decide) (by decide)))) rfl fun g88 _ => J.f (qBc rfl rfl rfl) rfl <| J.b rfl <| J.p (qAB rfl rfl ent180 (Ct.use0 (fun F' _ => qDV F' _ 22 (by decide) (by decide)))) rfl fun g91 _ => J.f (qBc rfl rfl rfl) rfl <| J.b rfl <| J.c hK11 <| J.e0 0 4 5 6 7 8 9 10 11 15 16 54 ?_
    refine J.g fun K12 hK12 => J.j 3 rfl <| J.f (qD4 rfl rfl rfl) rfl <| J.j 2 rfl <| J.f (qD4 rfl rfl rfl) rfl <| J.f (qBc rfl rfl rfl) rfl <| J.j 2 rfl <| J.f (qD4 rfl rfl rfl) rfl <| J.f (qBc rfl rfl rfl) rfl <| J.f (qBe rfl rfl rfl) rfl <| J.b rfl <| J.c hK12 <| J.e0 0 4 5 6 7 8 9 10 11 15 17 54 ?_
    refine J.G <| J.j 5 rfl <| J.f (qBe rfl rfl rfl) rfl <| J.j 5 rfl <| J.f (qBe rfl rfl rfl) rfl <| J.j 8 rfl <| J.a7 <| J.a9 <| J.A (J.L hK7 ?_)
    refine J.e3 0 4 5 6 7 8 9 10 11 12 54 ?_
    exact J.G <| J.f (qAR rfl rfl rfl (by omega)) rfl <| J.b rfl <| J.a7 <| J.A <| J.b0 (i + 1) (fun x (hx : x ≤ 64 ∧ 64 - x < 64 - i) => hI0 x hx.1 hx.2) ⟨by omega, by omega⟩ ⟨rfl, rfl, by rw [Sha.rnds_succ]; rfl, by rw [Sha.rnds_succ]; rfl, by rw [Sha.rnds_succ]; rfl, by rw [Sha.rnds_succ]; rfl, by rw [Sha.rnds_succ]; rfl, by rw [Sha.rnds_succ]; rfl, by rw [Sha.rnds_succ]; rfl, by rw [Sha.rnds_succ]; rfl, rfl, trivial⟩ (fun _ h => h)
  refine J.b7 <| J.a6 <| J.a6 <| J.b8 ?_
  refine J.A (J.L hK3 ?_)
  refine J.d8 0 5 6 7 8 9 10 11 12 ?_
  refine J.k fun K13 hK13 => ?_
  have hi64 : i = 64 := by omega
  subst hi64
  refine J.G <| J.j 8 rfl <| J.f (qDg (l := [.tmp 119, .tmp 120, .tmp 121, .tmp 122, .tmp 123, .tmp 124, .tmp 125, .tmp 126]) rfl rfl rfl underlying247 el246 zeroValue247 rfl rfl (by simp [Value.cells]) (r := (Sha.rnds (Sha.sched b) s 64).list.map W32) rfl) rfl <| J.b rfl <| J.c hK13 <| J.H 0 127 128 ?_
  refine J.a1 <| J.c0 (fun k : Nat => [(0, Ptr g), (127, .agg ((Sha.rnds (Sha.sched b) s 64).list.map W32).toArray), (128, I k)]) (fun k => [blk g ((s.adds (Sha.rnds (Sha.sched b) s 64) k).map W32) 248, F, blk g4 ((Sha.sched b).map W32) 284]) (fun k => k ≤ 8) (fun k => 8 - k) 0 (Nat.zero_le _) ⟨rfl, rfl, rfl, trivial⟩ (fun _ h => h) ?_
  intro k hk I2 hI2
  refine J.g fun K14 hK14 => J.f (qAW rfl rfl rfl) rfl <| J.c hK14 <| J.M 0 127 128 129 ?_
  refine J.k fun K15 hK15 => J.a5 rfl (fun h129 => ?_) (fun h129 => ?_)
  ·
    refine J.W hK15 <| J.H 0 127 128 ?_
    refine J.k fun K16 hK16 => J.a1 <| J.g fun K17 hK17 => J.b rfl <| J.f (qGu (i := k) (v := W32 ((Sha.rnds (Sha.sched b) s 64).list.getD k 0)) rfl rfl rfl underlying247 qB1 qCr (by omega) (by rw [Nat.mul_one, List.getElem?_toArray]; exact qJv _ k (by omega))) rfl ?_
    refine J.j 2 rfl <| J.c hK17 <| J.a0 0 18 19 127 128 ?_
    refine J.c1 [blk g ((s.adds (Sha.rnds (Sha.sched b) s 64) k).map W32) 248] [9] (.y 0 (.y 1 (.y 2 (.y 3 (.y 4 (.y 5 (.y 6 (.y 7 (.y 8 (.e 9 .nil)))))))))) Tryz.wide (by decide +kernel) (by simp) ?_
    refine J.O ?_
    refine J.O ?_
    refine J.q rfl (qAD rfl rfl) rfl rfl <| J.q rfl (qAe (i := k) (j := k) rfl rfl rfl qEn qB1 (by omega) (by omega)) rfl rfl <| J.q rfl (qAC 0 rfl rfl rfl qCr (v := W32 (s.list.getD k 0)) (by rw [List.getElem?_map, qO3 s (Sha.rnds (Sha.sched b) s 64) k (by omega)]; rfl)) rfl rfl ?_
    refine J.O ?_
    refine J.q rfl (qBe rfl rfl rfl) rfl rfl <| J.q rfl (qAD rfl rfl) rfl rfl <| J.q rfl (qAe (i := k) (j := k) rfl rfl rfl qEn qB1 (by omega) (by omega)) rfl rfl <| J.d7 rfl (qAT (i := 0) (vs := [W32 _]) rfl rfl rfl rfl rfl qB1 rfl (by rw [List.length_map, qO2 s (Sha.rnds (Sha.sched b) s 64) k (by omega)]; show k + 1 ≤ _; omega)) rfl rfl rfl fun _ _ => ?_
    change J _ _ _ [_, F, blk g4 ((Sha.sched b).map W32) 284] _
    refine J.b5 <| J.a9 <| J.A (J.L hK16 ?_)
    refine J.H 0 127 128 ?_
    exact J.G <| J.f (qAR rfl rfl rfl (by omega)) rfl <| J.b rfl <| J.a7 <| J.A <| J.b0 (k + 1) (fun x (hx : x ≤ 8 ∧ 8 - x < 8 - k) => hI2 x hx.1 hx.2) ⟨by omega, by omega⟩ ⟨rfl, rfl, rfl, trivial⟩ (fun _ h => by rw [← qO1 s (Sha.rnds (Sha.sched b) s 64) k (by omega)]; exact h)
  refine J.b7 <| J.a6 <| J.a6 <| J.b8 ?_
  have hk8 : k = 8 := by omega
  subst hk8
  exact J.e7 hw0 (fun _ _ h => h) (qJc rfl) (qAj () rfl trivial [0, 1] (by rw [qO4, ← Sha.mix_eq]; rfl) (by decide))
end Go.Proofs.YtfldiegfenndjaaGreatDoor
namespace Go.Proofs.YtfldiegfenndjaaGreatDoor
open Go Go.Fw Go.Proofs.Tryz
set_option maxRecDepth 100000
set_option maxHeartbeats 1000000
theorem qOg (F : Hp) (A : Option Addr) (n c : Nat) (ls : List (List UInt8)) (hl : Sl F 1 A n c (qAI ls)) (htot : ls.flatten.length ≤ 35184372088832) (hn47 : n ≤ 70368744177664) :
    Ct prog 140 [.slice A n c, Str []] [F] (fun _ : Unit => Str ls.flatten) (fun _ => True) (fun _ => [F]) := by
  have h := qQ3 F A n c ls [] hl (by rw [qH3]; exact htot) hn47
  rw [qH3] at h; exact h
theorem qDL (a b : List UInt8) : qAX (a ++ b) = qAX a ++ qAX b := by simp [qAX]
theorem qGT (a : List UInt8) : (qAX a).all (fun x => x.all Value.oneCell') = true := by simp [qAX, Value.oneCell']
theorem qK7 (p : List UInt8) (k N : Nat) (hN : p.length = N) : ((qAX (p.drop (64 * k))).take (N - 64 * k)).drop 64 = qAX (p.drop (64 * (k + 1))) := by
 rw [List.take_of_length_le (by simp [qAX, hN])]
 unfold qAX
 rw [← List.map_drop, List.drop_drop, Nat.mul_add]
def Sha.outs (t : Sha.St8) (k : Nat) : List UInt8 := (t.list.take k).flatMap fun x => Sha.numB x.toUInt64 4
theorem qMM (t : Sha.St8) : ∀ k, k < 8 → Sha.outs t (k + 1) = Sha.outs t k ++ Sha.numB (t.list.getD k 0).toUInt64 4
 | 0, _ => rfl | 1, _ => rfl | 2, _ => rfl | 3, _ => rfl | 4, _ => rfl | 5, _ => rfl | 6, _ => rfl | 7, _ => rfl
 | n + 8, h => by omega
attribute [local irreducible] Sha.sum Sha.pad Sha.mixes Sha.numB
theorem qRe (F : Hp) (hK : KF F) (A : Option Addr) (n c : Nat) (ls : List (List UInt8)) (hl : Sl F 1 A n c (qAI ls)) (htot : ls.flatten.length ≤ 17592186044416) (hn47 : n ≤ 70368744177664) :
    Ct prog 88 [.slice A n c] [F] (fun _ : Unit => Str (Sha.sum ls.flatten)) (fun _ => True) (fun _ => [F]) := by
  obtain ⟨l, hL⟩ : ∃ l, l = ls.flatten := ⟨_, rfl⟩
  have hJ := qOg F A n c ls hl (by omega) hn47
  rw [← hL] at hJ htot ⊢
  have hpad := Sha.pad_length l
  have hpm := Sha.pad_mod l
  obtain ⟨p, hp⟩ : ∃ p, p = Sha.pad l := ⟨_, rfl⟩
  rw [← hp] at hpad hpm
  have hsum : Sha.sum l = Sha.out (Sha.mixes Sha.init p (p.length / 64)) := by rw [hp]; unfold Sha.sum; rfl
  have hpd : p = l ++ [128] ++ List.replicate ((119 - l.length % 64) % 64) 0 ++ Sha.numB (8 * UInt64.ofNat l.length) 8 := by rw [hp]; unfold Sha.pad; rfl
  refine Ct.walk func88 rfl ntmps88 rfl (fun w0 hw0 => ?_)
  change J _ [(0, _)] _ _ _
  refine J.g fun K1 hK1 => J.b rfl <| J.c hK1 <| J.u 0 ?_
  refine J.g fun K2 hK2 => J.b rfl <| J.p (qAB rfl rfl ent140 hJ) rfl fun g10 _ => J.p (qGB rfl rfl u9_ qBl u5_) rfl ?_
  rintro ⟨g11, c11, m11⟩ h11
  try dsimp only at h11
  change J _ ((11, .slice (some ⟨g11, 0, none⟩) l.length c11) :: _) _ [F, m11] _
  refine J.b rfl <| J.c hK2 <| J.u 3 ?_
  refine J.g fun K3 hK3 => J.b rfl <| J.f (qAa qBl rfl rfl) rfl <| J.f (qAr rfl rfl u3_ qEm (by omega)) rfl <| J.b rfl <| J.c hK3 <| J.E 3 4 ?_
  refine J.g fun K4 hK4 => J.b rfl <| J.p (qAJ (l := [.const ((Value.int IntKind.u8 128))]) (xs := [[B8 128]]) rfl rfl rfl rfl qBl el5 rfl (by decide) (by decide) (by simp)) rfl fun g16 _ => ?_
  change J _ _ _ [_, _, blk g16 [B8 128] 5] _
  refine J.p (qAd (i := 1) (m2 := blk g16 [B8 128] 5) (ys := [[B8 128]]) rfl rfl rfl qBl qBl el5 rfl h11 (by simp) (qAv (q := True) (xs := [[B8 128]]) rfl (by simp)).sl rfl (by omega) (by omega)) rfl ?_
  rintro ⟨A17, c17, m17⟩ h17
  try dsimp only at h17
  change J _ ((17, .slice A17 (l.length + 1) c17) :: _) _ [_, m17, _] _
  rw [show [[B8 128]] = qAX [128] from rfl, ← qDL] at h17
  refine J.c9 [0, 1] [F, m17] rfl (by decide) <| J.b rfl <| J.c hK4 <| J.E 3 4 ?_
  refine J.k fun K5 hK5 => J.a1 <| J.c0 (X := Nat × Option Addr × Nat × Hp) (fun x => [(3, .slice x.2.1 (l.length + 1 + x.1) x.2.2.1), (4, W64 (UInt64.ofNat l.length))]) (fun x => [F, x.2.2.2]) (fun x => x.1 ≤ (119 - l.length % 64) % 64 ∧ Row x.2.2.2 5 1 x.2.1 (l.length + 1 + x.1) x.2.2.1 (qAX (l ++ [128] ++ List.replicate x.1 0))) (fun x => (119 - l.length % 64) % 64 - x.1) (0, A17, c17, m17) (⟨Nat.zero_le _, by simpa using h17⟩) ⟨rfl, rfl, trivial⟩ (fun _ h => h) ?_
  rintro ⟨k, A1, c1, m⟩ ⟨hk, hrow⟩ I0 hI0
  dsimp only at hk hrow ⊢
  refine J.k fun K6 hK6 => J.g fun K7 hK7 => J.b rfl <| J.f (qAa qBl rfl rfl) rfl <| J.f (qHo rfl rfl rfl (by omega)) rfl <| J.f (qAY rfl rfl rfl) rfl <| J.c hK7 <| J.H 3 4 21 ?_
  refine J.a5 rfl (fun h21 => ?_) (fun h21 => ?_)
  ·
    refine J.W hK6 <| J.E 3 4 ?_
    refine J.a1 <| J.G <| J.b rfl <| J.p (qAJ (l := [.const ((Value.int IntKind.u8 0))]) (xs := [[B8 0]]) rfl rfl rfl rfl qBl el5 rfl (by decide) (by decide) (by simp)) rfl fun g23 _ => ?_
    change J _ _ _ [F, m, blk g23 [B8 0] 5] _
    refine J.p (qAd (i := 1) (m2 := blk g23 [B8 0] 5) (ys := [[B8 0]]) rfl rfl rfl qBl qBl el5 rfl hrow (by simp) (qAv (q := True) (xs := [[B8 0]]) rfl (by simp)).sl rfl (by omega) (by omega)) rfl ?_
    rintro ⟨A24, c24, m24⟩ h24
    try dsimp only at h24
    change J _ ((24, .slice A24 (l.length + 1 + k + 1) c24) :: _) _ [_, m24, _] _
    rw [show [[B8 0]] = qAX [0] from rfl, ← qDL] at h24
    refine J.c9 [0, 1] [F, m24] rfl (by decide) <| J.b rfl <| J.a7 <| J.a9 <| J.A <| J.b0 (k + 1, A24, c24, m24) (fun x (hx : _ ∧ (119 - l.length % 64) % 64 - x.1 < (119 - l.length % 64) % 64 - k) => hI0 x hx.1 hx.2) ⟨⟨by dsimp only; omega, by rw [List.replicate_succ', ← List.append_assoc]; exact h24⟩, by dsimp only; omega⟩ ⟨rfl, rfl, trivial⟩ (fun _ h => h)
  refine J.b7 <| J.a6 <| J.a6 <| J.b8 ?_
  refine J.A (J.L hK5 ?_)
  refine J.E 3 4 ?_
  refine J.k fun K8 hK8 => ?_
  have hkz : k = (119 - l.length % 64) % 64 := by omega
  refine J.G <| J.j 2 rfl <| J.f (qJi (a := 8) rfl rfl rfl) rfl <| J.p (qAB rfl rfl ent87 (Ct.use (fun F' _ => qFT F' _ 8 (by decide)))) rfl ?_
  rintro ⟨A28, c28, m28⟩ h28
  try dsimp only at h28
  change J _ ((28, .slice A28 8 c28) :: _) _ [F, m, m28] _
  refine J.p (qAd (i := 1) (m2 := m28) (ys := qAX (Sha.numB (8 * UInt64.ofNat l.length) 8)) rfl rfl rfl qBl qBl el5 rfl hrow (by simp) h28.sl (qGT _) (by omega) (by omega)) rfl ?_
  rintro ⟨A29, c29, m29⟩ h29
  try dsimp only at h29
  change J _ ((29, .slice A29 (l.length + 1 + k + 8) c29) :: _) _ [_, m29, _] _
  rw [← qDL] at h29
  refine J.c9 [0, 1] [F, m29] rfl (by decide) <| J.b rfl <| J.c hK8 <| J.u 3 ?_
  refine J.k fun K9 hK9 => ?_
  rw [hkz, ← hpd] at h29
  rw [hkz, show l.length + 1 + (119 - l.length % 64) % 64 + 8 = p.length by omega] at *
  refine J.G <| J.p (qAB rfl rfl ent141 (Ct.use0 (fun F' _ => qOn F'))) rfl fun g30 _ => J.p (qAO rfl zeroValue248 rfl) rfl fun g5 _ => ?_
  change J _ _ _ [F, m29, blk g5 _ 248] _
  refine J.b1 (qAG (i := 2) (vs := Sha.init.list.map W32) rfl rfl rfl rfl rfl sizeOf248 (qQl _) (by rfl)) rfl rfl fun _ _ => ?_
  change J _ _ _ [_, _, blk g5 (Sha.init.list.map W32) 248] _
  refine J.c hK9 <| J.E 3 5 ?_
  refine J.k fun K10 hK10 => J.a1 <| J.c0 (X := Nat × Option Addr × Nat) (fun x => [(3, .slice x.2.1 (p.length - 64 * x.1) x.2.2), (5, Ptr g5)]) (fun x => [F, m29, blk g5 ((Sha.mixes Sha.init p x.1).list.map W32) 248]) (fun x => 64 * x.1 ≤ p.length ∧ Sl m29 1 x.2.1 (p.length - 64 * x.1) x.2.2 (qAX (p.drop (64 * x.1)))) (fun x => p.length - 64 * x.1) (0, A29, c29) (⟨Nat.zero_le _, h29.sl⟩) ⟨rfl, rfl, trivial⟩ (fun _ h => by unfold Sha.mixes; exact h) ?_
  rintro ⟨k, A2, c2⟩ ⟨hk, hsl⟩ I2 hI2
  dsimp only at hk hsl ⊢
  refine J.k fun K11 hK11 => J.g fun K12 hK12 => J.b rfl <| J.f (qAa qBl rfl rfl) rfl <| J.f (qAx rfl rfl rfl) rfl <| J.c hK12 <| J.H 3 5 33 ?_
  refine J.a5 rfl (fun h33 => ?_) (fun h33 => ?_)
  ·
    refine J.W hK11 <| J.E 3 5 ?_
    refine J.k fun K13 hK13 => J.a1 ?_
    have hN : 64 ≤ p.length - 64 * k := by omega
    have hc2 := hsl.2.1
    refine J.G <| J.b rfl <| J.p (qAB rfl rfl ent142 (Ct.use1 2 (m' := fun _ : Unit => blk g5 ((Sha.mix (Sha.mixes Sha.init p k) (p.drop (64 * k))).list.map W32) 248) (new := fun _ => []) rfl (fun F' hF => qR5 F' (hK.mono (hF _ (by simp))) g5 _ A2 (p.length - 64 * k) c2 (p.drop (64 * k)) (hsl.mono (hF _ (by simp))) (by omega)))) rfl fun g37 _ => ?_
    change J _ _ _ [F, m29, blk g5 ((Sha.mix (Sha.mixes Sha.init p k) (p.drop (64 * k))).list.map W32) 248] _
    refine J.a7 <| J.a9 <| J.A (J.L hK13 ?_)
    refine J.E 3 5 ?_
    refine J.G <| J.b rfl <| J.f (qCd (l := 64) (h := p.length - 64 * k) rfl rfl qBl z5_ rfl rfl (by omega)) rfl <| J.b rfl <| J.a7 <| J.A ?_
    have hcut := hsl.cut (lo := 64) (hi := p.length - 64 * k) (mx := c2) hN (Nat.le_refl _) hsl.2.1
    rw [qK7 p k _ rfl] at hcut
    have hNN : p.length - 64 * k - 64 = p.length - 64 * (k + 1) := by omega
    refine J.b0 (k + 1, _, c2 - 64) (fun x (hx : _ ∧ p.length - 64 * x.1 < p.length - 64 * k) => hI2 x hx.1 hx.2) ⟨⟨by dsimp only; omega, by rw [← hNN]; exact hcut⟩, by dsimp only; omega⟩ ⟨by rw [← hNN]; rfl, rfl, trivial⟩ (fun _ h => by unfold Sha.mixes; exact h)
  refine J.b7 <| J.a6 <| J.a6 <| J.b8 ?_
  refine J.A (J.L hK10 ?_)
  refine J.u 5 ?_
  refine J.k fun K14 hK14 => ?_
  have hk64 : k = p.length / 64 := by omega
  rw [← hk64] at hsum
  generalize Sha.mixes Sha.init p k = t at hsum ⊢
  refine J.G <| J.b rfl <| J.c hK14 <| J.E 5 6 ?_
  refine J.k fun K15 hK15 => J.g fun K16 hK16 => J.c4 2 isAgg248 sizeOf248 rfl rfl rfl rfl rfl <| J.d9 [0, 3] [F, (fun _ => none)] rfl (by decide) <| J.b rfl <| J.c hK16 <| J.H 6 38 39 ?_
  refine J.a1 <| J.c0 (X := Nat × Option Addr × Nat × Hp) (fun x => [(6, .slice x.2.1 (4 * x.1) x.2.2.1), (38, .agg (t.list.map W32).toArray), (39, I x.1)]) (fun x => [F, x.2.2.2]) (fun x => x.1 ≤ 8 ∧ Row x.2.2.2 5 1 x.2.1 (4 * x.1) x.2.2.1 (qAX (Sha.outs t x.1))) (fun x => 8 - x.1) (0, none, 0, fun _ => none) (⟨Nat.zero_le _, qBa.nil⟩) ⟨rfl, rfl, rfl, trivial⟩ (fun _ h => h) ?_
  rintro ⟨k, A3, c3, m⟩ ⟨hk, hrow⟩ I4 hI4
  dsimp only at hk hrow ⊢
  refine J.g fun K17 hK17 => J.f (qAW rfl rfl rfl) rfl <| J.c hK17 <| J.M 6 38 39 40 ?_
  refine J.k fun K18 hK18 => J.a5 rfl (fun h40 => ?_) (fun h40 => ?_)
  ·
    refine J.W hK18 <| J.H 6 38 39 ?_
    refine J.k fun K19 hK19 => J.a1 <| J.g fun K20 hK20 => J.f (qGu (i := k) (v := W32 (t.list.getD k 0)) rfl rfl rfl qEn qB1 qCr (by omega) (by rw [Nat.mul_one, List.getElem?_toArray]; exact qJv _ k (by omega))) rfl ?_
    refine J.b rfl <| J.c hK20 <| J.M 6 8 38 39 ?_
    refine J.G <| J.j 2 rfl <| J.f (qGx rfl rfl qKT qEm) rfl <| J.p (qAB rfl rfl ent87 (Ct.use (fun F' _ => qFT F' _ 4 (by decide)))) rfl ?_
    rintro ⟨A45, c45, m45⟩ h45
    try dsimp only at h45
    change J _ ((45, .slice A45 4 c45) :: _) _ [F, m, m45] _
    refine J.p (qAd (i := 1) (m2 := m45) (ys := qAX (Sha.numB (t.list.getD k 0).toUInt64 4)) rfl rfl rfl qBl qBl el5 rfl hrow (by simp) h45.sl (qGT _) (by omega) (by omega)) rfl ?_
    rintro ⟨A46, c46, m46⟩ h46
    try dsimp only at h46
    change J _ ((46, .slice A46 (4 * k + 4) c46) :: _) _ [_, m46, _] _
    rw [← qDL, ← qMM t k (by omega)] at h46
    refine J.c9 [0, 1] [F, m46] rfl (by decide) <| J.b rfl <| J.a7 <| J.a9 <| J.A (J.L hK19 ?_)
    refine J.H 6 38 39 ?_
    refine J.G <| J.f (qAR rfl rfl rfl (by omega)) rfl <| J.b rfl <| J.a7 <| J.A <| J.b0 (k + 1, A46, c46, m46) (fun x (hx : _ ∧ 8 - x.1 < 8 - k) => hI4 x hx.1 hx.2) ⟨⟨by dsimp only; omega, h46⟩, by dsimp only; omega⟩ ⟨rfl, rfl, rfl, trivial⟩ (fun _ h => h)
  refine J.b7 <| J.a6 <| J.a6 <| J.b8 ?_
  refine J.A (J.L hK15 ?_)
  refine J.u 6 ?_
  refine J.k fun K21 hK21 => ?_
  have hk8 : k = 8 := by omega
  subst hk8
  refine J.G <| J.b rfl <| J.f (qCE rfl rfl qBl u5_ u9_ (m := m) (by simp) hrow.sl) rfl <| J.b rfl <| J.c hK21 <| J.u 2 ?_
  exact J.D <| J.V hw0 rfl () (by rw [hsum]; rfl) trivial [0] rfl (by decide)
namespace Sha
def tagParts (tag : UInt8) (ls : List (List UInt8)) (k : Nat) : List (List UInt8) := [[tag]] ++ (ls.take k).flatMap fun s => [numB (UInt64.ofNat s.length) 4, s]
def tagB (tag : UInt8) (ls : List (List UInt8)) : List UInt8 := [tag] ++ ls.flatMap fun s => numB (UInt64.ofNat s.length) 4 ++ s
def tagged (tag : UInt8) (ls : List (List UInt8)) : List UInt8 := (sum (tagB tag ls)).take 16
theorem tagParts_succ (tag : UInt8) (ls : List (List UInt8)) (k : Nat) {s : List UInt8} (h : ls[k]? = some s) : tagParts tag ls (k + 1) = tagParts tag ls k ++ [numB (UInt64.ofNat s.length) 4, s] := by
 obtain ⟨hk, rfl⟩ := List.getElem?_eq_some_iff.1 h
 unfold tagParts
 rw [List.take_succ_eq_append_getElem hk, List.flatMap_append, ← List.append_assoc]
 simp
theorem tagParts_flat (tag : UInt8) (ls : List (List UInt8)) : (tagParts tag ls ls.length).flatten = tagB tag ls := by
 unfold tagParts tagB
 rw [List.take_length, List.flatten_append]
 congr 1
 induction ls with
 | nil => rfl
 | cons a l ih => rw [List.flatMap_cons, List.flatMap_cons, List.flatten_append, ih]; simp
theorem tagB_length (tag : UInt8) (ls : List (List UInt8)) : (tagB tag ls).length = 1 + 4 * ls.length + ls.flatten.length := by
 unfold tagB
 rw [List.length_append]
 induction ls with
 | nil => rfl
 | cons a l ih => simp only [List.flatMap_cons, List.length_append, numB_length, List.length_cons, List.flatten_cons, List.length_nil] at ih ⊢; omega
theorem tagged_length (tag : UInt8) (ls : List (List UInt8)) : (tagged tag ls).length = 16 := by rw [tagged, List.length_take, sum_length]; rfl
def hi (b : UInt8) : UInt8 := UInt8.ofNat (b.toNat / 2 ^ min 4 8)
end Sha
theorem qBv (a b : List (List UInt8)) : qAI (a ++ b) = qAI a ++ qAI b := by simp [qAI]
theorem qOT {ls : List (List UInt8)} {k : Nat} {s : List UInt8} (h : ls[k]? = some s) : s.length ≤ ls.flatten.length := by
 have : s ∈ ls := List.mem_of_getElem? h
 induction ls generalizing k with
 | nil => cases this
 | cons a l ih =>
  cases k with
  | zero => simp at h; subst h; simp
  | succ k => simp only [List.flatten_cons, List.length_append]; simp only [List.getElem?_cons_succ] at h; have := ih h (List.mem_of_getElem? h); omega
attribute [local irreducible] Sha.tagParts Sha.tagB
theorem qA3 (F : Hp) (hK : KF F) (tag : UInt8) (A : Option Addr) (n c : Nat) (ls : List (List UInt8)) (hl : Sl F 1 A n c (qAI ls)) (htot : ls.flatten.length ≤ 8796093022208) (hn : n ≤ 1099511627776) :
    Ct prog 44 [B8 tag, .slice A n c] [F] (fun _ : Unit => Str (Sha.tagged tag ls)) (fun _ => True) (fun _ => [F]) := by
  have hlen : ls.length = n := by have := hl.1; simpa [qAI] using this
  have htl := Sha.tagB_length tag ls
  have hfl := Sha.tagParts_flat tag ls
  rw [hlen] at hfl htl
  refine Ct.walk func44 rfl ntmps44 rfl (fun w0 hw0 => ?_)
  change J _ [(0, _), (1, _)] _ _ _
  refine J.g fun K1 hK1 => J.b rfl <| J.c hK1 <| J.E 0 1 ?_
  refine J.g fun K2 hK2 => J.b rfl <| J.p (qAJ (l := [.tmp 8]) (xs := [[B8 tag]]) rfl rfl rfl rfl qBl el5 rfl (by decide) (by decide) (by simp)) rfl fun g9 _ => ?_
  change J _ _ _ [F, blk g9 [B8 tag] 5] _
  refine J.f (qCE (l := [tag]) rfl rfl qBl u5_ u9_ (m := blk g9 [B8 tag] 5) (by simp) (qAv (q := True) (xs := [[B8 tag]]) rfl (by simp)).sl) rfl <| J.p (qAJ (l := [.tmp 10]) (xs := [[Str [tag]]]) rfl rfl rfl rfl qAh el9 rfl (by decide) (by decide) (by simp)) rfl fun g11 _ => ?_
  change J _ _ _ [_, _, blk g11 [Str [tag]] 9] _
  refine J.c9 [0, 2] [F, blk g11 [Str [tag]] 9] rfl (by decide) <| J.b rfl <| J.c hK2 <| J.E 1 5 ?_
  refine J.k fun K3 hK3 => J.g fun K4 hK4 => J.b rfl <| J.f (qAa qAh rfl rfl) rfl <| J.b rfl <| J.c hK4 <| J.M 5 12 13 14 ?_
  refine J.a1 <| J.c0 (X := Nat × Option Addr × Nat × Hp) (fun x => [(5, .slice x.2.1 (2 * x.1 + 1) x.2.2.1), (12, .slice A n c), (13, I n), (14, I x.1)]) (fun x => [F, x.2.2.2]) (fun x => x.1 ≤ n ∧ Row x.2.2.2 9 1 x.2.1 (2 * x.1 + 1) x.2.2.1 (qAI (Sha.tagParts tag ls x.1))) (fun x => n - x.1) (0, some ⟨g11, 0, none⟩, 1, blk g11 [Str [tag]] 9) (⟨Nat.zero_le _, by unfold Sha.tagParts; exact qAv (xs := qAI [[tag]]) rfl (by simp [qAI])⟩) ⟨rfl, rfl, rfl, rfl, trivial⟩ (fun _ h => h) ?_
  rintro ⟨k, A1, c1, m⟩ ⟨hk, hrow⟩ I0 hI0
  dsimp only at hk hrow ⊢
  refine J.g fun K5 hK5 => J.f (qAW rfl rfl rfl) rfl <| J.c hK5 <| J.a0 5 12 13 14 15 ?_
  refine J.k fun K6 hK6 => J.a5 rfl (fun h15 => ?_) (fun h15 => ?_)
  ·
    refine J.W hK6 <| J.M 5 12 13 14 ?_
    refine J.k fun K7 hK7 => J.a1 <| J.k fun K8 hK8 => ?_
    have hkn : k < n := by omega
    obtain ⟨s, hs⟩ : ∃ s, ls[k]? = some s := ⟨_, List.getElem?_eq_getElem (by omega)⟩
    have hsl := qOT hs
    refine J.G <| J.f (qAH (i := k) rfl rfl rfl qAh z9_ hl (by omega)) rfl <| J.f (qAN rfl rfl b9_ (by simp) (hl.elem (qAZ hs))) rfl <| J.b rfl <| J.c hK8 <| J.a0 5 7 12 13 14 ?_
    refine J.G <| J.j 2 rfl <| J.f (qAk u9_ rfl rfl) rfl <| J.f (qAr rfl rfl u3_ qEm (by omega)) rfl <| J.p (qAB rfl rfl ent87 (Ct.use (fun F' _ => qFT F' _ 4 (by decide)))) rfl ?_
    rintro ⟨A22, c22, m22⟩ h22
    try dsimp only at h22
    change J _ ((22, .slice A22 4 c22) :: _) _ [F, m, m22] _
    refine J.f (qCE rfl rfl qBl u5_ u9_ (m := m22) (by simp) h22.sl) rfl <| J.b rfl <| J.p (qAJ (l := [.tmp 23, .tmp 24]) (xs := [[Str (Sha.numB (UInt64.ofNat s.length) 4)], [Str s]]) rfl rfl rfl rfl qAh el9 rfl (by decide) (by decide) (by simp)) rfl fun g25 _ => ?_
    change J _ _ _ [_, _, _, blk g25 [Str (Sha.numB (UInt64.ofNat s.length) 4), Str s] 9] _
    refine J.p (qAd (i := 1) (m2 := blk g25 [Str (Sha.numB (UInt64.ofNat s.length) 4), Str s] 9) (ys := qAI [(Sha.numB (UInt64.ofNat s.length) 4), s]) rfl rfl rfl qAh qAh el9 rfl hrow (by simp) (qAv (q := True) (xs := qAI [(Sha.numB (UInt64.ofNat s.length) 4), s]) rfl (by simp [qAI])).sl (by simp [qAI, Value.oneCell']) (by omega) (by omega)) rfl ?_
    rintro ⟨A26, c26, m26⟩ h26
    try dsimp only at h26
    change J _ ((26, .slice A26 (2 * k + 1 + 2) c26) :: _) _ [_, m26, _, _] _
    rw [← qBv, ← Sha.tagParts_succ tag ls k hs] at h26
    refine J.c9 [0, 1] [F, m26] rfl (by decide) <| J.b rfl <| J.a7 <| J.a9 <| J.A (J.L hK7 ?_)
    refine J.M 5 12 13 14 ?_
    refine J.G <| J.f (qAR rfl rfl rfl (by omega)) rfl <| J.b rfl <| J.a7 <| J.A <| J.b0 (k + 1, A26, c26, m26) (fun x (hx : _ ∧ n - x.1 < n - k) => hI0 x hx.1 hx.2) ⟨⟨by dsimp only; omega, h26⟩, by dsimp only; omega⟩ ⟨rfl, rfl, rfl, rfl, trivial⟩ (fun _ h => h)
  refine J.b7 <| J.a6 <| J.a6 <| J.b8 ?_
  refine J.A (J.L hK3 ?_)
  refine J.u 5 ?_
  refine J.k fun K9 hK9 => ?_
  have hkn : n = k := by omega
  subst hkn
  refine J.G <| J.b rfl <| J.p (qAB rfl rfl ent88 (Ct.use0 (fun F' hF => qRe F' (hK.mono (hF _ (by simp))) A1 (2 * n + 1) c1 (Sha.tagParts tag ls n) (hrow.sl.mono (hF _ (by simp))) (by rw [hfl]; omega) (by omega)))) rfl fun g29 _ => ?_
  change J _ _ _ [F, m] _
  refine J.f (qAz (l := 0) (h := 16) u9_ rfl rfl rfl rfl (by rw [Sha.sum_length]; omega)) rfl <| J.b rfl <| J.c hK9 <| J.u 4 ?_
  exact J.D <| J.V hw0 rfl () (by rw [hfl]; rfl) trivial [0] rfl (by decide)
end Go.Proofs.YtfldiegfenndjaaGreatDoor
namespace Go.Proofs.YtfldiegfenndjaaGreatDoor
open Go Go.Fw Go.Proofs.Tryz
set_option maxRecDepth 100000
set_option maxHeartbeats 1000000
section
variable {P : Program} {env : Env} {rs : List Hp} {o : Oper} {t t' : TypeId} {x y : Operand} {a b : UInt32}
end
attribute [local irreducible] Sha.rnds Sha.sched Sha.mix Sha.rotr Sha.exts
end Go.Proofs.YtfldiegfenndjaaGreatDoor
namespace Go.Proofs.YtfldiegfenndjaaGreatDoor
open Go Go.Fw Go.Proofs.Tryz
set_option maxRecDepth 100000
set_option maxHeartbeats 1000000
def qDl (ok : Bool) (e bad : Int) : Int := if ok = false ∧ bad = 0 then e else bad
def qEh (ok : Bool) (e bad : Int) (l : List Value) : List Value := if ok = false ∧ bad = 0 then qAs l 2 [I e] else l
theorem qG6 {ok : Bool} {e bad : Int} {l : List Value} (hl : l.length = 3) : (qEh ok e bad l).length = 3 := by
 unfold qEh
 split
 · rw [qC2 (by omega)]; exact hl
 · exact hl
theorem qG8 {ok : Bool} {e bad : Int} {l : List Value} (hl : l.length = 3) (hb : l[2]? = some (I bad)) : (qEh ok e bad l)[2]? = some (I (qDl ok e bad)) := by
 unfold qEh qDl
 split
 · exact qCT (by omega)
 · exact hb
theorem qG7 {ok : Bool} {e bad : Int} {g : Nat} {l : List Value} {mr : Hp} {bs : List UInt8} {A : Option Addr} {c : Nat} {p : Option Addr} (hl : l.length = 3) (hb : Bld g 0 l mr bs A c p) : Bld g 0 (qEh ok e bad l) mr bs A c p := by
 unfold qEh
 split
 · exact ⟨(qBb (by omega) (by decide)).trans hb.a0, hb.self, (qBb (by omega) (by decide)).trans hb.a1, hb.row, hb.cap⟩
 · exact hb
theorem qM4 (F : Hp) (g : Nat) (l : List Value) (hl : l.length = 3) (bad : Int) (hb : l[2]? = some (I bad)) (e : Int) :
    Ct prog 138 [Ptr g, .bool true, I e] [blk g l 188, F] (fun _ : Unit => .bool (decide (qDl true e bad = 0))) (fun _ => True) (fun _ => [blk g (qEh true e bad l) 188, F]) := by
  refine Ct.walk func138 rfl ntmps138 rfl (fun w0 hw0 => ?_)
  change J _ [(0, _), (1, _), (2, _)] _ _ _
  refine J.g fun K1 hK1 => J.b rfl <| J.c hK1 <| J.H 0 1 2 ?_
  refine J.k fun K2 hK2 => J.g fun K3 hK3 => J.b rfl <| J.f (qA1 rfl rfl) rfl <| J.j 7 rfl <| J.c hK3 <| J.H 0 2 15 ?_
  refine J.a8 ?_
  refine J.W hK2 <| J.u 0 ?_
  refine J.g fun K4 hK4 => J.b rfl <| J.f (qAD rfl rfl) rfl <| J.a2 2 qFA qIb rfl rfl rfl rfl rfl <| J.f (qAC 0 rfl rfl rfl qLJ (by first | exact hb | exact qCT (by omega))) rfl <| J.f (qAV rfl rfl rfl) rfl <| J.b rfl <| J.c hK4 <| J.u 6 ?_
  exact J.D <| J.V hw0 rfl () (congrArg Value.bool (decide_eq_decide.2 (by unfold qDl; rw [if_neg (show ¬ (true = false ∧ bad = 0) from fun h => by cases h.1)]))) trivial [0, 1] (by show [blk g _ _, F] = [blk g (qEh true e bad l) _, F]; unfold qEh; rw [if_neg (show ¬ (true = false ∧ bad = 0) from fun h => by cases h.1)]) (by decide)
theorem qK5 (F : Hp) (g : Nat) (l : List Value) (hl : l.length = 3) (bad : Int) (hb : l[2]? = some (I bad)) (e : Int) :
    Ct prog 138 [Ptr g, .bool false, I e] [blk g l 188, F] (fun _ : Unit => .bool (decide (qDl false e bad = 0))) (fun _ => True) (fun _ => [blk g (qEh false e bad l) 188, F]) := by
  refine Ct.walk func138 rfl ntmps138 rfl (fun w0 hw0 => ?_)
  change J _ [(0, _), (1, _), (2, _)] _ _ _
  refine J.g fun K1 hK1 => J.b rfl <| J.c hK1 <| J.H 0 1 2 ?_
  refine J.k fun K2 hK2 => J.g fun K3 hK3 => J.b rfl <| J.f (qA1 rfl rfl) rfl <| J.j 2 rfl <| J.T (qAD rfl rfl) rfl <| J.T (qAA (j := 2) rfl rfl qFA rfl qIb rfl) rfl <| J.T (qAC 0 rfl rfl rfl qLJ hb) rfl <| J.T (qAV rfl rfl rfl) rfl <| J.b rfl <| J.c hK3 <| J.H 0 2 15 ?_
  refine J.a5 rfl (fun h15 => ?_) (fun h15 => ?_)
  ·
    refine J.G <| J.j 2 rfl <| J.f (qAD rfl rfl) rfl <| J.a2 2 qFA qIb rfl rfl rfl rfl rfl <| J.b1 (qAT (i := 0) (vs := [I e]) rfl rfl rfl rfl rfl qIb rfl (by rw [hl]; exact Nat.le_refl 3)) rfl rfl fun _ _ => ?_
    change J _ _ _ [blk g (qAs l 2 [I e]) 188, F] _
    refine J.c hK2 <| J.u 0 ?_
    refine J.g fun K4 hK4 => J.b rfl <| J.f (qAD rfl rfl) rfl <| J.a2 2 qFA qIb rfl rfl rfl rfl rfl <| J.f (qAC 0 rfl rfl rfl qLJ (by first | exact hb | exact qCT (by omega))) rfl <| J.f (qAV rfl rfl rfl) rfl <| J.b rfl <| J.c hK4 <| J.u 6 ?_
    exact J.D <| J.V hw0 rfl () (congrArg Value.bool (decide_eq_decide.2 (by unfold qDl; rw [if_pos (show false = false ∧ bad = 0 from ⟨rfl, by omega⟩)]))) trivial [0, 1] (by show [blk g _ _, F] = [blk g (qEh false e bad l) _, F]; unfold qEh; rw [if_pos (show false = false ∧ bad = 0 from ⟨rfl, by omega⟩)]) (by decide)
  refine J.W hK2 <| J.u 0 ?_
  refine J.g fun K5 hK5 => J.b rfl <| J.f (qAD rfl rfl) rfl <| J.a2 2 qFA qIb rfl rfl rfl rfl rfl <| J.f (qAC 0 rfl rfl rfl qLJ (by first | exact hb | exact qCT (by omega))) rfl <| J.f (qAV rfl rfl rfl) rfl <| J.b rfl <| J.c hK5 <| J.u 6 ?_
  exact J.D <| J.V hw0 rfl () (congrArg Value.bool (decide_eq_decide.2 (by unfold qDl; rw [if_neg (show ¬ (false = false ∧ bad = 0) from fun h => h15 h.2)]))) trivial [0, 1] (by show [blk g _ _, F] = [blk g (qEh false e bad l) _, F]; unfold qEh; rw [if_neg (show ¬ (false = false ∧ bad = 0) from fun h => h15 h.2)]) (by decide)
theorem qI9 (F : Hp) (g : Nat) (l : List Value) (hl : l.length = 3) (bad : Int) (hb : l[2]? = some (I bad)) (ok : Bool) (e : Int) :
    Ct prog 138 [Ptr g, .bool ok, I e] [blk g l 188, F] (fun _ : Unit => .bool (decide (qDl ok e bad = 0))) (fun _ => True) (fun _ => [blk g (qEh ok e bad l) 188, F]) := by
  cases ok
  · exact qK5 F g l hl bad hb e
  · exact qM4 F g l hl bad hb e
def Wtr (m : Hp) (g : Nat) (bs : List UInt8) (bad : Int) : Prop := ∃ l mr A c p, m = U [blk g l 188, mr] ∧ Dj (blk g l 188) mr ∧ l.length = 3 ∧ Bld g 0 l mr bs A c p ∧ l[2]? = some (I bad)
theorem lies (l : List Value) (hl : l.length = 3) : liesAt prog prog.depth 188 (l.length / prog.cellsOf 188) 0 186 1 = true := by rw [hl]; kernel_rfl
def okN (n : UInt64) (size : Nat) : Bool := decide (n.toNat < 2 ^ (8 * size))
def qPA (n : UInt64) (size : Nat) (bs : List UInt8) (bad : Int) : List UInt8 := if qDl (okN n size) 10 bad = 0 then bs ++ Sha.numB n size else bs
def okF (s : List UInt8) (size : Nat) : Bool := decide (s.length = size)
def qPu (s : List UInt8) (size : Nat) (bs : List UInt8) (bad : Int) : List UInt8 := if qDl (okF s size) 10 bad = 0 then bs ++ s else bs
theorem qMZ (n : UInt64) (size t : Nat) (h : t < size) : (Sha.numB n size).take (t + 1) = (Sha.numB n size).take t ++ [(UInt64.ofNat (n.toNat / 2 ^ min (8 * (size - 1 - t)) 64)).toUInt8] := by
 rw [List.take_succ_eq_append_getElem (by rw [Sha.numB_length]; exact h)]
 congr 2
 simp [Sha.numB]
theorem qNq (n : UInt64) (size : Nat) (h : size < 8) : (((UInt64.ofNat (n.toNat / 2 ^ min (8 * size) 64)).toNat : Int) = 0) ↔ n.toNat < 2 ^ (8 * size) := by
  have hn := n.toNat_lt
  rw [UInt64.toNat_ofNat', Nat.mod_eq_of_lt (Nat.lt_of_le_of_lt (Nat.div_le_self _ _) hn), Nat.min_eq_left (by omega)]
  have hp := Nat.two_pow_pos (8 * size)
  constructor
  · intro h0
    have h1 : n.toNat / 2 ^ (8 * size) = 0 := by omega
    rcases Nat.div_eq_zero_iff.1 h1 with h2 | h2
    · omega
    · exact h2
  · intro h0
    rw [Nat.div_eq_of_lt h0]; rfl
theorem qEa (F m : Hp) (g : Nat) (bs : List UInt8) (bad : Int) (hw : Wtr m g bs bad) (hlen : bs.length ≤ 1099511627776) (n : UInt64) (size : Nat) (h1 : 1 ≤ size) (h8 : size < 8) :
    Ct prog 83 [Ptr g, W64 n, I size] [m, F] (fun _ : Hp => Ptr g) (fun m' => Wtr m' g (qPA n size bs bad) (qDl (okN n size) 10 bad)) (fun m' => [m', F]) := by
  obtain ⟨l, mr, A, c, p, rfl, hd, hl, hb, hbad⟩ := hw
  have hfl := qG6 (ok := (okN n size)) (e := 10) (bad := bad) hl
  have hfb := qG7 (ok := (okN n size)) (e := 10) (bad := bad) hl hb
  have hf2 := qG8 (ok := (okN n size)) (e := 10) hl hbad
  refine Ct.walk func83 rfl ntmps83 rfl (fun w0 hw0 => ?_)
  change J _ [(0, _), (1, _), (2, _)] _ _ _
  refine J.f8 hd ?_
  refine J.g fun K1 hK1 => J.b rfl <| J.c hK1 <| J.H 0 1 2 ?_
  refine J.k fun K2 hK2 => J.g fun K3 hK3 => J.b rfl <| J.f ((qAu underlying189 rfl rfl rfl).as (v' := .bool false) rfl) rfl <| J.j 3 rfl <| J.T ((qBN rfl rfl rfl).yes (by omega)) rfl <| J.j 2 rfl <| J.T ((qGE rfl rfl rfl).yes (by omega)) rfl <| J.j 3 rfl <| J.T ((qAV rfl rfl rfl).no (by omega)) rfl <| J.j 3 rfl <| J.T ((qB8 (a := 8) rfl rfl rfl (by omega)).nat (8 * size) (by omega)) rfl <| J.T (qEv (m := 8 * size) rfl rfl rfl) rfl <| J.T ((qAV rfl rfl rfl).as (v' := .bool (okN n size)) (congrArg Value.bool (by unfold okN; exact decide_eq_decide.2 (qNq n size h8)))) rfl <| J.j 2 rfl <| J.d6 (qAB rfl rfl ent138 (Ct.use1 0 (m' := fun _ : Unit => blk g (qEh (okN n size) 10 bad l) 188) (new := fun _ => []) rfl (fun F' _ => qI9 F' g l hl bad hbad (okN n size) 10))) rfl fun g29 _ => ?_
  change J _ _ _ [blk g (qEh (okN n size) 10 bad l) 188, mr, F] _
  refine J.T (qFQ rfl rfl) rfl <| J.b rfl <| J.c hK3 <| J.M 0 1 2 31 ?_
  refine J.a5 rfl (fun h31 => ?_) (fun h31 => ?_)
  ·
    refine J.g fun K4 hK4 => J.j 2 rfl <| J.c hK4 <| J.u 6 ?_
    exact J.D <| J.a3 <| J.b4 hw0 (fun _ _ h => h) (qIc rfl rfl) (qDW (U [blk g (qEh (okN n size) 10 bad l) 188, mr]) rfl (fun hd => ⟨_, mr, A, c, p, rfl, hd, hfl, by unfold qPA; rw [if_neg (by omega)]; exact hfb, hf2⟩) [0, 1, 2] rfl rfl (by decide))
  refine J.W hK2 <| J.H 0 1 2 ?_
  refine J.k fun K5 hK5 => J.k fun K6 hK6 => ?_
  have hok : qDl (okN n size) 10 bad = 0 := by omega
  refine J.G <| J.b rfl <| J.f ((qAp rfl rfl rfl (by omega)).as (v' := I ((size : Int) - 1 - ((0 : Nat) : Int))) (congrArg I (by omega))) rfl <| J.b rfl <| J.c hK6 <| J.H 0 1 7 ?_
  refine J.a1 <| J.c0 (X := Nat × List Value × Hp) (fun x => [(0, Ptr g), (1, W64 n), (7, I ((size : Int) - 1 - (x.1 : Int)))]) (fun x => [blk g x.2.1 188, x.2.2, F]) (fun x => x.1 ≤ size ∧ x.2.1.length = 3 ∧ x.2.1[2]? = some (I (qDl (okN n size) 10 bad)) ∧ ∃ A c p, Bld g 0 x.2.1 x.2.2 (bs ++ (Sha.numB n size).take x.1) A c p) (fun x => size - x.1) (0, (qEh (okN n size) 10 bad l), mr) (⟨Nat.zero_le _, hfl, hf2, A, c, p, by rw [List.take_zero, List.append_nil]; exact hfb⟩) ⟨rfl, rfl, rfl, trivial⟩ (fun _ h => h) ?_
  rintro ⟨t, l2, mr2⟩ ⟨ht, hl2, hbad2, A2, c2, p2, hb2⟩ I0 hI0
  dsimp only at ht hl2 hbad2 hb2 ⊢
  refine J.k fun K7 hK7 => J.g fun K8 hK8 => J.b rfl <| J.f (qBN rfl rfl rfl) rfl <| J.c hK8 <| J.M 0 1 7 36 ?_
  refine J.a5 rfl (fun h36 => ?_) (fun h36 => ?_)
  ·
    refine J.W hK7 <| J.H 0 1 7 ?_
    refine J.k fun K9 hK9 => J.a1 <| J.c1 [] [] (.y 0 (.y 1 (.y 2 (.y 3 (.y 4 (.y 5 (.y 6 (.y 7 (.e 8 .nil))))))))) Tryz.wide (by decide +kernel) (by simp) ?_
    refine J.O ?_
    refine J.q rfl (qAD rfl rfl) rfl rfl <| J.q rfl (qAA (j := 0) rfl rfl qFA rfl sizeOf186 rfl) rfl rfl <| J.O ?_
    refine J.q rfl ((qAl rfl rfl).nat (size - 1 - t) (by omega)) rfl rfl <| J.q rfl ((qB8 (a := 8) rfl rfl rfl (by omega)).nat (8 * (size - 1 - t)) (by omega)) rfl rfl <| J.q rfl (qEv (m := 8 * (size - 1 - t)) rfl rfl rfl) rfl rfl <| J.q rfl (qEZ rfl rfl qEm u5_) rfl rfl <| J.b2 rfl (qAB rfl rfl ent139 (Ct.useA [blk g l2 188, mr2] [F] (A' := fun x : List Value × Hp => [blk g x.1 188, x.2]) (new := fun _ => []) (fun F' _ => qHR F' mr2 g 188 0 l2 (bs ++ (Sha.numB n size).take t) A2 c2 p2 hb2 (lies l2 hl2) ((UInt64.ofNat (n.toNat / 2 ^ min (8 * (size - 1 - t)) 64)).toUInt8) (by rw [List.length_append, List.length_take, Sha.numB_length]; omega)))) rfl (by simp) ?_
    rintro ⟨l3, mr3⟩ ⟨A3, c3, hb3, hu3⟩
    change J _ _ _ [blk g l3 188, mr3, F] _
    dsimp only at hb3 hu3
    rw [List.append_assoc, ← qMZ n size t (by omega)] at hb3
    refine J.b5 <| J.a9 <| J.A (J.L hK9 ?_)
    refine J.H 0 1 7 ?_
    exact J.G <| J.b rfl <| J.f ((qAp rfl rfl rfl (by omega)).as (v' := I ((size : Int) - 1 - ((t + 1 : Nat) : Int))) (congrArg I (by omega))) rfl <| J.b rfl <| J.a7 <| J.A <| J.b0 (t + 1, l3, mr3) (fun x (hx : _ ∧ size - x.1 < size - t) => hI0 x hx.1 hx.2) ⟨⟨by dsimp only; omega, hu3.1.trans hl2, (hu3.2 2 (by decide) (by decide)).trans hbad2, A3, c3, _, hb3⟩, by dsimp only; omega⟩ ⟨rfl, rfl, rfl, trivial⟩ (fun _ h => h)
  refine J.b7 <| J.a6 <| J.a6 <| J.b8 ?_
  refine J.A (J.L hK5 ?_)
  refine J.u 0 ?_
  refine J.k fun K10 hK10 => ?_
  have hts : t = size := by omega
  subst hts
  rw [List.take_of_length_le (by rw [Sha.numB_length]; exact Nat.le_refl _)] at hb2
  refine J.G <| J.j 2 rfl <| J.c hK10 <| J.u 6 ?_
  exact J.D <| J.b4 hw0 (fun _ _ h => h) (qIc rfl rfl) (qDW (U [blk g l2 188, mr2]) rfl (fun hd => ⟨l2, mr2, A2, c2, p2, rfl, hd, hl2, by unfold qPA; rw [if_pos hok]; exact hb2, hbad2⟩) [0, 1, 2] rfl rfl (by decide))
theorem qJ9 (F m : Hp) (g : Nat) (bs : List UInt8) (bad : Int) (hw : Wtr m g bs bad) (hlen : bs.length ≤ 1099511627776) (s : List UInt8) (hs : s.length ≤ 1099511627776) (size : Nat) :
    Ct prog 84 [Ptr g, Str s, I size] [m, F] (fun _ : Hp => Ptr g) (fun m' => Wtr m' g (qPu s size bs bad) (qDl (okF s size) 10 bad)) (fun m' => [m', F]) := by
  obtain ⟨l, mr, A, c, p, rfl, hd, hl, hb, hbad⟩ := hw
  have hfl := qG6 (ok := (okF s size)) (e := 10) (bad := bad) hl
  have hfb := qG7 (ok := (okF s size)) (e := 10) (bad := bad) hl hb
  have hf2 := qG8 (ok := (okF s size)) (e := 10) hl hbad
  refine Ct.walk func84 rfl ntmps84 rfl (fun w0 hw0 => ?_)
  change J _ [(0, _), (1, _), (2, _)] _ _ _
  refine J.f8 hd ?_
  refine J.g fun K1 hK1 => J.b rfl <| J.c hK1 <| J.H 0 1 2 ?_
  refine J.k fun K2 hK2 => J.g fun K3 hK3 => J.b rfl <| J.f ((qRr underlying189 rfl rfl rfl).as (v' := .bool true) rfl) rfl <| J.j 3 rfl <| J.T (qAk u9_ rfl rfl) rfl <| J.b rfl <| J.T ((qAV rfl rfl rfl).as (v' := .bool (okF s size)) (congrArg Value.bool (by unfold okF; exact decide_eq_decide.2 (by omega)))) rfl <| J.d6 (qAB rfl rfl ent138 (Ct.use1 0 (m' := fun _ : Unit => blk g (qEh (okF s size) 10 bad l) 188) (new := fun _ => []) rfl (fun F' _ => qI9 F' g l hl bad hbad (okF s size) 10))) rfl fun g15 _ => ?_
  change J _ _ _ [blk g (qEh (okF s size) 10 bad l) 188, mr, F] _
  refine J.b rfl <| J.c hK3 <| J.H 0 1 16 ?_
  refine J.a5 rfl (fun h16 => ?_) (fun h16 => ?_)
  ·
    refine J.G <| J.b rfl <| J.f (qAD rfl rfl) rfl <| J.a2 0 qFA sizeOf186 rfl rfl rfl rfl rfl <| J.b rfl <| J.p (qAB rfl rfl ent109 (Ct.useA [blk g (qEh (okF s size) 10 bad l) 188, mr] [F] (A' := fun x : List Value × Hp => [blk g x.1 188, x.2]) (new := fun _ => []) (fun F' _ => qA7 F' mr g 188 0 (qEh (okF s size) 10 bad l) bs A c p hfb (lies _ hfl) s (by omega)))) rfl ?_
    rintro ⟨l3, mr3⟩ ⟨A3, c3, hb3, hu3⟩
    change J _ _ _ [blk g l3 188, mr3, _] _
    dsimp only at hb3 hu3
    refine J.c hK2 <| J.u 0 ?_
    refine J.g fun K4 hK4 => J.j 2 rfl <| J.c hK4 <| J.u 6 ?_
    exact J.D <| J.b4 hw0 (fun _ _ h => h) (qIc rfl rfl) (qDW (U [blk g l3 188, mr3]) rfl (fun hd => ⟨l3, mr3, A3, c3, _, rfl, hd, hu3.1.trans hfl, by unfold qPu; rw [if_pos (by assumption)]; exact hb3, (hu3.2 2 (by decide) (by decide)).trans hf2⟩) [0, 1, 2] rfl rfl (by decide))
  refine J.W hK2 <| J.u 0 ?_
  refine J.g fun K5 hK5 => J.j 2 rfl <| J.c hK5 <| J.u 6 ?_
  exact J.D <| J.b4 hw0 (fun _ _ h => h) (qIc rfl rfl) (qDW (U [blk g (qEh (okF s size) 10 bad l) 188, mr]) rfl (fun hd => ⟨_, mr, A, c, p, rfl, hd, hfl, by unfold qPu; rw [if_neg (by assumption)]; exact hfb, hf2⟩) [0, 1, 2] rfl rfl (by decide))
theorem qKA {P : Program} {X : Type} {f : FuncId} {vs : List Value} {a b : Hp} {r : List Hp} {val : X → Value} {φ : X → Prop} {A B : X → Hp} {ψ : Hp → Prop} {v : Value} (hd : Dj a b) (hv : ∀ x, φ x → val x = v) (hp : ∀ x, φ x → Dj (A x) (B x) → ψ (U [A x, B x])) (h : Ct P f vs (a :: b :: r) val φ (fun x => A x :: B x :: r)) : Ct P f vs (U [a, b] :: r) (fun _ : Hp => v) ψ (fun m => m :: r) :=
 fun w0 w hs => (h w0 w (hs.splitU hd)).mono fun e w' ⟨x, he, hx, hs'⟩ => ⟨U [A x, B x], by rw [he, hv x hx], hp x hx hs'.dj2, hs'.joinU⟩
theorem failW (F m : Hp) (g : Nat) (bs : List UInt8) (bad : Int) (hw : Wtr m g bs bad) (hlen : bs.length ≤ 1099511627776) (ok : Bool) (e : Int) :
    Ct prog 138 [Ptr g, .bool ok, I e] [m, F] (fun _ : Hp => .bool (decide (qDl ok e bad = 0))) (fun m' => Wtr m' g bs (qDl ok e bad)) (fun m' => [m', F]) := by
  obtain ⟨l, mr, A, c, p, rfl, hd, hl, hb, hbad⟩ := hw
  exact qKA (A := fun _ : Unit => blk g (qEh ok e bad l) 188) (B := fun _ => mr) hd (fun _ _ => rfl) (fun _ _ hd' => ⟨_, mr, A, c, p, rfl, hd', qG6 hl, qG7 hl hb, qG8 hl hbad⟩) (Ct.use1 0 (m' := fun _ : Unit => blk g (qEh ok e bad l) 188) (new := fun _ => []) rfl (fun F' _ => qI9 F' g l hl bad hbad ok e))
theorem qHQ (F m : Hp) (g : Nat) (bs : List UInt8) (bad : Int) (hw : Wtr m g bs bad) (hlen : bs.length ≤ 2199023255552) (s : List UInt8) (hs : s.length ≤ 1099511627776) :
    Ct prog 109 [.pointer (some ⟨g, 0, none⟩), Str s] [m, F] (fun _ : Hp => .tuple #[I s.length, .nilIface]) (fun m' => Wtr m' g (bs ++ s) bad) (fun m' => [m', F]) := by
  obtain ⟨l, mr, A, c, p, rfl, hd, hl, hb, hbad⟩ := hw
  exact qKA (A := fun x : List Value × Hp => blk g x.1 188) (B := fun x => x.2) hd (fun _ _ => rfl) (fun x hx hd' => by obtain ⟨A3, c3, hb3, hu3⟩ := hx; exact ⟨x.1, x.2, A3, c3, _, rfl, hd', hu3.1.trans hl, hb3, (hu3.2 2 (by decide) (by decide)).trans hbad⟩) (qA7 F mr g 188 0 l bs A c p hb (lies l hl) s (by omega))
def okT (s : List UInt8) : Bool := decide (s.length ≤ 4096)
def qLP (s : List UInt8) (bs : List UInt8) (bad : Int) : List UInt8 := if qDl (okT s) 2 bad = 0 then bs ++ Sha.numB (UInt64.ofNat s.length) 2 ++ s else bs
theorem qP2 {s : List UInt8} {bad : Int} (h : qDl (okT s) 2 bad = 0) : s.length ≤ 4096 ∧ bad = 0 := by
  unfold qDl okT at h
  split at h
  · omega
  · rename_i h1
    refine ⟨?_, h⟩
    simp only [decide_eq_false_iff_not] at h1
    omega
theorem qMW {n : Nat} (h : n ≤ 4096) : okN (UInt64.ofNat n) 2 = true := by
 unfold okN
 rw [decide_eq_true_iff, UInt64.toNat_ofNat', Nat.mod_eq_of_lt (by omega)]
 omega
theorem qCv {n : UInt64} {size : Nat} {bs : List UInt8} (h : okN n size = true) : qPA n size bs 0 = bs ++ Sha.numB n size := by
 unfold qPA qDl
 rw [h]; rfl
theorem qP3 (F m : Hp) (g : Nat) (bs : List UInt8) (bad : Int) (hw : Wtr m g bs bad) (hlen : bs.length ≤ 1099511627776) (s : List UInt8) (hs : s.length ≤ 1099511627776) :
    Ct prog 85 [Ptr g, Str s] [m, F] (fun _ : Hp => Ptr g) (fun m' => Wtr m' g (qLP s bs bad) (qDl (okT s) 2 bad)) (fun m' => [m', F]) := by
  refine Ct.walk func85 rfl ntmps85 rfl (fun w0 hw0 => ?_)
  change J _ [(0, _), (1, _)] _ _ _
  refine J.g fun K1 hK1 => J.b rfl <| J.c hK1 <| J.E 0 1 ?_
  refine J.k fun K2 hK2 => J.g fun K3 hK3 => J.b rfl <| J.f ((qAu underlying189 rfl rfl rfl).as (v' := .bool false) rfl) rfl <| J.j 3 rfl <| J.T (qAk u9_ rfl rfl) rfl <| J.T ((qGE rfl rfl rfl).as (v' := .bool (okT s)) (congrArg Value.bool (by unfold okT; exact decide_eq_decide.2 (by omega)))) rfl <| J.d6 (qAB rfl rfl ent138 (failW F m g bs bad hw hlen (okT s) 2)) rfl ?_
  rintro m1 hw1
  change J _ _ _ [m1, F] _
  refine J.T (qFQ rfl rfl) rfl <| J.b rfl <| J.c hK3 <| J.H 0 1 14 ?_
  refine J.a5 rfl (fun h14 => ?_) (fun h14 => ?_)
  ·
    refine J.g fun K4 hK4 => J.j 2 rfl <| J.c hK4 <| J.u 4 ?_
    exact J.D <| J.a3 <| J.V hw0 rfl m1 rfl (by unfold qLP; rw [if_neg (by omega)]; exact hw1) [0, 1] rfl (by decide)
  refine J.W hK2 <| J.E 0 1 ?_
  refine J.k fun K5 hK5 => ?_
  have hok : qDl (okT s) 2 bad = 0 := by omega
  have hs4 := (qP2 hok).1
  rw [hok] at hw1
  refine J.G <| J.j 2 rfl <| J.f (qAk u9_ rfl rfl) rfl <| J.f (qAr rfl rfl u3_ qEm (by omega)) rfl <| J.p (qAB rfl rfl ent83 ((qEa F m1 g bs 0 hw1 hlen (UInt64.ofNat s.length) 2 (by omega) (by omega)))) rfl ?_
  rintro m2 hw2
  change J _ _ _ [m2, F] _
  rw [qCv (qMW hs4), qMW hs4] at hw2
  refine J.c hK5 <| J.E 0 1 ?_
  refine J.g fun K6 hK6 => J.b rfl <| J.f (qAD rfl rfl) rfl <| J.a2 0 qFA sizeOf186 rfl rfl rfl rfl rfl <| J.b rfl <| J.p (qAB rfl rfl ent109 (qHQ F m2 g (bs ++ Sha.numB (UInt64.ofNat s.length) 2) 0 hw2 (by rw [List.length_append, Sha.numB_length]; omega) s hs)) rfl ?_
  rintro m3 hw3
  change J _ _ _ [m3, _] _
  refine J.c hK6 <| J.u 0 ?_
  refine J.g fun K7 hK7 => J.j 2 rfl <| J.c hK7 <| J.u 4 ?_
  exact J.D <| J.V hw0 rfl m3 rfl (by unfold qLP; rw [if_pos hok, hok]; exact hw3) [0, 1] rfl (by decide)
theorem qE4 (F m : Hp) (g : Nat) (bs : List UInt8) (bad : Int) (hw : Wtr m g bs bad) (hlen : bs.length ≤ 2199023255552) :
    Ct prog 86 [Ptr g] [m, F] (fun _ : Hp => .tuple #[Str (if bad = 0 then bs else []), I bad]) (fun m' => Wtr m' g bs bad) (fun m' => [m', F]) := by
  obtain ⟨l, mr, A, c, p, rfl, hd, hl, hb, hbad⟩ := hw
  refine Ct.walk func86 rfl ntmps86 rfl (fun w0 hw0 => ?_)
  change J _ [(0, _)] _ _ _
  refine J.f8 hd ?_
  refine J.g fun K1 hK1 => J.j 2 rfl <| J.c hK1 <| J.u 0 ?_
  refine J.k fun K2 hK2 => J.a1 <| J.g fun K3 hK3 => J.b rfl <| J.f ((qAu underlying189 rfl rfl rfl).as (v' := .bool false) rfl) rfl <| J.b rfl <| J.c hK3 <| J.E 0 4 ?_
  refine J.a8 ?_
  refine J.g fun K4 hK4 => J.b rfl <| J.f (qAD rfl rfl) rfl <| J.a2 2 qFA qIb rfl rfl rfl rfl rfl <| J.f (qAC 0 rfl rfl rfl qLJ hbad) rfl <| J.f (qAY rfl rfl rfl) rfl <| J.b rfl <| J.c hK4 <| J.E 0 7 ?_
  refine J.a5 rfl (fun h7 => ?_) (fun h7 => ?_)
  ·
    refine J.k fun K5 hK5 => J.c1 [blk g l 188, mr, F] [] (.y 0 (.y 1 (.y 2 (.y 3 (.y 4 (.y 5 .nil)))))) Tryz.wide (by decide +kernel) (by simp) ?_
    refine J.O ?_
    refine J.q rfl (qAD rfl rfl) rfl rfl <| J.q rfl (qAA (j := 2) rfl rfl qFA rfl qIb rfl) rfl rfl <| J.q rfl (qAC 0 rfl rfl rfl qLJ hbad) rfl rfl <| J.b9 ?_
    refine J.b9 ?_
    refine J.b5 <| J.A (J.L hK5 ?_)
    refine J.E 2 3 ?_
    exact J.D <| J.b6 <| J.a3 <| J.b4 hw0 (fun _ _ h => h) (qCq rfl rfl rfl) (qDW (U [blk g l 188, mr]) (by rw [if_neg (by omega)]) (fun hd => ⟨l, mr, A, c, p, rfl, hd, hl, hb, hbad⟩) [0, 1, 2] rfl rfl (by decide))
  refine J.c7 <| J.a9 <| J.A (J.L hK2 ?_)
  refine J.u 0 ?_
  refine J.k fun K6 hK6 => ?_
  have hz : bad = 0 := by omega
  subst hz
  refine J.G <| J.b rfl <| J.f (qAD rfl rfl) rfl <| J.a2 0 qFA sizeOf186 rfl rfl rfl rfl rfl <| J.p (qAB rfl rfl ent111 (Ct.useA [blk g l 188, mr] [F] (A' := fun x : Hp => [blk g l 188, x]) (new := fun _ => []) (fun F' _ => qDM F' mr g 188 0 l bs A c p hb (by omega)))) rfl ?_
  rintro mr2 hb2
  change J _ _ _ [blk g l 188, mr2, F] _
  refine J.j 2 rfl <| J.c hK6 <| J.E 2 3 ?_
  exact J.D <| J.b4 hw0 (fun _ _ h => h) (qCq rfl rfl rfl) (qDW (U [blk g l 188, mr2]) (rfl) (fun hd => ⟨l, mr2, A, c, p, rfl, hd, hl, hb2, hbad⟩) [0, 1, 2] rfl rfl (by decide))
structure RS where
 s : List UInt8
 bad : Int
def RS.can (st : RS) (size : Nat) : Bool := decide (st.bad = 0 ∧ size ≤ st.s.length)
def RS.out (st : RS) (size : Nat) : List UInt8 := if st.bad = 0 ∧ size ≤ st.s.length then st.s.take size else []
def RS.take (st : RS) (size : Nat) : RS := if st.bad = 0 then (if size ≤ st.s.length then ⟨st.s.drop size, 0⟩ else ⟨st.s, 3⟩) else st
def RS.form (st : RS) : RS := if st.bad = 0 then ⟨st.s, 4⟩ else st
def qCN (l : List UInt8) : Nat := l.foldl (fun n c => n * 256 + c.toNat) 0
theorem qMf (l : List UInt8) (t : Nat) (ht : t < l.length) : qCN (l.take (t + 1)) = qCN (l.take t) * 256 + (l[t]'ht).toNat := by
 rw [List.take_succ_eq_append_getElem ht, qCN, List.foldl_append]; rfl
theorem qMg (l : List UInt8) (c : UInt8) : qCN (l ++ [c]) = qCN l * 256 + c.toNat := by
 rw [qCN, List.foldl_append]; rfl
theorem qOO (l : List UInt8) : qCN l.reverse < 256 ^ l.length := by
 induction l with
 | nil => decide
 | cons c l ih =>
  rw [List.reverse_cons, qMg, List.length_cons, Nat.pow_succ]
  have := c.toNat_lt
  omega
theorem qG3 (l : List UInt8) : qCN l < 256 ^ l.length := by
 have := qOO l.reverse
 rwa [List.reverse_reverse, List.length_reverse] at this
theorem RS.out_len (st : RS) (size : Nat) : (st.out size).length ≤ size := by
 unfold RS.out
 split
 · rw [List.length_take]; omega
 · exact Nat.zero_le _
theorem qQr (l : List UInt8) (n t : Nat) (h : l.length ≤ n) (hn : n ≤ 8) (ht : t < l.length) : qCN (l.take t) < 72057594037927936 :=
 Nat.lt_of_lt_of_le (qG3 _) (Nat.le_trans (Nat.pow_le_pow_right (by omega) (show (l.take t).length ≤ 7 by rw [List.length_take]; omega)) (by decide))
def RSb (g : Nat) (st : RS) : Hp := blk g [Str st.s, I st.bad] 267
theorem qQd {P : Program} {env : Env} {rs : List Hp} {o : Oper} {t t' : TypeId} {x y : Operand} {a m : Nat} {yk : IntKind} (ho : o.op = .binOp .shl t x y t') (hx : ev env x = some (N64 a)) (hy : ev env y = some (.int yk (m : Nat))) (hm : m ≤ 64) (hr : a < 18446744073709551616 ∧ a * 2 ^ m < 18446744073709551616) : YOp P env rs o (N64 (a * 2 ^ m)) := by
 rw [N_W hr.1] at hx
 exact (qOE ho hx hy).as (by show Value.int .u64 _ = Value.int .u64 _; rw [qAt hr.1, Nat.min_eq_left hm, qAt hr.2])
theorem qRs {P : Program} {env : Env} {rs : List Hp} {o : Oper} {t t' : TypeId} {x y : Operand} {a b : Nat} (ho : o.op = .binOp .or t x y t') (hx : ev env x = some (N64 a)) (hy : ev env y = some (N64 b)) (hr : a < 18446744073709551616 ∧ b < 18446744073709551616) : YOp P env rs o (N64 (a ||| b)) := by
 rw [N_W hr.1] at hx
 rw [N_W hr.2] at hy
 exact (qQi ho hx hy).as (by show Value.int .u64 _ = Value.int .u64 _; rw [UInt64.toNat_or, qAt hr.1, qAt hr.2])
theorem qRq (a b : Nat) (h : b < 256) : a * 2 ^ 8 ||| b = a * 256 + b := by
 rw [Nat.mul_comm, ← Nat.two_pow_add_eq_or_of_lt (i := 8) h]
theorem qL6 (F : Hp) (s : List UInt8) :
    Ct prog 112 [Str s] [F] Ptr (fun _ => True) (fun g => [RSb g ⟨s, 0⟩, F]) := by
  refine Ct.walk func112 rfl ntmps112 rfl (fun w0 hw0 => ?_)
  change J _ [(0, _)] _ _ _
  refine J.g fun K1 hK1 => J.b rfl <| J.c hK1 <| J.u 0 ?_
  refine J.g fun K2 hK2 => J.b rfl <| J.f (qAM (l := [(0, .tmp 3)]) (vs := [Str s]) (places := [(0, 1), (1, 1)]) (r := [Str s, I 0]) rfl rfl rfl qFp zeroValue267 (fun _ => by kernel_rfl) rfl) rfl <| J.p (qAf (l := [Str s, I 0]) rfl rfl rfl) rfl ?_
  rintro g5 _
  change J _ _ _ [F, blk g5 [Str s, I 0] 267] _
  refine J.b rfl <| J.c hK2 <| J.u 2 ?_
  exact J.D <| J.V hw0 rfl g5 rfl trivial [1, 0] rfl (by decide)
theorem qLk (F : Hp) (g : Nat) (st : RS) (size : Nat) :
    Ct prog 158 [Ptr g, I size] [RSb g st, F] (fun _ : Unit => .tuple #[Str (st.out size), .bool (st.can size)]) (fun _ => True) (fun _ => [RSb g (st.take size), F]) := by
  obtain ⟨s, bad⟩ := st
  change Ct _ _ _ [blk g [Str s, I bad] 267, F] _ _ _
  refine Ct.walk func158 rfl ntmps158 rfl (fun w0 hw0 => ?_)
  change J _ [(0, _), (1, _)] _ _ _
  refine J.g fun K1 hK1 => J.j 2 rfl <| J.c hK1 <| J.E 0 1 ?_
  refine J.k fun K2 hK2 => J.g fun K3 hK3 => J.b rfl <| J.f ((qAu underlying217 rfl rfl rfl).as (v' := .bool false) rfl) rfl <| J.j 2 rfl <| J.T (qAD rfl rfl) rfl <| J.T (qAA (j := 1) rfl rfl qFp rfl qIb rfl) rfl <| J.T (qAC 0 (k := 1) rfl rfl rfl qLJ rfl) rfl <| J.T (qAY rfl rfl rfl) rfl <| J.b rfl <| J.c hK3 <| J.H 0 1 15 ?_
  refine J.a5 rfl (fun h15 => ?_) (fun h15 => ?_)
  ·
    refine J.g fun K4 hK4 => J.j 2 rfl <| J.c hK4 <| J.E 4 5 ?_
    exact J.D <| J.a3 <| J.b4 hw0 (fun _ _ h => h) (qCq rfl rfl rfl) (qAj () (by unfold RS.out RS.can; simp only [h15, false_and, if_false, decide_false]) trivial [0, 1] (by unfold RS.take RSb; simp only [if_neg h15]; rfl) (by decide))
  refine J.W hK2 <| J.E 0 1 ?_
  refine J.k fun K5 hK5 => J.g fun K6 hK6 => J.j 2 rfl <| J.f (qAD rfl rfl) rfl <| J.a2 0 qFp z9_ rfl rfl rfl rfl rfl <| J.f (qAC 0 (k := 0) rfl rfl rfl b9_ rfl) rfl <| J.f (qAk u9_ rfl rfl) rfl <| J.f (qAx rfl rfl rfl) rfl <| J.c hK6 <| J.H 0 1 22 ?_
  refine J.a5 rfl (fun h22 => ?_) (fun h22 => ?_)
  ·
    refine J.g fun K7 hK7 => J.b rfl <| J.f (qAD rfl rfl) rfl <| J.a2 1 qFp qIb rfl rfl rfl rfl rfl <| J.b1 (qAT (i := 0) (vs := [I 3]) rfl rfl rfl rfl rfl qIb rfl (by simp)) rfl rfl fun _ _ => ?_
    change J _ _ _ [blk g [Str s, I 3] 267, F] _
    refine J.c hK7 <| J.c8 [] trivial <| J.g fun K8 hK8 => J.j 2 rfl <| J.c hK8 <| J.E 4 5 ?_
    exact J.D <| J.a3 <| J.b4 hw0 (fun _ _ h => h) (qCq rfl rfl rfl) (qAj () (by unfold RS.out RS.can; simp only [show ¬ size ≤ s.length by omega, and_false, if_false, decide_false]) trivial [0, 1] (by unfold RS.take RSb; simp only [show bad = 0 by omega, if_true, if_neg (show ¬ size ≤ s.length by omega)]; rfl) (by decide))
  refine J.W hK5 <| J.E 0 1 ?_
  refine J.g fun K9 hK9 => J.b rfl <| J.f (qAD rfl rfl) rfl <| J.a2 0 qFp z9_ rfl rfl rfl rfl rfl <| J.f (qAC 0 (k := 0) rfl rfl rfl b9_ rfl) rfl <| J.b rfl <| J.f ((qAz (l := 0) (h := size) u9_ rfl rfl rfl rfl ⟨by omega, by omega⟩).as (v' := Str (s.take size)) (congrArg Str List.drop_zero)) rfl <| J.b rfl <| J.c hK9 <| J.H 0 1 6 ?_
  refine J.g fun K10 hK10 => J.j 2 rfl <| J.f (qAD rfl rfl) rfl <| J.a2 0 qFp z9_ rfl rfl rfl rfl rfl <| J.f (qAC 0 (k := 0) rfl rfl rfl b9_ rfl) rfl <| J.b rfl <| J.f ((qAz (l := size) (h := s.length) u9_ rfl rfl rfl rfl ⟨by omega, by omega⟩).as (v' := Str (s.drop size)) (by rw [List.take_length])) rfl <| J.f (qAD rfl rfl) rfl <| J.a2 0 qFp z9_ rfl rfl rfl rfl rfl <| J.b1 (qAT (i := 0) (vs := [Str (s.drop size)]) rfl rfl rfl rfl rfl z9_ rfl (by simp)) rfl rfl fun _ _ => ?_
  change J _ _ _ [blk g [Str (s.drop size), I bad] 267, F] _
  refine J.c hK10 <| J.u 6 ?_
  refine J.g fun K11 hK11 => J.j 3 rfl <| J.c hK11 <| J.E 4 5 ?_
  exact J.D <| J.b4 hw0 (fun _ _ h => h) (qCq rfl rfl rfl) (qAj () (by unfold RS.out RS.can; simp only [show bad = 0 by omega, show size ≤ s.length by omega, and_self, if_true, decide_true]) trivial [0, 1] (by unfold RS.take RSb; simp only [show bad = 0 by omega, if_true, if_pos (show size ≤ s.length by omega)]; rfl) (by decide))
theorem qEK (F : Hp) (g : Nat) (st : RS) (size : Nat) (h1 : 1 ≤ size) (h8 : size ≤ 8) :
    Ct prog 113 [Ptr g, I size] [RSb g st, F] (fun _ : Unit => N64 (qCN (st.out size))) (fun _ => True) (fun _ => [RSb g (st.take size), F]) := by
  have hol := st.out_len size
  have hlt := qG3 (st.out size)
  refine Ct.walk func113 rfl ntmps113 rfl (fun w0 hw0 => ?_)
  change J _ [(0, _), (1, _)] _ _ _
  refine J.g fun K1 hK1 => J.b rfl <| J.c hK1 <| J.E 0 1 ?_
  refine J.k fun K2 hK2 => J.g fun K3 hK3 => J.b rfl <| J.f ((qAW rfl rfl rfl).no (by omega)) rfl <| J.j 2 rfl <| J.T ((qAx rfl rfl rfl).no (by omega)) rfl <| J.b rfl <| J.c hK3 <| J.H 0 1 14 ?_
  refine J.a8 ?_
  refine J.W hK2 <| J.E 0 1 ?_
  refine J.g fun K4 hK4 => J.j 2 rfl <| J.p (qAB rfl rfl ent158 (Ct.use1 0 (m' := fun _ : Unit => RSb g (st.take size)) (new := fun _ => []) rfl (fun F' _ => qLk F' g st size))) rfl fun g20 _ => ?_
  change J _ _ _ [RSb g (st.take size), F] _
  refine J.b rfl <| J.f (qA2 rfl rfl rfl) rfl <| J.f (qA2 rfl rfl rfl) rfl <| J.j 2 rfl <| J.c hK4 <| J.u 5 ?_
  refine J.g fun K5 hK5 => J.b rfl <| J.c hK5 <| J.E 5 7 ?_
  refine J.k fun K6 hK6 => J.g fun K7 hK7 => J.b rfl <| J.f (qAk u9_ rfl rfl) rfl <| J.b rfl <| J.c hK7 <| J.M 5 7 24 25 ?_
  refine J.a1 <| J.c0 (X := Nat) (fun t => [(5, Str (st.out size)), (7, N64 (qCN ((st.out size).take t))), (24, I (st.out size).length), (25, I t)]) (fun _ => [RSb g (st.take size), F]) (fun t => t ≤ (st.out size).length) (fun t => (st.out size).length - t) 0 (Nat.zero_le _) ⟨rfl, rfl, rfl, rfl, trivial⟩ (fun _ h => h) ?_
  intro t ht I0 hI0
  refine J.g fun K8 hK8 => J.f (qAW rfl rfl rfl) rfl <| J.c hK8 <| J.a0 5 7 24 25 26 ?_
  refine J.k fun K9 hK9 => J.a5 rfl (fun h26 => ?_) (fun h26 => ?_)
  ·
    refine J.W hK9 <| J.M 5 7 24 25 ?_
    refine J.k fun K10 hK10 => J.a1 <| J.k fun K11 hK11 => ?_
    have ht1 : t < (st.out size).length := by omega
    have hnt := qQr (st.out size) size t hol h8 ht1
    refine J.G <| J.j 2 rfl <| J.c hK11 <| J.a0 5 7 8 24 25 ?_
    refine J.G <| J.b rfl <| J.f (qQd (m := 8) rfl rfl rfl (by omega) (by omega)) rfl <| J.j 2 rfl <| J.f (qBC u9_ rfl rfl rfl (List.getElem?_eq_getElem ht1)) rfl ?_
    refine J.f (qMU rfl rfl u5_ qEm) rfl <| J.f ((qRs rfl rfl rfl (by have := (UInt8.toNat_lt ((st.out size)[t]'ht1)); omega)).as (v' := N64 (qCN ((st.out size).take (t + 1)))) (congrArg N64 ((qRq _ _ (UInt8.toNat_lt ((st.out size)[t]'ht1))).trans (qMf _ t ht1).symm))) rfl <| J.b rfl <| J.a7 <| J.a9 <| J.A (J.L hK10 ?_)
    refine J.M 5 7 24 25 ?_
    exact J.G <| J.f (qAR rfl rfl rfl (by omega)) rfl <| J.b rfl <| J.a7 <| J.A <| J.b0 (t + 1) (fun x (hx : _ ∧ (st.out size).length - x < (st.out size).length - t) => hI0 x hx.1 hx.2) ⟨by omega, by omega⟩ ⟨rfl, rfl, rfl, rfl, trivial⟩ (fun _ h => h)
  refine J.b7 <| J.a6 <| J.a6 <| J.b8 ?_
  refine J.A (J.L hK6 ?_)
  refine J.u 7 ?_
  refine J.k fun K12 hK12 => ?_
  have hte : t = (st.out size).length := by omega
  subst hte
  refine J.G <| J.j 2 rfl <| J.c hK12 <| J.u 4 ?_
  exact J.D <| J.V hw0 rfl () (by rw [List.take_length]) trivial [0, 1] rfl (by decide)
theorem qHg (F : Hp) (g : Nat) (st : RS) (size : Nat) :
    Ct prog 117 [Ptr g, I size] [RSb g st, F] (fun _ : Unit => Str (st.out size)) (fun _ => True) (fun _ => [RSb g (st.take size), F]) := by
  refine Ct.walk func117 rfl ntmps117 rfl (fun w0 hw0 => ?_)
  change J _ [(0, _), (1, _)] _ _ _
  refine J.g fun K1 hK1 => J.b rfl <| J.c hK1 <| J.E 0 1 ?_
  refine J.k fun K2 hK2 => J.g fun K3 hK3 => J.b rfl <| J.f ((qAW rfl rfl rfl).no (by omega)) rfl <| J.c hK3 <| J.H 0 1 8 ?_
  refine J.a8 ?_
  refine J.W hK2 <| J.E 0 1 ?_
  refine J.g fun K4 hK4 => J.j 2 rfl <| J.p (qAB rfl rfl ent158 (Ct.use1 0 (m' := fun _ : Unit => RSb g (st.take size)) (new := fun _ => []) rfl (fun F' _ => qLk F' g st size))) rfl fun g14 _ => ?_
  change J _ _ _ [RSb g (st.take size), F] _
  refine J.b rfl <| J.f (qA2 rfl rfl rfl) rfl <| J.f (qA2 rfl rfl rfl) rfl <| J.j 2 rfl <| J.c hK4 <| J.u 5 ?_
  refine J.g fun K5 hK5 => J.j 2 rfl <| J.c hK5 <| J.u 4 ?_
  exact J.D <| J.V hw0 rfl () rfl trivial [0, 1] rfl (by decide)
def RS.textS (st : RS) : List UInt8 := if 4096 < qCN (st.out 2) then [] else (st.take 2).out (qCN (st.out 2))
def RS.textR (st : RS) : RS := if 4096 < qCN (st.out 2) then (st.take 2).form else (st.take 2).take (qCN (st.out 2))
def RS.last (st : RS) : Int := if st.bad = 0 then (if st.s = [] then 0 else 2) else st.bad
theorem natB2 (st : RS) : qCN (st.out 2) < 65536 := by
 refine Nat.lt_of_lt_of_le (qG3 _) (Nat.le_trans (Nat.pow_le_pow_right (by omega) (st.out_len 2)) (by decide))
theorem qSS (F : Hp) (g : Nat) (st : RS) :
    Ct prog 114 [Ptr g] [RSb g st, F] (fun _ : Unit => I st.last) (fun _ => True) (fun _ => [RSb g st, F]) := by
  obtain ⟨s, bad⟩ := st
  change Ct _ _ _ [blk g [Str s, I bad] 267, F] _ _ _
  refine Ct.walk func114 rfl ntmps114 rfl (fun w0 hw0 => ?_)
  change J _ [(0, _)] _ _ _
  refine J.g fun K1 hK1 => J.b rfl <| J.c hK1 <| J.u 0 ?_
  refine J.k fun K2 hK2 => J.a1 <| J.g fun K3 hK3 => J.b rfl <| J.f ((qAu underlying217 rfl rfl rfl).as (v' := .bool false) rfl) rfl <| J.b rfl <| J.c hK3 <| J.E 0 3 ?_
  refine J.a8 ?_
  refine J.g fun K4 hK4 => J.b rfl <| J.f (qAD rfl rfl) rfl <| J.a2 1 qFp qIb rfl rfl rfl rfl rfl <| J.f (qAC 0 (k := 1) rfl rfl rfl qLJ rfl) rfl <| J.f (qAY rfl rfl rfl) rfl <| J.b rfl <| J.c hK4 <| J.E 0 6 ?_
  refine J.a5 rfl (fun h6 => ?_) (fun h6 => ?_)
  ·
    refine J.g fun K5 hK5 => J.b rfl <| J.f (qAD rfl rfl) rfl <| J.a2 1 qFp qIb rfl rfl rfl rfl rfl <| J.f (qAC 0 (k := 1) rfl rfl rfl qLJ rfl) rfl <| J.b rfl <| J.c hK5 <| J.u 2 ?_
    exact J.D <| J.b6 <| J.a3 <| J.V hw0 rfl () (congrArg I (by unfold RS.last; dsimp only; rw [if_neg (by omega)])) trivial [0, 1] rfl (by decide)
  refine J.g fun K6 hK6 => J.b rfl <| J.f (qAD rfl rfl) rfl <| J.a2 0 qFp z9_ rfl rfl rfl rfl rfl <| J.f (qAC 0 (k := 0) rfl rfl rfl b9_ rfl) rfl <| J.f (qC5 rfl rfl rfl) rfl <| J.b rfl <| J.c hK6 <| J.u 16 ?_
  refine J.a5 rfl (fun h16 => ?_) (fun h16 => ?_)
  ·
    refine J.g fun K7 hK7 => J.b rfl <| J.c hK7 <| J.u 2 ?_
    exact J.D <| J.b6 <| J.a3 <| J.V hw0 rfl () (congrArg I (by unfold RS.last; dsimp only; rw [if_pos (by omega), if_neg (by assumption)])) trivial [0, 1] rfl (by decide)
  refine J.c7 <| J.a9 <| J.A (J.L hK2 ?_)
  refine J.c8 [] trivial <| J.g fun K8 hK8 => J.b rfl <| J.c hK8 <| J.u 2 ?_
  exact J.D <| J.V hw0 rfl () (congrArg I (by unfold RS.last; dsimp only; rw [if_pos (by omega), if_pos (Decidable.not_not.1 (by assumption))])) trivial [0, 1] rfl (by decide)
theorem qLO (g : Nat) : Wtr (blk g [.pointer none, .slice none 0 0, I 0] 188) g [] 0 :=
 ⟨[.pointer none, .slice none 0 0, I 0], fun _ => none, none, 0, none, by funext k; simp only [U]; cases blk g [.pointer none, .slice none 0 0, I 0] 188 k <;> rfl, fun _ => .inr rfl, rfl, ⟨rfl, .inl rfl, rfl, qBa.nil, .inl rfl⟩, rfl⟩
theorem qRv {s : List UInt8} {n : Nat} (h : s.length = n) : okF s n = true := decide_eq_true h
theorem qD7 (e bad : Int) : qDl true e bad = bad := by simp [qDl]
theorem qRZ {s : List UInt8} {n : Nat} (h : s.length = n) (bs : List UInt8) : qPu s n bs 0 = bs ++ s := by
 unfold qPu; rw [qRv h, qD7]; simp
def qRo (o r : List UInt8) (h : Int) : Prop := 0 ≤ h ∧ h ≤ 6 ∧ o.length = 16 ∧ r.length = 16
instance (o r : List UInt8) (h : Int) : Decidable (qRo o r h) := by unfold qRo; infer_instance
theorem qLj {s : List UInt8} {n : Nat} (h : n ≤ s.length) : (⟨s, 0⟩ : RS).take n = ⟨s.drop n, 0⟩ := by simp [RS.take, h]
theorem qPP {s : List UInt8} {n : Nat} (h : n ≤ s.length) : (⟨s, 0⟩ : RS).out n = s.take n := by simp [RS.out, h]
theorem qMX (F m : Hp) (g : Nat) (bs : List UInt8) (bad : Int) (hw : Wtr m g bs bad) (hlen : bs.length ≤ 1099511627776) (n : Nat) (hn : n < 18446744073709551616) (size : Nat) (h1 : 1 ≤ size) (h8 : size < 8) :
    Ct prog 83 [Ptr g, N64 n, I size] [m, F] (fun _ : Hp => Ptr g) (fun m' => Wtr m' g (qPA (UInt64.ofNat n) size bs bad) (qDl (okN (UInt64.ofNat n) size) 10 bad)) (fun m' => [m', F]) := by
  rw [N_W hn]
  exact qEa F m g bs bad hw hlen (UInt64.ofNat n) size h1 h8
theorem qHt {n size : Nat} (hn : n < 18446744073709551616) (h : n < 2 ^ (8 * size)) : okN (UInt64.ofNat n) size = true := by
 unfold okN
 rw [qAt hn]
 exact decide_eq_true h
theorem qMY (n : UInt64) : Sha.numB n 0 = [] := rfl
theorem qMa (n t : Nat) (hn : n < 18446744073709551616) (ht : t < 8) : Sha.numB (UInt64.ofNat n) (t + 1) = UInt8.ofNat (n / 256 ^ t % 256) :: Sha.numB (UInt64.ofNat n) t := by
  unfold Sha.numB
  rw [List.range_succ_eq_map, List.map_cons, List.map_map]
  congr 1
  · rw [qAt hn, Nat.min_eq_left (by omega), show t + 1 - 1 - 0 = t by omega, Nat.pow_mul]
    apply UInt8.toNat_inj.1
    rw [UInt64.toNat_toUInt8, qAt (Nat.lt_of_le_of_lt (Nat.div_le_self _ _) hn), UInt8.toNat_ofNat']; simp
  · apply List.map_congr_left
    intro i hi
    rw [List.mem_range] at hi
    simp only [Function.comp, Nat.succ_eq_add_one, qAt hn]
    rw [show t + 1 - 1 - (i + 1) = t - 1 - i by omega]
def qAb : List UInt8 := List.replicate 16 0
theorem qKy (l : List UInt8) : ∀ a : Nat, l.foldl (fun n c => n * 256 + c.toNat) a = a * 256 ^ l.length + qCN l := by
 induction l with
 | nil => intro a; simp [qCN]
 | cons c l ih =>
  intro a
  unfold qCN
  rw [List.foldl_cons, List.foldl_cons, ih, ih (0 * 256 + c.toNat), List.length_cons, Nat.pow_succ, Nat.add_mul, Nat.add_mul, Nat.mul_assoc, Nat.mul_comm 256]
  omega
theorem qMh (c : UInt8) (l : List UInt8) : qCN (c :: l) = c.toNat * 256 ^ l.length + qCN l := by
 rw [qCN, List.foldl_cons, qKy, Nat.zero_mul, Nat.zero_add]
theorem qHz (n : Nat) (hn : n < 18446744073709551616) : ∀ t, t ≤ 8 → qCN (Sha.numB (UInt64.ofNat n) t) = n % 256 ^ t := by
 intro t
 induction t with
 | zero => intro _; rw [qMY]; simp [qCN, Nat.mod_one]
 | succ t ih =>
  intro ht
  rw [qMa n t hn (by omega), qMh, Sha.numB_length, ih (by omega), UInt8.toNat_ofNat', show (2 ^ 8 : Nat) = 256 from rfl, Nat.mod_mod, Nat.pow_succ, Nat.mod_mul, Nat.mul_comm, Nat.add_comm]
def tb (s : List UInt8) : List UInt8 := Sha.numB (UInt64.ofNat s.length) 2 ++ s
def RS.after : RS → Nat → RS
 | st, 0 => st
 | st, k + 1 => (st.after k).textR
def RS.tx (st : RS) (k : Nat) : List (List UInt8) := (List.range k).map fun j => (st.after j).textS
theorem qF3 (s : List UInt8) : (tb s).length = 2 + s.length := by unfold tb; rw [List.length_append, Sha.numB_length]
theorem wtrN (g : Nat) : Wtr (blk g [.pointer none, .slice none 0 0, I 0] 188) g [] 0 :=
 ⟨[.pointer none, .slice none 0 0, I 0], fun _ => none, none, 0, none, by funext k; simp only [U]; cases blk g [.pointer none, .slice none 0 0, I 0] 188 k <;> rfl, fun _ => .inr rfl, rfl, ⟨rfl, .inl rfl, rfl, qBa.nil, .inl rfl⟩, rfl⟩
theorem qI8 (e : Int) : qDl true e 0 = 0 := by unfold qDl; rw [if_neg (by simp)]
theorem qIu (F m : Hp) (g : Nat) (bs : List UInt8) (hw : Wtr m g bs 0) (hlen : bs.length ≤ 1099511627776) (k size : Nat) (h1 : 1 ≤ size) (h8 : size < 8) (hk : k < 2 ^ (8 * size)) :
    Ct prog 83 [Ptr g, N64 k, I size] [m, F] (fun _ : Hp => Ptr g) (fun m' => Wtr m' g (bs ++ Sha.numB (UInt64.ofNat k) size) 0) (fun m' => [m', F]) := by
  have hlt : k < 18446744073709551616 := Nat.lt_of_lt_of_le hk (Nat.le_trans (Nat.pow_le_pow_right (by decide) (show 8 * size ≤ 64 by omega)) (by decide))
  have hn : (UInt64.ofNat k).toNat = k := qAt hlt
  have e : okN (UInt64.ofNat k) size = true := by unfold okN; rw [hn]; exact decide_eq_true hk
  have h := qEa F m g bs 0 hw hlen (UInt64.ofNat k) size h1 h8
  rw [qCv e, e, qI8] at h
  rw [N_W hlt]; exact h
theorem qQ6 (F m : Hp) (g : Nat) (bs : List UInt8) (hw : Wtr m g bs 0) (hlen : bs.length ≤ 1099511627776) (s : List UInt8) (size : Nat) (hs : s.length = size) (h8 : size ≤ 1048576) :
    Ct prog 84 [Ptr g, Str s, I size] [m, F] (fun _ : Hp => Ptr g) (fun m' => Wtr m' g (bs ++ s) 0) (fun m' => [m', F]) := by
  have h := qJ9 F m g bs 0 hw hlen s (by omega) size
  have e : okF s size = true := decide_eq_true hs
  have e2 : qPu s size bs 0 = bs ++ s := by unfold qPu; rw [e, qI8, if_pos rfl]
  rw [e2, e, qI8] at h; exact h
theorem qIM (F m : Hp) (g : Nat) (bs : List UInt8) (hw : Wtr m g bs 0) (hlen : bs.length ≤ 1099511627776) :
    Ct prog 86 [Ptr g] [m, F] (fun _ : Hp => .tuple #[Str bs, I ((0 : Nat) : Int)]) (fun m' => Wtr m' g bs 0) (fun m' => [m', F]) := by
  have h := qE4 F m g bs 0 hw (by omega)
  rw [if_pos rfl] at h; exact h
theorem qFP {P : Program} {env : Env} {rs : List Hp} {o : Oper} {t t' : TypeId} {x y : Operand} {a m : Nat} {yk : IntKind} (ho : o.op = .binOp .shr t x y t') (hx : ev env x = some (N64 a)) (hy : ev env y = some (.int yk (m : Nat))) (hr : m ≤ 64 ∧ a < 18446744073709551616) : YOp P env rs o (N64 (a / 2 ^ m)) := by
 rw [N_W hr.2] at hx
 exact (qEv ho hx hy).as (by show Value.int .u64 _ = Value.int .u64 _; rw [qAt hr.2, Nat.min_eq_left hr.1, qAt (Nat.lt_of_le_of_lt (Nat.div_le_self _ _) hr.2)])
theorem qQj {P : Program} {env : Env} {rs : List Hp} {o : Oper} {t u v x y z k a b c} (ho : o.op = .call { callee := .builtin .min, args := #[x, y, z], argTypes := #[t, u, v] }) (hx : ev env x = some (.int k a)) (hy : ev env y = some (.int k b)) (hz : ev env z = some (.int k c)) : YOp P env rs o (.int k (min (min a b) c)) := fun n ac w hk _ => by
 by_cases h : b < a <;> by_cases h2 : c < (if b < a then b else a) <;> simp [execOp, ho, hk.ev hx, hk.ev hy, hk.ev hz, resolve, invoke, builtin, Builtin.min_, Builtin.min2, h] at h2 ⊢
 all_goals first | rw [if_pos (by omega)] | rw [if_neg (by omega)]
 all_goals omega
theorem and32 {n : Nat} (h : n < 4294967296) : n &&& 4294967295 = n := by
 have := Nat.and_two_pow_sub_one_eq_mod n 32
 rw [show (2 ^ 32 - 1 : Nat) = 4294967295 from rfl] at this
 rw [this]; exact Nat.mod_eq_of_lt h
theorem qOP (F : Hp) (n : Nat) (hn : n < 4294967296) :
    Ct prog 153 [N64 1, N64 n] [F] (fun _ : Unit => .tuple #[N64 0, N64 n]) (fun _ => True) (fun _ => [F]) := by
  refine Ct.walk func153 rfl ntmps153 rfl (fun w0 hw0 => ?_)
  change J _ [(0, _), (1, _)] _ _ _
  refine J.g fun K1 hK1 => J.j 2 rfl <| J.c hK1 <| J.E 0 1 ?_
  refine J.g fun K2 hK2 => J.b rfl <| J.f ((qIr (a := 1) (b := 4294967295) rfl rfl rfl (by omega)).as (v' := N64 1) rfl) rfl <| J.b rfl <| J.c hK2 <| J.H 0 1 6 ?_
  refine J.g fun K3 hK3 => J.b rfl <| J.f ((qFP (a := 1) (m := 32) rfl rfl rfl (by omega)).as (v' := N64 0) rfl) rfl <| J.b rfl <| J.c hK3 <| J.M 0 1 6 7 ?_
  refine J.g fun K4 hK4 => J.b rfl <| J.f ((qIr (a := n) (b := 4294967295) rfl rfl rfl (by omega)).as (v' := N64 n) (congrArg N64 (and32 hn))) rfl <| J.b rfl <| J.c hK4 <| J.a0 0 1 6 7 8 ?_
  refine J.g fun K5 hK5 => J.b rfl <| J.f ((qFP (a := n) (m := 32) rfl rfl rfl (by omega)).as (v' := N64 0) (congrArg N64 (Nat.div_eq_of_lt (by omega)))) rfl <| J.b rfl <| J.c hK5 <| J.b3 0 1 6 7 8 9 ?_
  refine J.g fun K6 hK6 => J.j 2 rfl <| J.f ((qFR (a := 1) (b := n) rfl rfl rfl (by omega)).as (v' := N64 n) (congrArg N64 (Nat.one_mul n))) rfl <| J.b rfl <| J.c hK6 <| J.c2 0 1 6 7 8 9 10 ?_
  refine J.g fun K7 hK7 => J.j 2 rfl <| J.f ((qFR (a := 0) (b := n) rfl rfl rfl (by omega)).as (v' := N64 0) (congrArg N64 (Nat.zero_mul n))) rfl <| J.b rfl <| J.f ((qFP (a := n) (m := 32) rfl rfl rfl (by omega)).as (v' := N64 0) (congrArg N64 (Nat.div_eq_of_lt (by omega)))) rfl <| J.f ((qFS (a := 0) (b := 0) rfl rfl rfl (by omega)).as (v' := N64 0) rfl) rfl <| J.b rfl <| J.c hK7 <| J.b3 0 1 6 7 9 11 ?_
  refine J.g fun K8 hK8 => J.b rfl <| J.f ((qIr (a := 0) (b := 4294967295) rfl rfl rfl (by omega)).as (v' := N64 0) rfl) rfl <| J.b rfl <| J.c hK8 <| J.c2 0 1 6 7 9 11 12 ?_
  refine J.g fun K9 hK9 => J.b rfl <| J.f ((qFP (a := 0) (m := 32) rfl rfl rfl (by omega)).as (v' := N64 0) rfl) rfl <| J.b rfl <| J.c hK9 <| J.c2 0 1 6 7 9 12 13 ?_
  refine J.g fun K10 hK10 => J.j 3 rfl <| J.f ((qFR (a := 1) (b := 0) rfl rfl rfl (by omega)).as (v' := N64 0) rfl) rfl <| J.f ((qFS (a := 0) (b := 0) rfl rfl rfl (by omega)).as (v' := N64 0) rfl) rfl <| J.b rfl <| J.c hK10 <| J.b3 0 1 7 9 12 13 ?_
  refine J.g fun K11 hK11 => J.j 2 rfl <| J.f ((qFR (a := 0) (b := 0) rfl rfl rfl (by omega)).as (v' := N64 0) rfl) rfl <| J.b rfl <| J.f ((qFS (a := 0) (b := 0) rfl rfl rfl (by omega)).as (v' := N64 0) rfl) rfl <| J.b rfl <| J.f ((qFP (a := 0) (m := 32) rfl rfl rfl (by omega)).as (v' := N64 0) rfl) rfl <| J.f ((qFS (a := 0) (b := 0) rfl rfl rfl (by omega)).as (v' := N64 0) rfl) rfl <| J.b rfl <| J.c hK11 <| J.H 0 1 4 ?_
  refine J.g fun K12 hK12 => J.j 2 rfl <| J.f ((qFR (a := 1) (b := n) rfl rfl rfl (by omega)).as (v' := N64 n) (congrArg N64 (Nat.one_mul n))) rfl <| J.b rfl <| J.c hK12 <| J.E 4 5 ?_
  exact J.D <| J.b4 hw0 (fun _ _ h => h) (qCq rfl rfl rfl) (qAj () rfl trivial [0] rfl (by decide))
theorem qRH (F : Hp) (n : Nat) (hn : n < 4294967296) :
    Ct prog 106 [N64 1, N64 n] [F] (fun _ : Unit => .tuple #[N64 0, N64 n]) (fun _ => True) (fun _ => [F]) := by
  refine Ct.walk func106 rfl ntmps106 rfl (fun w0 hw0 => ?_)
  change J _ [(0, _), (1, _)] _ _ _
  refine J.g fun K1 hK1 => J.j 2 rfl <| J.c hK1 <| J.E 0 1 ?_
  refine J.k fun K2 hK2 => J.a8 ?_
  refine J.W hK2 <| J.E 0 1 ?_
  refine J.g fun K3 hK3 => J.j 2 rfl <| J.p (qAB rfl rfl ent153 (Ct.use0 (fun F' hF => qOP F' n hn))) rfl fun g25 _ => J.j 5 rfl <| J.c hK3 <| J.E 8 9 ?_
  refine J.g fun K4 hK4 => J.j 4 rfl <| J.c hK4 <| J.E 4 5 ?_
  exact J.D <| J.b4 hw0 (fun _ _ h => h) (qCq rfl rfl rfl) (qAj () rfl trivial [0] rfl (by decide))
theorem qJG (F mr : Hp) (g : Nat) (l : List Value) (bs : List UInt8) (A : Option Addr) (c : Nat) (p : Option Addr) (hb : Bld g 0 l mr bs A c p) :
    Ct prog 110 [Ptr g] [blk g l 186, F] (fun _ : Unit => I bs.length) (fun _ => True) (fun _ => [blk g l 186, F]) := by
  refine Ct.walk func110 rfl ntmps110 rfl (fun w0 hw0 => ?_)
  change J _ [(0, _)] _ _ _
  refine J.g fun K1 hK1 => J.b rfl <| J.c hK1 <| J.u 0 ?_
  refine J.g fun K2 hK2 => J.b rfl <| J.f (qAD rfl rfl) rfl <| J.a2 1 qCy qHO rfl rfl rfl rfl rfl <| J.f (qAC 0 rfl rfl rfl qNJ hb.a1) rfl <| J.f (qAa qBl rfl rfl) rfl <| J.b rfl <| J.c hK2 <| J.u 2 ?_
  exact J.D <| J.V hw0 rfl () rfl trivial [0, 1] rfl (by decide)
theorem qL3 (F : Hp) (n : Nat) (h2 : 2 ≤ n) (h3 : n ≤ 8192) :
    Ct prog 51 [Str [0], I n] [F] (fun _ : Unit => Str (List.replicate n 0)) (fun _ => True) (fun _ => [F]) := by
  refine Ct.walk func51 rfl ntmps51 rfl (fun w0 hw0 => ?_)
  change J _ [(0, _), (1, _)] _ _ _
  refine J.g fun K1 hK1 => J.b rfl <| J.c hK1 <| J.E 0 1 ?_
  refine J.k fun K2 hK2 => J.g fun K3 hK3 => J.b rfl <| J.c hK3 <| J.H 0 1 11 ?_
  refine J.a1 <| J.g fun K4 hK4 => J.f ((qAV rfl rfl rfl).no (by omega)) rfl <| J.b rfl <| J.c hK4 <| J.M 0 1 11 12 ?_
  refine J.a8 ?_
  refine J.g fun K5 hK5 => J.f ((qAV rfl rfl rfl).no (by omega)) rfl <| J.b rfl <| J.c hK5 <| J.H 0 1 14 ?_
  refine J.a8 ?_
  refine J.c7 <| J.a9 <| J.A (J.L hK2 ?_)
  refine J.E 0 1 ?_
  refine J.k fun K6 hK6 => J.g fun K7 hK7 => J.b rfl <| J.f ((qAW rfl rfl rfl).no (by omega)) rfl <| J.c hK7 <| J.H 0 1 18 ?_
  refine J.a8 ?_
  refine J.W hK6 <| J.E 0 1 ?_
  refine J.g fun K8 hK8 => J.b rfl <| J.f (qAk u9_ rfl rfl) rfl <| J.f ((qAr rfl rfl u3_ qRb (m := 1) (by omega)).as (v' := N64 1) (N_W (by omega)).symm) rfl <| J.b rfl <| J.f ((qAr rfl rfl u3_ qRb (m := n) (by omega)).as (v' := N64 n) (N_W (by omega)).symm) rfl <| J.p (qAB rfl rfl ent106 (Ct.use0 (fun F' hF => qRH F' n (by omega)))) rfl fun g26 _ => J.j 5 rfl <| J.c hK8 <| J.H 0 5 6 ?_
  refine J.k fun K9 hK9 => J.g fun K10 hK10 => J.b rfl <| J.f ((qAx rfl rfl rfl).no (by decide)) rfl <| J.j 2 rfl <| J.T ((qAx rfl rfl rfl).no (by omega)) rfl <| J.b rfl <| J.c hK10 <| J.H 0 6 34 ?_
  refine J.a8 ?_
  refine J.W hK9 <| J.E 0 6 ?_
  refine J.g fun K11 hK11 => J.b rfl <| J.f (qCU rfl rfl qRb u3_ (by omega)) rfl <| J.b rfl <| J.c hK11 <| J.E 0 7 ?_
  refine J.k fun K12 hK12 => J.g fun K13 hK13 => J.b rfl <| J.f (qAk u9_ rfl rfl) rfl <| J.f ((qAV rfl rfl rfl).no (by decide)) rfl <| J.c hK13 <| J.H 0 7 40 ?_
  refine J.a8 ?_
  refine J.W hK12 <| J.E 0 7 ?_
  refine J.k fun K14 hK14 => J.g fun K15 hK15 => J.b rfl <| J.f (qBC (i := 0) (c := 0) u9_ rfl rfl rfl rfl) rfl <| J.c hK15 <| J.H 0 7 42 ?_
  refine J.a1 <| J.k fun K16 hK16 => J.g fun K17 hK17 => J.f ((qAV rfl rfl rfl).no (by decide)) rfl <| J.b rfl <| J.c hK17 <| J.M 0 7 42 43 ?_
  refine J.a8 ?_
  refine J.g fun K18 hK18 => J.f ((qAV rfl rfl rfl).no (by decide)) rfl <| J.b rfl <| J.c hK18 <| J.M 0 7 42 43 ?_
  refine J.a8 ?_
  refine J.g fun K19 hK19 => J.f ((qAV rfl rfl rfl).no (by decide)) rfl <| J.b rfl <| J.c hK19 <| J.M 0 7 42 43 ?_
  refine J.a8 ?_
  refine J.g fun K20 hK20 => J.f ((qAV rfl rfl rfl).no (by decide)) rfl <| J.b rfl <| J.c hK20 <| J.M 0 7 42 43 ?_
  refine J.a8 ?_
  refine J.G <| J.f ((qAV rfl rfl rfl).no (by decide)) rfl <| J.b rfl <| J.c hK16 <| J.H 0 7 43 ?_
  refine J.a8 ?_
  refine J.c7 <| J.a9 <| J.A (J.L hK14 ?_)
  refine J.E 0 7 ?_
  refine J.g fun K21 hK21 => J.j 2 rfl <| J.c hK21 <| J.H 0 7 8 ?_
  refine J.k fun K22 hK22 => J.g fun K23 hK23 => J.b rfl <| J.f ((qAx rfl rfl rfl).no (by omega)) rfl <| J.c hK23 <| J.M 0 7 8 96 ?_
  refine J.a8 ?_
  refine J.W hK22 <| J.H 0 7 8 ?_
  refine J.g fun K24 hK24 => J.p (qAO rfl zeroValue186 rfl) rfl fun g9 _ => ?_
  change J _ _ _ [F, blk g9 _ 186] _
  refine J.d9 [1, 2, 0] [blk g9 [.pointer none, .slice none 0 0] 186, fun _ => none, F] rfl (by decide) <| J.c hK24 <| J.M 0 7 8 9 ?_
  refine J.g fun K25 hK25 => J.b rfl <| J.p (qAB rfl rfl ent108 (qKI F g9 186 0 [.pointer none, .slice none 0 0] none ⟨rfl, .inl rfl, rfl, qBa.nil, .inl rfl⟩ qI1 n (by omega))) rfl ?_
  rintro ⟨l57, m57⟩ ⟨A57, c57, hb57, hu57⟩
  change J _ _ _ [blk g9 l57 186, m57, F] _
  dsimp only at hb57 hu57
  refine J.c hK25 <| J.M 0 7 8 9 ?_
  refine J.g fun K26 hK26 => J.b rfl <| J.p (qAB rfl rfl ent109 (qA7 F m57 g9 186 0 l57 [] A57 c57 _ hb57 (by rw [hu57.1]; exact qI1) [0] (by decide))) rfl ?_
  rintro ⟨l61, m61⟩ ⟨A61, c61, hb61, hu61⟩
  change J _ _ _ [blk g9 l61 186, m61, _] _
  dsimp only at hb61 hu61
  refine J.c hK26 <| J.H 7 8 9 ?_
  refine J.k fun K27 hK27 => J.a1 <| J.c0 (X := Nat × List Value × Hp × Option Addr × Nat) (fun x => [(7, I n), (8, I n), (9, Ptr g9)]) (fun x => [blk g9 x.2.1 186, x.2.2.1, F]) (fun x => 1 ≤ x.1 ∧ x.1 ≤ n ∧ x.2.1.length = 2 ∧ Bld g9 0 x.2.1 x.2.2.1 (List.replicate x.1 (0 : UInt8)) x.2.2.2.1 x.2.2.2.2 (some ⟨g9, 0, none⟩)) (fun x => n - x.1) (1, l61, m61, A61, c61) (⟨by omega, by omega, by rw [hu61.1, hu57.1]; rfl, hb61⟩) ⟨rfl, rfl, rfl, trivial⟩ (fun _ h => h) ?_
  rintro ⟨k, l, m, A1, c1⟩ ⟨hk1, hkn, hll, hb⟩ I3 hI3
  dsimp only at hk1 hkn hll hb ⊢
  refine J.k fun K28 hK28 => J.g fun K29 hK29 => J.p (qAB rfl rfl ent110 (Ct.use1 0 (m' := fun _ : Unit => blk g9 l 186) (new := fun _ => []) rfl (fun F' _ => qJG F' m g9 l (List.replicate k (0 : UInt8)) A1 c1 _ hb))) rfl fun g111 _ => ?_
  change J _ _ _ [blk g9 l 186, m, F] _
  refine J.b rfl <| J.f ((qAW rfl rfl rfl).as (v' := .bool (decide (k < n))) (congrArg Value.bool (decide_eq_decide.2 (by rw [List.length_replicate]; omega)))) rfl <| J.c hK29 <| J.M 7 8 9 113 ?_
  refine J.a5 rfl (fun h113 => ?_) (fun h113 => ?_)
  ·
    refine J.W hK28 <| J.H 7 8 9 ?_
    refine J.a1 <| J.g fun K30 hK30 => J.b rfl <| J.p (qAB rfl rfl ent110 (Ct.use1 0 (m' := fun _ : Unit => blk g9 l 186) (new := fun _ => []) rfl (fun F' _ => qJG F' m g9 l (List.replicate k (0 : UInt8)) A1 c1 _ hb))) rfl fun g115 _ => ?_
    change J _ _ _ [_, _, _] _
    refine J.f ((qAp rfl rfl rfl (by rw [List.length_replicate]; omega)).as (v' := I (n - k : Nat)) (congrArg I (by rw [List.length_replicate]; omega))) rfl <| J.p (qAB rfl rfl ent110 (Ct.use1 0 (m' := fun _ : Unit => blk g9 l 186) (new := fun _ => []) rfl (fun F' _ => qJG F' m g9 l (List.replicate k (0 : UInt8)) A1 c1 _ hb))) rfl fun g117 _ => ?_
    change J _ _ _ [_, _, _] _
    refine J.b rfl <| J.f ((qQj rfl rfl rfl rfl).as (v' := I (min (n - k) k : Nat)) (congrArg I (by rw [List.length_replicate]; omega))) rfl <| J.b rfl <| J.c hK30 <| J.M 7 8 9 10 ?_
    refine J.G <| J.p (qAB rfl rfl ent111 (qDM F m g9 186 0 l (List.replicate k (0 : UInt8)) A1 c1 _ hb (by rw [List.length_replicate]; omega))) rfl ?_
    rintro m20 hb20
    change J _ _ _ [_, m20, _] _
    refine J.b rfl <| J.f ((qAz (l := 0) (h := min (n - k) k) u9_ rfl rfl rfl rfl ⟨by omega, by rw [List.length_replicate]; omega⟩).as (v' := Str (List.replicate (min (n - k) k) (0 : UInt8))) (by rw [List.drop_zero, List.take_replicate]; congr 2; omega)) rfl <| J.p (qAB rfl rfl ent109 (qA7 F m20 g9 186 0 l (List.replicate k (0 : UInt8)) A1 c1 _ hb20 (by rw [hll]; exact qI1) (List.replicate (min (n - k) k) (0 : UInt8)) (by simp only [List.length_replicate]; omega))) rfl ?_
    rintro ⟨l23, m23⟩ ⟨A23, c23, hb23, hu23⟩
    change J _ _ _ [blk g9 l23 186, m23, _] _
    dsimp only at hb23 hu23
    rw [List.replicate_append_replicate] at hb23
    exact J.a7 <| J.a9 <| J.A <| J.b0 (k + min (n - k) k, l23, m23, A23, c23) (fun x (hx : _ ∧ n - x.1 < n - k) => hI3 x hx.1 hx.2) ⟨⟨by dsimp only; omega, by dsimp only; omega, by rw [hu23.1]; exact hll, hb23⟩, by dsimp only; omega⟩ ⟨rfl, rfl, rfl, trivial⟩ (fun _ h => h)
  refine J.b7 <| J.a6 <| J.a6 <| J.b8 ?_
  refine J.A (J.L hK27 ?_)
  refine J.u 9 ?_
  refine J.k fun K31 hK31 => ?_
  have hkn2 : k = n := by omega
  subst hkn2
  refine J.G <| J.p (qAB rfl rfl ent111 (qDM F m g9 186 0 l (List.replicate k (0 : UInt8)) A1 c1 _ hb (by rw [List.length_replicate]; omega))) rfl ?_
  rintro m24 _
  change J _ _ _ [_, m24, _] _
  refine J.b rfl <| J.c hK31 <| J.u 4 ?_
  exact J.D <| J.V hw0 rfl () rfl trivial [2] rfl (by decide)
theorem qNx (F : Hp) : Ct prog 51 [Str [0], I 0] [F] (fun _ : Unit => Str []) (fun _ => True) (fun _ => [F]) := by
 refine Ct.walk func51 rfl ntmps51 rfl (fun w0 hw0 => ?_)
 change J _ [(0, _), (1, _)] _ _ _
 refine J.g fun K1 hK1 => J.b rfl <| J.c hK1 <| J.E 0 1 ?_
 refine J.k fun K2 hK2 => J.g fun K3 hK3 => J.b rfl <| J.c hK3 <| J.H 0 1 11 ?_
 refine J.a1 <| J.g fun K4 hK4 => J.f ((qAV rfl rfl rfl).yes (by omega)) rfl <| J.b rfl <| J.c hK4 <| J.M 0 1 11 12 ?_
 refine J.c6 ?_
 refine J.g fun K5 hK5 => J.b rfl <| J.c hK5 <| J.u 4 ?_
 exact J.D <| J.b6 <| J.a3 <| J.V hw0 rfl () rfl trivial [0] rfl (by decide)
theorem qNw (F : Hp) : Ct prog 51 [Str [0], I 1] [F] (fun _ : Unit => Str [0]) (fun _ => True) (fun _ => [F]) := by
 refine Ct.walk func51 rfl ntmps51 rfl (fun w0 hw0 => ?_)
 change J _ [(0, _), (1, _)] _ _ _
 refine J.g fun K1 hK1 => J.b rfl <| J.c hK1 <| J.E 0 1 ?_
 refine J.k fun K2 hK2 => J.g fun K3 hK3 => J.b rfl <| J.c hK3 <| J.H 0 1 11 ?_
 refine J.a1 <| J.g fun K4 hK4 => J.f ((qAV rfl rfl rfl).no (by omega)) rfl <| J.b rfl <| J.c hK4 <| J.M 0 1 11 12 ?_
 refine J.a8 ?_
 refine J.g fun K5 hK5 => J.f ((qAV rfl rfl rfl).yes (by omega)) rfl <| J.b rfl <| J.c hK5 <| J.H 0 1 14 ?_
 refine J.c6 ?_
 refine J.g fun K6 hK6 => J.j 2 rfl <| J.c hK6 <| J.u 4 ?_
 exact J.D <| J.b6 <| J.a3 <| J.V hw0 rfl () rfl trivial [0] rfl (by decide)
theorem qEM (F : Hp) (n : Nat) (h3 : n ≤ 8192) :
    Ct prog 51 [Str [0], I n] [F] (fun _ : Unit => Str (List.replicate n 0)) (fun _ => True) (fun _ => [F]) := by
  match n, h3 with
  | 0, _ => exact qNx F
  | 1, _ => exact qNw F
  | n + 2, h3 => exact qL3 F (n + 2) (by omega) h3
end Go.Proofs.YtfldiegfenndjaaGreatDoor
namespace Go.Proofs.YtfldiegfenndjaaGreatDoor
open Go Go.Fw Go.Proofs.Tryz
set_option maxRecDepth 100000
set_option maxHeartbeats 1000000
namespace Mk
def node (a b : List UInt8) : List UInt8 := Sha.tagged 5 [a, b]
def above (l : List (List UInt8)) : List (List UInt8) := (List.range (l.length / 2)).map fun k => node (l.getD (2 * k) []) (l.getD (2 * k + 1) [])
def lvl (l : List (List UInt8)) : Nat → List (List UInt8)
 | 0 => l
 | j + 1 => above (lvl l j)
def root (l : List (List UInt8)) (h : Nat) : List UInt8 := (lvl l h).getD 0 []
def path (l : List (List UInt8)) (i h : Nat) : List (List UInt8) := (List.range h).map fun j => (lvl l j).getD ((i / 2 ^ j) ^^^ 1) []
def climb : List UInt8 → Nat → List (List UInt8) → List UInt8
 | x, _, [] => x
 | x, i, s :: r => climb (if i % 2 = 0 then node x s else node s x) (i / 2) r
def Right (n : Nat) : Prop := n = 1 ∨ n = 2 ∨ n = 4 ∨ n = 8 ∨ n = 16 ∨ n = 32 ∨ n = 64
instance (n : Nat) : Decidable (Right n) := by unfold Right; infer_instance
theorem qL1 : ∀ n : Fin 65, (1 ≤ n.val ∧ n.val &&& (n.val - 1) = 0) ↔ Right n.val := by decide +kernel
theorem right_of (n : Nat) : (1 ≤ n ∧ n ≤ 64 ∧ n &&& (n - 1) = 0) ↔ Right n := by
  by_cases h : n < 65
  · have := qL1 ⟨n, h⟩
    dsimp only at this
    rw [← this]
    constructor
    · intro ⟨a, _, c⟩; exact ⟨a, c⟩
    · intro ⟨a, c⟩; exact ⟨a, by omega, c⟩
  · constructor
    · intro ⟨_, b, _⟩; omega
    · intro hr; unfold Right at hr; omega
theorem right_pow (h : Nat) (h6 : h ≤ 6) : Right (2 ^ h) := by
 have : ∀ h : Fin 7, Right (2 ^ h.val) := by decide +kernel
 exact this ⟨h, by omega⟩
theorem node_length (a b : List UInt8) : (node a b).length = 16 := Sha.tagged_length _ _
theorem qIT (l : List (List UInt8)) : (above l).length = l.length / 2 := by simp [above]
theorem qJJ (l : List (List UInt8)) : ∀ s ∈ above l, s.length = 16 := fun s hs => by
 simp only [above, List.mem_map] at hs
 obtain ⟨k, _, rfl⟩ := hs
 exact node_length _ _
theorem lvl_succ_length (l : List (List UInt8)) (j : Nat) : (lvl l (j + 1)).length = (lvl l j).length / 2 := qIT _
theorem lvl_length (l : List (List UInt8)) (h : Nat) (hl : l.length = 2 ^ h) : ∀ j, j ≤ h → (lvl l j).length = 2 ^ (h - j)
 | 0, _ => hl
 | j + 1, hj => by
  rw [lvl_succ_length, lvl_length l h hl j (by omega), show h - j = (h - (j + 1)) + 1 by omega, Nat.pow_succ]
  omega
theorem lvl_small (l : List (List UInt8)) (hs : ∀ s ∈ l, s.length ≤ 1048576) : ∀ j, ∀ s ∈ lvl l j, s.length ≤ 1048576
 | 0 => hs
 | j + 1 => fun s h => by rw [qJJ _ s h]; decide
theorem xor_one (m k : Nat) (h : m < 2 * k) : m ^^^ 1 < 2 * k := by
 have e1 : (m ^^^ 1) / 2 = m / 2 := by rw [Nat.xor_div_two]; simp
 omega
theorem path_succ (l : List (List UInt8)) (i h : Nat) : path l i (h + 1) = path l i h ++ [(lvl l h).getD ((i / 2 ^ h) ^^^ 1) []] := by simp [path, List.range_succ]
theorem path_length (l : List (List UInt8)) (i h : Nat) : (path l i h).length = h := by simp [path]
theorem above_succ (l : List (List UInt8)) (k : Nat) : ((List.range (k + 1)).map fun k => node (l.getD (2 * k) []) (l.getD (2 * k + 1) [])) = ((List.range k).map fun k => node (l.getD (2 * k) []) (l.getD (2 * k + 1) [])) ++ [node (l.getD (2 * k) []) (l.getD (2 * k + 1) [])] := by simp [List.range_succ]
theorem getS {l : List (List UInt8)} {j : Nat} (h : j < l.length) : l[j]? = some (l.getD j []) := by rw [List.getD_eq_getElem?_getD, List.getElem?_eq_getElem h]; rfl
theorem getS_mem {l : List (List UInt8)} {j : Nat} (h : j < l.length) : l.getD j [] ∈ l := List.mem_of_getElem? (getS h)
end Mk
theorem ent170 : qAE prog 170 := qAE.of func170 rfl (by kernel_rfl)
theorem ent128 : qAE prog 128 := qAE.of func128 rfl (by kernel_rfl)
theorem ent129 : qAE prog 129 := qAE.of func129 rfl (by kernel_rfl)
theorem ent69 : qAE prog 69 := qAE.of func69 rfl (by kernel_rfl)
theorem ent92 : qAE prog 92 := qAE.of func92 rfl (by kernel_rfl)
theorem ent124 : qAE prog 124 := qAE.of func124 rfl (by kernel_rfl)
theorem qHZ (a : List (List UInt8)) : (qAI a).all (fun x => x.all Value.oneCell') = true := by simp [qAI, Value.oneCell']
attribute [local irreducible] Mk.node
theorem qIv (F : Hp) (hK : KF F) (a b : List UInt8) (ha : a.length ≤ 1048576) (hb : b.length ≤ 1048576) :
    Ct prog 170 [Str a, Str b] [F] (fun _ : Unit => Str (Mk.node a b)) (fun _ => True) (fun _ => [F]) := by
  refine Ct.walk func170 rfl ntmps170 rfl (fun w0 hw0 => ?_)
  change J _ [(0, _), (1, _)] _ _ _
  refine J.g fun K1 hK1 => J.b rfl <| J.c hK1 <| J.E 0 1 ?_
  refine J.g fun K2 hK2 => J.j 2 rfl <| J.p (qAJ (l := [.tmp 5, .tmp 6]) (xs := [[Str a], [Str b]]) rfl rfl rfl rfl qAh el9 rfl (by decide) (by decide) (by simp)) rfl fun g7 _ => ?_
  change J _ _ _ [F, blk g7 [Str a, Str b] 9] _
  refine J.p (qAB rfl rfl ent44 (Ct.use0 (fun F' hF => qA3 F' (hK.mono (hF _ (by simp))) 5 (some ⟨g7, 0, none⟩) 2 2 [a, b] (((qAv (q := True) (xs := qAI [a, b]) rfl (by simp [qAI])).sl (m := blk g7 [Str a, Str b] 9)).mono (hF _ (by simp))) (by simp; omega) (by decide)))) rfl fun g8 _ => J.b rfl <| J.c hK2 <| J.u 4 ?_
  exact J.D <| J.V hw0 rfl () (by unfold Mk.node; rfl) trivial [0] rfl (by decide)
theorem qJa (F : Hp) (n : Nat) (hn : n < 9223372036854775808) : Ct prog 128 [I n] [F] (fun _ : Unit => .bool (decide (Mk.Right n))) (fun _ => True) (fun _ => [F]) := by
 have hR := Mk.right_of n
 refine Ct.walk func128 rfl ntmps128 rfl (fun w0 hw0 => ?_)
 change J _ [(0, _)] _ _ _
 refine J.g fun K1 hK1 => J.b rfl <| J.c hK1 <| J.u 0 ?_
 refine J.g fun K2 hK2 => J.b rfl <| J.f (qBN rfl rfl rfl) rfl <| J.b rfl <| J.c5 (d := 5) rfl (fun h5 => ?_) (fun h5 => ?_)
 ·
  refine J.b rfl <| J.T (qGE rfl rfl rfl) rfl <| J.j 2 rfl <| J.c5 (d := 9) rfl (fun h9 => ?_) (fun h9 => ?_)
  ·
   refine J.j 2 rfl <| J.T ((qAp rfl rfl rfl (by omega)).nat (n - 1) (by omega)) rfl <| J.T (qIs (a := n) (b := n - 1) rfl rfl rfl (by omega)) rfl <| J.T (qAV rfl rfl rfl) rfl <| J.j 2 rfl <| J.c hK2 <| J.u 2 ?_
   exact J.D <| J.V hw0 rfl () (congrArg Value.bool (decide_eq_decide.2 (by rw [← hR]; omega))) trivial [0] rfl (by decide)
  refine J.j 7 rfl <| J.c hK2 <| J.u 2 ?_
  exact J.D <| J.V hw0 rfl () (congrArg Value.bool (decide_eq_false (by rw [← hR]; omega)).symm) trivial [0] rfl (by decide)
 refine J.j 11 rfl <| J.c hK2 <| J.u 2 ?_
 exact J.D <| J.V hw0 rfl () (congrArg Value.bool (decide_eq_false (by rw [← hR]; omega)).symm) trivial [0] rfl (by decide)
theorem qKM (F : Hp) (hK : KF F) (A : Option Addr) (n c : Nat) (ls : List (List UInt8)) (hl : Sl F 1 A n c (qAI ls)) (hsm : ∀ s ∈ ls, s.length ≤ 1048576) (hn : n ≤ 1048576) :
    Ct prog 129 [.slice A n c] [F] (fun x : Option Addr × Nat × Hp => .slice x.1 (n / 2) x.2.1) (fun x => Row x.2.2 9 1 x.1 (n / 2) x.2.1 (qAI (Mk.above ls))) (fun x => [F, x.2.2]) := by
  have hlen : ls.length = n := by have := hl.1; simpa [qAI] using this
  refine Ct.walk func129 rfl ntmps129 rfl (fun w0 hw0 => ?_)
  change J _ [(0, _)] _ _ _
  refine J.g fun K1 hK1 => J.b rfl <| J.c hK1 <| J.u 0 ?_
  refine J.g fun K2 hK2 => J.b rfl <| J.c hK2 <| J.E 0 3 ?_
  refine J.k fun K3 hK3 => J.k fun K4 hK4 => J.d9 [0, 1] [F, (fun _ => none)] rfl (by decide) <| J.G <| J.b rfl <| J.c hK4 <| J.H 0 3 4 ?_
  refine J.a1 <| J.c0 (X := Nat × Option Addr × Nat × Hp) (fun x => [(0, .slice A n c), (3, .slice x.2.1 x.1 x.2.2.1), (4, I ((2 * x.1 : Nat) : Int))]) (fun x => [F, x.2.2.2]) (fun x => 2 * x.1 ≤ n ∧ Row x.2.2.2 9 1 x.2.1 x.1 x.2.2.1 (qAI ((List.range x.1).map fun k => Mk.node (ls.getD (2 * k) []) (ls.getD (2 * k + 1) [])))) (fun x => n - x.1) (0, none, 0, fun _ => none) (⟨Nat.zero_le _, qBa.nil⟩) ⟨rfl, rfl, rfl, trivial⟩ (fun _ h => h) ?_
  rintro ⟨k, A1, c1, m⟩ ⟨hk, hrow⟩ I0 hI0
  dsimp only at hk hrow ⊢
  refine J.k fun K5 hK5 => J.g fun K6 hK6 => J.b rfl <| J.f ((qAR rfl rfl rfl (by omega))) rfl <| J.b rfl <| J.f (qAa qAh rfl rfl) rfl <| J.f (qAW rfl rfl rfl) rfl <| J.c hK6 <| J.M 0 3 4 9 ?_
  refine J.a5 rfl (fun h9 => ?_) (fun h9 => ?_)
  ·
    refine J.W hK5 <| J.H 0 3 4 ?_
    refine J.k fun K7 hK7 => J.a1 <| J.c1 [F] [] (.y 0 (.y 1 (.y 2 (.y 3 (.y 4 (.y 5 (.y 6 (.y 7 (.y 8 (.y 9 (.e 10 (.e 11 (.e 12 (.y 13 .nil)))))))))))))) Tryz.wide (by decide +kernel) (by simp) ?_
    iterate 3 refine J.O ?_
    refine J.q rfl (qAH (i := 2 * k) rfl rfl rfl qAh z9_ hl (by omega)) rfl rfl <| J.q rfl (qAN rfl rfl b9_ (m := F) (by simp) (hl.elem (qAZ (Mk.getS (l := ls) (j := 2 * k) (by omega))))) rfl rfl <| J.O ?_
    refine J.O ?_
    refine J.q rfl ((qAR rfl rfl rfl (by omega)).nat (2 * k + 1) (by omega)) rfl rfl <| J.q rfl (qAH (i := 2 * k + 1) rfl rfl rfl qAh z9_ hl (by omega)) rfl rfl <| J.q rfl (qAN rfl rfl b9_ (m := F) (by simp) (hl.elem (qAZ (Mk.getS (l := ls) (j := 2 * k + 1) (by omega))))) rfl rfl <| J.b2 rfl (qAB rfl rfl ent170 (Ct.use0 (fun F' hF => qIv F' (hK.mono (hF _ (by simp))) (ls.getD (2 * k) []) (ls.getD (2 * k + 1) []) (hsm _ (Mk.getS_mem (by omega))) (hsm _ (Mk.getS_mem (by omega)))))) rfl (by simp) fun g22 _ => J.b2 rfl (qAJ (l := [.tmp 22]) (xs := [[Str (Mk.node (ls.getD (2 * k) []) (ls.getD (2 * k + 1) []))]]) rfl rfl rfl rfl qAh el9 rfl (by decide) (by decide) (by simp)) rfl (by simp) fun g23 _ => ?_
    change J _ _ _ [F, m, blk g23 [Str (Mk.node (ls.getD (2 * k) []) (ls.getD (2 * k + 1) []))] 9] _
    refine J.b2 rfl (qAd (i := 1) (m2 := blk g23 [Str (Mk.node (ls.getD (2 * k) []) (ls.getD (2 * k + 1) []))] 9) (ys := qAI [Mk.node (ls.getD (2 * k) []) (ls.getD (2 * k + 1) [])]) rfl rfl rfl qAh qAh el9 rfl hrow (by simp) (qAv (q := True) (xs := qAI [Mk.node (ls.getD (2 * k) []) (ls.getD (2 * k + 1) [])]) rfl (by simp [qAI])).sl (qHZ _) (by omega) (by omega)) rfl (by simp) ?_
    rintro ⟨A24, c24, m24⟩ h24
    try dsimp only at h24
    change J _ ((24, .slice A24 (k + 1) c24) :: _) _ [_, m24, _] _
    rw [← qBv, ← Mk.above_succ ls k] at h24
    refine J.b9 ?_
    refine J.b5 <| J.a9 <| J.A (J.L hK7 ?_)
    refine J.H 0 3 4 ?_
    refine J.c9 [0, 1] [F, m24] rfl (by decide) <| J.G <| J.b rfl <| J.f ((qAR rfl rfl rfl (by omega)).nat (2 * (k + 1)) (by omega)) rfl <| J.b rfl <| J.a7 <| J.A <| J.b0 (k + 1, A24, c24, m24) (fun x (hx : _ ∧ n - x.1 < n - k) => hI0 x hx.1 hx.2) ⟨⟨by dsimp only; omega, h24⟩, by dsimp only; omega⟩ ⟨rfl, rfl, rfl, trivial⟩ (fun _ h => h)
  refine J.b7 <| J.a6 <| J.a6 <| J.b8 ?_
  refine J.A (J.L hK3 ?_)
  refine J.u 3 ?_
  refine J.g fun K8 hK8 => J.j 2 rfl <| J.c hK8 <| J.u 2 ?_
  refine J.D ?_
  have hk2 : k = n / 2 := by omega
  subst hk2
  exact J.V hw0 rfl (A1, c1, m) rfl (by rw [← hlen] at hrow; unfold Mk.above; rw [← hlen]; exact hrow) [0, 1] rfl (by decide)
theorem qQM (F : Hp) (hK : KF F) (A : Option Addr) (n c : Nat) (ls : List (List UInt8)) (hl : Sl F 1 A n c (qAI ls)) (h : Nat) (h6 : h ≤ 6) (hn : n = 2 ^ h) (hsm : ∀ s ∈ ls, s.length ≤ 1048576) :
    Ct prog 69 [.slice A n c] [F] (fun _ : Unit => .tuple #[Str (Mk.root ls h), I 0]) (fun _ => True) (fun _ => [F]) := by
  have hlen : ls.length = n := by have := hl.1; simpa [qAI] using this
  have hR : Mk.Right n := by rw [hn]; exact Mk.right_pow h h6
  have hn64 : n ≤ 64 := by unfold Mk.Right at hR; omega
  have hlv : ∀ j, j ≤ h → (Mk.lvl ls j).length = 2 ^ (h - j) := Mk.lvl_length ls h (by omega)
  have hle : ∀ j, 2 ^ (h - j) ≤ 64 := fun j => Nat.le_trans (Nat.pow_le_pow_right (by decide) (show h - j ≤ 6 by omega)) (by decide)
  refine Ct.walk func69 rfl ntmps69 rfl (fun w0 hw0 => ?_)
  change J _ [(0, _)] _ _ _
  refine J.g fun K1 hK1 => J.j 2 rfl <| J.c hK1 <| J.u 0 ?_
  refine J.k fun K2 hK2 => J.g fun K3 hK3 => J.b rfl <| J.f (qAa qAh rfl rfl) rfl <| J.p (qAB rfl rfl ent128 (qJa F n (by omega))) rfl fun g6 _ => J.f ((qFQ rfl rfl).as (v' := .bool false) (by simp [hR])) rfl <| J.d9 [0, 1] [F, (fun _ => none)] rfl (by decide) <| J.c hK3 <| J.E 0 7 ?_
  refine J.a8 ?_
  refine J.W hK2 <| J.u 0 ?_
  refine J.k fun K4 hK4 => J.a1 <| J.c0 (X := Nat × Option Addr × Nat × Hp) (fun x => [(0, .slice x.2.1 (Mk.lvl ls x.1).length x.2.2.1)]) (fun x => [F, x.2.2.2]) (fun x => x.1 ≤ h ∧ ∃ mm ∈ [F, x.2.2.2], Sl mm 1 x.2.1 (Mk.lvl ls x.1).length x.2.2.1 (qAI (Mk.lvl ls x.1))) (fun x => h - x.1) (0, A, c, fun _ => none) (⟨Nat.zero_le _, F, .head _, by rw [show (Mk.lvl ls (0, A, c, (fun _ => none : Hp)).1).length = n from hlen]; exact hl⟩) ⟨by rw [← hlen]; rfl, trivial⟩ (fun _ h => h) ?_
  rintro ⟨j, A1, c1, m⟩ ⟨hj, mm, hmm, hsl⟩ I0 hI0
  dsimp only at hj hmm hsl ⊢
  have hj2 := hlv j hj
  have hj3 := hle j
  have hpos : 0 < (Mk.lvl ls j).length := by rw [hj2]; exact Nat.two_pow_pos _
  have hmm2 : mm = F ∨ mm = m := by simpa using hmm
  refine J.k fun K5 hK5 => J.g fun K6 hK6 => J.b rfl <| J.f (qAa qAh rfl rfl) rfl <| J.f (qAx rfl rfl rfl) rfl <| J.c hK6 <| J.E 0 10 ?_
  refine J.a5 rfl (fun h10 => ?_) (fun h10 => ?_)
  ·
    refine J.W hK5 <| J.u 0 ?_
    refine J.a1 ?_
    have hjh : j < h := by
      rcases Nat.lt_or_ge j h with hlt | hge
      · exact hlt
      · rw [hj2, show h - j = 0 by omega] at h10; simp at h10
    refine J.G <| J.b rfl <| J.p (qAB rfl rfl ent129 (Ct.use (fun F' hF => qKM F' (hK.mono (hF _ (by simp))) A1 (Mk.lvl ls j).length c1 (Mk.lvl ls j) (hsl.mono (hF _ (by rcases hmm2 with rfl | rfl <;> simp))) (Mk.lvl_small ls hsm j) (by omega)))) rfl ?_
    rintro ⟨A12, c12, m12⟩ h12
    try dsimp only at h12
    change J _ ((12, .slice A12 ((Mk.lvl ls j).length / 2) c12) :: _) _ [F, m, m12] _
    refine J.c9 [0, 2] [F, m12] rfl (by decide) <| J.b rfl <| J.a7 <| J.a9 <| J.A <| J.b0 (j + 1, A12, c12, m12) (fun x (hx : _ ∧ h - x.1 < h - j) => hI0 x hx.1 hx.2) ⟨⟨by dsimp only; omega, m12, by simp, by rw [Mk.lvl_succ_length]; exact h12.sl⟩, by dsimp only; omega⟩ ⟨by rw [Mk.lvl_succ_length]; rfl, trivial⟩ (fun _ h => h)
  refine J.b7 <| J.a6 <| J.a6 <| J.b8 ?_
  refine J.A (J.L hK4 ?_)
  refine J.u 0 ?_
  refine J.k fun K7 hK7 => ?_
  have hjh : j = h := by
    rcases Nat.lt_or_ge j h with hlt | hge
    · have := Nat.one_lt_two_pow_iff.2 (show h - j ≠ 0 by omega)
      omega
    · omega
  refine J.G <| J.b rfl <| J.f (qAH (m := mm) (i := 0) rfl rfl rfl qAh z9_ hsl hpos) rfl <| J.f (qAN rfl rfl b9_ hmm (hsl.elem (qAZ (Mk.getS (l := Mk.lvl ls j) (j := 0) hpos)))) rfl <| J.j 2 rfl <| J.c hK7 <| J.E 2 3 ?_
  exact J.D <| J.b4 hw0 (fun _ _ h => h) (qCq rfl rfl rfl) (qAj () (by rw [hjh]; rfl) trivial [0] rfl (by decide))
theorem qQX (F : Hp) (hK : KF F) (A : Option Addr) (n c : Nat) (ls : List (List UInt8)) (hl : Sl F 1 A n c (qAI ls)) (h : Nat) (h6 : h ≤ 6) (hn : n = 2 ^ h) (hsm : ∀ s ∈ ls, s.length ≤ 1048576) (i : Nat) (hi : i < n) :
    Ct prog 92 [.slice A n c, I i] [F] (fun x : Option Addr × Nat × Hp => .tuple #[.slice x.1 h x.2.1, I 0]) (fun x => Row x.2.2 9 1 x.1 h x.2.1 (qAI (Mk.path ls i h))) (fun x => [F, x.2.2]) := by
  have hlen : ls.length = n := by have := hl.1; simpa [qAI] using this
  have hR : Mk.Right n := by rw [hn]; exact Mk.right_pow h h6
  have hn64 : n ≤ 64 := by unfold Mk.Right at hR; omega
  have hlv : ∀ j, j ≤ h → (Mk.lvl ls j).length = 2 ^ (h - j) := Mk.lvl_length ls h (by omega)
  have hle : ∀ j, 2 ^ (h - j) ≤ 64 := fun j => Nat.le_trans (Nat.pow_le_pow_right (by decide) (show h - j ≤ 6 by omega)) (by decide)
  refine Ct.walk func92 rfl ntmps92 rfl (fun w0 hw0 => ?_)
  change J _ [(0, _), (1, _)] _ _ _
  refine J.g fun K1 hK1 => J.j 2 rfl <| J.c hK1 <| J.E 0 1 ?_
  refine J.k fun K2 hK2 => J.a1 <| J.g fun K3 hK3 => J.b rfl <| J.f (qAa qAh rfl rfl) rfl <| J.p (qAB rfl rfl ent128 (qJa F n (by omega))) rfl fun g10 _ => J.f ((qFQ rfl rfl).as (v' := .bool false) (by simp [hR])) rfl <| J.b rfl <| J.c hK3 <| J.H 0 1 7 ?_
  refine J.a8 ?_
  refine J.g fun K4 hK4 => J.b rfl <| J.f ((qAW rfl rfl rfl).no (by omega)) rfl <| J.j 3 rfl <| J.T (qAa qAh rfl rfl) rfl <| J.T ((qBN rfl rfl rfl).no (by omega)) rfl <| J.j 2 rfl <| J.c hK4 <| J.H 0 1 12 ?_
  refine J.a8 ?_
  refine J.c7 <| J.a9 <| J.A (J.L hK2 ?_)
  refine J.E 0 1 ?_
  refine J.k fun K5 hK5 => J.d9 [0, 1] [F, (fun _ => none)] rfl (by decide) <| J.d9 [0, 1, 2] [F, (fun _ => none), (fun _ => none)] rfl (by decide) <| J.G <| J.b rfl <| J.c hK5 <| J.H 0 1 6 ?_
  refine J.k fun K6 hK6 => J.a1 <| J.c0 (X := Nat × Option Addr × Nat × Hp × Option Addr × Nat × Hp) (fun x => [(0, .slice x.2.1 (Mk.lvl ls x.1).length x.2.2.1), (1, I ((i / 2 ^ x.1 : Nat) : Int)), (6, .slice x.2.2.2.2.1 x.1 x.2.2.2.2.2.1)]) (fun x => [F, x.2.2.2.2.2.2, x.2.2.2.1]) (fun x => x.1 ≤ h ∧ (∃ mm ∈ [F, x.2.2.2.1], Sl mm 1 x.2.1 (Mk.lvl ls x.1).length x.2.2.1 (qAI (Mk.lvl ls x.1))) ∧ Row x.2.2.2.2.2.2 9 1 x.2.2.2.2.1 x.1 x.2.2.2.2.2.1 (qAI (Mk.path ls i x.1))) (fun x => h - x.1) (0, A, c, (fun _ => none), none, 0, fun _ => none) (⟨Nat.zero_le _, ⟨F, .head _, by rw [show (Mk.lvl ls (0, A, c, (fun _ => none : Hp)).1).length = n from hlen]; exact hl⟩, qBa.nil⟩) ⟨by rw [← hlen]; rfl, by rw [Nat.pow_zero, Nat.div_one]; rfl, rfl, trivial⟩ (fun _ h => h) ?_
  rintro ⟨j, A1, c1, m, A2, c2, m2⟩ ⟨hj, ⟨mm, hmm, hsl⟩, hrow⟩ I0 hI0
  dsimp only at hj hmm hsl hrow ⊢
  have hj2 := hlv j hj
  have hj3 := hle j
  have hpos : 0 < (Mk.lvl ls j).length := by rw [hj2]; exact Nat.two_pow_pos _
  have hmm2 : mm = F ∨ mm = m := by simpa using hmm
  have hmF : mm ∈ [F, m2, m] := by rcases hmm2 with rfl | rfl <;> simp
  refine J.k fun K7 hK7 => J.g fun K8 hK8 => J.b rfl <| J.f (qAa qAh rfl rfl) rfl <| J.f (qAx rfl rfl rfl) rfl <| J.c hK8 <| J.M 0 1 6 23 ?_
  refine J.a5 rfl (fun h23 => ?_) (fun h23 => ?_)
  ·
    refine J.W hK7 <| J.H 0 1 6 ?_
    refine J.k fun K9 hK9 => J.a1 ?_
    have hjh : j < h := by
      rcases Nat.lt_or_ge j h with hlt | hge
      · exact hlt
      · rw [hj2, show h - j = 0 by omega] at h23; simp at h23
    have hij : i / 2 ^ j < 2 ^ (h - j) := by
      rw [Nat.div_lt_iff_lt_mul (Nat.two_pow_pos j), ← Nat.pow_add, show h - j + j = h by omega, ← hn]; exact hi
    have hx1 : i / 2 ^ j ^^^ 1 < (Mk.lvl ls j).length := by
      rw [hj2, show h - j = (h - j - 1) + 1 by omega, Nat.pow_succ, Nat.mul_comm]
      refine Mk.xor_one _ _ ?_
      rw [show h - j = (h - j - 1) + 1 by omega, Nat.pow_succ, Nat.mul_comm] at hij; exact hij
    refine J.G <| J.j 3 rfl <| J.f (qQa (a := i / 2 ^ j) (b := 1) rfl rfl rfl ⟨Nat.lt_of_le_of_lt (Nat.div_le_self _ _) (show i < 9223372036854775808 by omega), by decide⟩) rfl <| J.f (qAH (m := mm) (i := i / 2 ^ j ^^^ 1) rfl rfl rfl qAh z9_ hsl hx1) rfl <| J.f (qAN rfl rfl b9_ hmF (hsl.elem (qAZ (Mk.getS (l := Mk.lvl ls j) (j := i / 2 ^ j ^^^ 1) hx1)))) rfl <| J.p (qAJ (l := [.tmp 33]) (xs := [[Str ((Mk.lvl ls j).getD ((i / 2 ^ j) ^^^ 1) [])]]) rfl rfl rfl rfl qAh el9 rfl (by decide) (by decide) (by simp)) rfl fun g34 _ => ?_
    change J _ _ _ [F, m2, m, blk g34 [Str ((Mk.lvl ls j).getD ((i / 2 ^ j) ^^^ 1) [])] 9] _
    refine J.p (qAd (i := 1) (m2 := blk g34 [Str ((Mk.lvl ls j).getD ((i / 2 ^ j) ^^^ 1) [])] 9) (ys := qAI [((Mk.lvl ls j).getD ((i / 2 ^ j) ^^^ 1) [])]) rfl rfl rfl qAh qAh el9 rfl hrow (by simp) (qAv (q := True) (xs := qAI [((Mk.lvl ls j).getD ((i / 2 ^ j) ^^^ 1) [])]) rfl (by simp [qAI])).sl (qHZ _) (by omega) (by omega)) rfl ?_
    rintro ⟨A35, c35, m35⟩ h35
    try dsimp only at h35
    change J _ ((35, .slice A35 (j + 1) c35) :: _) _ [_, m35, _, _] _
    rw [← qBv, ← Mk.path_succ] at h35
    refine J.b rfl <| J.a7 <| J.a9 <| J.A (J.L hK9 ?_)
    refine J.H 0 1 6 ?_
    refine J.G <| J.b rfl <| J.p (qAB rfl rfl ent129 (Ct.use (fun F' hF => qKM F' (hK.mono (hF _ (by simp))) A1 (Mk.lvl ls j).length c1 (Mk.lvl ls j) (hsl.mono (hF _ (by rcases hmm2 with rfl | rfl <;> simp))) (Mk.lvl_small ls hsm j) (by omega)))) rfl ?_
    rintro ⟨A25, c25, m25⟩ h25
    try dsimp only at h25
    change J _ ((25, .slice A25 ((Mk.lvl ls j).length / 2) c25) :: _) _ [_, _, _, _, m25] _
    refine J.c9 [0, 1, 4] [F, m35, m25] rfl (by decide) <| J.b rfl <| J.f ((qGC rfl rfl rfl ⟨Int.natCast_nonneg _, by decide, Int.ofNat_le.2 (Nat.le_trans (Nat.div_le_self _ _) (show i ≤ 9223372036854775807 by omega))⟩).as (v' := I ((i / 2 ^ (j + 1) : Nat) : Int)) (congrArg I (by rw [Nat.pow_succ, ← Nat.div_div_eq_div_mul]; rfl))) rfl <| J.j 2 rfl <| J.a7 <| J.A <| J.b0 (j + 1, A25, c25, m25, A35, c35, m35) (fun x (hx : _ ∧ h - x.1 < h - j) => hI0 x hx.1 hx.2) ⟨⟨by dsimp only; omega, ⟨m25, by simp, by rw [Mk.lvl_succ_length]; exact h25.sl⟩, h35⟩, by dsimp only; omega⟩ ⟨by rw [Mk.lvl_succ_length]; rfl, rfl, rfl, trivial⟩ (fun _ h => h)
  refine J.b7 <| J.a6 <| J.a6 <| J.b8 ?_
  refine J.A (J.L hK6 ?_)
  refine J.u 6 ?_
  refine J.k fun K10 hK10 => ?_
  have hjh : j = h := by
    rcases Nat.lt_or_ge j h with hlt | hge
    · have := Nat.one_lt_two_pow_iff.2 (show h - j ≠ 0 by omega)
      omega
    · omega
  refine J.G <| J.j 3 rfl <| J.c hK10 <| J.E 4 5 ?_
  exact J.D <| J.b4 hw0 (fun _ _ h => h) (qCq rfl rfl rfl) (qAj (A2, c2, m2) (by rw [hjh]) (by rw [hjh] at hrow; exact hrow) [0, 1] rfl (by decide))
theorem qOs (F : Hp) (hK : KF F) (xx : List UInt8) (i : Nat) (A : Option Addr) (n c : Nat) (ls : List (List UInt8)) (hl : Sl F 1 A n c (qAI ls)) (hx : xx.length ≤ 1048576) (hsm : ∀ s ∈ ls, s.length ≤ 1048576) (hi : i < 9223372036854775808) (hn : n ≤ 1048576) :
    Ct prog 124 [Str xx, I i, .slice A n c] [F] (fun _ : Unit => Str (Mk.climb xx i ls)) (fun _ => True) (fun _ => [F]) := by
  have hlen : ls.length = n := by have := hl.1; simpa [qAI] using this
  refine Ct.walk func124 rfl ntmps124 rfl (fun w0 hw0 => ?_)
  change J _ [(0, _), (1, _), (2, _)] _ _ _
  refine J.g fun K1 hK1 => J.b rfl <| J.c hK1 <| J.H 0 1 2 ?_
  refine J.k fun K2 hK2 => J.g fun K3 hK3 => J.b rfl <| J.f (qAa qAh rfl rfl) rfl <| J.b rfl <| J.c hK3 <| J.a0 0 1 9 10 11 ?_
  refine J.a1 <| J.c0 (X := Nat × List UInt8 × Nat) (fun x => [(0, Str x.2.1), (1, I x.2.2), (9, .slice A n c), (10, I n), (11, I x.1)]) (fun _ => [F]) (fun x => x.1 ≤ n ∧ x.2.1.length ≤ 1048576 ∧ x.2.2 ≤ i ∧ Mk.climb x.2.1 x.2.2 (ls.drop x.1) = Mk.climb xx i ls) (fun x => n - x.1) (0, xx, i) (⟨Nat.zero_le _, hx, Nat.le_refl _, rfl⟩) ⟨rfl, rfl, rfl, rfl, rfl, trivial⟩ (fun _ h => h) ?_
  rintro ⟨k, y, j⟩ ⟨hk, hy, hji, hc⟩ I0 hI0
  dsimp only at hk hy hji hc ⊢
  refine J.g fun K4 hK4 => J.f (qAW rfl rfl rfl) rfl <| J.c hK4 <| J.b3 0 1 9 10 11 12 ?_
  refine J.k fun K5 hK5 => J.a5 rfl (fun h12 => ?_) (fun h12 => ?_)
  ·
    refine J.W hK5 <| J.a0 0 1 9 10 11 ?_
    refine J.k fun K6 hK6 => J.a1 <| J.k fun K7 hK7 => ?_
    have hkn : k < n := by omega
    obtain ⟨s, hs⟩ : ∃ s, ls[k]? = some s := ⟨_, List.getElem?_eq_getElem (by omega)⟩
    have hdr : ls.drop k = s :: ls.drop (k + 1) := by
      obtain ⟨hk2, rfl⟩ := List.getElem?_eq_some_iff.1 hs
      exact List.drop_eq_getElem_cons hk2
    rw [hdr, Mk.climb] at hc
    refine J.G <| J.f (qAH (i := k) rfl rfl rfl qAh z9_ hl (by omega)) rfl <| J.f (qAN rfl rfl b9_ (m := F) (by simp) (hl.elem (qAZ hs))) rfl <| J.b rfl <| J.c hK7 <| J.b3 0 1 8 9 10 11 ?_
    refine J.k fun K8 hK8 => J.g fun K9 hK9 => J.b rfl <| J.f (qIs (a := j) (b := 1) rfl rfl rfl (by omega)) rfl <| J.f (qAV rfl rfl rfl) rfl <| J.c hK9 <| J.c2 0 1 8 9 10 11 17 ?_
    refine J.a5 rfl (fun h17 => ?_) (fun h17 => ?_)
    ·
      refine J.G <| J.j 2 rfl <| J.p (qAB rfl rfl ent170 (Ct.use0 (fun F' hF => qIv F' (hK.mono (hF _ (by simp))) y s hy (hsm _ (List.mem_of_getElem? hs))))) rfl fun g20 _ => J.b rfl <| J.c hK8 <| J.a0 0 1 9 10 11 ?_
      refine J.G <| J.b rfl <| J.f ((qCK (m := 1) rfl rfl rfl (by omega)).nat (j / 2) (by omega)) rfl <| J.b rfl <| J.a7 <| J.a9 <| J.A (J.L hK6 ?_)
      refine J.a0 0 1 9 10 11 ?_
      refine J.G <| J.f (qAR rfl rfl rfl (by omega)) rfl <| J.b rfl <| J.a7 <| J.A ?_
      rw [if_pos (by rw [Nat.and_one_is_mod] at h17; omega)] at hc
      refine J.b0 (k + 1, Mk.node y s, j / 2) (fun x (hx : _ ∧ n - x.1 < n - k) => hI0 x hx.1 hx.2) ⟨⟨by dsimp only; omega, by dsimp only; rw [Mk.node_length]; decide, by dsimp only; omega, hc⟩, by dsimp only; omega⟩ ⟨rfl, rfl, rfl, rfl, rfl, trivial⟩ (fun _ h => h)
    refine J.G <| J.j 2 rfl <| J.p (qAB rfl rfl ent170 (Ct.use0 (fun F' hF => qIv F' (hK.mono (hF _ (by simp))) s y (hsm _ (List.mem_of_getElem? hs)) hy))) rfl fun g23 _ => J.b rfl <| J.c hK8 <| J.a0 0 1 9 10 11 ?_
    refine J.G <| J.b rfl <| J.f ((qCK (m := 1) rfl rfl rfl (by omega)).nat (j / 2) (by omega)) rfl <| J.b rfl <| J.a7 <| J.a9 <| J.A (J.L hK6 ?_)
    refine J.a0 0 1 9 10 11 ?_
    refine J.G <| J.f (qAR rfl rfl rfl (by omega)) rfl <| J.b rfl <| J.a7 <| J.A ?_
    rw [if_neg (by rw [Nat.and_one_is_mod] at h17; omega)] at hc
    refine J.b0 (k + 1, Mk.node s y, j / 2) (fun x (hx : _ ∧ n - x.1 < n - k) => hI0 x hx.1 hx.2) ⟨⟨by dsimp only; omega, by dsimp only; rw [Mk.node_length]; decide, by dsimp only; omega, hc⟩, by dsimp only; omega⟩ ⟨rfl, rfl, rfl, rfl, rfl, trivial⟩ (fun _ h => h)
  refine J.b7 <| J.a6 <| J.a6 <| J.b8 ?_
  refine J.A (J.L hK2 ?_)
  refine J.u 0 ?_
  refine J.k fun K10 hK10 => ?_
  rw [List.drop_of_length_le (by omega)] at hc
  refine J.G <| J.j 2 rfl <| J.c hK10 <| J.u 6 ?_
  exact J.D <| J.V hw0 rfl () (by rw [← hc]; rfl) trivial [0] rfl (by decide)
end Go.Proofs.YtfldiegfenndjaaGreatDoor
namespace Go.Proofs.YtfldiegfenndjaaGreatDoor
open Go Go.Fw Go.Proofs.Tryz
set_option maxRecDepth 100000
set_option maxHeartbeats 1000000
attribute [local irreducible] Mk.node
namespace Mk
theorem qPq (m : Nat) : m ^^^ 1 = if m % 2 = 0 then m + 1 else m - 1 := by
 have e1 : (m ^^^ 1) / 2 = m / 2 := by rw [Nat.xor_div_two]; simp
 have e2 : (m ^^^ 1) % 2 = (m % 2) ^^^ 1 := Nat.xor_mod_two_pow (n := 1)
 rcases Nat.mod_two_eq_zero_or_one m with h | h
 · rw [h, show (0 : Nat) ^^^ 1 = 1 from rfl] at e2; rw [if_pos h]; omega
 · rw [h, show (1 : Nat) ^^^ 1 = 0 from rfl] at e2; rw [if_neg (by omega)]; omega
theorem qNN (l : List (List UInt8)) (k : Nat) : (above l)[k]? = if k < l.length / 2 then some (node (l.getD (2 * k) []) (l.getD (2 * k + 1) [])) else none := by
 unfold above
 rw [List.getElem?_map]
 by_cases h : k < l.length / 2
 · rw [if_pos h, List.getElem?_range h]; rfl
 · rw [if_neg h, List.getElem?_eq_none (by simpa using Nat.le_of_not_lt h)]; rfl
theorem qHW {k : Nat} (h : 0 < k) : 2 ^ k % 2 = 0 := by
 rw [show k = (k - 1) + 1 by omega, Nat.pow_succ]; omega
def tx (ls : List (List UInt8)) (k : Nat) : List UInt8 := [UInt8.ofNat k] ++ (ls.getD k []).take 20
end Mk
attribute [local irreducible] Mk.root Mk.path Mk.tx
end Go.Proofs.YtfldiegfenndjaaGreatDoor
namespace Go.Proofs.YtfldiegfenndjaaGreatDoor
open Go Go.Fw Go.Proofs.Tryz
set_option maxRecDepth 100000
set_option maxHeartbeats 1000000
namespace Sha
end Sha
attribute [local irreducible] Sha.tagB
end Go.Proofs.YtfldiegfenndjaaGreatDoor
namespace Go.Proofs.YtfldiegfenndjaaGreatDoor
open Go Go.Fw Go.Proofs.Tryz
set_option maxRecDepth 100000
set_option maxHeartbeats 1000000
attribute [local irreducible] Mk.node
namespace Mk
theorem qGS (s : List UInt8) : ∀ (p : List (List UInt8)) (x : List UInt8) (i : Nat), climb x i (p ++ [s]) = if i / 2 ^ p.length % 2 = 0 then node (climb x i p) s else node s (climb x i p)
 | [], x, i => by simp [climb]
 | a :: p, x, i => by
  rw [List.cons_append, climb, climb, qGS s p, List.length_cons, Nat.pow_succ, Nat.mul_comm, ← Nat.div_div_eq_div_mul]
theorem qIH (l : List (List UInt8)) (h i : Nat) (hl : l.length = 2 ^ h) (hi : i < 2 ^ h) : ∀ j, j ≤ h → climb (l.getD i []) i (path l i j) = (lvl l j).getD (i / 2 ^ j) []
  | 0, _ => by simp [path, climb, lvl]
  | j + 1, hj => by
    have hlen := lvl_length l h hl j (by omega)
    have h1 : i / 2 ^ j < 2 ^ (h - j) := by rw [Nat.div_lt_iff_lt_mul (Nat.two_pow_pos j), ← Nat.pow_add, show h - j + j = h by omega]; exact hi
    have h2 := qHW (show 0 < h - j by omega)
    rw [path_succ, qGS, qIH l h i hl hi j (by omega), path_length, Nat.pow_succ, ← Nat.div_div_eq_div_mul]
    generalize i / 2 ^ j = q at *
    rw [show lvl l (j + 1) = above (lvl l j) from rfl, List.getD_eq_getElem?_getD (l := above (lvl l j)), qNN, hlen, if_pos (show q / 2 < 2 ^ (h - j) / 2 by omega), qPq]
    split
    · rename_i e
      rw [show 2 * (q / 2) = q by omega]; rfl
    · rename_i e
      rw [show 2 * (q / 2) = q - 1 by omega, show q - 1 + 1 = q by omega]; rfl
theorem climb_root (l : List (List UInt8)) (h i : Nat) (hl : l.length = 2 ^ h) (hi : i < 2 ^ h) : climb (l.getD i []) i (path l i h) = root l h := by
 rw [qIH l h i hl hi h (Nat.le_refl _), Nat.div_eq_of_lt hi]; rfl
theorem flat_small {ls : List (List UInt8)} {w : Nat} (h : ∀ s ∈ ls, s.length ≤ w) : ls.flatten.length ≤ w * ls.length := by
 induction ls with
 | nil => simp
 | cons a l ih =>
  have := ih (fun s hs => h s (.tail _ hs))
  have h2 := h a (.head _)
  rw [List.flatten_cons, List.length_append, List.length_cons, Nat.mul_add]; omega
end Mk
namespace Sha
end Sha
attribute [local irreducible] Sha.tagB Mk.root Mk.path
end Go.Proofs.YtfldiegfenndjaaGreatDoor
