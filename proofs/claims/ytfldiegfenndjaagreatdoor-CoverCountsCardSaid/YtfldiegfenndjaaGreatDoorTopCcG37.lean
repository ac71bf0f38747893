/- A part of the proof. -/
import Derived.Test.YtfldiegfenndjaaGreatDoorTopCcG8
import Derived.Test.YtfldiegfenndjaaGreatDoorTopCcG36
import Derived.Test.YtfldiegfenndjaaGreatDoorTopCcG32
set_option linter.unusedSimpArgs false
set_option linter.unusedVariables false
namespace Go.Proofs.YtfldiegfenndjaaGreatDoor
open Go Go.Fw Go.Proofs.Tryz
set_option maxRecDepth 100000
set_option maxHeartbeats 1000000
theorem ent32 : qAC prog 32 := qAC.of func32 rfl (by kernel_rfl)
theorem ent34 : qAC prog 34 := qAC.of func34 rfl (by kernel_rfl)
theorem ent36 : qAC prog 36 := qAC.of func36 rfl (by kernel_rfl)
theorem el105 : qDV prog 105 [.pointer none] 8 := qDV.of (by kernel_rfl) rfl
def qC2 (l : List Nat) : List (List Value) := l.map fun g => [Ptr g]
theorem qMy {l : List Nat} {k : Nat} (h : k < l.length) : (qC2 l)[k]? = some [Ptr (l.getD k 0)] := by
 unfold qC2; rw [List.getElem?_map, List.getElem?_eq_getElem h, List.getD_eq_getElem?_getD, List.getElem?_eq_getElem h]; rfl
theorem qEM (a : List Nat) (x : Nat) : qC2 (a ++ [x]) = qC2 a ++ [[Ptr x]] := by simp [qC2]
def qEY (G : Hp) (gs : List Nat) : Prop := ∀ j, j < gs.length → qRK G (gs.getD j 0) (qAI j) 2
theorem qEY.mono {G G' : Hp} {gs : List Nat} (h : qEY G gs) (hl : Le G G') : qEY G' gs := fun j hj => (h j hj).mono hl
theorem qEY.nil (G : Hp) : qEY G [] := fun j hj => absurd hj (Nat.not_lt_zero j)
theorem qEY.snoc {G : Hp} {gs : List Nat} {g i : Nat} (h : qEY G gs) (hi : gs.length = i) (hk : qRK G g (qAI i) 2) : qEY G (gs ++ [g]) := fun j hj => by
 rw [List.length_append, List.length_singleton] at hj
 rw [qCm gs g 0 j hj]
 split
 · exact h j (by omega)
 · rw [show j = i by omega]; exact hk
def pW (a d : Nat) : Hd := ⟨0, qBw, ((d : Nat) : Int), ((a : Nat) : Int), qAT (qAD a) d⟩
def nW (a d : Nat) : Hd := ⟨1, (pW a d).dig, ((d : Nat) : Int), ((a : Nat) : Int), qAT (qAD a) d⟩
def wdC (gt gr : Nat) (kA : Option Addr) (n kc : Nat) (nA : Option Addr) (nn nc a d : Nat) (uA : Option Addr) (uc : Nat) : List Value :=
 [Ptr gt, Ptr gr, .slice kA n kc, N64 0, Str qBw, I ((d : Nat) : Int), I ((a : Nat) : Int), .slice nA nn nc, N64 1, Str (pW a d).dig, I ((d : Nat) : Int), I ((a : Nat) : Int), .slice nA nn nc, .slice uA n uc]
theorem qCP {a : Nat} (h : a ≤ 5) : qE1 (qAD a) := by
  have hk : ∀ i, i < a → (qBO i).length = 16 := fun i _ => Sha.tagged_length _ _
  refine ⟨?_, ?_, ?_, ?_⟩
  · unfold Sm.Once qAD
    rw [List.pairwise_map]
    refine List.Pairwise.imp_of_mem (fun {i j} hi hj hij => ?_) List.pairwise_lt_range
    have h1 := List.mem_range.1 hi
    have h2 := List.mem_range.1 hj
    show qBO i ≠ qBO j
    rw [← qP3 (by omega), ← qP3 (by omega)]
    exact qHv (by omega) (by omega) (by omega)
  · intro p hp
    obtain ⟨i, _, rfl⟩ := List.mem_map.1 hp
    exact Sha.tagged_length _ _
  · intro p hp
    obtain ⟨i, _, rfl⟩ := List.mem_map.1 hp
    show (qBN i).length ≤ _
    unfold qBN; rw [Sha.tagged_length]; decide
  · unfold qAD; rw [List.length_map, List.length_range]; omega
theorem qFZ (a : Nat) {d : Nat} (hd : d ≤ 1) : (qAT (qAD a) d).length ≤ 16 := by
 rw [qCj]
 match d, hd with
 | 0, _ => decide
 | 1, _ => decide
theorem qCS (a : Nat) {d : Nat} (hd : d ≤ 1) : (pW a d).good := ⟨by show 0 < _; decide, by show qBw.length ≤ _; decide, by have := qFZ a hd; show (qAT (qAD a) d).length ≤ _; omega⟩
structure WdR where
 gw : Nat
 gt : Nat
 gr : Nat
 gs : List Nat
 kA : Option Addr
 kc : Nat
 nA : Option Addr
 nc : Nat
 uA : Option Addr
 uc : Nat
 mt : Hp
 mr : Hp
 mq : Hp
 G : Hp
 mu : Hp
 mn : Hp
structure WdP (a d : Nat) (r : WdR) : Prop where
 gl : r.gs.length = a
 ro : qId r.mr r.gr (wL a)
 kr : Row r.mq 105 1 r.kA a r.kc (qC2 r.gs)
 ks : qEY r.G r.gs
 ur : Row r.mu 3 1 r.uA a r.uc (qAu (List.replicate a 0))
 t : qHV r.mt r.gt (qAD a)
 nr : Row r.mn 9 1 r.nA (qAT (qAD a) d).length r.nc (qAL (qAT (qAD a) d))
theorem qI4 (F : Hp) (hK : KF F) (hA : qAV F ⟨1, 0, none⟩ qBr) (hT : qCX F) (a d : Nat) (ha : a ≤ 5) (hd : d ≤ 1) : Ct prog 8 [I ((a : Nat) : Int), I ((d : Nat) : Int)] [F] (fun r : WdR => Ptr r.gw) (fun r => WdP a d r) (fun r => [F, blk r.gw (wdC r.gt r.gr r.kA a r.kc r.nA (qAT (qAD a) d).length r.nc a d r.uA r.uc) 42, r.mt, r.mr, r.mq, r.G, r.mu, r.mn]) := by
 refine Ct.walk func8 rfl ntmps8 rfl (fun w0 hw0 => ?_)
 change J _ [(0, _), (1, _)] _ _ _
 refine J.g fun K1 hK1 => J.b rfl <| J.c hK1 <| J.M 0 1 ?_
 refine J.g fun K2 hK2 => J.u (qAB rfl rfl ent31 (Ct.use (new := fun x : Nat × Hp => [x.2]) (fun F' hF => Ct.swap2 (qRa F' )))) rfl ?_
 rintro ⟨g13, m13⟩ h13
 try dsimp only at h13
 change J _ ((13, Ptr g13) :: _) _ [F, m13] _
 refine J.u (qAB rfl rfl ent32 (Ct.use (new := fun x : Nat × Hp => [x.2]) (fun F' hF => Ct.swap2 (qRy F' )))) rfl ?_
 rintro ⟨g14, m14⟩ h14
 try dsimp only at h14
 change J _ ((14, Ptr g14) :: _) _ [_, _, m14] _
 refine J.f (qAQ (l := [(0, .tmp 13), (1, .tmp 14)]) (vs := [Ptr g13, Ptr g14]) (places := [(0, 1), (1, 1), (2, 1), (3, 5), (8, 5), (13, 1)]) (r := [Ptr g13, Ptr g14, .slice none 0 0, .int .u64 0, Str [], I 0, I 0, .slice none 0 0, .int .u64 0, Str [], I 0, I 0, .slice none 0 0, .slice none 0 0]) rfl rfl rfl qC3 zeroValue42 (fun _ => by kernel_rfl) (by kernel_rfl)) rfl <| J.u (qAl (l := [Ptr g13, Ptr g14, .slice none 0 0, .int .u64 0, Str [], I 0, I 0, .slice none 0 0, .int .u64 0, Str [], I 0, I 0, .slice none 0 0, .slice none 0 0]) rfl rfl rfl) rfl fun g16 _ => ?_
 change J _ _ _ [_, _, _, blk g16 [Ptr g13, Ptr g14, .slice none 0 0, .int .u64 0, Str [], I 0, I 0, .slice none 0 0, .int .u64 0, Str [], I 0, I 0, .slice none 0 0, .slice none 0 0] 42] _
 refine J.b rfl <| J.c hK2 <| J.V 0 1 5 ?_
 refine J.k fun K3 hK3 => J.g fun K4 hK4 => J.b rfl <| J.c hK4 <| J.W 0 1 5 6 ?_
 refine J.T <| J.b2 (X := Nat × List Nat × Option Addr × Nat × Option Addr × Nat × Hp × Hp × Hp × Hp) (fun ζ => [(0, I ((a : Nat) : Int)), (1, I ((d : Nat) : Int)), (5, Ptr g16), (6, I ((ζ.1 : Nat) : Int))]) (fun ζ => [F, m13, ζ.2.2.2.2.2.2.1, blk g16 [Ptr g13, Ptr g14, .slice ζ.2.2.1 ζ.1 ζ.2.2.2.1, .int .u64 0, Str [], I 0, I 0, .slice none 0 0, .int .u64 0, Str [], I 0, I 0, .slice none 0 0, .slice ζ.2.2.2.2.1 ζ.1 ζ.2.2.2.2.2.1] 42, ζ.2.2.2.2.2.2.2.1, ζ.2.2.2.2.2.2.2.2.1, ζ.2.2.2.2.2.2.2.2.2]) (fun ζ => ζ.1 ≤ a ∧ ζ.2.1.length = ζ.1 ∧ qId ζ.2.2.2.2.2.2.1 g14 (wL ζ.1) ∧ Row ζ.2.2.2.2.2.2.2.1 105 1 ζ.2.2.1 ζ.1 ζ.2.2.2.1 (qC2 ζ.2.1) ∧ qEY ζ.2.2.2.2.2.2.2.2.1 ζ.2.1 ∧ Row ζ.2.2.2.2.2.2.2.2.2 3 1 ζ.2.2.2.2.1 ζ.1 ζ.2.2.2.2.2.1 (qAu (List.replicate ζ.1 0))) (fun ζ => a - ζ.1) (0, [], none, 0, none, 0, m14, (fun _ => none), (fun _ => none), (fun _ => none)) (⟨Nat.zero_le _, rfl, h14, qB5.nil, qEY.nil _, qB5.nil⟩) ⟨rfl, rfl, rfl, rfl, trivial⟩ (fun _ h => h.empty.empty.empty.pick [0, 1, 2, 3, 4, 5, 6] (by decide)) ?_
 rintro ⟨i, gs, kA, kc, uA, uc, mr, mk, G, mu⟩ ⟨hi, hgl, hro, hkr, hks, hur⟩ I0 hI0
 dsimp only at hi hgl hro hkr hks hur ⊢
 refine J.k fun K5 hK5 => J.g fun K6 hK6 => J.p 2 rfl <| J.f (qAS rfl rfl rfl) rfl <| J.c hK6 <| J.a3 0 1 5 6 19 ?_
 refine J.a0 rfl (fun h19 => ?_) (fun h19 => ?_)
 ·
  refine J.a1 hK5 <| J.W 0 1 5 6 ?_
  refine J.k fun K7 hK7 => J.T <| J.g fun K8 hK8 => J.b rfl <| J.f ((qAO rfl rfl rfl (by first | omega | (simp only [List.length_cons, List.length_nil]; omega) | decide)).nat (97 + i) (by omega)) rfl <| J.f (qAe (m := 97 + i) rfl rfl u3_ u5_) rfl <| J.u (qAH (l := [.tmp 25]) (xs := [[B8 (UInt8.ofNat (97 + i))]]) rfl rfl rfl rfl qBP el5 rfl (by decide) (by decide) (by simp)) rfl fun g26 _ => ?_
  change J _ _ _ [F, m13, mr, blk g16 [Ptr g13, Ptr g14, .slice kA i kc, .int .u64 0, Str [], I 0, I 0, .slice none 0 0, .int .u64 0, Str [], I 0, I 0, .slice none 0 0, .slice uA i uc] 42, mk, G, mu, blk g26 [B8 (UInt8.ofNat (97 + i))] 5] _
  refine J.f (qBB (l := [UInt8.ofNat (97 + i)]) rfl rfl qBP u5_ u9_ (m := blk g26 [B8 (UInt8.ofNat (97 + i))] 5) (by simp) ((qA8 (q := True) (qAX [UInt8.ofNat (97 + i)]) rfl (by simp [qAX]) rfl).sl)) rfl <| J.f (qBZ (a := [97, 117, 100, 105, 116, 111, 114]) (b := [UInt8.ofNat (97 + i)]) rfl rfl rfl (by first | omega | (simp only [List.length_cons, List.length_nil]; omega) | decide)) rfl <| J.u (qAB rfl rfl ent33 (Ct.use (new := fun x : Nat × Hp => [x.2]) (fun F' hF => qOc F' (hK.mo hF) (qAI i) 2 (Nat.le_of_ble_eq_true rfl) (by decide)))) rfl ?_
  rintro ⟨g29, m29⟩ h29
  try dsimp only at h29
  change J _ ((29, .tuple #[Ptr g29, I 0]) :: _) _ [_, _, _, _, _, _, _, _, m29] _
  refine J.p 5 rfl <| J.c hK8 <| J.a9 0 1 5 6 7 8 ?_
  refine J.k fun K9 hK9 => J.g fun K10 hK10 => J.b rfl <| J.f ((qAx rfl rfl rfl).no (fun h => h rfl)) rfl <| J.c hK10 <| J.a9 0 1 5 6 7 33 ?_
  refine J.b6 ?_
  refine J.a1 hK9 <| J.a3 0 1 5 6 7 ?_
  refine J.e5 (X := Hp) (fun ζ => [(0, I ((a : Nat) : Int)), (1, I ((d : Nat) : Int)), (5, Ptr g16), (6, I ((i : Nat) : Int)), (7, Ptr g29)]) (fun ζ => [F, m13, ζ, blk g16 [Ptr g13, Ptr g14, .slice kA i kc, .int .u64 0, Str [], I 0, I 0, .slice none 0 0, .int .u64 0, Str [], I 0, I 0, .slice none 0 0, .slice uA i uc] 42, mk, G, mu, m29]) (fun ζ => qId ζ g14 (wL (i + 1))) (fun K11 hK11 => ?_) ?_
  ·
   refine J.k fun K12 hK12 => ?_
   have hrl := qCb (i := i) (by omega)
   have hwl := qJW i
   refine J.b5 [F, blk g16 [Ptr g13, Ptr g14, .slice kA i kc, .int .u64 0, Str [], I 0, I 0, .slice none 0 0, .int .u64 0, Str [], I 0, I 0, .slice none 0 0, .slice uA i uc] 42] [] (.y 0 (.y 1 (.y 2 (.y 3 (.y 4 (.y 5 (.y 6 (.y 10 (.br (.e 7 (.y 8 (.y 9 (.e 11 (.y 12 (.e 13 (.y 14 (.y 15 (.y 16 (.y 17 (.y 18 .nil))))))))))) (.e 11 (.e 7 (.y 8 (.y 9 (.y 12 (.e 13 (.y 14 (.y 15 (.y 16 (.y 17 (.y 18 .nil)))))))))))))))))))) Tryz.wide (by decide +kernel) (by simp) ?_
   refine J.G ?_
   refine J.j rfl (qAE rfl rfl) rfl rfl <| J.j rfl (qAA (j := 1) rfl rfl qC3 rfl sizeOf34 rfl) rfl rfl <| J.j rfl (qAF 1 (v := Ptr g14) rfl rfl rfl isAgg34 rfl) rfl rfl <| J.G ?_
   refine J.j rfl ((qAO rfl rfl rfl (by first | omega | (simp only [List.length_cons, List.length_nil]; omega) | decide)).nat (97 + i) (by omega)) rfl rfl <| J.j rfl (qAe (m := 97 + i) rfl rfl u3_ u5_) rfl rfl <| J.G ?_
   refine J.e9 ?_ ?_
   ·
    refine J.g0 (fun g => _ ++ [blk g [B8 (UInt8.ofNat (97 + i))] 5]) rfl (qAH (l := [.tmp 41]) (xs := [[B8 (UInt8.ofNat (97 + i))]]) rfl rfl rfl rfl qBP el5 rfl (by decide) (by decide) (by simp)) rfl rfl rfl (fun _ _ h => List.mem_append_left _ h) (by simp) ?_
    intro g42 _
    change J _ _ _ [F, m13, mr, blk g16 [Ptr g13, Ptr g14, .slice kA i kc, .int .u64 0, Str [], I 0, I 0, .slice none 0 0, .int .u64 0, Str [], I 0, I 0, .slice none 0 0, .slice uA i uc] 42, mk, G, mu, blk g26 [B8 (UInt8.ofNat (97 + i))] 5, m29, blk g42 [B8 (UInt8.ofNat (97 + i))] 5] _
    refine J.j rfl (qBB (l := [UInt8.ofNat (97 + i)]) rfl rfl qBP u5_ u9_ (m := blk g42 [B8 (UInt8.ofNat (97 + i))] 5) (by simp) ((qA8 (q := True) (qAX [UInt8.ofNat (97 + i)]) rfl (by simp [qAX]) rfl).sl)) rfl rfl <| J.j rfl (qBZ (a := [120]) (b := [UInt8.ofNat (97 + i)]) rfl rfl rfl (by first | omega | (simp only [List.length_cons, List.length_nil]; omega) | decide)) rfl rfl <| J.a7 rfl (qAB rfl rfl ent35 (Ct.use0 (fun F' hF => qJQ F' g29 (qAI i) 2 (h29.mono (hF m29 (by simp)))))) rfl (by simp) fun g46 _ => J.j rfl (qAQ (l := [(0, .tmp 44), (1, .tmp 46)]) (vs := [Str (([120]) ++ ([UInt8.ofNat (97 + i)])), .agg #[Str (Wo.opn ((qAI i))), Str (Xm.root ((qAI i)) (2)), I ((2 : Nat) : Int)]]) (places := [(0, 1), (1, 3)]) (r := [Str (([120]) ++ ([UInt8.ofNat (97 + i)])), Str (Wo.opn ((qAI i))), Str (Xm.root ((qAI i)) (2)), I ((2 : Nat) : Int)]) rfl rfl rfl qIm qSx (fun _ => by kernel_rfl) rfl) rfl rfl <| J.a7 rfl (qAB rfl rfl ent34 (Ct.use1 2 (m' := fun x : Hp => x) (new := fun _ => []) rfl (fun F' hF => qMv F' mr g14 (wL i) hro (hA.mono (hF F (by simp))) (hT.mono (hF F (by simp))) (([120]) ++ ([UInt8.ofNat (97 + i)])) (Wo.opn ((qAI i))) (Xm.root ((qAI i)) (2)) ((2 : Nat) : Int) (by first | omega | exact Nat.le_of_ble_eq_true rfl | (rw [List.length_map]; omega)) (by first | omega | exact Nat.le_of_ble_eq_true rfl | (rw [List.length_map]; omega)) (by first | omega | exact Nat.le_of_ble_eq_true rfl | (rw [List.length_map]; omega)) (by first | omega | exact Nat.le_of_ble_eq_true rfl | (rw [List.length_map]; omega))))) rfl (by simp) ?_
    rintro m48 h48
    change J _ ((48, .tuple #[I (qEW (wL i) (([120]) ++ ([UInt8.ofNat (97 + i)])) (Wo.opn ((qAI i))) (Xm.root ((qAI i)) (2)) ((2 : Nat) : Int)), I (qIV (wL i) (([120]) ++ ([UInt8.ofNat (97 + i)])) (Wo.opn ((qAI i))) (Xm.root ((qAI i)) (2)) ((2 : Nat) : Int))]) :: _) _ [_, _, m48, _, _, _, _, _, _, _] _
    replace h48 := (congrArg (qId m48 g14) (qRH (i := i) (by omega))).mp h48
    refine J.G ?_
    refine J.d4 (I (qEW (wL i) (([120]) ++ ([UInt8.ofNat (97 + i)])) (Wo.opn ((qAI i))) (Xm.root ((qAI i)) (2)) ((2 : Nat) : Int))) ?_
    refine J.d4 (I (qIV (wL i) (([120]) ++ ([UInt8.ofNat (97 + i)])) (Wo.opn ((qAI i))) (Xm.root ((qAI i)) (2)) ((2 : Nat) : Int))) ?_
    refine J.c0 ?_
    refine J.c0 ?_
    refine J.b4 <| J.q (J.H hK12 ?_)
    refine J.a9 0 1 5 6 7 10 ?_
    refine J.g fun K13 hK13 => J.b rfl <| J.f ((qAx rfl rfl rfl).no (fun h => h (qTI (by omega)))) rfl <| J.c hK13 <| J.a9 0 1 5 6 7 52 ?_
    refine J.b6 ?_
    exact J.b7 <| J.q <| J.a6 (m48) hK11 (h48) ⟨rfl, rfl, rfl, rfl, rfl, trivial⟩ (fun _ h => h.pick [0, 1, 2, 3, 4, 5, 6, 8] (by decide))
   refine J.a7 rfl (qAB rfl rfl ent35 (Ct.use0 (fun F' hF => qJQ F' g29 (qAI i) 2 (h29.mono (hF m29 (by simp)))))) rfl (by simp) fun g46 _ => J.g0 (fun g => _ ++ [blk g [B8 (UInt8.ofNat (97 + i))] 5]) rfl (qAH (l := [.tmp 41]) (xs := [[B8 (UInt8.ofNat (97 + i))]]) rfl rfl rfl rfl qBP el5 rfl (by decide) (by decide) (by simp)) rfl rfl rfl (fun _ _ h => List.mem_append_left _ h) (by simp) ?_
   intro g42 _
   change J _ _ _ [F, m13, mr, blk g16 [Ptr g13, Ptr g14, .slice kA i kc, .int .u64 0, Str [], I 0, I 0, .slice none 0 0, .int .u64 0, Str [], I 0, I 0, .slice none 0 0, .slice uA i uc] 42, mk, G, mu, blk g26 [B8 (UInt8.ofNat (97 + i))] 5, m29, blk g42 [B8 (UInt8.ofNat (97 + i))] 5] _
   refine J.j rfl (qBB (l := [UInt8.ofNat (97 + i)]) rfl rfl qBP u5_ u9_ (m := blk g42 [B8 (UInt8.ofNat (97 + i))] 5) (by simp) ((qA8 (q := True) (qAX [UInt8.ofNat (97 + i)]) rfl (by simp [qAX]) rfl).sl)) rfl rfl <| J.j rfl (qBZ (a := [120]) (b := [UInt8.ofNat (97 + i)]) rfl rfl rfl (by first | omega | (simp only [List.length_cons, List.length_nil]; omega) | decide)) rfl rfl <| J.j rfl (qAQ (l := [(0, .tmp 44), (1, .tmp 46)]) (vs := [Str (([120]) ++ ([UInt8.ofNat (97 + i)])), .agg #[Str (Wo.opn ((qAI i))), Str (Xm.root ((qAI i)) (2)), I ((2 : Nat) : Int)]]) (places := [(0, 1), (1, 3)]) (r := [Str (([120]) ++ ([UInt8.ofNat (97 + i)])), Str (Wo.opn ((qAI i))), Str (Xm.root ((qAI i)) (2)), I ((2 : Nat) : Int)]) rfl rfl rfl qIm qSx (fun _ => by kernel_rfl) rfl) rfl rfl <| J.a7 rfl (qAB rfl rfl ent34 (Ct.use1 2 (m' := fun x : Hp => x) (new := fun _ => []) rfl (fun F' hF => qMv F' mr g14 (wL i) hro (hA.mono (hF F (by simp))) (hT.mono (hF F (by simp))) (([120]) ++ ([UInt8.ofNat (97 + i)])) (Wo.opn ((qAI i))) (Xm.root ((qAI i)) (2)) ((2 : Nat) : Int) (by first | omega | exact Nat.le_of_ble_eq_true rfl | (rw [List.length_map]; omega)) (by first | omega | exact Nat.le_of_ble_eq_true rfl | (rw [List.length_map]; omega)) (by first | omega | exact Nat.le_of_ble_eq_true rfl | (rw [List.length_map]; omega)) (by first | omega | exact Nat.le_of_ble_eq_true rfl | (rw [List.length_map]; omega))))) rfl (by simp) ?_
   rintro m48 h48
   change J _ ((48, .tuple #[I (qEW (wL i) (([120]) ++ ([UInt8.ofNat (97 + i)])) (Wo.opn ((qAI i))) (Xm.root ((qAI i)) (2)) ((2 : Nat) : Int)), I (qIV (wL i) (([120]) ++ ([UInt8.ofNat (97 + i)])) (Wo.opn ((qAI i))) (Xm.root ((qAI i)) (2)) ((2 : Nat) : Int))]) :: _) _ [_, _, m48, _, _, _, _, _, _, _] _
   replace h48 := (congrArg (qId m48 g14) (qRH (i := i) (by omega))).mp h48
   refine J.G ?_
   refine J.d4 (I (qEW (wL i) (([120]) ++ ([UInt8.ofNat (97 + i)])) (Wo.opn ((qAI i))) (Xm.root ((qAI i)) (2)) ((2 : Nat) : Int))) ?_
   refine J.d4 (I (qIV (wL i) (([120]) ++ ([UInt8.ofNat (97 + i)])) (Wo.opn ((qAI i))) (Xm.root ((qAI i)) (2)) ((2 : Nat) : Int))) ?_
   refine J.c0 ?_
   refine J.c0 ?_
   refine J.b4 <| J.q (J.H hK12 ?_)
   refine J.a9 0 1 5 6 7 10 ?_
   refine J.g fun K14 hK14 => J.b rfl <| J.f ((qAx rfl rfl rfl).no (fun h => h (qTI (by omega)))) rfl <| J.c hK14 <| J.a9 0 1 5 6 7 52 ?_
   refine J.b6 ?_
   exact J.b7 <| J.q <| J.a6 (m48) hK11 (h48) ⟨rfl, rfl, rfl, rfl, rfl, trivial⟩ (fun _ h => h.pick [0, 1, 2, 3, 4, 5, 6, 8] (by decide))
  rintro m48 h48
  refine J.b5 [F, blk g16 [Ptr g13, Ptr g14, .slice kA i kc, .int .u64 0, Str [], I 0, I 0, .slice none 0 0, .int .u64 0, Str [], I 0, I 0, .slice none 0 0, .slice uA i uc] 42] [17, 18, 19, 20, 100001] (.y 0 (.y 1 (.y 2 (.y 3 (.y 4 (.y 5 (.y 6 (.y 9 (.y 10 (.y 11 (.y 12 (.br (.e 7 (.br (.e 8 (.e 13 (.e 14 (.y 15 (.y 16 (.e 17 (.e 18 (.e 19 (.e 20 .nil))))))))) (.e 13 (.e 8 (.e 14 (.y 15 (.y 16 (.e 17 (.e 18 (.e 19 (.e 20 .nil))))))))))) (.e 13 (.e 7 (.e 8 (.e 14 (.y 15 (.y 16 (.e 17 (.e 18 (.e 19 (.e 20 .nil)))))))))))))))))))))) Tryz.wide (by decide +kernel) (by simp) ?_
  refine J.G ?_
  refine J.e3 rfl (qAj rfl rfl) rfl rfl rfl ?_
  refine J.G ?_
  refine J.j rfl (qAE rfl rfl) rfl rfl <| J.j rfl (qAA (j := 2) rfl rfl qC3 rfl qQj rfl) rfl rfl <| J.j rfl (qAF 1 (v := .slice kA i kc) rfl rfl rfl isAgg35 rfl) rfl rfl <| J.G ?_
  refine J.G ?_
  refine J.j rfl (qAE rfl rfl) rfl rfl <| J.j rfl (qAA (j := 13) rfl rfl qC3 rfl qL2 rfl) rfl rfl <| J.j rfl (qAF 1 (v := .slice uA i uc) rfl rfl rfl isAgg40 rfl) rfl rfl <| J.e9 ?_ ?_
  ·
   refine J.a7 rfl (qAH (l := [.tmp 59]) (xs := [[Ptr g29]]) rfl rfl rfl rfl qOm el105 rfl (by decide) (by decide) (by simp)) rfl (by simp) fun g60 _ => ?_
   change J _ _ _ [F, m13, m48, blk g16 [Ptr g13, Ptr g14, .slice kA i kc, .int .u64 0, Str [], I 0, I 0, .slice none 0 0, .int .u64 0, Str [], I 0, I 0, .slice none 0 0, .slice uA i uc] 42, mk, G, mu, m29, blk g60 [Ptr g29] 105] _
   refine J.e9 ?_ ?_
   ·
    refine J.a7 rfl (qAb (i := 4) (xs := qC2 gs) (m2 := blk g60 [Ptr g29] 105) (ys := [[Ptr g29]]) rfl rfl rfl qOm qOm el105 rfl hkr (by simp) ((qA8 (q := True) (qC2 [g29]) rfl (by simp [qC2]) rfl).sl) rfl (by first | omega | (simp only [List.length_cons, List.length_nil]; omega) | decide) (by first | omega | (simp only [List.length_cons, List.length_nil]; omega) | decide)) rfl (by simp) ?_
    rintro ⟨A61, c61, m61⟩ h61
    try dsimp only at h61
    change J _ ((61, .slice A61 (i + 1) c61) :: _) _ [_, _, _, _, m61, _, _, _, _] _
    rw [← qEM] at h61
    refine J.a7 rfl (qAH (l := [.const ((Value.int IntKind.i64 0))]) (xs := [[I ((0 : Nat) : Int)]]) rfl rfl rfl rfl qB1 el3 rfl (by decide) (by decide) (by simp)) rfl (by simp) fun g66 _ => ?_
    change J _ _ _ [_, _, _, _, _, _, _, _, _, blk g66 [I ((0 : Nat) : Int)] 3] _
    refine J.a7 rfl (qAb (i := 6) (xs := qAu (List.replicate i 0)) (m2 := blk g66 [I ((0 : Nat) : Int)] 3) (ys := [[I ((0 : Nat) : Int)]]) rfl rfl rfl qB1 qB1 el3 rfl hur (by simp) ((qA8 (q := True) (qAu [0]) rfl (by simp [qAu]) rfl).sl) rfl (by first | omega | (simp only [List.length_cons, List.length_nil]; omega) | decide) (by first | omega | (simp only [List.length_cons, List.length_nil]; omega) | decide)) rfl (by simp) ?_
    rintro ⟨A67, c67, m67⟩ h67
    try dsimp only at h67
    change J _ ((67, .slice A67 (i + 1) c67) :: _) _ [_, _, _, _, _, _, m67, _, _, _] _
    rw [← qCl] at h67
    refine J.j rfl (qAE rfl rfl) rfl rfl <| J.j rfl (qAA (j := 2) rfl rfl qC3 rfl qQj rfl) rfl rfl <| J.c8 rfl (qAc (i := 3) (l := [Ptr g13, Ptr g14, .slice kA i kc, .int .u64 0, Str [], I 0, I 0, .slice none 0 0, .int .u64 0, Str [], I 0, I 0, .slice none 0 0, .slice uA i uc]) (vs := [.slice A61 (i + 1) c61]) rfl rfl rfl rfl rfl qQj rfl (by simp)) rfl rfl rfl fun _ _ => ?_
    change J _ _ _ [_, _, _, blk g16 [Ptr g13, Ptr g14, .slice A61 (i + 1) c61, .int .u64 0, Str [], I 0, I 0, .slice none 0 0, .int .u64 0, Str [], I 0, I 0, .slice none 0 0, .slice uA i uc] 42, _, _, _, _, _, _] _
    refine J.e1 rfl (YOp.eop (qAE rfl rfl)) rfl rfl rfl rfl ?_
    intro _ _
    refine J.e1 rfl (YOp.eop (qAA (j := 13) rfl rfl qC3 rfl qL2 rfl)) rfl rfl rfl rfl ?_
    intro _ _
    refine J.c8 rfl (qAc (i := 3) (l := [Ptr g13, Ptr g14, .slice A61 (i + 1) c61, .int .u64 0, Str [], I 0, I 0, .slice none 0 0, .int .u64 0, Str [], I 0, I 0, .slice none 0 0, .slice uA i uc]) (vs := [.slice A67 (i + 1) c67]) rfl rfl rfl rfl rfl qL2 rfl (by simp)) rfl rfl rfl fun _ _ => ?_
    change J _ _ _ [_, _, _, blk g16 [Ptr g13, Ptr g14, .slice A61 (i + 1) c61, .int .u64 0, Str [], I 0, I 0, .slice none 0 0, .int .u64 0, Str [], I 0, I 0, .slice none 0 0, .slice A67 (i + 1) c67] 42, _, _, _, _, _, _] _
    refine J.c5 [5, 7, 0, 1, 2, 3, 4, 6] [G, m29, F, m13, m48, blk g16 [Ptr g13, Ptr g14, .slice A61 (i + 1) c61, .int .u64 0, Str [], I 0, I 0, .slice none 0 0, .int .u64 0, Str [], I 0, I 0, .slice none 0 0, .slice A67 (i + 1) c67] 42, m61, m67] rfl (by decide) <| J.d9 (fun hj => ?_)
    refine J.b4 <| J.a4 <| J.q (J.H hK7 ?_)
    refine J.W 0 1 5 6 ?_
    exact J.E <| J.b rfl <| J.f ((qAO rfl rfl rfl (by first | omega | (simp only [List.length_cons, List.length_nil]; omega) | decide)).nat (i + 1) (by omega)) rfl <| J.b rfl <| J.a2 <| J.q <| J.a6 (i + 1, gs ++ [g29], A61, c61, A67, c67, m48, m61, U [G, m29], m67) (fun η (hη : _ ∧ a - η.1 < a - i) => hI0 η hη.1 hη.2) ⟨⟨by dsimp only; omega, by dsimp only; rw [List.length_append, hgl]; rfl, h48, h61, (hks.mono (qHK hj)).snoc hgl (h29.mono (qLc hj)), by dsimp only; rw [List.replicate_succ']; exact h67⟩, by first | omega | (dsimp only; omega)⟩ ⟨rfl, rfl, rfl, rfl, trivial⟩ (fun _ h => h.pick [1, 2, 3, 4, 5, 0, 6] (by decide))
   refine J.a7 rfl (qAH (l := [.const ((Value.int IntKind.i64 0))]) (xs := [[I ((0 : Nat) : Int)]]) rfl rfl rfl rfl qB1 el3 rfl (by decide) (by decide) (by simp)) rfl (by simp) fun g66 _ => ?_
   change J _ _ _ [F, m13, m48, blk g16 [Ptr g13, Ptr g14, .slice kA i kc, .int .u64 0, Str [], I 0, I 0, .slice none 0 0, .int .u64 0, Str [], I 0, I 0, .slice none 0 0, .slice uA i uc] 42, mk, G, mu, m29, blk g60 [Ptr g29] 105, blk g66 [I ((0 : Nat) : Int)] 3] _
   refine J.a7 rfl (qAb (i := 4) (xs := qC2 gs) (m2 := blk g60 [Ptr g29] 105) (ys := [[Ptr g29]]) rfl rfl rfl qOm qOm el105 rfl hkr (by simp) ((qA8 (q := True) (qC2 [g29]) rfl (by simp [qC2]) rfl).sl) rfl (by first | omega | (simp only [List.length_cons, List.length_nil]; omega) | decide) (by first | omega | (simp only [List.length_cons, List.length_nil]; omega) | decide)) rfl (by simp) ?_
   rintro ⟨A61, c61, m61⟩ h61
   try dsimp only at h61
   change J _ ((61, .slice A61 (i + 1) c61) :: _) _ [_, _, _, _, m61, _, _, _, _, _] _
   rw [← qEM] at h61
   refine J.a7 rfl (qAb (i := 6) (xs := qAu (List.replicate i 0)) (m2 := blk g66 [I ((0 : Nat) : Int)] 3) (ys := [[I ((0 : Nat) : Int)]]) rfl rfl rfl qB1 qB1 el3 rfl hur (by simp) ((qA8 (q := True) (qAu [0]) rfl (by simp [qAu]) rfl).sl) rfl (by first | omega | (simp only [List.length_cons, List.length_nil]; omega) | decide) (by first | omega | (simp only [List.length_cons, List.length_nil]; omega) | decide)) rfl (by simp) ?_
   rintro ⟨A67, c67, m67⟩ h67
   try dsimp only at h67
   change J _ ((67, .slice A67 (i + 1) c67) :: _) _ [_, _, _, _, _, _, m67, _, _, _] _
   rw [← qCl] at h67
   refine J.j rfl (qAE rfl rfl) rfl rfl <| J.j rfl (qAA (j := 2) rfl rfl qC3 rfl qQj rfl) rfl rfl <| J.c8 rfl (qAc (i := 3) (l := [Ptr g13, Ptr g14, .slice kA i kc, .int .u64 0, Str [], I 0, I 0, .slice none 0 0, .int .u64 0, Str [], I 0, I 0, .slice none 0 0, .slice uA i uc]) (vs := [.slice A61 (i + 1) c61]) rfl rfl rfl rfl rfl qQj rfl (by simp)) rfl rfl rfl fun _ _ => ?_
   change J _ _ _ [_, _, _, blk g16 [Ptr g13, Ptr g14, .slice A61 (i + 1) c61, .int .u64 0, Str [], I 0, I 0, .slice none 0 0, .int .u64 0, Str [], I 0, I 0, .slice none 0 0, .slice uA i uc] 42, _, _, _, _, _, _] _
   refine J.e1 rfl (YOp.eop (qAE rfl rfl)) rfl rfl rfl rfl ?_
   intro _ _
   refine J.e1 rfl (YOp.eop (qAA (j := 13) rfl rfl qC3 rfl qL2 rfl)) rfl rfl rfl rfl ?_
   intro _ _
   refine J.c8 rfl (qAc (i := 3) (l := [Ptr g13, Ptr g14, .slice A61 (i + 1) c61, .int .u64 0, Str [], I 0, I 0, .slice none 0 0, .int .u64 0, Str [], I 0, I 0, .slice none 0 0, .slice uA i uc]) (vs := [.slice A67 (i + 1) c67]) rfl rfl rfl rfl rfl qL2 rfl (by simp)) rfl rfl rfl fun _ _ => ?_
   change J _ _ _ [_, _, _, blk g16 [Ptr g13, Ptr g14, .slice A61 (i + 1) c61, .int .u64 0, Str [], I 0, I 0, .slice none 0 0, .int .u64 0, Str [], I 0, I 0, .slice none 0 0, .slice A67 (i + 1) c67] 42, _, _, _, _, _, _] _
   refine J.c5 [5, 7, 0, 1, 2, 3, 4, 6] [G, m29, F, m13, m48, blk g16 [Ptr g13, Ptr g14, .slice A61 (i + 1) c61, .int .u64 0, Str [], I 0, I 0, .slice none 0 0, .int .u64 0, Str [], I 0, I 0, .slice none 0 0, .slice A67 (i + 1) c67] 42, m61, m67] rfl (by decide) <| J.d9 (fun hj => ?_)
   refine J.b4 <| J.a4 <| J.q (J.H hK7 ?_)
   refine J.W 0 1 5 6 ?_
   exact J.E <| J.b rfl <| J.f ((qAO rfl rfl rfl (by first | omega | (simp only [List.length_cons, List.length_nil]; omega) | decide)).nat (i + 1) (by omega)) rfl <| J.b rfl <| J.a2 <| J.q <| J.a6 (i + 1, gs ++ [g29], A61, c61, A67, c67, m48, m61, U [G, m29], m67) (fun η (hη : _ ∧ a - η.1 < a - i) => hI0 η hη.1 hη.2) ⟨⟨by dsimp only; omega, by dsimp only; rw [List.length_append, hgl]; rfl, h48, h61, (hks.mono (qHK hj)).snoc hgl (h29.mono (qLc hj)), by dsimp only; rw [List.replicate_succ']; exact h67⟩, by first | omega | (dsimp only; omega)⟩ ⟨rfl, rfl, rfl, rfl, trivial⟩ (fun _ h => h.pick [1, 2, 3, 4, 5, 0, 6] (by decide))
  refine J.a7 rfl (qAH (l := [.const ((Value.int IntKind.i64 0))]) (xs := [[I ((0 : Nat) : Int)]]) rfl rfl rfl rfl qB1 el3 rfl (by decide) (by decide) (by simp)) rfl (by simp) fun g66 _ => ?_
  change J _ _ _ [F, m13, m48, blk g16 [Ptr g13, Ptr g14, .slice kA i kc, .int .u64 0, Str [], I 0, I 0, .slice none 0 0, .int .u64 0, Str [], I 0, I 0, .slice none 0 0, .slice uA i uc] 42, mk, G, mu, m29, blk g66 [I ((0 : Nat) : Int)] 3] _
  refine J.a7 rfl (qAH (l := [.tmp 59]) (xs := [[Ptr g29]]) rfl rfl rfl rfl qOm el105 rfl (by decide) (by decide) (by simp)) rfl (by simp) fun g60 _ => ?_
  change J _ _ _ [_, _, _, _, _, _, _, _, _, blk g60 [Ptr g29] 105] _
  refine J.a7 rfl (qAb (i := 4) (xs := qC2 gs) (m2 := blk g60 [Ptr g29] 105) (ys := [[Ptr g29]]) rfl rfl rfl qOm qOm el105 rfl hkr (by simp) ((qA8 (q := True) (qC2 [g29]) rfl (by simp [qC2]) rfl).sl) rfl (by first | omega | (simp only [List.length_cons, List.length_nil]; omega) | decide) (by first | omega | (simp only [List.length_cons, List.length_nil]; omega) | decide)) rfl (by simp) ?_
  rintro ⟨A61, c61, m61⟩ h61
  try dsimp only at h61
  change J _ ((61, .slice A61 (i + 1) c61) :: _) _ [_, _, _, _, m61, _, _, _, _, _] _
  rw [← qEM] at h61
  refine J.a7 rfl (qAb (i := 6) (xs := qAu (List.replicate i 0)) (m2 := blk g66 [I ((0 : Nat) : Int)] 3) (ys := [[I ((0 : Nat) : Int)]]) rfl rfl rfl qB1 qB1 el3 rfl hur (by simp) ((qA8 (q := True) (qAu [0]) rfl (by simp [qAu]) rfl).sl) rfl (by first | omega | (simp only [List.length_cons, List.length_nil]; omega) | decide) (by first | omega | (simp only [List.length_cons, List.length_nil]; omega) | decide)) rfl (by simp) ?_
  rintro ⟨A67, c67, m67⟩ h67
  try dsimp only at h67
  change J _ ((67, .slice A67 (i + 1) c67) :: _) _ [_, _, _, _, _, _, m67, _, _, _] _
  rw [← qCl] at h67
  refine J.j rfl (qAE rfl rfl) rfl rfl <| J.j rfl (qAA (j := 2) rfl rfl qC3 rfl qQj rfl) rfl rfl <| J.c8 rfl (qAc (i := 3) (l := [Ptr g13, Ptr g14, .slice kA i kc, .int .u64 0, Str [], I 0, I 0, .slice none 0 0, .int .u64 0, Str [], I 0, I 0, .slice none 0 0, .slice uA i uc]) (vs := [.slice A61 (i + 1) c61]) rfl rfl rfl rfl rfl qQj rfl (by simp)) rfl rfl rfl fun _ _ => ?_
  change J _ _ _ [_, _, _, blk g16 [Ptr g13, Ptr g14, .slice A61 (i + 1) c61, .int .u64 0, Str [], I 0, I 0, .slice none 0 0, .int .u64 0, Str [], I 0, I 0, .slice none 0 0, .slice uA i uc] 42, _, _, _, _, _, _] _
  refine J.e1 rfl (YOp.eop (qAE rfl rfl)) rfl rfl rfl rfl ?_
  intro _ _
  refine J.e1 rfl (YOp.eop (qAA (j := 13) rfl rfl qC3 rfl qL2 rfl)) rfl rfl rfl rfl ?_
  intro _ _
  refine J.c8 rfl (qAc (i := 3) (l := [Ptr g13, Ptr g14, .slice A61 (i + 1) c61, .int .u64 0, Str [], I 0, I 0, .slice none 0 0, .int .u64 0, Str [], I 0, I 0, .slice none 0 0, .slice uA i uc]) (vs := [.slice A67 (i + 1) c67]) rfl rfl rfl rfl rfl qL2 rfl (by simp)) rfl rfl rfl fun _ _ => ?_
  change J _ _ _ [_, _, _, blk g16 [Ptr g13, Ptr g14, .slice A61 (i + 1) c61, .int .u64 0, Str [], I 0, I 0, .slice none 0 0, .int .u64 0, Str [], I 0, I 0, .slice none 0 0, .slice A67 (i + 1) c67] 42, _, _, _, _, _, _] _
  refine J.c5 [5, 7, 0, 1, 2, 3, 4, 6] [G, m29, F, m13, m48, blk g16 [Ptr g13, Ptr g14, .slice A61 (i + 1) c61, .int .u64 0, Str [], I 0, I 0, .slice none 0 0, .int .u64 0, Str [], I 0, I 0, .slice none 0 0, .slice A67 (i + 1) c67] 42, m61, m67] rfl (by decide) <| J.d9 (fun hj => ?_)
  refine J.b4 <| J.a4 <| J.q (J.H hK7 ?_)
  refine J.W 0 1 5 6 ?_
  exact J.E <| J.b rfl <| J.f ((qAO rfl rfl rfl (by first | omega | (simp only [List.length_cons, List.length_nil]; omega) | decide)).nat (i + 1) (by omega)) rfl <| J.b rfl <| J.a2 <| J.q <| J.a6 (i + 1, gs ++ [g29], A61, c61, A67, c67, m48, m61, U [G, m29], m67) (fun η (hη : _ ∧ a - η.1 < a - i) => hI0 η hη.1 hη.2) ⟨⟨by dsimp only; omega, by dsimp only; rw [List.length_append, hgl]; rfl, h48, h61, (hks.mono (qHK hj)).snoc hgl (h29.mono (qLc hj)), by dsimp only; rw [List.replicate_succ']; exact h67⟩, by first | omega | (dsimp only; omega)⟩ ⟨rfl, rfl, rfl, rfl, trivial⟩ (fun _ h => h.pick [1, 2, 3, 4, 5, 0, 6] (by decide))
 refine J.b0 <| J.Z <| J.Z <| J.b1 ?_
 refine J.q (J.H hK3 ?_)
 refine J.V 0 1 5 ?_
 refine J.k fun K15 hK15 => ?_
 obtain rfl : a = i := by omega
 obtain ⟨A3, n3, c3, hcA, hsA, hnA⟩ := hro.see
 have hwl := qJW a
 have hfi := qCP ha
 refine J.b5 [F, blk g16 [Ptr g13, Ptr g14, .slice kA a kc, .int .u64 0, Str [], I 0, I 0, .slice none 0 0, .int .u64 0, Str [], I 0, I 0, .slice none 0 0, .slice uA a uc] 42] [] (.y 0 (.y 1 (.y 2 (.y 3 (.y 4 (.y 5 (.y 6 (.y 7 (.e 8 .nil))))))))) Tryz.wide (by decide +kernel) (by simp) ?_
 refine J.G ?_
 refine J.j rfl (qAE rfl rfl) rfl rfl <| J.j rfl (qAA (j := 1) rfl rfl qC3 rfl sizeOf34 rfl) rfl rfl <| J.j rfl (qAF 1 (v := Ptr g14) rfl rfl rfl isAgg34 rfl) rfl rfl <| J.G ?_
 refine J.j rfl (qAE rfl rfl) rfl rfl <| J.j rfl (qAA (j := 0) rfl rfl qC3 rfl sizeOf33 rfl) rfl rfl <| J.j rfl (qAF 1 (v := Ptr g13) rfl rfl rfl isAgg33 rfl) rfl rfl <| J.a7 rfl (qAB rfl rfl ent36 (Ct.use1 1 (m' := fun x : Hp => x) (new := fun _ => []) rfl (fun F' hF => qR0 F' m13 (hK.mo hF) g14 A3 n3 c3 (wL a) (hsA.mono (hF mr (by simp))) (by omega) (hcA.mono (hF mr (by simp))) g13 [] h13 (qOe ha) (by omega)))) rfl (by simp) ?_
 rintro m80 h80
 change J _ _ _ [F, m80, mr, blk g16 [Ptr g13, Ptr g14, .slice kA a kc, .int .u64 0, Str [], I 0, I 0, .slice none 0 0, .int .u64 0, Str [], I 0, I 0, .slice none 0 0, .slice uA a uc] 42, mk, G, mu] _
 rw [show n3 = a by omega, lay_w ha] at h80
 refine J.b4 <| J.q (J.H hK15 ?_)
 refine J.V 0 1 5 ?_
 refine J.g fun K16 hK16 => J.b rfl <| J.f (qAE rfl rfl) rfl <| J.a8 0 qC3 sizeOf33 rfl rfl rfl rfl rfl <| J.f (qAF 3 (v := Ptr g13) rfl rfl rfl isAgg33 rfl) rfl <| J.b rfl <| J.u (qAB rfl rfl ent37 (Ct.use (new := fun x : Option Addr × Nat × Hp => [x.2.2]) (fun F' hF => qOB F' (hK.mo hF) g13 (qAD a) (h80.at.mono (hF m80 (by simp))) (by assumption) d (by omega)))) rfl ?_
 rintro ⟨A87, c87, m87⟩ h87
 try dsimp only at h87
 change J _ ((87, .tuple #[.slice A87 (qAT (qAD a) d).length c87, I ((0 : Nat) : Int)]) :: _) _ [_, _, _, _, _, _, _, m87] _
 refine J.p 5 rfl <| J.c hK16 <| J.a3 0 1 5 11 12 ?_
 refine J.k fun K17 hK17 => J.g fun K18 hK18 => J.b rfl <| J.f ((qAx rfl rfl rfl).no (fun h => h rfl)) rfl <| J.c hK18 <| J.a3 0 1 5 11 91 ?_
 refine J.b6 ?_
 refine J.a1 hK17 <| J.W 0 1 5 11 ?_
 refine J.g fun K19 hK19 => J.p 4 rfl <| J.f (qAQ (l := [(1, .const ((Value.string (ByteArray.mk #[0, 0, 0, 0, 0, 0, 0, 0, 0, 0, 0, 0, 0, 0, 0, 0])))), (2, .tmp 93), (3, .tmp 94), (4, .tmp 95)]) (vs := [Str ([0, 0, 0, 0, 0, 0, 0, 0, 0, 0, 0, 0, 0, 0, 0, 0]), I ((d : Nat) : Int), I ((a : Nat) : Int), .slice A87 ((qAT (qAD a) d).length) c87]) (places := [(0, 1), (1, 1), (2, 1), (3, 1), (4, 1)]) (r := [.int .u64 0, Str ([0, 0, 0, 0, 0, 0, 0, 0, 0, 0, 0, 0, 0, 0, 0, 0]), I ((d : Nat) : Int), I ((a : Nat) : Int), .slice A87 ((qAT (qAD a) d).length) c87]) rfl rfl rfl qEb zeroValue39 (fun _ => by kernel_rfl) rfl) rfl <| J.f (qAE rfl rfl) rfl <| J.a8 3 qC3 qB6 rfl rfl rfl rfl rfl <| J.c1 (qAc (i := 3) (vs := [N64 0, Str qBw, I ((d : Nat) : Int), I ((a : Nat) : Int), .slice A87 (qAT (qAD a) d).length c87]) rfl rfl rfl rfl rfl qB6 rfl (by simp)) rfl rfl fun _ _ => ?_
 change J _ _ _ [_, _, _, blk g16 [Ptr g13, Ptr g14, .slice kA a kc, N64 0, Str qBw, I ((d : Nat) : Int), I ((a : Nat) : Int), .slice A87 (qAT (qAD a) d).length c87, .int .u64 0, Str [], I 0, I 0, .slice none 0 0, .slice uA a uc] 42, _, _, _, _] _
 refine J.c hK19 <| J.W 0 1 5 11 ?_
 refine J.g fun K20 hK20 => J.p 2 rfl <| J.f (qAE rfl rfl) rfl <| J.a8 3 qC3 qB6 rfl rfl rfl rfl rfl <| J.f (qAh (vs := [N64 0, Str qBw, I ((d : Nat) : Int), I ((a : Nat) : Int), .slice A87 (qAT (qAD a) d).length c87]) rfl rfl qEH qB6 (m := blk g16 [Ptr g13, Ptr g14, .slice kA a kc, N64 0, Str qBw, I ((d : Nat) : Int), I ((a : Nat) : Int), .slice A87 (qAT (qAD a) d).length c87, .int .u64 0, Str [], I 0, I 0, .slice none 0 0, .slice uA a uc] 42) (by simp) (qAV.blk 3 (fun j u hj => match j, hj with | 0, h => h | 1, h => h | 2, h => h | 3, h => h | 4, h => h)) rfl) rfl <| J.u (qAB rfl rfl ent11 (Ct.use0 (fun F' hF => qCA F' (hK.mo hF) (pW a d) A87 c87 (qCS a hd) (h87.sl.mono (hF m87 (by simp)))))) rfl fun g104 _ => J.p 3 rfl <| J.f (qAQ (l := [(0, .const ((Value.int IntKind.u64 1))), (1, .tmp 104), (2, .tmp 105), (3, .tmp 106), (4, .tmp 107)]) (vs := [N64 (1), Str ((pW a d).dig), I ((d : Nat) : Int), I ((a : Nat) : Int), .slice A87 ((qAT (qAD a) d).length) c87]) (places := [(0, 1), (1, 1), (2, 1), (3, 1), (4, 1)]) (r := [N64 (1), Str ((pW a d).dig), I ((d : Nat) : Int), I ((a : Nat) : Int), .slice A87 ((qAT (qAD a) d).length) c87]) rfl rfl rfl qEb zeroValue39 (fun _ => by kernel_rfl) rfl) rfl <| J.f (qAE rfl rfl) rfl <| J.a8 8 qC3 qB6 rfl rfl rfl rfl rfl <| J.c1 (qAc (i := 3) (vs := [N64 1, Str (pW a d).dig, I ((d : Nat) : Int), I ((a : Nat) : Int), .slice A87 (qAT (qAD a) d).length c87]) rfl rfl rfl rfl rfl qB6 rfl (by simp)) rfl rfl fun _ _ => ?_
 change J _ _ _ [_, _, _, blk g16 [Ptr g13, Ptr g14, .slice kA a kc, N64 0, Str qBw, I ((d : Nat) : Int), I ((a : Nat) : Int), .slice A87 (qAT (qAD a) d).length c87, N64 1, Str (pW a d).dig, I ((d : Nat) : Int), I ((a : Nat) : Int), .slice A87 (qAT (qAD a) d).length c87, .slice uA a uc] 42, _, _, _, _] _
 refine J.c hK20 <| J.A 5 ?_
 refine J.g fun K21 hK21 => J.p 2 rfl <| J.c hK21 <| J.A 4 ?_
 exact J.D <| J.L hw0 rfl (⟨g16, g13, g14, gs, kA, kc, A87, c87, uA, uc, m80, mr, mk, G, mu, m87⟩ : WdR) rfl ⟨hgl, hro, hkr, hks, hur, h80, h87⟩ [0, 3, 1, 2, 4, 5, 6, 7] rfl (by decide)
theorem ent46 : qAC prog 46 := qAC.of func46 rfl (by kernel_rfl)
theorem qDE (a : Nat) {d : Nat} (hd : d ≤ 1) (hp : (pW a d).dig.length = 16) : (nW a d).good := ⟨by show 1 < _; decide, by show (pW a d).dig.length ≤ _; rw [hp]; decide, by have := qFZ a hd; show (qAT (qAD a) d).length ≤ _; omega⟩
structure VoR where
 A1 : Option Addr
 c1 : Nat
 m1 : Hp
 A2 : Option Addr
 c2 : Nat
 m2 : Hp
 s : Nat
 A3 : Option Addr
 c3 : Nat
 m3 : Hp
 mr : Hp
 mu : Hp
def vtW (a d nm b : Nat) (us : List Nat) (r : VoR) : VtD := ⟨1, b, (nW a d).dig, nm, us.getD nm 0 % 4, r.A1, r.c1, (sgC (qAI nm) (us.getD nm 0 % 4) (atM 1 b nm (nW a d).dig)), r.A2, r.c2, (sgP (qAI nm) 2 (us.getD nm 0 % 4)), wN nm, Wo.opn (qAI nm), Xm.root (qAI nm) 2, 2, r.A3, r.c3, (bsd (qAD a) (qAM nm) 0 (r.s - 0)), qAv (qAD a) (qAM nm) r.s, qCT (qAD a) (qAM nm) r.s, qCd (qAD a) (qAM nm) r.s⟩
structure VoP (a d nm b : Nat) (us : List Nat) (gr : Nat) (uA : Option Addr) (uc : Nat) (r : VoR) : Prop where
 r1 : Row r.m1 9 1 r.A1 (sgC (qAI nm) (us.getD nm 0 % 4) (atM 1 b nm (nW a d).dig)).length r.c1 (qAL (sgC (qAI nm) (us.getD nm 0 % 4) (atM 1 b nm (nW a d).dig)))
 r2 : Row r.m2 9 1 r.A2 (sgP (qAI nm) 2 (us.getD nm 0 % 4)).length r.c2 (qAL (sgP (qAI nm) 2 (us.getD nm 0 % 4)))
 st : qLz (qAD a) (qAM nm) 0 r.s
 r3 : Row r.m3 9 1 r.A3 (bsd (qAD a) (qAM nm) 0 (r.s - 0)).length r.c3 (qAL (bsd (qAD a) (qAM nm) 0 (r.s - 0)))
 ro : qId r.mr gr (wL a)
 ur : Row r.mu 3 1 uA a uc (qAu (us.set nm (us.getD nm 0 + 1)))
theorem atW {a nm : Nat} (h : nm < a) : atA (wL a) ((nm : Nat) : Int) = wA nm := by
 unfold atA
 rw [if_pos (by rw [qJW]; omega)]; exact qQo h
theorem qIj (F mr mu : Hp) (hK : KF F) (a d nm b gw gt gr kc nn nc uc gu : Nat) (kA nA : Option Addr) (gs us : List Nat) (ha : a ≤ 5) (hd : d ≤ 1) (hnm : nm < a) (hb : b < 16) (hpd : (pW a d).dig.length = 16) (hnd : (nW a d).dig.length = 16) (hw : qAV F ⟨gw, 0, none⟩ (wdC gt gr kA a kc nA nn nc a d (some ⟨gu, 0, none⟩) uc)) (hgl : gs.length = a) (hkr : Sl F 1 kA a kc (qC2 gs)) (hks : qEY F gs) (hro : qId mr gr (wL a)) (hul : us.length = a) (hu0 : ∀ j, us.getD j 0 ≤ 1000000) (hur : Row mu 3 1 (some ⟨gu, 0, none⟩) a uc (qAu us)) (hT : qEX F gt (qAD a)) (hnl : (qAT (qAD a) d).length = nn) (hnr : Sl F 1 nA nn nc (qAL (qAT (qAD a) d))) : Ct prog 12 [Ptr gw, I ((nm : Nat) : Int), I ((b : Nat) : Int)] [mr, mu, F] (fun r : VoR => .agg (vtW a d nm b us r).cells.toArray) (fun r => VoP a d nm b us gr (some ⟨gu, 0, none⟩) uc r) (fun r => [r.mr, r.mu, F, r.m1, r.m2, r.m3]) := by
 have hks1 := hks nm (by omega)
 have hfi := qCP ha
 have hus := hu0 nm
 have hpk := qCc nm
 refine Ct.walk func12 rfl ntmps12 rfl (fun w0 hw0 => ?_)
 change J _ [(0, _), (1, _), (2, _)] _ _ _
 refine J.g fun K1 hK1 => J.u (qAf (l := [.int .u64 0, I 0, Str [], I 0, I 0, .slice none 0 0, .slice none 0 0, Str [], Str [], Str [], I 0, .slice none 0 0, .bool false, Str [], Str []]) rfl qUK rfl) rfl fun g6 _ => ?_
 change J _ _ _ [mr, mu, F, blk g6 [.int .u64 0, I 0, Str [], I 0, I 0, .slice none 0 0, .slice none 0 0, Str [], Str [], Str [], I 0, .slice none 0 0, .bool false, Str [], Str []] 60] _
 refine J.c hK1 <| J.W 0 1 2 6 ?_
 refine J.g fun K2 hK2 => J.p 2 rfl <| J.f (qAE rfl rfl) rfl <| J.a8 8 qC3 qB6 rfl rfl rfl rfl rfl <| J.f (qAh (vs := [N64 1, Str ((pW a d).dig), I ((d : Nat) : Int), I ((a : Nat) : Int), .slice nA nn nc]) rfl rfl qEH qB6 (m := F) (by simp) (hw.sub 8 5) rfl) rfl <| J.u (qAB rfl rfl ent11 (Ct.use0 (fun F' hF => (by have := qCA F' (hK.mo hF) (nW a d) nA nc (qDE a hd hpd) (by rw [show (nW a d).nodes.length = nn from hnl]; exact hnr.mono (hF F (by simp))); rw [show (nW a d).nodes.length = nn from hnl] at this; exact this)))) rfl fun g17 _ => J.b rfl <| J.f (qAQ (l := [(0, .const ((Value.int IntKind.u64 1))), (1, .tmp 12), (2, .tmp 17), (3, .tmp 18)]) (vs := [N64 (1), I ((b : Nat) : Int), Str ((nW a d).dig), I ((nm : Nat) : Int)]) (places := [(0, 1), (1, 1), (2, 1), (3, 1), (4, 3)]) (r := [N64 (1), I ((b : Nat) : Int), Str ((nW a d).dig), I ((nm : Nat) : Int), I 0, .slice none 0 0, .slice none 0 0]) rfl rfl rfl qE5 zeroValue52 (fun _ => by kernel_rfl) (by kernel_rfl)) rfl <| J.u (qAf (l := [.int .u64 0, I 0, Str [], I 0, I 0, .slice none 0 0, .slice none 0 0]) rfl zeroValue52 rfl) rfl fun g7 _ => ?_
 change J _ _ _ [_, _, _, _, blk g7 [.int .u64 0, I 0, Str [], I 0, I 0, .slice none 0 0, .slice none 0 0] 52] _
 refine J.c1 (qAR (i := 4) (l := [.int .u64 0, I 0, Str [], I 0, I 0, .slice none 0 0, .slice none 0 0]) (vs := [N64 (1), I ((b : Nat) : Int), Str ((nW a d).dig), I ((nm : Nat) : Int), I 0, .slice none 0 0, .slice none 0 0]) rfl rfl rfl rfl rfl qFv rfl rfl) rfl rfl fun _ _ => ?_
 change J _ _ _ [_, _, _, _, blk g7 [N64 (1), I ((b : Nat) : Int), Str ((nW a d).dig), I ((nm : Nat) : Int), I 0, .slice none 0 0, .slice none 0 0] 52] _
 refine J.c hK2 <| J.W 0 1 6 7 ?_
 refine J.k fun K3 hK3 => J.b5 [F, blk g7 [N64 (1), I ((b : Nat) : Int), Str ((nW a d).dig), I ((nm : Nat) : Int), I 0, .slice none 0 0, .slice none 0 0] 52, mu] [22, 100020] (.y 0 (.y 1 (.y 2 (.y 3 (.y 4 (.y 5 (.y 6 (.y 7 (.y 8 (.y 9 (.y 10 (.y 11 (.y 12 (.y 13 (.y 14 (.y 15 (.e 16 (.e 17 (.y 18 (.y 19 (.y 20 (.y 21 (.e 22 .nil))))))))))))))))))))))) Tryz.wide (by decide +kernel) (by simp) ?_
 refine J.G ?_
 refine J.j rfl (qAE rfl rfl) rfl rfl <| J.j rfl (qAA (j := 2) rfl rfl qC3 rfl qQj rfl) rfl rfl <| J.j rfl (qAK (v := .slice kA a kc) rfl rfl isAgg35 (m := F) (by simp) (hw.at (i := 2) rfl)) rfl rfl <| J.G ?_
 refine J.j rfl (qAG (i := nm) rfl rfl rfl qOm sizeOf105 hkr (by omega)) rfl rfl <| J.j rfl (qAK rfl rfl isAgg105 (m := F) (by simp) (hkr.elem (qMy (by omega)))) rfl rfl <| J.G ?_
 refine J.j rfl (qAE rfl rfl) rfl rfl <| J.j rfl (qAA (j := 13) rfl rfl qC3 rfl qL2 rfl) rfl rfl <| J.j rfl (qAK (v := .slice (some ⟨gu, 0, none⟩) a uc) rfl rfl isAgg40 (m := F) (by simp) (hw.at (i := 13) rfl)) rfl rfl <| J.G ?_
 refine J.j rfl (qAJ (i := nm) (j := 0 + nm * 1) rfl rfl rfl qB1 z3_ (by omega) (by omega)) rfl rfl <| J.j rfl (qAK rfl rfl b3_ (m := mu) (by simp) (hur.sl.cells (qBA (by omega)))) rfl rfl <| J.j rfl ((qJz 2 rfl rfl rfl (by decide) (by decide)).nat (us.getD nm 0 % 4) (by omega)) rfl rfl <| J.j rfl (qAk 1 rfl rfl rfl isAgg52 qFv rfl) rfl rfl <| J.a7 rfl (qAB rfl rfl ent22 (Ct.use0 (fun F' hF => qFq F' (hK.mo hF) 1 b nm (nW a d).dig 0 none none 0 0 0 0 (by decide) (by omega) (by omega) hnd))) rfl (by simp) fun g37 _ => J.a7 rfl (qAB rfl rfl ent45 (Ct.use (new := fun x : (Option Addr × Nat × Hp) × (Option Addr × Nat × Hp) => [x.1.2.2, x.2.2.2]) (fun F' hF => qL3 F' (hK.mo hF) (gs.getD nm 0) (qAI nm) 2 (hks1.mono (hF F (by simp))) (Nat.le_of_ble_eq_true rfl) (by decide) (us.getD nm 0 % 4) (Nat.mod_lt _ (by decide)) (atM 1 b nm (nW a d).dig) (by rw [qOH]; decide)))) rfl (by simp) ?_
 rintro ⟨⟨A1, c1, m1⟩, A2, c2, m2⟩ ⟨h1, h2⟩
 change J _ ((38, .tuple #[.agg #[I ((us.getD nm 0 % 4 : Nat) : Int), .slice A1 (sgC (qAI nm) (us.getD nm 0 % 4) (atM 1 b nm (nW a d).dig)).length c1, .slice A2 (sgP (qAI nm) 2 (us.getD nm 0 % 4)).length c2], I 0]) :: _) _ [_, _, _, _, _, m1, m2] _
 refine J.G ?_
 refine J.d4 (.agg #[I ((us.getD nm 0 % 4 : Nat) : Int), .slice A1 (sgC (qAI nm) (us.getD nm 0 % 4) (atM 1 b nm (nW a d).dig)).length c1, .slice A2 (sgP (qAI nm) 2 (us.getD nm 0 % 4)).length c2]) ?_
 refine J.e3 rfl (qAm (v := I ((0 : Nat) : Int)) rfl rfl rfl) rfl rfl rfl ?_
 refine J.j rfl (qAA (j := 4) rfl rfl qE5 rfl sizeOf50 rfl) rfl rfl <| J.c8 rfl (qAc (i := 4) (l := [N64 (1), I ((b : Nat) : Int), Str ((nW a d).dig), I ((nm : Nat) : Int), I 0, .slice none 0 0, .slice none 0 0]) (vs := [I ((us.getD nm 0 % 4 : Nat) : Int), .slice A1 (sgC (qAI nm) (us.getD nm 0 % 4) (atM 1 b nm (nW a d).dig)).length c1, .slice A2 (sgP (qAI nm) 2 (us.getD nm 0 % 4)).length c2]) rfl rfl rfl rfl rfl sizeOf50 rfl (by simp)) rfl rfl rfl fun _ _ => ?_
 change J _ _ _ [_, _, _, _, blk g7 [N64 (1), I ((b : Nat) : Int), Str ((nW a d).dig), I ((nm : Nat) : Int), I ((us.getD nm 0 % 4 : Nat) : Int), .slice A1 (sgC (qAI nm) (us.getD nm 0 % 4) (atM 1 b nm (nW a d).dig)).length c1, .slice A2 (sgP (qAI nm) 2 (us.getD nm 0 % 4)).length c2] 52, _, _] _
 refine J.b4 <| J.q (J.H hK3 ?_)
 refine J.W 0 1 6 7 ?_
 refine J.g fun K4 hK4 => J.b rfl <| J.f (qAE rfl rfl) rfl <| J.a8 13 qC3 qL2 rfl rfl rfl rfl rfl <| J.f (qAK (v := .slice (some ⟨gu, 0, none⟩) a uc) rfl rfl isAgg40 (m := F) (by simp) (hw.at (i := 13) rfl)) rfl <| J.b rfl <| J.f (qAJ (i := nm) (j := 0 + nm * 1) rfl rfl rfl qB1 z3_ (by omega) (by omega)) rfl <| J.f (qAK rfl rfl b3_ (m := mu) (by simp) (hur.sl.cells (qBA (by omega)))) rfl <| J.f ((qAO rfl rfl rfl (by omega)).nat (us.getD nm 0 + 1) (by omega)) rfl <| J.f (qAJ (i := nm) (j := 0 + nm * 1) rfl rfl rfl qB1 z3_ (by omega) (by omega)) rfl <| J.c1 (qA9 (i := 1) (k := nm) (off := 0) (b := [I ((us.getD nm 0 + 1 : Nat) : Int)]) rfl rfl rfl rfl hur (vs := [I ((us.getD nm 0 + 1 : Nat) : Int)]) rfl z3_ rfl (by omega) (qBA (by omega)) rfl (Nat.le_refl _)) rfl rfl ?_
 rintro m3_1 hm3_1
 change J _ _ _ [_, m3_1, _, _, _, _, _] _
 rw [qEA] at hm3_1
 refine J.c hK4 <| J.W 0 1 6 7 ?_
 refine J.g fun K5 hK5 => J.b rfl <| J.f (qAE rfl rfl) rfl <| J.a8 1 qC3 sizeOf34 rfl rfl rfl rfl rfl <| J.f (qAK (v := Ptr gr) rfl rfl isAgg34 (m := F) (by simp) (hw.at (i := 1) rfl)) rfl <| J.b rfl <| J.u (qAB rfl rfl ent46 (Ct.use1 0 (m' := fun _ : Unit => mr) (new := fun _ => []) rfl (fun F' hF => qTk F' mr gr (wL a) hro ((nm : Nat) : Int)))) rfl ?_
 rintro _ _
 change J _ _ _ [_, _, _, _, _, _, _] _
 rw [atW hnm]
 refine J.p 3 rfl <| J.u (qAf (l := [Str [], Str [], Str [], I 0]) rfl qSx rfl) rfl fun g8 _ => ?_
 change J _ _ _ [_, _, _, _, _, _, _, blk g8 [Str [], Str [], Str [], I 0] 56] _
 refine J.c1 (qAR (i := 7) (l := [Str [], Str [], Str [], I 0]) (vs := [Str (wN nm), Str (Wo.opn (qAI nm)), Str (Xm.root (qAI nm) 2), I ((2 : Nat) : Int)]) rfl rfl rfl rfl rfl qE2 rfl rfl) rfl rfl fun _ _ => ?_
 change J _ _ _ [_, _, _, _, _, _, _, blk g8 [Str (wN nm), Str (Wo.opn (qAI nm)), Str (Xm.root (qAI nm) 2), I ((2 : Nat) : Int)] 56] _
 refine J.b rfl <| J.c hK5 <| J.a3 0 1 6 7 8 ?_
 refine J.k fun K6 hK6 => J.b5 [F] [11, 12, 100009] (.y 0 (.y 1 (.y 2 (.y 3 (.y 4 (.br (.e 5 (.br (.e 6 (.y 7 (.y 8 (.y 9 (.e 10 (.e 11 (.e 12 .nil))))))) (.e 10 (.e 6 (.y 7 (.y 8 (.y 9 (.e 11 (.e 12 .nil))))))))) (.e 10 (.e 5 (.e 6 (.y 7 (.y 8 (.y 9 (.e 11 (.e 12 .nil)))))))))))))) Tryz.wide (by decide +kernel) (by simp) ?_
 refine J.G ?_
 refine J.j rfl (qAE rfl rfl) rfl rfl <| J.j rfl (qAA (j := 0) rfl rfl qC3 rfl sizeOf33 rfl) rfl rfl <| J.j rfl (qAK (v := Ptr gt) rfl rfl isAgg33 (m := F) (by simp) (hw.at (i := 0) rfl)) rfl rfl <| J.G ?_
 refine J.e9 ?_ ?_
 ·
  refine J.a7 rfl (qAB rfl rfl ent48 (Ct.use0 (fun F' hF => qDP F' (hK.mo hF) nm (by omega)))) rfl (by simp) fun g66 _ => J.e9 ?_ ?_
  ·
   refine J.a7 rfl (qAB rfl rfl ent47 (Ct.use (new := fun x : Nat × Option Addr × Nat × Hp => [x.2.2.2]) (fun F' hF => qGy F' (hK.mo hF) gt (qAD a) (hT.mono (hF F (by simp))) hfi (qAM nm) hpk 0 (by omega)))) rfl (by simp) ?_
   rintro ⟨s3, A3, c3, m3⟩ ⟨hst, h3⟩
   change J _ ((67, .tuple #[.agg #[.slice A3 (bsd (qAD a) (qAM nm) 0 (s3 - 0)).length c3, .bool (qAv (qAD a) (qAM nm) s3), Str (qCT (qAD a) (qAM nm) s3), Str (qCd (qAD a) (qAM nm) s3)], I 0]) :: _) _ [_, _, _, _, _, _, _, _, m3] _
   refine J.G ?_
   refine J.d4 (.agg #[.slice A3 (bsd (qAD a) (qAM nm) 0 (s3 - 0)).length c3, .bool (qAv (qAD a) (qAM nm) s3), Str (qCT (qAD a) (qAM nm) s3), Str (qCd (qAD a) (qAM nm) s3)]) ?_
   refine J.e3 rfl (qAm (v := I ((0 : Nat) : Int)) rfl rfl rfl) rfl rfl rfl ?_
   refine J.a7 rfl (qAf (l := [.slice none 0 0, .bool false, Str [], Str []]) rfl qUL rfl) rfl (by simp) fun g10 _ => ?_
   change J _ _ _ [_, _, _, _, _, _, _, _, _, blk g10 [.slice none 0 0, .bool false, Str [], Str []] 58] _
   refine J.c8 rfl (qAR (i := 9) (l := [.slice none 0 0, .bool false, Str [], Str []]) (vs := [.slice A3 (bsd (qAD a) (qAM nm) 0 (s3 - 0)).length c3, .bool (qAv (qAD a) (qAM nm) s3), Str (qCT (qAD a) (qAM nm) s3), Str (qCd (qAD a) (qAM nm) s3)]) rfl rfl rfl rfl rfl qGd rfl rfl) rfl rfl rfl fun _ _ => ?_
   change J _ _ _ [_, _, _, _, _, _, _, _, _, blk g10 [.slice A3 (bsd (qAD a) (qAM nm) 0 (s3 - 0)).length c3, .bool (qAv (qAD a) (qAM nm) s3), Str (qCT (qAD a) (qAM nm) s3), Str (qCd (qAD a) (qAM nm) s3)] 58] _
   refine J.e1 rfl (YOp.eop (qCh rfl rfl)) rfl rfl rfl rfl ?_
   intro _ _
   refine J.b4 <| J.q (J.H hK6 ?_)
   refine J.W 6 7 8 10 ?_
   refine J.g fun K7 hK7 => J.c7 4 isAgg52 qFv rfl rfl rfl rfl rfl <| J.c7 7 qLq qE2 rfl rfl rfl rfl rfl <| J.c7 9 qLp qGd rfl rfl rfl rfl rfl <| J.f (qAQ (l := [(0, .tmp 70), (1, .tmp 71), (2, .tmp 72)]) (vs := [.agg #[N64 (1), I ((b : Nat) : Int), Str ((nW a d).dig), I ((nm : Nat) : Int), I ((us.getD nm 0 % 4 : Nat) : Int), .slice A1 (sgC (qAI nm) (us.getD nm 0 % 4) (atM 1 b nm (nW a d).dig)).length c1, .slice A2 (sgP (qAI nm) 2 (us.getD nm 0 % 4)).length c2], .agg #[Str (wN nm), Str (Wo.opn (qAI nm)), Str (Xm.root (qAI nm) 2), I ((2 : Nat) : Int)], .agg #[.slice A3 (bsd (qAD a) (qAM nm) 0 (s3 - 0)).length c3, .bool (qAv (qAD a) (qAM nm) s3), Str (qCT (qAD a) (qAM nm) s3), Str (qCd (qAD a) (qAM nm) s3)]]) (places := [(0, 7), (7, 4), (11, 4)]) (r := [N64 (1), I ((b : Nat) : Int), Str ((nW a d).dig), I ((nm : Nat) : Int), I ((us.getD nm 0 % 4 : Nat) : Int), .slice A1 (sgC (qAI nm) (us.getD nm 0 % 4) (atM 1 b nm (nW a d).dig)).length c1, .slice A2 (sgP (qAI nm) 2 (us.getD nm 0 % 4)).length c2, Str (wN nm), Str (Wo.opn (qAI nm)), Str (Xm.root (qAI nm) 2), I ((2 : Nat) : Int), .slice A3 (bsd (qAD a) (qAM nm) 0 (s3 - 0)).length c3, .bool (qAv (qAD a) (qAM nm) s3), Str (qCT (qAD a) (qAM nm) s3), Str (qCd (qAD a) (qAM nm) s3)]) rfl rfl rfl qHf qUK (fun _ => by kernel_rfl) (by kernel_rfl)) rfl <| J.c1 (qAR (i := 3) (l := [.int .u64 0, I 0, Str [], I 0, I 0, .slice none 0 0, .slice none 0 0, Str [], Str [], Str [], I 0, .slice none 0 0, .bool false, Str [], Str []]) (vs := [N64 (1), I ((b : Nat) : Int), Str ((nW a d).dig), I ((nm : Nat) : Int), I ((us.getD nm 0 % 4 : Nat) : Int), .slice A1 (sgC (qAI nm) (us.getD nm 0 % 4) (atM 1 b nm (nW a d).dig)).length c1, .slice A2 (sgP (qAI nm) 2 (us.getD nm 0 % 4)).length c2, Str (wN nm), Str (Wo.opn (qAI nm)), Str (Xm.root (qAI nm) 2), I ((2 : Nat) : Int), .slice A3 (bsd (qAD a) (qAM nm) 0 (s3 - 0)).length c3, .bool (qAv (qAD a) (qAM nm) s3), Str (qCT (qAD a) (qAM nm) s3), Str (qCd (qAD a) (qAM nm) s3)]) rfl rfl rfl rfl rfl qL1 rfl rfl) rfl rfl fun _ _ => ?_
   change J _ _ _ [_, _, _, blk g6 [N64 (1), I ((b : Nat) : Int), Str ((nW a d).dig), I ((nm : Nat) : Int), I ((us.getD nm 0 % 4 : Nat) : Int), .slice A1 (sgC (qAI nm) (us.getD nm 0 % 4) (atM 1 b nm (nW a d).dig)).length c1, .slice A2 (sgP (qAI nm) 2 (us.getD nm 0 % 4)).length c2, Str (wN nm), Str (Wo.opn (qAI nm)), Str (Xm.root (qAI nm) 2), I ((2 : Nat) : Int), .slice A3 (bsd (qAD a) (qAM nm) 0 (s3 - 0)).length c3, .bool (qAv (qAD a) (qAM nm) s3), Str (qCT (qAD a) (qAM nm) s3), Str (qCd (qAD a) (qAM nm) s3)] 60, _, _, _, _, _, _] _
   refine J.c hK7 <| J.A 6 ?_
   exact J.D <| J.c2 hw0 (fun _ _ h => h) (rv1 rfl (RV.blkA 3 rfl rfl isAgg60 qL1)) (qBD (⟨A1, c1, m1, A2, c2, m2, s3, A3, c3, m3, mr, m3_1⟩ : VoR) rfl ⟨h1, h2, hst, h3, hro, hm3_1⟩ [0, 1, 2, 5, 6, 8] rfl (by decide))
  refine J.a7 rfl (qAf (l := [.slice none 0 0, .bool false, Str [], Str []]) rfl qUL rfl) rfl (by simp) fun g10 _ => ?_
  change J _ _ _ [mr, m3_1, F, blk g6 [.int .u64 0, I 0, Str [], I 0, I 0, .slice none 0 0, .slice none 0 0, Str [], Str [], Str [], I 0, .slice none 0 0, .bool false, Str [], Str []] 60, blk g7 [N64 (1), I ((b : Nat) : Int), Str ((nW a d).dig), I ((nm : Nat) : Int), I ((us.getD nm 0 % 4 : Nat) : Int), .slice A1 (sgC (qAI nm) (us.getD nm 0 % 4) (atM 1 b nm (nW a d).dig)).length c1, .slice A2 (sgP (qAI nm) 2 (us.getD nm 0 % 4)).length c2] 52, m1, m2, blk g8 [Str (wN nm), Str (Wo.opn (qAI nm)), Str (Xm.root (qAI nm) 2), I ((2 : Nat) : Int)] 56, blk g10 [.slice none 0 0, .bool false, Str [], Str []] 58] _
  refine J.a7 rfl (qAB rfl rfl ent47 (Ct.use (new := fun x : Nat × Option Addr × Nat × Hp => [x.2.2.2]) (fun F' hF => qGy F' (hK.mo hF) gt (qAD a) (hT.mono (hF F (by simp))) hfi (qAM nm) hpk 0 (by omega)))) rfl (by simp) ?_
  rintro ⟨s3, A3, c3, m3⟩ ⟨hst, h3⟩
  change J _ ((67, .tuple #[.agg #[.slice A3 (bsd (qAD a) (qAM nm) 0 (s3 - 0)).length c3, .bool (qAv (qAD a) (qAM nm) s3), Str (qCT (qAD a) (qAM nm) s3), Str (qCd (qAD a) (qAM nm) s3)], I 0]) :: _) _ [_, _, _, _, _, _, _, _, _, m3] _
  refine J.G ?_
  refine J.d4 (.agg #[.slice A3 (bsd (qAD a) (qAM nm) 0 (s3 - 0)).length c3, .bool (qAv (qAD a) (qAM nm) s3), Str (qCT (qAD a) (qAM nm) s3), Str (qCd (qAD a) (qAM nm) s3)]) ?_
  refine J.e3 rfl (qAm (v := I ((0 : Nat) : Int)) rfl rfl rfl) rfl rfl rfl ?_
  refine J.c8 rfl (qAR (i := 8) (l := [.slice none 0 0, .bool false, Str [], Str []]) (vs := [.slice A3 (bsd (qAD a) (qAM nm) 0 (s3 - 0)).length c3, .bool (qAv (qAD a) (qAM nm) s3), Str (qCT (qAD a) (qAM nm) s3), Str (qCd (qAD a) (qAM nm) s3)]) rfl rfl rfl rfl rfl qGd rfl rfl) rfl rfl rfl fun _ _ => ?_
  change J _ _ _ [_, _, _, _, _, _, _, _, blk g10 [.slice A3 (bsd (qAD a) (qAM nm) 0 (s3 - 0)).length c3, .bool (qAv (qAD a) (qAM nm) s3), Str (qCT (qAD a) (qAM nm) s3), Str (qCd (qAD a) (qAM nm) s3)] 58, _] _
  refine J.e1 rfl (YOp.eop (qCh rfl rfl)) rfl rfl rfl rfl ?_
  intro _ _
  refine J.b4 <| J.q (J.H hK6 ?_)
  refine J.W 6 7 8 10 ?_
  refine J.g fun K8 hK8 => J.c7 4 isAgg52 qFv rfl rfl rfl rfl rfl <| J.c7 7 qLq qE2 rfl rfl rfl rfl rfl <| J.c7 8 qLp qGd rfl rfl rfl rfl rfl <| J.f (qAQ (l := [(0, .tmp 70), (1, .tmp 71), (2, .tmp 72)]) (vs := [.agg #[N64 (1), I ((b : Nat) : Int), Str ((nW a d).dig), I ((nm : Nat) : Int), I ((us.getD nm 0 % 4 : Nat) : Int), .slice A1 (sgC (qAI nm) (us.getD nm 0 % 4) (atM 1 b nm (nW a d).dig)).length c1, .slice A2 (sgP (qAI nm) 2 (us.getD nm 0 % 4)).length c2], .agg #[Str (wN nm), Str (Wo.opn (qAI nm)), Str (Xm.root (qAI nm) 2), I ((2 : Nat) : Int)], .agg #[.slice A3 (bsd (qAD a) (qAM nm) 0 (s3 - 0)).length c3, .bool (qAv (qAD a) (qAM nm) s3), Str (qCT (qAD a) (qAM nm) s3), Str (qCd (qAD a) (qAM nm) s3)]]) (places := [(0, 7), (7, 4), (11, 4)]) (r := [N64 (1), I ((b : Nat) : Int), Str ((nW a d).dig), I ((nm : Nat) : Int), I ((us.getD nm 0 % 4 : Nat) : Int), .slice A1 (sgC (qAI nm) (us.getD nm 0 % 4) (atM 1 b nm (nW a d).dig)).length c1, .slice A2 (sgP (qAI nm) 2 (us.getD nm 0 % 4)).length c2, Str (wN nm), Str (Wo.opn (qAI nm)), Str (Xm.root (qAI nm) 2), I ((2 : Nat) : Int), .slice A3 (bsd (qAD a) (qAM nm) 0 (s3 - 0)).length c3, .bool (qAv (qAD a) (qAM nm) s3), Str (qCT (qAD a) (qAM nm) s3), Str (qCd (qAD a) (qAM nm) s3)]) rfl rfl rfl qHf qUK (fun _ => by kernel_rfl) (by kernel_rfl)) rfl <| J.c1 (qAR (i := 3) (l := [.int .u64 0, I 0, Str [], I 0, I 0, .slice none 0 0, .slice none 0 0, Str [], Str [], Str [], I 0, .slice none 0 0, .bool false, Str [], Str []]) (vs := [N64 (1), I ((b : Nat) : Int), Str ((nW a d).dig), I ((nm : Nat) : Int), I ((us.getD nm 0 % 4 : Nat) : Int), .slice A1 (sgC (qAI nm) (us.getD nm 0 % 4) (atM 1 b nm (nW a d).dig)).length c1, .slice A2 (sgP (qAI nm) 2 (us.getD nm 0 % 4)).length c2, Str (wN nm), Str (Wo.opn (qAI nm)), Str (Xm.root (qAI nm) 2), I ((2 : Nat) : Int), .slice A3 (bsd (qAD a) (qAM nm) 0 (s3 - 0)).length c3, .bool (qAv (qAD a) (qAM nm) s3), Str (qCT (qAD a) (qAM nm) s3), Str (qCd (qAD a) (qAM nm) s3)]) rfl rfl rfl rfl rfl qL1 rfl rfl) rfl rfl fun _ _ => ?_
  change J _ _ _ [_, _, _, blk g6 [N64 (1), I ((b : Nat) : Int), Str ((nW a d).dig), I ((nm : Nat) : Int), I ((us.getD nm 0 % 4 : Nat) : Int), .slice A1 (sgC (qAI nm) (us.getD nm 0 % 4) (atM 1 b nm (nW a d).dig)).length c1, .slice A2 (sgP (qAI nm) 2 (us.getD nm 0 % 4)).length c2, Str (wN nm), Str (Wo.opn (qAI nm)), Str (Xm.root (qAI nm) 2), I ((2 : Nat) : Int), .slice A3 (bsd (qAD a) (qAM nm) 0 (s3 - 0)).length c3, .bool (qAv (qAD a) (qAM nm) s3), Str (qCT (qAD a) (qAM nm) s3), Str (qCd (qAD a) (qAM nm) s3)] 60, _, _, _, _, _, _] _
  refine J.c hK8 <| J.A 6 ?_
  exact J.D <| J.c2 hw0 (fun _ _ h => h) (rv1 rfl (RV.blkA 3 rfl rfl isAgg60 qL1)) (qBD (⟨A1, c1, m1, A2, c2, m2, s3, A3, c3, m3, mr, m3_1⟩ : VoR) rfl ⟨h1, h2, hst, h3, hro, hm3_1⟩ [0, 1, 2, 5, 6, 9] rfl (by decide))
 refine J.a7 rfl (qAf (l := [.slice none 0 0, .bool false, Str [], Str []]) rfl qUL rfl) rfl (by simp) fun g10 _ => ?_
 change J _ _ _ [mr, m3_1, F, blk g6 [.int .u64 0, I 0, Str [], I 0, I 0, .slice none 0 0, .slice none 0 0, Str [], Str [], Str [], I 0, .slice none 0 0, .bool false, Str [], Str []] 60, blk g7 [N64 (1), I ((b : Nat) : Int), Str ((nW a d).dig), I ((nm : Nat) : Int), I ((us.getD nm 0 % 4 : Nat) : Int), .slice A1 (sgC (qAI nm) (us.getD nm 0 % 4) (atM 1 b nm (nW a d).dig)).length c1, .slice A2 (sgP (qAI nm) 2 (us.getD nm 0 % 4)).length c2] 52, m1, m2, blk g8 [Str (wN nm), Str (Wo.opn (qAI nm)), Str (Xm.root (qAI nm) 2), I ((2 : Nat) : Int)] 56, blk g10 [.slice none 0 0, .bool false, Str [], Str []] 58] _
 refine J.a7 rfl (qAB rfl rfl ent48 (Ct.use0 (fun F' hF => qDP F' (hK.mo hF) nm (by omega)))) rfl (by simp) fun g66 _ => J.a7 rfl (qAB rfl rfl ent47 (Ct.use (new := fun x : Nat × Option Addr × Nat × Hp => [x.2.2.2]) (fun F' hF => qGy F' (hK.mo hF) gt (qAD a) (hT.mono (hF F (by simp))) hfi (qAM nm) hpk 0 (by omega)))) rfl (by simp) ?_
 rintro ⟨s3, A3, c3, m3⟩ ⟨hst, h3⟩
 change J _ ((67, .tuple #[.agg #[.slice A3 (bsd (qAD a) (qAM nm) 0 (s3 - 0)).length c3, .bool (qAv (qAD a) (qAM nm) s3), Str (qCT (qAD a) (qAM nm) s3), Str (qCd (qAD a) (qAM nm) s3)], I 0]) :: _) _ [_, _, _, _, _, _, _, _, _, m3] _
 refine J.G ?_
 refine J.d4 (.agg #[.slice A3 (bsd (qAD a) (qAM nm) 0 (s3 - 0)).length c3, .bool (qAv (qAD a) (qAM nm) s3), Str (qCT (qAD a) (qAM nm) s3), Str (qCd (qAD a) (qAM nm) s3)]) ?_
 refine J.e3 rfl (qAm (v := I ((0 : Nat) : Int)) rfl rfl rfl) rfl rfl rfl ?_
 refine J.c8 rfl (qAR (i := 8) (l := [.slice none 0 0, .bool false, Str [], Str []]) (vs := [.slice A3 (bsd (qAD a) (qAM nm) 0 (s3 - 0)).length c3, .bool (qAv (qAD a) (qAM nm) s3), Str (qCT (qAD a) (qAM nm) s3), Str (qCd (qAD a) (qAM nm) s3)]) rfl rfl rfl rfl rfl qGd rfl rfl) rfl rfl rfl fun _ _ => ?_
 change J _ _ _ [_, _, _, _, _, _, _, _, blk g10 [.slice A3 (bsd (qAD a) (qAM nm) 0 (s3 - 0)).length c3, .bool (qAv (qAD a) (qAM nm) s3), Str (qCT (qAD a) (qAM nm) s3), Str (qCd (qAD a) (qAM nm) s3)] 58, _] _
 refine J.e1 rfl (YOp.eop (qCh rfl rfl)) rfl rfl rfl rfl ?_
 intro _ _
 refine J.b4 <| J.q (J.H hK6 ?_)
 refine J.W 6 7 8 10 ?_
 refine J.g fun K9 hK9 => J.c7 4 isAgg52 qFv rfl rfl rfl rfl rfl <| J.c7 7 qLq qE2 rfl rfl rfl rfl rfl <| J.c7 8 qLp qGd rfl rfl rfl rfl rfl <| J.f (qAQ (l := [(0, .tmp 70), (1, .tmp 71), (2, .tmp 72)]) (vs := [.agg #[N64 (1), I ((b : Nat) : Int), Str ((nW a d).dig), I ((nm : Nat) : Int), I ((us.getD nm 0 % 4 : Nat) : Int), .slice A1 (sgC (qAI nm) (us.getD nm 0 % 4) (atM 1 b nm (nW a d).dig)).length c1, .slice A2 (sgP (qAI nm) 2 (us.getD nm 0 % 4)).length c2], .agg #[Str (wN nm), Str (Wo.opn (qAI nm)), Str (Xm.root (qAI nm) 2), I ((2 : Nat) : Int)], .agg #[.slice A3 (bsd (qAD a) (qAM nm) 0 (s3 - 0)).length c3, .bool (qAv (qAD a) (qAM nm) s3), Str (qCT (qAD a) (qAM nm) s3), Str (qCd (qAD a) (qAM nm) s3)]]) (places := [(0, 7), (7, 4), (11, 4)]) (r := [N64 (1), I ((b : Nat) : Int), Str ((nW a d).dig), I ((nm : Nat) : Int), I ((us.getD nm 0 % 4 : Nat) : Int), .slice A1 (sgC (qAI nm) (us.getD nm 0 % 4) (atM 1 b nm (nW a d).dig)).length c1, .slice A2 (sgP (qAI nm) 2 (us.getD nm 0 % 4)).length c2, Str (wN nm), Str (Wo.opn (qAI nm)), Str (Xm.root (qAI nm) 2), I ((2 : Nat) : Int), .slice A3 (bsd (qAD a) (qAM nm) 0 (s3 - 0)).length c3, .bool (qAv (qAD a) (qAM nm) s3), Str (qCT (qAD a) (qAM nm) s3), Str (qCd (qAD a) (qAM nm) s3)]) rfl rfl rfl qHf qUK (fun _ => by kernel_rfl) (by kernel_rfl)) rfl <| J.c1 (qAR (i := 3) (l := [.int .u64 0, I 0, Str [], I 0, I 0, .slice none 0 0, .slice none 0 0, Str [], Str [], Str [], I 0, .slice none 0 0, .bool false, Str [], Str []]) (vs := [N64 (1), I ((b : Nat) : Int), Str ((nW a d).dig), I ((nm : Nat) : Int), I ((us.getD nm 0 % 4 : Nat) : Int), .slice A1 (sgC (qAI nm) (us.getD nm 0 % 4) (atM 1 b nm (nW a d).dig)).length c1, .slice A2 (sgP (qAI nm) 2 (us.getD nm 0 % 4)).length c2, Str (wN nm), Str (Wo.opn (qAI nm)), Str (Xm.root (qAI nm) 2), I ((2 : Nat) : Int), .slice A3 (bsd (qAD a) (qAM nm) 0 (s3 - 0)).length c3, .bool (qAv (qAD a) (qAM nm) s3), Str (qCT (qAD a) (qAM nm) s3), Str (qCd (qAD a) (qAM nm) s3)]) rfl rfl rfl rfl rfl qL1 rfl rfl) rfl rfl fun _ _ => ?_
 change J _ _ _ [_, _, _, blk g6 [N64 (1), I ((b : Nat) : Int), Str ((nW a d).dig), I ((nm : Nat) : Int), I ((us.getD nm 0 % 4 : Nat) : Int), .slice A1 (sgC (qAI nm) (us.getD nm 0 % 4) (atM 1 b nm (nW a d).dig)).length c1, .slice A2 (sgP (qAI nm) 2 (us.getD nm 0 % 4)).length c2, Str (wN nm), Str (Wo.opn (qAI nm)), Str (Xm.root (qAI nm) 2), I ((2 : Nat) : Int), .slice A3 (bsd (qAD a) (qAM nm) 0 (s3 - 0)).length c3, .bool (qAv (qAD a) (qAM nm) s3), Str (qCT (qAD a) (qAM nm) s3), Str (qCd (qAD a) (qAM nm) s3)] 60, _, _, _, _, _, _] _
 refine J.c hK9 <| J.A 6 ?_
 exact J.D <| J.c2 hw0 (fun _ _ h => h) (rv1 rfl (RV.blkA 3 rfl rfl isAgg60 qL1)) (qBD (⟨A1, c1, m1, A2, c2, m2, s3, A3, c3, m3, mr, m3_1⟩ : VoR) rfl ⟨h1, h2, hst, h3, hro, hm3_1⟩ [0, 1, 2, 5, 6, 9] rfl (by decide))
end Go.Proofs.YtfldiegfenndjaaGreatDoor
