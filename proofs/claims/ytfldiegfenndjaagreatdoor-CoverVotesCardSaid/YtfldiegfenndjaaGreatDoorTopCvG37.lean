/- A part of the proof. -/
import Derived.Test.YtfldiegfenndjaaGreatDoorTopCvG8
import Derived.Test.YtfldiegfenndjaaGreatDoorTopCvG36
import Derived.Test.YtfldiegfenndjaaGreatDoorTopCvG30
set_option linter.unusedSimpArgs false
set_option linter.unusedVariables false
namespace Go.Proofs.YtfldiegfenndjaaGreatDoor
open Go Go.Fw Go.Proofs.Tryz
set_option maxRecDepth 100000
set_option maxHeartbeats 1000000
theorem ent32 : qAF prog 32 := qAF.of func32 rfl (by kernel_rfl)
theorem ent34 : qAF prog 34 := qAF.of func34 rfl (by kernel_rfl)
theorem ent36 : qAF prog 36 := qAF.of func36 rfl (by kernel_rfl)
theorem el105 : qDu prog 105 [.pointer none] 8 := qDu.of (by kernel_rfl) rfl
def qCu (l : List Nat) : List (List Value) := l.map fun g => [Ptr g]
theorem qMd {l : List Nat} {k : Nat} (h : k < l.length) : (qCu l)[k]? = some [Ptr (l.getD k 0)] := by
 unfold qCu; rw [List.getElem?_map, List.getElem?_eq_getElem h, List.getD_eq_getElem?_getD, List.getElem?_eq_getElem h]; rfl
theorem qEO (a : List Nat) (x : Nat) : qCu (a ++ [x]) = qCu a ++ [[Ptr x]] := by simp [qCu]
def qEc (G : Hp) (gs : List Nat) : Prop := ∀ j, j < gs.length → qQy G (gs.getD j 0) (qAG j) 2
theorem qEc.mono {G G' : Hp} {gs : List Nat} (h : qEc G gs) (hl : Le G G') : qEc G' gs := fun j hj => (h j hj).mono hl
theorem qEc.nil (G : Hp) : qEc G [] := fun j hj => absurd hj (Nat.not_lt_zero j)
theorem qEc.snoc {G : Hp} {gs : List Nat} {g i : Nat} (h : qEc G gs) (hi : gs.length = i) (hk : qQy G g (qAG i) 2) : qEc G (gs ++ [g]) := fun j hj => by
 rw [List.length_append, List.length_singleton] at hj
 rw [qGU gs g 0 j hj]
 split
 · exact h j (by omega)
 · rw [show j = i by omega]; exact hk
def pW (a d : Nat) : Hd := ⟨0, qA8, ((d : Nat) : Int), ((a : Nat) : Int), qAI (qAB a) d⟩
def nW (a d : Nat) : Hd := ⟨1, (pW a d).dig, ((d : Nat) : Int), ((a : Nat) : Int), qAI (qAB a) d⟩
def wdC (gt gr : Nat) (kA : Option Addr) (n kc : Nat) (nA : Option Addr) (nn nc a d : Nat) (uA : Option Addr) (uc : Nat) : List Value :=
 [Ptr gt, Ptr gr, .slice kA n kc, N64 0, Str qA8, I ((d : Nat) : Int), I ((a : Nat) : Int), .slice nA nn nc, N64 1, Str (pW a d).dig, I ((d : Nat) : Int), I ((a : Nat) : Int), .slice nA nn nc, .slice uA n uc]
theorem qB2 {a : Nat} (h : a ≤ 5) : qEq (qAB a) := by
  have hk : ∀ i, i < a → (qBO i).length = 16 := fun i _ => Sha.tagged_length _ _
  refine ⟨?_, ?_, ?_, ?_⟩
  · unfold Sm.Once qAB
    rw [List.pairwise_map]
    refine List.Pairwise.imp_of_mem (fun {i j} hi hj hij => ?_) List.pairwise_lt_range
    have h1 := List.mem_range.1 hi
    have h2 := List.mem_range.1 hj
    show qBO i ≠ qBO j
    rw [← qPe (by omega), ← qPe (by omega)]
    exact qHt (by omega) (by omega) (by omega)
  · intro p hp
    obtain ⟨i, _, rfl⟩ := List.mem_map.1 hp
    exact Sha.tagged_length _ _
  · intro p hp
    obtain ⟨i, _, rfl⟩ := List.mem_map.1 hp
    show (qBB i).length ≤ _
    unfold qBB; rw [Sha.tagged_length]; decide
  · unfold qAB; rw [List.length_map, List.length_range]; omega
theorem qDk (a : Nat) {d : Nat} (hd : d ≤ 1) : (qAI (qAB a) d).length ≤ 16 := by
 rw [qCW]
 match d, hd with
 | 0, _ => decide
 | 1, _ => decide
theorem qBr (a : Nat) {d : Nat} (hd : d ≤ 1) : (pW a d).good := ⟨by show 0 < _; decide, by show qA8.length ≤ _; decide, by have := qDk a hd; show (qAI (qAB a) d).length ≤ _; omega⟩
structure WdR where
 gw : Nat
 gt : Nat
 gr : Nat
 gs : List Nat
 kA : Option Addr
 kc : Nat
 nA : Option Addr
 nc : Nat
 uA : Option Addr
 uc : Nat
 mt : Hp
 mr : Hp
 mq : Hp
 G : Hp
 mu : Hp
 mn : Hp
structure WdP (a d : Nat) (r : WdR) : Prop where
 gl : r.gs.length = a
 ro : qJP r.mr r.gr (wL a)
 kr : Row r.mq 105 1 r.kA a r.kc (qCu r.gs)
 ks : qEc r.G r.gs
 ur : Row r.mu 3 1 r.uA a r.uc (qA9 (List.replicate a 0))
 t : qHV r.mt r.gt (qAB a)
 nr : Row r.mn 9 1 r.nA (qAI (qAB a) d).length r.nc (qAJ (qAI (qAB a) d))
theorem qI4 (F : Hp) (hK : KF F) (hA : qAS F ⟨1, 0, none⟩ qBo) (hT : qCP F) (a d : Nat) (ha : a ≤ 5) (hd : d ≤ 1) : Ct prog 8 [I ((a : Nat) : Int), I ((d : Nat) : Int)] [F] (fun r : WdR => Ptr r.gw) (fun r => WdP a d r) (fun r => [F, blk r.gw (wdC r.gt r.gr r.kA a r.kc r.nA (qAI (qAB a) d).length r.nc a d r.uA r.uc) 42, r.mt, r.mr, r.mq, r.G, r.mu, r.mn]) := by
 refine Ct.walk func8 rfl ntmps8 rfl (fun w0 hw0 => ?_)
 change J _ [(0, _), (1, _)] _ _ _
 refine J.g fun K1 hK1 => J.b rfl <| J.c hK1 <| J.G 0 1 ?_
 refine J.g fun K2 hK2 => J.q (qAC rfl rfl ent31 (Ct.use (new := fun x : Nat × Hp => [x.2]) (fun F' hF => Ct.swap2 (qRF F' )))) rfl ?_
 rintro ⟨g13, m13⟩ h13
 try dsimp only at h13
 change J _ ((13, Ptr g13) :: _) _ [F, m13] _
 refine J.q (qAC rfl rfl ent32 (Ct.use (new := fun x : Nat × Hp => [x.2]) (fun F' hF => Ct.swap2 (qRe F' )))) rfl ?_
 rintro ⟨g14, m14⟩ h14
 try dsimp only at h14
 change J _ ((14, Ptr g14) :: _) _ [_, _, m14] _
 refine J.f (qAL (l := [(0, .tmp 13), (1, .tmp 14)]) (vs := [Ptr g13, Ptr g14]) (places := [(0, 1), (1, 1), (2, 1), (3, 5), (8, 5), (13, 1)]) (r := [Ptr g13, Ptr g14, .slice none 0 0, .int .u64 0, Str [], I 0, I 0, .slice none 0 0, .int .u64 0, Str [], I 0, I 0, .slice none 0 0, .slice none 0 0]) rfl rfl rfl qCf zeroValue42 (fun _ => by kernel_rfl) (by kernel_rfl)) rfl <| J.q (qAi (l := [Ptr g13, Ptr g14, .slice none 0 0, .int .u64 0, Str [], I 0, I 0, .slice none 0 0, .int .u64 0, Str [], I 0, I 0, .slice none 0 0, .slice none 0 0]) rfl rfl rfl) rfl fun g16 _ => ?_
 change J _ _ _ [_, _, _, blk g16 [Ptr g13, Ptr g14, .slice none 0 0, .int .u64 0, Str [], I 0, I 0, .slice none 0 0, .int .u64 0, Str [], I 0, I 0, .slice none 0 0, .slice none 0 0] 42] _
 refine J.b rfl <| J.c hK2 <| J.O 0 1 5 ?_
 refine J.p fun K3 hK3 => J.g fun K4 hK4 => J.b rfl <| J.c hK4 <| J.T 0 1 5 6 ?_
 refine J.W <| J.b6 (X := Nat × List Nat × Option Addr × Nat × Option Addr × Nat × Hp × Hp × Hp × Hp) (fun ζ => [(0, I ((a : Nat) : Int)), (1, I ((d : Nat) : Int)), (5, Ptr g16), (6, I ((ζ.1 : Nat) : Int))]) (fun ζ => [F, m13, ζ.2.2.2.2.2.2.1, blk g16 [Ptr g13, Ptr g14, .slice ζ.2.2.1 ζ.1 ζ.2.2.2.1, .int .u64 0, Str [], I 0, I 0, .slice none 0 0, .int .u64 0, Str [], I 0, I 0, .slice none 0 0, .slice ζ.2.2.2.2.1 ζ.1 ζ.2.2.2.2.2.1] 42, ζ.2.2.2.2.2.2.2.1, ζ.2.2.2.2.2.2.2.2.1, ζ.2.2.2.2.2.2.2.2.2]) (fun ζ => ζ.1 ≤ a ∧ ζ.2.1.length = ζ.1 ∧ qJP ζ.2.2.2.2.2.2.1 g14 (wL ζ.1) ∧ Row ζ.2.2.2.2.2.2.2.1 105 1 ζ.2.2.1 ζ.1 ζ.2.2.2.1 (qCu ζ.2.1) ∧ qEc ζ.2.2.2.2.2.2.2.2.1 ζ.2.1 ∧ Row ζ.2.2.2.2.2.2.2.2.2 3 1 ζ.2.2.2.2.1 ζ.1 ζ.2.2.2.2.2.1 (qA9 (List.replicate ζ.1 0))) (fun ζ => a - ζ.1) (0, [], none, 0, none, 0, m14, (fun _ => none), (fun _ => none), (fun _ => none)) (⟨Nat.zero_le _, rfl, h14, qCA.nil, qEc.nil _, qCA.nil⟩) ⟨rfl, rfl, rfl, rfl, trivial⟩ (fun _ h => h.empty.empty.empty.pick [0, 1, 2, 3, 4, 5, 6] (by decide)) ?_
 rintro ⟨i, gs, kA, kc, uA, uc, mr, mk, G, mu⟩ ⟨hi, hgl, hro, hkr, hks, hur⟩ I0 hI0
 dsimp only at hi hgl hro hkr hks hur ⊢
 refine J.p fun K5 hK5 => J.g fun K6 hK6 => J.j 2 rfl <| J.f (qAX rfl rfl rfl) rfl <| J.c hK6 <| J.a3 0 1 5 6 19 ?_
 refine J.a0 rfl (fun h19 => ?_) (fun h19 => ?_)
 ·
  refine J.a1 hK5 <| J.T 0 1 5 6 ?_
  refine J.p fun K7 hK7 => J.W <| J.g fun K8 hK8 => J.b rfl <| J.f ((qAU rfl rfl rfl (by first | omega | (simp only [List.length_cons, List.length_nil]; omega) | decide)).nat (97 + i) (by omega)) rfl <| J.f (qAk (m := 97 + i) rfl rfl u3_ u5_) rfl <| J.q (qAH (l := [.tmp 25]) (xs := [[B8 (UInt8.ofNat (97 + i))]]) rfl rfl rfl rfl qBd el5 rfl (by decide) (by decide) (by simp)) rfl fun g26 _ => ?_
  change J _ _ _ [F, m13, mr, blk g16 [Ptr g13, Ptr g14, .slice kA i kc, .int .u64 0, Str [], I 0, I 0, .slice none 0 0, .int .u64 0, Str [], I 0, I 0, .slice none 0 0, .slice uA i uc] 42, mk, G, mu, blk g26 [B8 (UInt8.ofNat (97 + i))] 5] _
  refine J.f (qBT (l := [UInt8.ofNat (97 + i)]) rfl rfl qBd u5_ u9_ (m := blk g26 [B8 (UInt8.ofNat (97 + i))] 5) (by simp) ((qBG (q := True) (qAW [UInt8.ofNat (97 + i)]) rfl (by simp [qAW]) rfl).sl)) rfl <| J.f (qCj (a := [97, 117, 100, 105, 116, 111, 114]) (b := [UInt8.ofNat (97 + i)]) rfl rfl rfl (by first | omega | (simp only [List.length_cons, List.length_nil]; omega) | decide)) rfl <| J.q (qAC rfl rfl ent33 (Ct.use (new := fun x : Nat × Hp => [x.2]) (fun F' hF => qOG F' (hK.mo hF) (qAG i) 2 (Nat.le_of_ble_eq_true rfl) (by decide)))) rfl ?_
  rintro ⟨g29, m29⟩ h29
  try dsimp only at h29
  change J _ ((29, .tuple #[Ptr g29, I 0]) :: _) _ [_, _, _, _, _, _, _, _, m29] _
  refine J.j 5 rfl <| J.c hK8 <| J.b1 0 1 5 6 7 8 ?_
  refine J.p fun K9 hK9 => J.g fun K10 hK10 => J.b rfl <| J.f ((qAz rfl rfl rfl).no (fun h => h rfl)) rfl <| J.c hK10 <| J.b1 0 1 5 6 7 33 ?_
  refine J.b2 ?_
  refine J.a1 hK9 <| J.a3 0 1 5 6 7 ?_
  refine J.e5 (X := Hp) (fun ζ => [(0, I ((a : Nat) : Int)), (1, I ((d : Nat) : Int)), (5, Ptr g16), (6, I ((i : Nat) : Int)), (7, Ptr g29)]) (fun ζ => [F, m13, ζ, blk g16 [Ptr g13, Ptr g14, .slice kA i kc, .int .u64 0, Str [], I 0, I 0, .slice none 0 0, .int .u64 0, Str [], I 0, I 0, .slice none 0 0, .slice uA i uc] 42, mk, G, mu, m29]) (fun ζ => qJP ζ g14 (wL (i + 1))) (fun K11 hK11 => ?_) ?_
  ·
   refine J.p fun K12 hK12 => ?_
   have hrl := qBh (i := i) (by omega)
   have hwl := qJW i
   refine J.c0 [F, blk g16 [Ptr g13, Ptr g14, .slice kA i kc, .int .u64 0, Str [], I 0, I 0, .slice none 0 0, .int .u64 0, Str [], I 0, I 0, .slice none 0 0, .slice uA i uc] 42] [] (.y 0 (.y 1 (.y 2 (.y 3 (.y 4 (.y 5 (.y 6 (.y 10 (.br (.e 7 (.y 8 (.y 9 (.e 11 (.y 12 (.e 13 (.y 14 (.y 15 (.y 16 (.y 17 (.y 18 .nil))))))))))) (.e 11 (.e 7 (.y 8 (.y 9 (.y 12 (.e 13 (.y 14 (.y 15 (.y 16 (.y 17 (.y 18 .nil)))))))))))))))))))) Tryz.wide (by decide +kernel) (by simp) ?_
   refine J.V ?_
   refine J.k rfl (qAD rfl rfl) rfl rfl <| J.k rfl (qAA (j := 1) rfl rfl qCf rfl sizeOf34 rfl) rfl rfl <| J.k rfl (qAE 1 (v := Ptr g14) rfl rfl rfl isAgg34 rfl) rfl rfl <| J.V ?_
   refine J.k rfl ((qAU rfl rfl rfl (by first | omega | (simp only [List.length_cons, List.length_nil]; omega) | decide)).nat (97 + i) (by omega)) rfl rfl <| J.k rfl (qAk (m := 97 + i) rfl rfl u3_ u5_) rfl rfl <| J.V ?_
   refine J.d9 ?_ ?_
   ·
    refine J.g0 (fun g => _ ++ [blk g [B8 (UInt8.ofNat (97 + i))] 5]) rfl (qAH (l := [.tmp 41]) (xs := [[B8 (UInt8.ofNat (97 + i))]]) rfl rfl rfl rfl qBd el5 rfl (by decide) (by decide) (by simp)) rfl rfl rfl (fun _ _ h => List.mem_append_left _ h) (by simp) ?_
    intro g42 _
    change J _ _ _ [F, m13, mr, blk g16 [Ptr g13, Ptr g14, .slice kA i kc, .int .u64 0, Str [], I 0, I 0, .slice none 0 0, .int .u64 0, Str [], I 0, I 0, .slice none 0 0, .slice uA i uc] 42, mk, G, mu, blk g26 [B8 (UInt8.ofNat (97 + i))] 5, m29, blk g42 [B8 (UInt8.ofNat (97 + i))] 5] _
    refine J.k rfl (qBT (l := [UInt8.ofNat (97 + i)]) rfl rfl qBd u5_ u9_ (m := blk g42 [B8 (UInt8.ofNat (97 + i))] 5) (by simp) ((qBG (q := True) (qAW [UInt8.ofNat (97 + i)]) rfl (by simp [qAW]) rfl).sl)) rfl rfl <| J.k rfl (qCj (a := [120]) (b := [UInt8.ofNat (97 + i)]) rfl rfl rfl (by first | omega | (simp only [List.length_cons, List.length_nil]; omega) | decide)) rfl rfl <| J.a2 rfl (qAC rfl rfl ent35 (Ct.use0 (fun F' hF => qJR F' g29 (qAG i) 2 (h29.mono (hF m29 (by simp)))))) rfl (by simp) fun g46 _ => J.k rfl (qAL (l := [(0, .tmp 44), (1, .tmp 46)]) (vs := [Str (([120]) ++ ([UInt8.ofNat (97 + i)])), .agg #[Str (Wo.opn ((qAG i))), Str (Xm.root ((qAG i)) (2)), I ((2 : Nat) : Int)]]) (places := [(0, 1), (1, 3)]) (r := [Str (([120]) ++ ([UInt8.ofNat (97 + i)])), Str (Wo.opn ((qAG i))), Str (Xm.root ((qAG i)) (2)), I ((2 : Nat) : Int)]) rfl rfl rfl qIe qSZ (fun _ => by kernel_rfl) rfl) rfl rfl <| J.a2 rfl (qAC rfl rfl ent34 (Ct.use1 2 (m' := fun x : Hp => x) (new := fun _ => []) rfl (fun F' hF => qMa F' mr g14 (wL i) hro (hA.mono (hF F (by simp))) (hT.mono (hF F (by simp))) (([120]) ++ ([UInt8.ofNat (97 + i)])) (Wo.opn ((qAG i))) (Xm.root ((qAG i)) (2)) ((2 : Nat) : Int) (by first | omega | exact Nat.le_of_ble_eq_true rfl | (rw [List.length_map]; omega)) (by first | omega | exact Nat.le_of_ble_eq_true rfl | (rw [List.length_map]; omega)) (by first | omega | exact Nat.le_of_ble_eq_true rfl | (rw [List.length_map]; omega)) (by first | omega | exact Nat.le_of_ble_eq_true rfl | (rw [List.length_map]; omega))))) rfl (by simp) ?_
    rintro m48 h48
    change J _ ((48, .tuple #[I (qEa (wL i) (([120]) ++ ([UInt8.ofNat (97 + i)])) (Wo.opn ((qAG i))) (Xm.root ((qAG i)) (2)) ((2 : Nat) : Int)), I (qIX (wL i) (([120]) ++ ([UInt8.ofNat (97 + i)])) (Wo.opn ((qAG i))) (Xm.root ((qAG i)) (2)) ((2 : Nat) : Int))]) :: _) _ [_, _, m48, _, _, _, _, _, _, _] _
    replace h48 := (congrArg (qJP m48 g14) (qQv (i := i) (by omega))).mp h48
    refine J.V ?_
    refine J.d4 (I (qEa (wL i) (([120]) ++ ([UInt8.ofNat (97 + i)])) (Wo.opn ((qAG i))) (Xm.root ((qAG i)) (2)) ((2 : Nat) : Int))) ?_
    refine J.d4 (I (qIX (wL i) (([120]) ++ ([UInt8.ofNat (97 + i)])) (Wo.opn ((qAG i))) (Xm.root ((qAG i)) (2)) ((2 : Nat) : Int))) ?_
    refine J.c1 ?_
    refine J.c1 ?_
    refine J.b3 <| J.A (J.L hK12 ?_)
    refine J.b1 0 1 5 6 7 10 ?_
    refine J.g fun K13 hK13 => J.b rfl <| J.f ((qAz rfl rfl rfl).no (fun h => h (qSs (by omega)))) rfl <| J.c hK13 <| J.b1 0 1 5 6 7 52 ?_
    refine J.b2 ?_
    exact J.b9 <| J.A <| J.a8 (m48) hK11 (h48) ⟨rfl, rfl, rfl, rfl, rfl, trivial⟩ (fun _ h => h.pick [0, 1, 2, 3, 4, 5, 6, 8] (by decide))
   refine J.a2 rfl (qAC rfl rfl ent35 (Ct.use0 (fun F' hF => qJR F' g29 (qAG i) 2 (h29.mono (hF m29 (by simp)))))) rfl (by simp) fun g46 _ => J.g0 (fun g => _ ++ [blk g [B8 (UInt8.ofNat (97 + i))] 5]) rfl (qAH (l := [.tmp 41]) (xs := [[B8 (UInt8.ofNat (97 + i))]]) rfl rfl rfl rfl qBd el5 rfl (by decide) (by decide) (by simp)) rfl rfl rfl (fun _ _ h => List.mem_append_left _ h) (by simp) ?_
   intro g42 _
   change J _ _ _ [F, m13, mr, blk g16 [Ptr g13, Ptr g14, .slice kA i kc, .int .u64 0, Str [], I 0, I 0, .slice none 0 0, .int .u64 0, Str [], I 0, I 0, .slice none 0 0, .slice uA i uc] 42, mk, G, mu, blk g26 [B8 (UInt8.ofNat (97 + i))] 5, m29, blk g42 [B8 (UInt8.ofNat (97 + i))] 5] _
   refine J.k rfl (qBT (l := [UInt8.ofNat (97 + i)]) rfl rfl qBd u5_ u9_ (m := blk g42 [B8 (UInt8.ofNat (97 + i))] 5) (by simp) ((qBG (q := True) (qAW [UInt8.ofNat (97 + i)]) rfl (by simp [qAW]) rfl).sl)) rfl rfl <| J.k rfl (qCj (a := [120]) (b := [UInt8.ofNat (97 + i)]) rfl rfl rfl (by first | omega | (simp only [List.length_cons, List.length_nil]; omega) | decide)) rfl rfl <| J.k rfl (qAL (l := [(0, .tmp 44), (1, .tmp 46)]) (vs := [Str (([120]) ++ ([UInt8.ofNat (97 + i)])), .agg #[Str (Wo.opn ((qAG i))), Str (Xm.root ((qAG i)) (2)), I ((2 : Nat) : Int)]]) (places := [(0, 1), (1, 3)]) (r := [Str (([120]) ++ ([UInt8.ofNat (97 + i)])), Str (Wo.opn ((qAG i))), Str (Xm.root ((qAG i)) (2)), I ((2 : Nat) : Int)]) rfl rfl rfl qIe qSZ (fun _ => by kernel_rfl) rfl) rfl rfl <| J.a2 rfl (qAC rfl rfl ent34 (Ct.use1 2 (m' := fun x : Hp => x) (new := fun _ => []) rfl (fun F' hF => qMa F' mr g14 (wL i) hro (hA.mono (hF F (by simp))) (hT.mono (hF F (by simp))) (([120]) ++ ([UInt8.ofNat (97 + i)])) (Wo.opn ((qAG i))) (Xm.root ((qAG i)) (2)) ((2 : Nat) : Int) (by first | omega | exact Nat.le_of_ble_eq_true rfl | (rw [List.length_map]; omega)) (by first | omega | exact Nat.le_of_ble_eq_true rfl | (rw [List.length_map]; omega)) (by first | omega | exact Nat.le_of_ble_eq_true rfl | (rw [List.length_map]; omega)) (by first | omega | exact Nat.le_of_ble_eq_true rfl | (rw [List.length_map]; omega))))) rfl (by simp) ?_
   rintro m48 h48
   change J _ ((48, .tuple #[I (qEa (wL i) (([120]) ++ ([UInt8.ofNat (97 + i)])) (Wo.opn ((qAG i))) (Xm.root ((qAG i)) (2)) ((2 : Nat) : Int)), I (qIX (wL i) (([120]) ++ ([UInt8.ofNat (97 + i)])) (Wo.opn ((qAG i))) (Xm.root ((qAG i)) (2)) ((2 : Nat) : Int))]) :: _) _ [_, _, m48, _, _, _, _, _, _, _] _
   replace h48 := (congrArg (qJP m48 g14) (qQv (i := i) (by omega))).mp h48
   refine J.V ?_
   refine J.d4 (I (qEa (wL i) (([120]) ++ ([UInt8.ofNat (97 + i)])) (Wo.opn ((qAG i))) (Xm.root ((qAG i)) (2)) ((2 : Nat) : Int))) ?_
   refine J.d4 (I (qIX (wL i) (([120]) ++ ([UInt8.ofNat (97 + i)])) (Wo.opn ((qAG i))) (Xm.root ((qAG i)) (2)) ((2 : Nat) : Int))) ?_
   refine J.c1 ?_
   refine J.c1 ?_
   refine J.b3 <| J.A (J.L hK12 ?_)
   refine J.b1 0 1 5 6 7 10 ?_
   refine J.g fun K14 hK14 => J.b rfl <| J.f ((qAz rfl rfl rfl).no (fun h => h (qSs (by omega)))) rfl <| J.c hK14 <| J.b1 0 1 5 6 7 52 ?_
   refine J.b2 ?_
   exact J.b9 <| J.A <| J.a8 (m48) hK11 (h48) ⟨rfl, rfl, rfl, rfl, rfl, trivial⟩ (fun _ h => h.pick [0, 1, 2, 3, 4, 5, 6, 8] (by decide))
  rintro m48 h48
  refine J.c0 [F, blk g16 [Ptr g13, Ptr g14, .slice kA i kc, .int .u64 0, Str [], I 0, I 0, .slice none 0 0, .int .u64 0, Str [], I 0, I 0, .slice none 0 0, .slice uA i uc] 42] [17, 18, 19, 20, 100001] (.y 0 (.y 1 (.y 2 (.y 3 (.y 4 (.y 5 (.y 6 (.y 9 (.y 10 (.y 11 (.y 12 (.br (.e 7 (.br (.e 8 (.e 13 (.e 14 (.y 15 (.y 16 (.e 17 (.e 18 (.e 19 (.e 20 .nil))))))))) (.e 13 (.e 8 (.e 14 (.y 15 (.y 16 (.e 17 (.e 18 (.e 19 (.e 20 .nil))))))))))) (.e 13 (.e 7 (.e 8 (.e 14 (.y 15 (.y 16 (.e 17 (.e 18 (.e 19 (.e 20 .nil)))))))))))))))))))))) Tryz.wide (by decide +kernel) (by simp) ?_
  refine J.V ?_
  refine J.e7 rfl (qAv rfl rfl) rfl rfl rfl ?_
  refine J.V ?_
  refine J.k rfl (qAD rfl rfl) rfl rfl <| J.k rfl (qAA (j := 2) rfl rfl qCf rfl qQN rfl) rfl rfl <| J.k rfl (qAE 1 (v := .slice kA i kc) rfl rfl rfl isAgg35 rfl) rfl rfl <| J.V ?_
  refine J.V ?_
  refine J.k rfl (qAD rfl rfl) rfl rfl <| J.k rfl (qAA (j := 13) rfl rfl qCf rfl qLh rfl) rfl rfl <| J.k rfl (qAE 1 (v := .slice uA i uc) rfl rfl rfl isAgg40 rfl) rfl rfl <| J.d9 ?_ ?_
  ·
   refine J.a2 rfl (qAH (l := [.tmp 59]) (xs := [[Ptr g29]]) rfl rfl rfl rfl qON el105 rfl (by decide) (by decide) (by simp)) rfl (by simp) fun g60 _ => ?_
   change J _ _ _ [F, m13, m48, blk g16 [Ptr g13, Ptr g14, .slice kA i kc, .int .u64 0, Str [], I 0, I 0, .slice none 0 0, .int .u64 0, Str [], I 0, I 0, .slice none 0 0, .slice uA i uc] 42, mk, G, mu, m29, blk g60 [Ptr g29] 105] _
   refine J.d9 ?_ ?_
   ·
    refine J.a2 rfl (qAY (i := 4) (xs := qCu gs) (m2 := blk g60 [Ptr g29] 105) (ys := [[Ptr g29]]) rfl rfl rfl qON qON el105 rfl hkr (by simp) ((qBG (q := True) (qCu [g29]) rfl (by simp [qCu]) rfl).sl) rfl (by first | omega | (simp only [List.length_cons, List.length_nil]; omega) | decide) (by first | omega | (simp only [List.length_cons, List.length_nil]; omega) | decide)) rfl (by simp) ?_
    rintro ⟨A61, c61, m61⟩ h61
    try dsimp only at h61
    change J _ ((61, .slice A61 (i + 1) c61) :: _) _ [_, _, _, _, m61, _, _, _, _] _
    rw [← qEO] at h61
    refine J.a2 rfl (qAH (l := [.const ((Value.int IntKind.i64 0))]) (xs := [[I ((0 : Nat) : Int)]]) rfl rfl rfl rfl qCQ el3 rfl (by decide) (by decide) (by simp)) rfl (by simp) fun g66 _ => ?_
    change J _ _ _ [_, _, _, _, _, _, _, _, _, blk g66 [I ((0 : Nat) : Int)] 3] _
    refine J.a2 rfl (qAY (i := 6) (xs := qA9 (List.replicate i 0)) (m2 := blk g66 [I ((0 : Nat) : Int)] 3) (ys := [[I ((0 : Nat) : Int)]]) rfl rfl rfl qCQ qCQ el3 rfl hur (by simp) ((qBG (q := True) (qA9 [0]) rfl (by simp [qA9]) rfl).sl) rfl (by first | omega | (simp only [List.length_cons, List.length_nil]; omega) | decide) (by first | omega | (simp only [List.length_cons, List.length_nil]; omega) | decide)) rfl (by simp) ?_
    rintro ⟨A67, c67, m67⟩ h67
    try dsimp only at h67
    change J _ ((67, .slice A67 (i + 1) c67) :: _) _ [_, _, _, _, _, _, m67, _, _, _] _
    rw [← qES] at h67
    refine J.k rfl (qAD rfl rfl) rfl rfl <| J.k rfl (qAA (j := 2) rfl rfl qCf rfl qQN rfl) rfl rfl <| J.c8 rfl (qAc (i := 3) (l := [Ptr g13, Ptr g14, .slice kA i kc, .int .u64 0, Str [], I 0, I 0, .slice none 0 0, .int .u64 0, Str [], I 0, I 0, .slice none 0 0, .slice uA i uc]) (vs := [.slice A61 (i + 1) c61]) rfl rfl rfl rfl rfl qQN rfl (by simp)) rfl rfl rfl fun _ _ => ?_
    change J _ _ _ [_, _, _, blk g16 [Ptr g13, Ptr g14, .slice A61 (i + 1) c61, .int .u64 0, Str [], I 0, I 0, .slice none 0 0, .int .u64 0, Str [], I 0, I 0, .slice none 0 0, .slice uA i uc] 42, _, _, _, _, _, _] _
    refine J.d7 rfl (YOp.eop (qAD rfl rfl)) rfl rfl rfl rfl ?_
    intro _ _
    refine J.d7 rfl (YOp.eop (qAA (j := 13) rfl rfl qCf rfl qLh rfl)) rfl rfl rfl rfl ?_
    intro _ _
    refine J.c8 rfl (qAc (i := 3) (l := [Ptr g13, Ptr g14, .slice A61 (i + 1) c61, .int .u64 0, Str [], I 0, I 0, .slice none 0 0, .int .u64 0, Str [], I 0, I 0, .slice none 0 0, .slice uA i uc]) (vs := [.slice A67 (i + 1) c67]) rfl rfl rfl rfl rfl qLh rfl (by simp)) rfl rfl rfl fun _ _ => ?_
    change J _ _ _ [_, _, _, blk g16 [Ptr g13, Ptr g14, .slice A61 (i + 1) c61, .int .u64 0, Str [], I 0, I 0, .slice none 0 0, .int .u64 0, Str [], I 0, I 0, .slice none 0 0, .slice A67 (i + 1) c67] 42, _, _, _, _, _, _] _
    refine J.c4 [5, 7, 0, 1, 2, 3, 4, 6] [G, m29, F, m13, m48, blk g16 [Ptr g13, Ptr g14, .slice A61 (i + 1) c61, .int .u64 0, Str [], I 0, I 0, .slice none 0 0, .int .u64 0, Str [], I 0, I 0, .slice none 0 0, .slice A67 (i + 1) c67] 42, m61, m67] rfl (by decide) <| J.c6 (fun hj => ?_)
    refine J.b3 <| J.a5 <| J.A (J.L hK7 ?_)
    refine J.T 0 1 5 6 ?_
    exact J.M <| J.b rfl <| J.f ((qAU rfl rfl rfl (by first | omega | (simp only [List.length_cons, List.length_nil]; omega) | decide)).nat (i + 1) (by omega)) rfl <| J.b rfl <| J.a6 <| J.A <| J.a8 (i + 1, gs ++ [g29], A61, c61, A67, c67, m48, m61, U [G, m29], m67) (fun η (hη : _ ∧ a - η.1 < a - i) => hI0 η hη.1 hη.2) ⟨⟨by dsimp only; omega, by dsimp only; rw [List.length_append, hgl]; rfl, h48, h61, (hks.mono (qBL hj)).snoc hgl (h29.mono (qDV hj)), by dsimp only; rw [List.replicate_succ']; exact h67⟩, by first | omega | (dsimp only; omega)⟩ ⟨rfl, rfl, rfl, rfl, trivial⟩ (fun _ h => h.pick [1, 2, 3, 4, 5, 0, 6] (by decide))
   refine J.a2 rfl (qAH (l := [.const ((Value.int IntKind.i64 0))]) (xs := [[I ((0 : Nat) : Int)]]) rfl rfl rfl rfl qCQ el3 rfl (by decide) (by decide) (by simp)) rfl (by simp) fun g66 _ => ?_
   change J _ _ _ [F, m13, m48, blk g16 [Ptr g13, Ptr g14, .slice kA i kc, .int .u64 0, Str [], I 0, I 0, .slice none 0 0, .int .u64 0, Str [], I 0, I 0, .slice none 0 0, .slice uA i uc] 42, mk, G, mu, m29, blk g60 [Ptr g29] 105, blk g66 [I ((0 : Nat) : Int)] 3] _
   refine J.a2 rfl (qAY (i := 4) (xs := qCu gs) (m2 := blk g60 [Ptr g29] 105) (ys := [[Ptr g29]]) rfl rfl rfl qON qON el105 rfl hkr (by simp) ((qBG (q := True) (qCu [g29]) rfl (by simp [qCu]) rfl).sl) rfl (by first | omega | (simp only [List.length_cons, List.length_nil]; omega) | decide) (by first | omega | (simp only [List.length_cons, List.length_nil]; omega) | decide)) rfl (by simp) ?_
   rintro ⟨A61, c61, m61⟩ h61
   try dsimp only at h61
   change J _ ((61, .slice A61 (i + 1) c61) :: _) _ [_, _, _, _, m61, _, _, _, _, _] _
   rw [← qEO] at h61
   refine J.a2 rfl (qAY (i := 6) (xs := qA9 (List.replicate i 0)) (m2 := blk g66 [I ((0 : Nat) : Int)] 3) (ys := [[I ((0 : Nat) : Int)]]) rfl rfl rfl qCQ qCQ el3 rfl hur (by simp) ((qBG (q := True) (qA9 [0]) rfl (by simp [qA9]) rfl).sl) rfl (by first | omega | (simp only [List.length_cons, List.length_nil]; omega) | decide) (by first | omega | (simp only [List.length_cons, List.length_nil]; omega) | decide)) rfl (by simp) ?_
   rintro ⟨A67, c67, m67⟩ h67
   try dsimp only at h67
   change J _ ((67, .slice A67 (i + 1) c67) :: _) _ [_, _, _, _, _, _, m67, _, _, _] _
   rw [← qES] at h67
   refine J.k rfl (qAD rfl rfl) rfl rfl <| J.k rfl (qAA (j := 2) rfl rfl qCf rfl qQN rfl) rfl rfl <| J.c8 rfl (qAc (i := 3) (l := [Ptr g13, Ptr g14, .slice kA i kc, .int .u64 0, Str [], I 0, I 0, .slice none 0 0, .int .u64 0, Str [], I 0, I 0, .slice none 0 0, .slice uA i uc]) (vs := [.slice A61 (i + 1) c61]) rfl rfl rfl rfl rfl qQN rfl (by simp)) rfl rfl rfl fun _ _ => ?_
   change J _ _ _ [_, _, _, blk g16 [Ptr g13, Ptr g14, .slice A61 (i + 1) c61, .int .u64 0, Str [], I 0, I 0, .slice none 0 0, .int .u64 0, Str [], I 0, I 0, .slice none 0 0, .slice uA i uc] 42, _, _, _, _, _, _] _
   refine J.d7 rfl (YOp.eop (qAD rfl rfl)) rfl rfl rfl rfl ?_
   intro _ _
   refine J.d7 rfl (YOp.eop (qAA (j := 13) rfl rfl qCf rfl qLh rfl)) rfl rfl rfl rfl ?_
   intro _ _
   refine J.c8 rfl (qAc (i := 3) (l := [Ptr g13, Ptr g14, .slice A61 (i + 1) c61, .int .u64 0, Str [], I 0, I 0, .slice none 0 0, .int .u64 0, Str [], I 0, I 0, .slice none 0 0, .slice uA i uc]) (vs := [.slice A67 (i + 1) c67]) rfl rfl rfl rfl rfl qLh rfl (by simp)) rfl rfl rfl fun _ _ => ?_
   change J _ _ _ [_, _, _, blk g16 [Ptr g13, Ptr g14, .slice A61 (i + 1) c61, .int .u64 0, Str [], I 0, I 0, .slice none 0 0, .int .u64 0, Str [], I 0, I 0, .slice none 0 0, .slice A67 (i + 1) c67] 42, _, _, _, _, _, _] _
   refine J.c4 [5, 7, 0, 1, 2, 3, 4, 6] [G, m29, F, m13, m48, blk g16 [Ptr g13, Ptr g14, .slice A61 (i + 1) c61, .int .u64 0, Str [], I 0, I 0, .slice none 0 0, .int .u64 0, Str [], I 0, I 0, .slice none 0 0, .slice A67 (i + 1) c67] 42, m61, m67] rfl (by decide) <| J.c6 (fun hj => ?_)
   refine J.b3 <| J.a5 <| J.A (J.L hK7 ?_)
   refine J.T 0 1 5 6 ?_
   exact J.M <| J.b rfl <| J.f ((qAU rfl rfl rfl (by first | omega | (simp only [List.length_cons, List.length_nil]; omega) | decide)).nat (i + 1) (by omega)) rfl <| J.b rfl <| J.a6 <| J.A <| J.a8 (i + 1, gs ++ [g29], A61, c61, A67, c67, m48, m61, U [G, m29], m67) (fun η (hη : _ ∧ a - η.1 < a - i) => hI0 η hη.1 hη.2) ⟨⟨by dsimp only; omega, by dsimp only; rw [List.length_append, hgl]; rfl, h48, h61, (hks.mono (qBL hj)).snoc hgl (h29.mono (qDV hj)), by dsimp only; rw [List.replicate_succ']; exact h67⟩, by first | omega | (dsimp only; omega)⟩ ⟨rfl, rfl, rfl, rfl, trivial⟩ (fun _ h => h.pick [1, 2, 3, 4, 5, 0, 6] (by decide))
  refine J.a2 rfl (qAH (l := [.const ((Value.int IntKind.i64 0))]) (xs := [[I ((0 : Nat) : Int)]]) rfl rfl rfl rfl qCQ el3 rfl (by decide) (by decide) (by simp)) rfl (by simp) fun g66 _ => ?_
  change J _ _ _ [F, m13, m48, blk g16 [Ptr g13, Ptr g14, .slice kA i kc, .int .u64 0, Str [], I 0, I 0, .slice none 0 0, .int .u64 0, Str [], I 0, I 0, .slice none 0 0, .slice uA i uc] 42, mk, G, mu, m29, blk g66 [I ((0 : Nat) : Int)] 3] _
  refine J.a2 rfl (qAH (l := [.tmp 59]) (xs := [[Ptr g29]]) rfl rfl rfl rfl qON el105 rfl (by decide) (by decide) (by simp)) rfl (by simp) fun g60 _ => ?_
  change J _ _ _ [_, _, _, _, _, _, _, _, _, blk g60 [Ptr g29] 105] _
  refine J.a2 rfl (qAY (i := 4) (xs := qCu gs) (m2 := blk g60 [Ptr g29] 105) (ys := [[Ptr g29]]) rfl rfl rfl qON qON el105 rfl hkr (by simp) ((qBG (q := True) (qCu [g29]) rfl (by simp [qCu]) rfl).sl) rfl (by first | omega | (simp only [List.length_cons, List.length_nil]; omega) | decide) (by first | omega | (simp only [List.length_cons, List.length_nil]; omega) | decide)) rfl (by simp) ?_
  rintro ⟨A61, c61, m61⟩ h61
  try dsimp only at h61
  change J _ ((61, .slice A61 (i + 1) c61) :: _) _ [_, _, _, _, m61, _, _, _, _, _] _
  rw [← qEO] at h61
  refine J.a2 rfl (qAY (i := 6) (xs := qA9 (List.replicate i 0)) (m2 := blk g66 [I ((0 : Nat) : Int)] 3) (ys := [[I ((0 : Nat) : Int)]]) rfl rfl rfl qCQ qCQ el3 rfl hur (by simp) ((qBG (q := True) (qA9 [0]) rfl (by simp [qA9]) rfl).sl) rfl (by first | omega | (simp only [List.length_cons, List.length_nil]; omega) | decide) (by first | omega | (simp only [List.length_cons, List.length_nil]; omega) | decide)) rfl (by simp) ?_
  rintro ⟨A67, c67, m67⟩ h67
  try dsimp only at h67
  change J _ ((67, .slice A67 (i + 1) c67) :: _) _ [_, _, _, _, _, _, m67, _, _, _] _
  rw [← qES] at h67
  refine J.k rfl (qAD rfl rfl) rfl rfl <| J.k rfl (qAA (j := 2) rfl rfl qCf rfl qQN rfl) rfl rfl <| J.c8 rfl (qAc (i := 3) (l := [Ptr g13, Ptr g14, .slice kA i kc, .int .u64 0, Str [], I 0, I 0, .slice none 0 0, .int .u64 0, Str [], I 0, I 0, .slice none 0 0, .slice uA i uc]) (vs := [.slice A61 (i + 1) c61]) rfl rfl rfl rfl rfl qQN rfl (by simp)) rfl rfl rfl fun _ _ => ?_
  change J _ _ _ [_, _, _, blk g16 [Ptr g13, Ptr g14, .slice A61 (i + 1) c61, .int .u64 0, Str [], I 0, I 0, .slice none 0 0, .int .u64 0, Str [], I 0, I 0, .slice none 0 0, .slice uA i uc] 42, _, _, _, _, _, _] _
  refine J.d7 rfl (YOp.eop (qAD rfl rfl)) rfl rfl rfl rfl ?_
  intro _ _
  refine J.d7 rfl (YOp.eop (qAA (j := 13) rfl rfl qCf rfl qLh rfl)) rfl rfl rfl rfl ?_
  intro _ _
  refine J.c8 rfl (qAc (i := 3) (l := [Ptr g13, Ptr g14, .slice A61 (i + 1) c61, .int .u64 0, Str [], I 0, I 0, .slice none 0 0, .int .u64 0, Str [], I 0, I 0, .slice none 0 0, .slice uA i uc]) (vs := [.slice A67 (i + 1) c67]) rfl rfl rfl rfl rfl qLh rfl (by simp)) rfl rfl rfl fun _ _ => ?_
  change J _ _ _ [_, _, _, blk g16 [Ptr g13, Ptr g14, .slice A61 (i + 1) c61, .int .u64 0, Str [], I 0, I 0, .slice none 0 0, .int .u64 0, Str [], I 0, I 0, .slice none 0 0, .slice A67 (i + 1) c67] 42, _, _, _, _, _, _] _
  refine J.c4 [5, 7, 0, 1, 2, 3, 4, 6] [G, m29, F, m13, m48, blk g16 [Ptr g13, Ptr g14, .slice A61 (i + 1) c61, .int .u64 0, Str [], I 0, I 0, .slice none 0 0, .int .u64 0, Str [], I 0, I 0, .slice none 0 0, .slice A67 (i + 1) c67] 42, m61, m67] rfl (by decide) <| J.c6 (fun hj => ?_)
  refine J.b3 <| J.a5 <| J.A (J.L hK7 ?_)
  refine J.T 0 1 5 6 ?_
  exact J.M <| J.b rfl <| J.f ((qAU rfl rfl rfl (by first | omega | (simp only [List.length_cons, List.length_nil]; omega) | decide)).nat (i + 1) (by omega)) rfl <| J.b rfl <| J.a6 <| J.A <| J.a8 (i + 1, gs ++ [g29], A61, c61, A67, c67, m48, m61, U [G, m29], m67) (fun η (hη : _ ∧ a - η.1 < a - i) => hI0 η hη.1 hη.2) ⟨⟨by dsimp only; omega, by dsimp only; rw [List.length_append, hgl]; rfl, h48, h61, (hks.mono (qBL hj)).snoc hgl (h29.mono (qDV hj)), by dsimp only; rw [List.replicate_succ']; exact h67⟩, by first | omega | (dsimp only; omega)⟩ ⟨rfl, rfl, rfl, rfl, trivial⟩ (fun _ h => h.pick [1, 2, 3, 4, 5, 0, 6] (by decide))
 refine J.b5 <| J.a4 <| J.a4 <| J.b7 ?_
 refine J.A (J.L hK3 ?_)
 refine J.O 0 1 5 ?_
 refine J.p fun K15 hK15 => ?_
 obtain rfl : a = i := by omega
 obtain ⟨A3, n3, c3, hcA, hsA, hnA⟩ := hro.see
 have hwl := qJW a
 have hfi := qB2 ha
 refine J.c0 [F, blk g16 [Ptr g13, Ptr g14, .slice kA a kc, .int .u64 0, Str [], I 0, I 0, .slice none 0 0, .int .u64 0, Str [], I 0, I 0, .slice none 0 0, .slice uA a uc] 42] [] (.y 0 (.y 1 (.y 2 (.y 3 (.y 4 (.y 5 (.y 6 (.y 7 (.e 8 .nil))))))))) Tryz.wide (by decide +kernel) (by simp) ?_
 refine J.V ?_
 refine J.k rfl (qAD rfl rfl) rfl rfl <| J.k rfl (qAA (j := 1) rfl rfl qCf rfl sizeOf34 rfl) rfl rfl <| J.k rfl (qAE 1 (v := Ptr g14) rfl rfl rfl isAgg34 rfl) rfl rfl <| J.V ?_
 refine J.k rfl (qAD rfl rfl) rfl rfl <| J.k rfl (qAA (j := 0) rfl rfl qCf rfl sizeOf33 rfl) rfl rfl <| J.k rfl (qAE 1 (v := Ptr g13) rfl rfl rfl isAgg33 rfl) rfl rfl <| J.a2 rfl (qAC rfl rfl ent36 (Ct.use1 1 (m' := fun x : Hp => x) (new := fun _ => []) rfl (fun F' hF => qRg F' m13 (hK.mo hF) g14 A3 n3 c3 (wL a) (hsA.mono (hF mr (by simp))) (by omega) (hcA.mono (hF mr (by simp))) g13 [] h13 (qOI ha) (by omega)))) rfl (by simp) ?_
 rintro m80 h80
 change J _ _ _ [F, m80, mr, blk g16 [Ptr g13, Ptr g14, .slice kA a kc, .int .u64 0, Str [], I 0, I 0, .slice none 0 0, .int .u64 0, Str [], I 0, I 0, .slice none 0 0, .slice uA a uc] 42, mk, G, mu] _
 rw [show n3 = a by omega, lay_w ha] at h80
 refine J.b3 <| J.A (J.L hK15 ?_)
 refine J.O 0 1 5 ?_
 refine J.g fun K16 hK16 => J.b rfl <| J.f (qAD rfl rfl) rfl <| J.a7 0 qCf sizeOf33 rfl rfl rfl rfl rfl <| J.f (qAE 3 (v := Ptr g13) rfl rfl rfl isAgg33 rfl) rfl <| J.b rfl <| J.q (qAC rfl rfl ent37 (Ct.use (new := fun x : Option Addr × Nat × Hp => [x.2.2]) (fun F' hF => qNr F' (hK.mo hF) g13 (qAB a) (h80.at.mono (hF m80 (by simp))) (by assumption) d (by omega)))) rfl ?_
 rintro ⟨A87, c87, m87⟩ h87
 try dsimp only at h87
 change J _ ((87, .tuple #[.slice A87 (qAI (qAB a) d).length c87, I ((0 : Nat) : Int)]) :: _) _ [_, _, _, _, _, _, _, m87] _
 refine J.j 5 rfl <| J.c hK16 <| J.a3 0 1 5 11 12 ?_
 refine J.p fun K17 hK17 => J.g fun K18 hK18 => J.b rfl <| J.f ((qAz rfl rfl rfl).no (fun h => h rfl)) rfl <| J.c hK18 <| J.a3 0 1 5 11 91 ?_
 refine J.b2 ?_
 refine J.a1 hK17 <| J.T 0 1 5 11 ?_
 refine J.g fun K19 hK19 => J.j 4 rfl <| J.f (qAL (l := [(1, .const ((Value.string (ByteArray.mk #[0, 0, 0, 0, 0, 0, 0, 0, 0, 0, 0, 0, 0, 0, 0, 0])))), (2, .tmp 93), (3, .tmp 94), (4, .tmp 95)]) (vs := [Str ([0, 0, 0, 0, 0, 0, 0, 0, 0, 0, 0, 0, 0, 0, 0, 0]), I ((d : Nat) : Int), I ((a : Nat) : Int), .slice A87 ((qAI (qAB a) d).length) c87]) (places := [(0, 1), (1, 1), (2, 1), (3, 1), (4, 1)]) (r := [.int .u64 0, Str ([0, 0, 0, 0, 0, 0, 0, 0, 0, 0, 0, 0, 0, 0, 0, 0]), I ((d : Nat) : Int), I ((a : Nat) : Int), .slice A87 ((qAI (qAB a) d).length) c87]) rfl rfl rfl qDy zeroValue39 (fun _ => by kernel_rfl) rfl) rfl <| J.f (qAD rfl rfl) rfl <| J.a7 3 qCf qBf rfl rfl rfl rfl rfl <| J.b4 (qAc (i := 3) (vs := [N64 0, Str qA8, I ((d : Nat) : Int), I ((a : Nat) : Int), .slice A87 (qAI (qAB a) d).length c87]) rfl rfl rfl rfl rfl qBf rfl (by simp)) rfl rfl fun _ _ => ?_
 change J _ _ _ [_, _, _, blk g16 [Ptr g13, Ptr g14, .slice kA a kc, N64 0, Str qA8, I ((d : Nat) : Int), I ((a : Nat) : Int), .slice A87 (qAI (qAB a) d).length c87, .int .u64 0, Str [], I 0, I 0, .slice none 0 0, .slice uA a uc] 42, _, _, _, _] _
 refine J.c hK19 <| J.T 0 1 5 11 ?_
 refine J.g fun K20 hK20 => J.j 2 rfl <| J.f (qAD rfl rfl) rfl <| J.a7 3 qCf qBf rfl rfl rfl rfl rfl <| J.f (qAd (vs := [N64 0, Str qA8, I ((d : Nat) : Int), I ((a : Nat) : Int), .slice A87 (qAI (qAB a) d).length c87]) rfl rfl qDR qBf (m := blk g16 [Ptr g13, Ptr g14, .slice kA a kc, N64 0, Str qA8, I ((d : Nat) : Int), I ((a : Nat) : Int), .slice A87 (qAI (qAB a) d).length c87, .int .u64 0, Str [], I 0, I 0, .slice none 0 0, .slice uA a uc] 42) (by simp) (qAS.blk 3 (fun j u hj => match j, hj with | 0, h => h | 1, h => h | 2, h => h | 3, h => h | 4, h => h)) rfl) rfl <| J.q (qAC rfl rfl ent11 (Ct.use0 (fun F' hF => qBV F' (hK.mo hF) (pW a d) A87 c87 (qBr a hd) (h87.sl.mono (hF m87 (by simp)))))) rfl fun g104 _ => J.j 3 rfl <| J.f (qAL (l := [(0, .const ((Value.int IntKind.u64 1))), (1, .tmp 104), (2, .tmp 105), (3, .tmp 106), (4, .tmp 107)]) (vs := [N64 (1), Str ((pW a d).dig), I ((d : Nat) : Int), I ((a : Nat) : Int), .slice A87 ((qAI (qAB a) d).length) c87]) (places := [(0, 1), (1, 1), (2, 1), (3, 1), (4, 1)]) (r := [N64 (1), Str ((pW a d).dig), I ((d : Nat) : Int), I ((a : Nat) : Int), .slice A87 ((qAI (qAB a) d).length) c87]) rfl rfl rfl qDy zeroValue39 (fun _ => by kernel_rfl) rfl) rfl <| J.f (qAD rfl rfl) rfl <| J.a7 8 qCf qBf rfl rfl rfl rfl rfl <| J.b4 (qAc (i := 3) (vs := [N64 1, Str (pW a d).dig, I ((d : Nat) : Int), I ((a : Nat) : Int), .slice A87 (qAI (qAB a) d).length c87]) rfl rfl rfl rfl rfl qBf rfl (by simp)) rfl rfl fun _ _ => ?_
 change J _ _ _ [_, _, _, blk g16 [Ptr g13, Ptr g14, .slice kA a kc, N64 0, Str qA8, I ((d : Nat) : Int), I ((a : Nat) : Int), .slice A87 (qAI (qAB a) d).length c87, N64 1, Str (pW a d).dig, I ((d : Nat) : Int), I ((a : Nat) : Int), .slice A87 (qAI (qAB a) d).length c87, .slice uA a uc] 42, _, _, _, _] _
 refine J.c hK20 <| J.u 5 ?_
 refine J.g fun K21 hK21 => J.j 2 rfl <| J.c hK21 <| J.u 4 ?_
 exact J.D <| J.H hw0 rfl (⟨g16, g13, g14, gs, kA, kc, A87, c87, uA, uc, m80, mr, mk, G, mu, m87⟩ : WdR) rfl ⟨hgl, hro, hkr, hks, hur, h80, h87⟩ [0, 3, 1, 2, 4, 5, 6, 7] rfl (by decide)
theorem ent46 : qAF prog 46 := qAF.of func46 rfl (by kernel_rfl)
theorem qDA (a : Nat) {d : Nat} (hd : d ≤ 1) (hp : (pW a d).dig.length = 16) : (nW a d).good := ⟨by show 1 < _; decide, by show (pW a d).dig.length ≤ _; rw [hp]; decide, by have := qDk a hd; show (qAI (qAB a) d).length ≤ _; omega⟩
structure VoR where
 A1 : Option Addr
 c1 : Nat
 m1 : Hp
 A2 : Option Addr
 c2 : Nat
 m2 : Hp
 s : Nat
 A3 : Option Addr
 c3 : Nat
 m3 : Hp
 mr : Hp
 mu : Hp
def vtW (a d nm b : Nat) (us : List Nat) (r : VoR) : VtD := ⟨1, b, (nW a d).dig, nm, us.getD nm 0 % 4, r.A1, r.c1, (sgC (qAG nm) (us.getD nm 0 % 4) (atM 1 b nm (nW a d).dig)), r.A2, r.c2, (sgP (qAG nm) 2 (us.getD nm 0 % 4)), wN nm, Wo.opn (qAG nm), Xm.root (qAG nm) 2, 2, r.A3, r.c3, (bsd (qAB a) (qAM nm) 0 (r.s - 0)), qAw (qAB a) (qAM nm) r.s, qCB (qAB a) (qAM nm) r.s, qCL (qAB a) (qAM nm) r.s⟩
structure VoP (a d nm b : Nat) (us : List Nat) (gr : Nat) (uA : Option Addr) (uc : Nat) (r : VoR) : Prop where
 r1 : Row r.m1 9 1 r.A1 (sgC (qAG nm) (us.getD nm 0 % 4) (atM 1 b nm (nW a d).dig)).length r.c1 (qAJ (sgC (qAG nm) (us.getD nm 0 % 4) (atM 1 b nm (nW a d).dig)))
 r2 : Row r.m2 9 1 r.A2 (sgP (qAG nm) 2 (us.getD nm 0 % 4)).length r.c2 (qAJ (sgP (qAG nm) 2 (us.getD nm 0 % 4)))
 st : qLa (qAB a) (qAM nm) 0 r.s
 r3 : Row r.m3 9 1 r.A3 (bsd (qAB a) (qAM nm) 0 (r.s - 0)).length r.c3 (qAJ (bsd (qAB a) (qAM nm) 0 (r.s - 0)))
 ro : qJP r.mr gr (wL a)
 ur : Row r.mu 3 1 uA a uc (qA9 (us.set nm (us.getD nm 0 + 1)))
theorem atW {a nm : Nat} (h : nm < a) : atA (wL a) ((nm : Nat) : Int) = wA nm := by
 unfold atA
 rw [if_pos (by rw [qJW]; omega)]; exact qQR h
theorem qCz (F mr mu : Hp) (hK : KF F) (a d nm b gw gt gr kc nn nc uc gu : Nat) (kA nA : Option Addr) (gs us : List Nat) (ha : a ≤ 5) (hd : d ≤ 1) (hnm : nm < a) (hb : b < 16) (hpd : (pW a d).dig.length = 16) (hnd : (nW a d).dig.length = 16) (hw : qAS F ⟨gw, 0, none⟩ (wdC gt gr kA a kc nA nn nc a d (some ⟨gu, 0, none⟩) uc)) (hgl : gs.length = a) (hkr : Sl F 1 kA a kc (qCu gs)) (hks : qEc F gs) (hro : qJP mr gr (wL a)) (hul : us.length = a) (hu0 : ∀ j, us.getD j 0 ≤ 1000000) (hur : Row mu 3 1 (some ⟨gu, 0, none⟩) a uc (qA9 us)) (hT : qEb F gt (qAB a)) (hnl : (qAI (qAB a) d).length = nn) (hnr : Sl F 1 nA nn nc (qAJ (qAI (qAB a) d))) : Ct prog 12 [Ptr gw, I ((nm : Nat) : Int), I ((b : Nat) : Int)] [mr, mu, F] (fun r : VoR => .agg (vtW a d nm b us r).cells.toArray) (fun r => VoP a d nm b us gr (some ⟨gu, 0, none⟩) uc r) (fun r => [r.mr, r.mu, F, r.m1, r.m2, r.m3]) := by
 have hks1 := hks nm (by omega)
 have hfi := qB2 ha
 have hus := hu0 nm
 have hpk := qB6 nm
 refine Ct.walk func12 rfl ntmps12 rfl (fun w0 hw0 => ?_)
 change J _ [(0, _), (1, _), (2, _)] _ _ _
 refine J.g fun K1 hK1 => J.q (qAe (l := [.int .u64 0, I 0, Str [], I 0, I 0, .slice none 0 0, .slice none 0 0, Str [], Str [], Str [], I 0, .slice none 0 0, .bool false, Str [], Str []]) rfl qT0 rfl) rfl fun g6 _ => ?_
 change J _ _ _ [mr, mu, F, blk g6 [.int .u64 0, I 0, Str [], I 0, I 0, .slice none 0 0, .slice none 0 0, Str [], Str [], Str [], I 0, .slice none 0 0, .bool false, Str [], Str []] 60] _
 refine J.c hK1 <| J.T 0 1 2 6 ?_
 refine J.g fun K2 hK2 => J.j 2 rfl <| J.f (qAD rfl rfl) rfl <| J.a7 8 qCf qBf rfl rfl rfl rfl rfl <| J.f (qAd (vs := [N64 1, Str ((pW a d).dig), I ((d : Nat) : Int), I ((a : Nat) : Int), .slice nA nn nc]) rfl rfl qDR qBf (m := F) (by simp) (hw.sub 8 5) rfl) rfl <| J.q (qAC rfl rfl ent11 (Ct.use0 (fun F' hF => (by have := qBV F' (hK.mo hF) (nW a d) nA nc (qDA a hd hpd) (by rw [show (nW a d).nodes.length = nn from hnl]; exact hnr.mono (hF F (by simp))); rw [show (nW a d).nodes.length = nn from hnl] at this; exact this)))) rfl fun g17 _ => J.b rfl <| J.f (qAL (l := [(0, .const ((Value.int IntKind.u64 1))), (1, .tmp 12), (2, .tmp 17), (3, .tmp 18)]) (vs := [N64 (1), I ((b : Nat) : Int), Str ((nW a d).dig), I ((nm : Nat) : Int)]) (places := [(0, 1), (1, 1), (2, 1), (3, 1), (4, 3)]) (r := [N64 (1), I ((b : Nat) : Int), Str ((nW a d).dig), I ((nm : Nat) : Int), I 0, .slice none 0 0, .slice none 0 0]) rfl rfl rfl qEI zeroValue52 (fun _ => by kernel_rfl) (by kernel_rfl)) rfl <| J.q (qAe (l := [.int .u64 0, I 0, Str [], I 0, I 0, .slice none 0 0, .slice none 0 0]) rfl zeroValue52 rfl) rfl fun g7 _ => ?_
 change J _ _ _ [_, _, _, _, blk g7 [.int .u64 0, I 0, Str [], I 0, I 0, .slice none 0 0, .slice none 0 0] 52] _
 refine J.b4 (qAP (i := 4) (l := [.int .u64 0, I 0, Str [], I 0, I 0, .slice none 0 0, .slice none 0 0]) (vs := [N64 (1), I ((b : Nat) : Int), Str ((nW a d).dig), I ((nm : Nat) : Int), I 0, .slice none 0 0, .slice none 0 0]) rfl rfl rfl rfl rfl qEd rfl rfl) rfl rfl fun _ _ => ?_
 change J _ _ _ [_, _, _, _, blk g7 [N64 (1), I ((b : Nat) : Int), Str ((nW a d).dig), I ((nm : Nat) : Int), I 0, .slice none 0 0, .slice none 0 0] 52] _
 refine J.c hK2 <| J.T 0 1 6 7 ?_
 refine J.p fun K3 hK3 => J.c0 [F, blk g7 [N64 (1), I ((b : Nat) : Int), Str ((nW a d).dig), I ((nm : Nat) : Int), I 0, .slice none 0 0, .slice none 0 0] 52, mu] [22, 100020] (.y 0 (.y 1 (.y 2 (.y 3 (.y 4 (.y 5 (.y 6 (.y 7 (.y 8 (.y 9 (.y 10 (.y 11 (.y 12 (.y 13 (.y 14 (.y 15 (.e 16 (.e 17 (.y 18 (.y 19 (.y 20 (.y 21 (.e 22 .nil))))))))))))))))))))))) Tryz.wide (by decide +kernel) (by simp) ?_
 refine J.V ?_
 refine J.k rfl (qAD rfl rfl) rfl rfl <| J.k rfl (qAA (j := 2) rfl rfl qCf rfl qQN rfl) rfl rfl <| J.k rfl (qAQ (v := .slice kA a kc) rfl rfl isAgg35 (m := F) (by simp) (hw.at (i := 2) rfl)) rfl rfl <| J.V ?_
 refine J.k rfl (qAK (i := nm) rfl rfl rfl qON sizeOf105 hkr (by omega)) rfl rfl <| J.k rfl (qAQ rfl rfl isAgg105 (m := F) (by simp) (hkr.elem (qMd (by omega)))) rfl rfl <| J.V ?_
 refine J.k rfl (qAD rfl rfl) rfl rfl <| J.k rfl (qAA (j := 13) rfl rfl qCf rfl qLh rfl) rfl rfl <| J.k rfl (qAQ (v := .slice (some ⟨gu, 0, none⟩) a uc) rfl rfl isAgg40 (m := F) (by simp) (hw.at (i := 13) rfl)) rfl rfl <| J.V ?_
 refine J.k rfl (qAV (i := nm) (j := 0 + nm * 1) rfl rfl rfl qCQ z3_ (by omega) (by omega)) rfl rfl <| J.k rfl (qAQ rfl rfl b3_ (m := mu) (by simp) (hur.sl.cells (qBy (by omega)))) rfl rfl <| J.k rfl ((qG6 2 rfl rfl rfl (by decide) (by decide)).nat (us.getD nm 0 % 4) (by omega)) rfl rfl <| J.k rfl (qAg 1 rfl rfl rfl isAgg52 qEd rfl) rfl rfl <| J.a2 rfl (qAC rfl rfl ent22 (Ct.use0 (fun F' hF => qFo F' (hK.mo hF) 1 b nm (nW a d).dig 0 none none 0 0 0 0 (by decide) (by omega) (by omega) hnd))) rfl (by simp) fun g37 _ => J.a2 rfl (qAC rfl rfl ent45 (Ct.use (new := fun x : (Option Addr × Nat × Hp) × (Option Addr × Nat × Hp) => [x.1.2.2, x.2.2.2]) (fun F' hF => qLi F' (hK.mo hF) (gs.getD nm 0) (qAG nm) 2 (hks1.mono (hF F (by simp))) (Nat.le_of_ble_eq_true rfl) (by decide) (us.getD nm 0 % 4) (Nat.mod_lt _ (by decide)) (atM 1 b nm (nW a d).dig) (by rw [qNx]; decide)))) rfl (by simp) ?_
 rintro ⟨⟨A1, c1, m1⟩, A2, c2, m2⟩ ⟨h1, h2⟩
 change J _ ((38, .tuple #[.agg #[I ((us.getD nm 0 % 4 : Nat) : Int), .slice A1 (sgC (qAG nm) (us.getD nm 0 % 4) (atM 1 b nm (nW a d).dig)).length c1, .slice A2 (sgP (qAG nm) 2 (us.getD nm 0 % 4)).length c2], I 0]) :: _) _ [_, _, _, _, _, m1, m2] _
 refine J.V ?_
 refine J.d4 (.agg #[I ((us.getD nm 0 % 4 : Nat) : Int), .slice A1 (sgC (qAG nm) (us.getD nm 0 % 4) (atM 1 b nm (nW a d).dig)).length c1, .slice A2 (sgP (qAG nm) 2 (us.getD nm 0 % 4)).length c2]) ?_
 refine J.e7 rfl (qAm (v := I ((0 : Nat) : Int)) rfl rfl rfl) rfl rfl rfl ?_
 refine J.k rfl (qAA (j := 4) rfl rfl qEI rfl qQM rfl) rfl rfl <| J.c8 rfl (qAc (i := 4) (l := [N64 (1), I ((b : Nat) : Int), Str ((nW a d).dig), I ((nm : Nat) : Int), I 0, .slice none 0 0, .slice none 0 0]) (vs := [I ((us.getD nm 0 % 4 : Nat) : Int), .slice A1 (sgC (qAG nm) (us.getD nm 0 % 4) (atM 1 b nm (nW a d).dig)).length c1, .slice A2 (sgP (qAG nm) 2 (us.getD nm 0 % 4)).length c2]) rfl rfl rfl rfl rfl qQM rfl (by simp)) rfl rfl rfl fun _ _ => ?_
 change J _ _ _ [_, _, _, _, blk g7 [N64 (1), I ((b : Nat) : Int), Str ((nW a d).dig), I ((nm : Nat) : Int), I ((us.getD nm 0 % 4 : Nat) : Int), .slice A1 (sgC (qAG nm) (us.getD nm 0 % 4) (atM 1 b nm (nW a d).dig)).length c1, .slice A2 (sgP (qAG nm) 2 (us.getD nm 0 % 4)).length c2] 52, _, _] _
 refine J.b3 <| J.A (J.L hK3 ?_)
 refine J.T 0 1 6 7 ?_
 refine J.g fun K4 hK4 => J.b rfl <| J.f (qAD rfl rfl) rfl <| J.a7 13 qCf qLh rfl rfl rfl rfl rfl <| J.f (qAQ (v := .slice (some ⟨gu, 0, none⟩) a uc) rfl rfl isAgg40 (m := F) (by simp) (hw.at (i := 13) rfl)) rfl <| J.b rfl <| J.f (qAV (i := nm) (j := 0 + nm * 1) rfl rfl rfl qCQ z3_ (by omega) (by omega)) rfl <| J.f (qAQ rfl rfl b3_ (m := mu) (by simp) (hur.sl.cells (qBy (by omega)))) rfl <| J.f ((qAU rfl rfl rfl (by omega)).nat (us.getD nm 0 + 1) (by omega)) rfl <| J.f (qAV (i := nm) (j := 0 + nm * 1) rfl rfl rfl qCQ z3_ (by omega) (by omega)) rfl <| J.b4 (qAu (i := 1) (k := nm) (off := 0) (b := [I ((us.getD nm 0 + 1 : Nat) : Int)]) rfl rfl rfl rfl hur (vs := [I ((us.getD nm 0 + 1 : Nat) : Int)]) rfl z3_ rfl (by omega) (qBy (by omega)) rfl (Nat.le_refl _)) rfl rfl ?_
 rintro m3_1 hm3_1
 change J _ _ _ [_, m3_1, _, _, _, _, _] _
 rw [qH8] at hm3_1
 refine J.c hK4 <| J.T 0 1 6 7 ?_
 refine J.g fun K5 hK5 => J.b rfl <| J.f (qAD rfl rfl) rfl <| J.a7 1 qCf sizeOf34 rfl rfl rfl rfl rfl <| J.f (qAQ (v := Ptr gr) rfl rfl isAgg34 (m := F) (by simp) (hw.at (i := 1) rfl)) rfl <| J.b rfl <| J.q (qAC rfl rfl ent46 (Ct.use1 0 (m' := fun _ : Unit => mr) (new := fun _ => []) rfl (fun F' hF => qTQ F' mr gr (wL a) hro ((nm : Nat) : Int)))) rfl ?_
 rintro _ _
 change J _ _ _ [_, _, _, _, _, _, _] _
 rw [atW hnm]
 refine J.j 3 rfl <| J.q (qAe (l := [Str [], Str [], Str [], I 0]) rfl qSZ rfl) rfl fun g8 _ => ?_
 change J _ _ _ [_, _, _, _, _, _, _, blk g8 [Str [], Str [], Str [], I 0] 56] _
 refine J.b4 (qAP (i := 7) (l := [Str [], Str [], Str [], I 0]) (vs := [Str (wN nm), Str (Wo.opn (qAG nm)), Str (Xm.root (qAG nm) 2), I ((2 : Nat) : Int)]) rfl rfl rfl rfl rfl qEr rfl rfl) rfl rfl fun _ _ => ?_
 change J _ _ _ [_, _, _, _, _, _, _, blk g8 [Str (wN nm), Str (Wo.opn (qAG nm)), Str (Xm.root (qAG nm) 2), I ((2 : Nat) : Int)] 56] _
 refine J.b rfl <| J.c hK5 <| J.a3 0 1 6 7 8 ?_
 refine J.p fun K6 hK6 => J.c0 [F] [11, 12, 100009] (.y 0 (.y 1 (.y 2 (.y 3 (.y 4 (.br (.e 5 (.br (.e 6 (.y 7 (.y 8 (.y 9 (.e 10 (.e 11 (.e 12 .nil))))))) (.e 10 (.e 6 (.y 7 (.y 8 (.y 9 (.e 11 (.e 12 .nil))))))))) (.e 10 (.e 5 (.e 6 (.y 7 (.y 8 (.y 9 (.e 11 (.e 12 .nil)))))))))))))) Tryz.wide (by decide +kernel) (by simp) ?_
 refine J.V ?_
 refine J.k rfl (qAD rfl rfl) rfl rfl <| J.k rfl (qAA (j := 0) rfl rfl qCf rfl sizeOf33 rfl) rfl rfl <| J.k rfl (qAQ (v := Ptr gt) rfl rfl isAgg33 (m := F) (by simp) (hw.at (i := 0) rfl)) rfl rfl <| J.V ?_
 refine J.d9 ?_ ?_
 ·
  refine J.a2 rfl (qAC rfl rfl ent48 (Ct.use0 (fun F' hF => qDL F' (hK.mo hF) nm (by omega)))) rfl (by simp) fun g66 _ => J.d9 ?_ ?_
  ·
   refine J.a2 rfl (qAC rfl rfl ent47 (Ct.use (new := fun x : Nat × Option Addr × Nat × Hp => [x.2.2.2]) (fun F' hF => qGx F' (hK.mo hF) gt (qAB a) (hT.mono (hF F (by simp))) hfi (qAM nm) hpk 0 (by omega)))) rfl (by simp) ?_
   rintro ⟨s3, A3, c3, m3⟩ ⟨hst, h3⟩
   change J _ ((67, .tuple #[.agg #[.slice A3 (bsd (qAB a) (qAM nm) 0 (s3 - 0)).length c3, .bool (qAw (qAB a) (qAM nm) s3), Str (qCB (qAB a) (qAM nm) s3), Str (qCL (qAB a) (qAM nm) s3)], I 0]) :: _) _ [_, _, _, _, _, _, _, _, m3] _
   refine J.V ?_
   refine J.d4 (.agg #[.slice A3 (bsd (qAB a) (qAM nm) 0 (s3 - 0)).length c3, .bool (qAw (qAB a) (qAM nm) s3), Str (qCB (qAB a) (qAM nm) s3), Str (qCL (qAB a) (qAM nm) s3)]) ?_
   refine J.e7 rfl (qAm (v := I ((0 : Nat) : Int)) rfl rfl rfl) rfl rfl rfl ?_
   refine J.a2 rfl (qAe (l := [.slice none 0 0, .bool false, Str [], Str []]) rfl qS3 rfl) rfl (by simp) fun g10 _ => ?_
   change J _ _ _ [_, _, _, _, _, _, _, _, _, blk g10 [.slice none 0 0, .bool false, Str [], Str []] 58] _
   refine J.c8 rfl (qAP (i := 9) (l := [.slice none 0 0, .bool false, Str [], Str []]) (vs := [.slice A3 (bsd (qAB a) (qAM nm) 0 (s3 - 0)).length c3, .bool (qAw (qAB a) (qAM nm) s3), Str (qCB (qAB a) (qAM nm) s3), Str (qCL (qAB a) (qAM nm) s3)]) rfl rfl rfl rfl rfl qFr rfl rfl) rfl rfl rfl fun _ _ => ?_
   change J _ _ _ [_, _, _, _, _, _, _, _, _, blk g10 [.slice A3 (bsd (qAB a) (qAM nm) 0 (s3 - 0)).length c3, .bool (qAw (qAB a) (qAM nm) s3), Str (qCB (qAB a) (qAM nm) s3), Str (qCL (qAB a) (qAM nm) s3)] 58] _
   refine J.d7 rfl (YOp.eop (qBl rfl rfl)) rfl rfl rfl rfl ?_
   intro _ _
   refine J.b3 <| J.A (J.L hK6 ?_)
   refine J.T 6 7 8 10 ?_
   refine J.g fun K7 hK7 => J.c5 4 isAgg52 qEd rfl rfl rfl rfl rfl <| J.c5 7 qLW qEr rfl rfl rfl rfl rfl <| J.c5 9 qLV qFr rfl rfl rfl rfl rfl <| J.f (qAL (l := [(0, .tmp 70), (1, .tmp 71), (2, .tmp 72)]) (vs := [.agg #[N64 (1), I ((b : Nat) : Int), Str ((nW a d).dig), I ((nm : Nat) : Int), I ((us.getD nm 0 % 4 : Nat) : Int), .slice A1 (sgC (qAG nm) (us.getD nm 0 % 4) (atM 1 b nm (nW a d).dig)).length c1, .slice A2 (sgP (qAG nm) 2 (us.getD nm 0 % 4)).length c2], .agg #[Str (wN nm), Str (Wo.opn (qAG nm)), Str (Xm.root (qAG nm) 2), I ((2 : Nat) : Int)], .agg #[.slice A3 (bsd (qAB a) (qAM nm) 0 (s3 - 0)).length c3, .bool (qAw (qAB a) (qAM nm) s3), Str (qCB (qAB a) (qAM nm) s3), Str (qCL (qAB a) (qAM nm) s3)]]) (places := [(0, 7), (7, 4), (11, 4)]) (r := [N64 (1), I ((b : Nat) : Int), Str ((nW a d).dig), I ((nm : Nat) : Int), I ((us.getD nm 0 % 4 : Nat) : Int), .slice A1 (sgC (qAG nm) (us.getD nm 0 % 4) (atM 1 b nm (nW a d).dig)).length c1, .slice A2 (sgP (qAG nm) 2 (us.getD nm 0 % 4)).length c2, Str (wN nm), Str (Wo.opn (qAG nm)), Str (Xm.root (qAG nm) 2), I ((2 : Nat) : Int), .slice A3 (bsd (qAB a) (qAM nm) 0 (s3 - 0)).length c3, .bool (qAw (qAB a) (qAM nm) s3), Str (qCB (qAB a) (qAM nm) s3), Str (qCL (qAB a) (qAM nm) s3)]) rfl rfl rfl qEs qT0 (fun _ => by kernel_rfl) (by kernel_rfl)) rfl <| J.b4 (qAP (i := 3) (l := [.int .u64 0, I 0, Str [], I 0, I 0, .slice none 0 0, .slice none 0 0, Str [], Str [], Str [], I 0, .slice none 0 0, .bool false, Str [], Str []]) (vs := [N64 (1), I ((b : Nat) : Int), Str ((nW a d).dig), I ((nm : Nat) : Int), I ((us.getD nm 0 % 4 : Nat) : Int), .slice A1 (sgC (qAG nm) (us.getD nm 0 % 4) (atM 1 b nm (nW a d).dig)).length c1, .slice A2 (sgP (qAG nm) 2 (us.getD nm 0 % 4)).length c2, Str (wN nm), Str (Wo.opn (qAG nm)), Str (Xm.root (qAG nm) 2), I ((2 : Nat) : Int), .slice A3 (bsd (qAB a) (qAM nm) 0 (s3 - 0)).length c3, .bool (qAw (qAB a) (qAM nm) s3), Str (qCB (qAB a) (qAM nm) s3), Str (qCL (qAB a) (qAM nm) s3)]) rfl rfl rfl rfl rfl qIg rfl rfl) rfl rfl fun _ _ => ?_
   change J _ _ _ [_, _, _, blk g6 [N64 (1), I ((b : Nat) : Int), Str ((nW a d).dig), I ((nm : Nat) : Int), I ((us.getD nm 0 % 4 : Nat) : Int), .slice A1 (sgC (qAG nm) (us.getD nm 0 % 4) (atM 1 b nm (nW a d).dig)).length c1, .slice A2 (sgP (qAG nm) 2 (us.getD nm 0 % 4)).length c2, Str (wN nm), Str (Wo.opn (qAG nm)), Str (Xm.root (qAG nm) 2), I ((2 : Nat) : Int), .slice A3 (bsd (qAB a) (qAM nm) 0 (s3 - 0)).length c3, .bool (qAw (qAB a) (qAM nm) s3), Str (qCB (qAB a) (qAM nm) s3), Str (qCL (qAB a) (qAM nm) s3)] 60, _, _, _, _, _, _] _
   refine J.c hK7 <| J.u 6 ?_
   exact J.D <| J.b8 hw0 (fun _ _ h => h) (rv1 rfl (RV.blkA 3 rfl rfl isAgg60 qIg)) (qA6 (⟨A1, c1, m1, A2, c2, m2, s3, A3, c3, m3, mr, m3_1⟩ : VoR) rfl ⟨h1, h2, hst, h3, hro, hm3_1⟩ [0, 1, 2, 5, 6, 8] rfl (by decide))
  refine J.a2 rfl (qAe (l := [.slice none 0 0, .bool false, Str [], Str []]) rfl qS3 rfl) rfl (by simp) fun g10 _ => ?_
  change J _ _ _ [mr, m3_1, F, blk g6 [.int .u64 0, I 0, Str [], I 0, I 0, .slice none 0 0, .slice none 0 0, Str [], Str [], Str [], I 0, .slice none 0 0, .bool false, Str [], Str []] 60, blk g7 [N64 (1), I ((b : Nat) : Int), Str ((nW a d).dig), I ((nm : Nat) : Int), I ((us.getD nm 0 % 4 : Nat) : Int), .slice A1 (sgC (qAG nm) (us.getD nm 0 % 4) (atM 1 b nm (nW a d).dig)).length c1, .slice A2 (sgP (qAG nm) 2 (us.getD nm 0 % 4)).length c2] 52, m1, m2, blk g8 [Str (wN nm), Str (Wo.opn (qAG nm)), Str (Xm.root (qAG nm) 2), I ((2 : Nat) : Int)] 56, blk g10 [.slice none 0 0, .bool false, Str [], Str []] 58] _
  refine J.a2 rfl (qAC rfl rfl ent47 (Ct.use (new := fun x : Nat × Option Addr × Nat × Hp => [x.2.2.2]) (fun F' hF => qGx F' (hK.mo hF) gt (qAB a) (hT.mono (hF F (by simp))) hfi (qAM nm) hpk 0 (by omega)))) rfl (by simp) ?_
  rintro ⟨s3, A3, c3, m3⟩ ⟨hst, h3⟩
  change J _ ((67, .tuple #[.agg #[.slice A3 (bsd (qAB a) (qAM nm) 0 (s3 - 0)).length c3, .bool (qAw (qAB a) (qAM nm) s3), Str (qCB (qAB a) (qAM nm) s3), Str (qCL (qAB a) (qAM nm) s3)], I 0]) :: _) _ [_, _, _, _, _, _, _, _, _, m3] _
  refine J.V ?_
  refine J.d4 (.agg #[.slice A3 (bsd (qAB a) (qAM nm) 0 (s3 - 0)).length c3, .bool (qAw (qAB a) (qAM nm) s3), Str (qCB (qAB a) (qAM nm) s3), Str (qCL (qAB a) (qAM nm) s3)]) ?_
  refine J.e7 rfl (qAm (v := I ((0 : Nat) : Int)) rfl rfl rfl) rfl rfl rfl ?_
  refine J.c8 rfl (qAP (i := 8) (l := [.slice none 0 0, .bool false, Str [], Str []]) (vs := [.slice A3 (bsd (qAB a) (qAM nm) 0 (s3 - 0)).length c3, .bool (qAw (qAB a) (qAM nm) s3), Str (qCB (qAB a) (qAM nm) s3), Str (qCL (qAB a) (qAM nm) s3)]) rfl rfl rfl rfl rfl qFr rfl rfl) rfl rfl rfl fun _ _ => ?_
  change J _ _ _ [_, _, _, _, _, _, _, _, blk g10 [.slice A3 (bsd (qAB a) (qAM nm) 0 (s3 - 0)).length c3, .bool (qAw (qAB a) (qAM nm) s3), Str (qCB (qAB a) (qAM nm) s3), Str (qCL (qAB a) (qAM nm) s3)] 58, _] _
  refine J.d7 rfl (YOp.eop (qBl rfl rfl)) rfl rfl rfl rfl ?_
  intro _ _
  refine J.b3 <| J.A (J.L hK6 ?_)
  refine J.T 6 7 8 10 ?_
  refine J.g fun K8 hK8 => J.c5 4 isAgg52 qEd rfl rfl rfl rfl rfl <| J.c5 7 qLW qEr rfl rfl rfl rfl rfl <| J.c5 8 qLV qFr rfl rfl rfl rfl rfl <| J.f (qAL (l := [(0, .tmp 70), (1, .tmp 71), (2, .tmp 72)]) (vs := [.agg #[N64 (1), I ((b : Nat) : Int), Str ((nW a d).dig), I ((nm : Nat) : Int), I ((us.getD nm 0 % 4 : Nat) : Int), .slice A1 (sgC (qAG nm) (us.getD nm 0 % 4) (atM 1 b nm (nW a d).dig)).length c1, .slice A2 (sgP (qAG nm) 2 (us.getD nm 0 % 4)).length c2], .agg #[Str (wN nm), Str (Wo.opn (qAG nm)), Str (Xm.root (qAG nm) 2), I ((2 : Nat) : Int)], .agg #[.slice A3 (bsd (qAB a) (qAM nm) 0 (s3 - 0)).length c3, .bool (qAw (qAB a) (qAM nm) s3), Str (qCB (qAB a) (qAM nm) s3), Str (qCL (qAB a) (qAM nm) s3)]]) (places := [(0, 7), (7, 4), (11, 4)]) (r := [N64 (1), I ((b : Nat) : Int), Str ((nW a d).dig), I ((nm : Nat) : Int), I ((us.getD nm 0 % 4 : Nat) : Int), .slice A1 (sgC (qAG nm) (us.getD nm 0 % 4) (atM 1 b nm (nW a d).dig)).length c1, .slice A2 (sgP (qAG nm) 2 (us.getD nm 0 % 4)).length c2, Str (wN nm), Str (Wo.opn (qAG nm)), Str (Xm.root (qAG nm) 2), I ((2 : Nat) : Int), .slice A3 (bsd (qAB a) (qAM nm) 0 (s3 - 0)).length c3, .bool (qAw (qAB a) (qAM nm) s3), Str (qCB (qAB a) (qAM nm) s3), Str (qCL (qAB a) (qAM nm) s3)]) rfl rfl rfl qEs qT0 (fun _ => by kernel_rfl) (by kernel_rfl)) rfl <| J.b4 (qAP (i := 3) (l := [.int .u64 0, I 0, Str [], I 0, I 0, .slice none 0 0, .slice none 0 0, Str [], Str [], Str [], I 0, .slice none 0 0, .bool false, Str [], Str []]) (vs := [N64 (1), I ((b : Nat) : Int), Str ((nW a d).dig), I ((nm : Nat) : Int), I ((us.getD nm 0 % 4 : Nat) : Int), .slice A1 (sgC (qAG nm) (us.getD nm 0 % 4) (atM 1 b nm (nW a d).dig)).length c1, .slice A2 (sgP (qAG nm) 2 (us.getD nm 0 % 4)).length c2, Str (wN nm), Str (Wo.opn (qAG nm)), Str (Xm.root (qAG nm) 2), I ((2 : Nat) : Int), .slice A3 (bsd (qAB a) (qAM nm) 0 (s3 - 0)).length c3, .bool (qAw (qAB a) (qAM nm) s3), Str (qCB (qAB a) (qAM nm) s3), Str (qCL (qAB a) (qAM nm) s3)]) rfl rfl rfl rfl rfl qIg rfl rfl) rfl rfl fun _ _ => ?_
  change J _ _ _ [_, _, _, blk g6 [N64 (1), I ((b : Nat) : Int), Str ((nW a d).dig), I ((nm : Nat) : Int), I ((us.getD nm 0 % 4 : Nat) : Int), .slice A1 (sgC (qAG nm) (us.getD nm 0 % 4) (atM 1 b nm (nW a d).dig)).length c1, .slice A2 (sgP (qAG nm) 2 (us.getD nm 0 % 4)).length c2, Str (wN nm), Str (Wo.opn (qAG nm)), Str (Xm.root (qAG nm) 2), I ((2 : Nat) : Int), .slice A3 (bsd (qAB a) (qAM nm) 0 (s3 - 0)).length c3, .bool (qAw (qAB a) (qAM nm) s3), Str (qCB (qAB a) (qAM nm) s3), Str (qCL (qAB a) (qAM nm) s3)] 60, _, _, _, _, _, _] _
  refine J.c hK8 <| J.u 6 ?_
  exact J.D <| J.b8 hw0 (fun _ _ h => h) (rv1 rfl (RV.blkA 3 rfl rfl isAgg60 qIg)) (qA6 (⟨A1, c1, m1, A2, c2, m2, s3, A3, c3, m3, mr, m3_1⟩ : VoR) rfl ⟨h1, h2, hst, h3, hro, hm3_1⟩ [0, 1, 2, 5, 6, 9] rfl (by decide))
 refine J.a2 rfl (qAe (l := [.slice none 0 0, .bool false, Str [], Str []]) rfl qS3 rfl) rfl (by simp) fun g10 _ => ?_
 change J _ _ _ [mr, m3_1, F, blk g6 [.int .u64 0, I 0, Str [], I 0, I 0, .slice none 0 0, .slice none 0 0, Str [], Str [], Str [], I 0, .slice none 0 0, .bool false, Str [], Str []] 60, blk g7 [N64 (1), I ((b : Nat) : Int), Str ((nW a d).dig), I ((nm : Nat) : Int), I ((us.getD nm 0 % 4 : Nat) : Int), .slice A1 (sgC (qAG nm) (us.getD nm 0 % 4) (atM 1 b nm (nW a d).dig)).length c1, .slice A2 (sgP (qAG nm) 2 (us.getD nm 0 % 4)).length c2] 52, m1, m2, blk g8 [Str (wN nm), Str (Wo.opn (qAG nm)), Str (Xm.root (qAG nm) 2), I ((2 : Nat) : Int)] 56, blk g10 [.slice none 0 0, .bool false, Str [], Str []] 58] _
 refine J.a2 rfl (qAC rfl rfl ent48 (Ct.use0 (fun F' hF => qDL F' (hK.mo hF) nm (by omega)))) rfl (by simp) fun g66 _ => J.a2 rfl (qAC rfl rfl ent47 (Ct.use (new := fun x : Nat × Option Addr × Nat × Hp => [x.2.2.2]) (fun F' hF => qGx F' (hK.mo hF) gt (qAB a) (hT.mono (hF F (by simp))) hfi (qAM nm) hpk 0 (by omega)))) rfl (by simp) ?_
 rintro ⟨s3, A3, c3, m3⟩ ⟨hst, h3⟩
 change J _ ((67, .tuple #[.agg #[.slice A3 (bsd (qAB a) (qAM nm) 0 (s3 - 0)).length c3, .bool (qAw (qAB a) (qAM nm) s3), Str (qCB (qAB a) (qAM nm) s3), Str (qCL (qAB a) (qAM nm) s3)], I 0]) :: _) _ [_, _, _, _, _, _, _, _, _, m3] _
 refine J.V ?_
 refine J.d4 (.agg #[.slice A3 (bsd (qAB a) (qAM nm) 0 (s3 - 0)).length c3, .bool (qAw (qAB a) (qAM nm) s3), Str (qCB (qAB a) (qAM nm) s3), Str (qCL (qAB a) (qAM nm) s3)]) ?_
 refine J.e7 rfl (qAm (v := I ((0 : Nat) : Int)) rfl rfl rfl) rfl rfl rfl ?_
 refine J.c8 rfl (qAP (i := 8) (l := [.slice none 0 0, .bool false, Str [], Str []]) (vs := [.slice A3 (bsd (qAB a) (qAM nm) 0 (s3 - 0)).length c3, .bool (qAw (qAB a) (qAM nm) s3), Str (qCB (qAB a) (qAM nm) s3), Str (qCL (qAB a) (qAM nm) s3)]) rfl rfl rfl rfl rfl qFr rfl rfl) rfl rfl rfl fun _ _ => ?_
 change J _ _ _ [_, _, _, _, _, _, _, _, blk g10 [.slice A3 (bsd (qAB a) (qAM nm) 0 (s3 - 0)).length c3, .bool (qAw (qAB a) (qAM nm) s3), Str (qCB (qAB a) (qAM nm) s3), Str (qCL (qAB a) (qAM nm) s3)] 58, _] _
 refine J.d7 rfl (YOp.eop (qBl rfl rfl)) rfl rfl rfl rfl ?_
 intro _ _
 refine J.b3 <| J.A (J.L hK6 ?_)
 refine J.T 6 7 8 10 ?_
 refine J.g fun K9 hK9 => J.c5 4 isAgg52 qEd rfl rfl rfl rfl rfl <| J.c5 7 qLW qEr rfl rfl rfl rfl rfl <| J.c5 8 qLV qFr rfl rfl rfl rfl rfl <| J.f (qAL (l := [(0, .tmp 70), (1, .tmp 71), (2, .tmp 72)]) (vs := [.agg #[N64 (1), I ((b : Nat) : Int), Str ((nW a d).dig), I ((nm : Nat) : Int), I ((us.getD nm 0 % 4 : Nat) : Int), .slice A1 (sgC (qAG nm) (us.getD nm 0 % 4) (atM 1 b nm (nW a d).dig)).length c1, .slice A2 (sgP (qAG nm) 2 (us.getD nm 0 % 4)).length c2], .agg #[Str (wN nm), Str (Wo.opn (qAG nm)), Str (Xm.root (qAG nm) 2), I ((2 : Nat) : Int)], .agg #[.slice A3 (bsd (qAB a) (qAM nm) 0 (s3 - 0)).length c3, .bool (qAw (qAB a) (qAM nm) s3), Str (qCB (qAB a) (qAM nm) s3), Str (qCL (qAB a) (qAM nm) s3)]]) (places := [(0, 7), (7, 4), (11, 4)]) (r := [N64 (1), I ((b : Nat) : Int), Str ((nW a d).dig), I ((nm : Nat) : Int), I ((us.getD nm 0 % 4 : Nat) : Int), .slice A1 (sgC (qAG nm) (us.getD nm 0 % 4) (atM 1 b nm (nW a d).dig)).length c1, .slice A2 (sgP (qAG nm) 2 (us.getD nm 0 % 4)).length c2, Str (wN nm), Str (Wo.opn (qAG nm)), Str (Xm.root (qAG nm) 2), I ((2 : Nat) : Int), .slice A3 (bsd (qAB a) (qAM nm) 0 (s3 - 0)).length c3, .bool (qAw (qAB a) (qAM nm) s3), Str (qCB (qAB a) (qAM nm) s3), Str (qCL (qAB a) (qAM nm) s3)]) rfl rfl rfl qEs qT0 (fun _ => by kernel_rfl) (by kernel_rfl)) rfl <| J.b4 (qAP (i := 3) (l := [.int .u64 0, I 0, Str [], I 0, I 0, .slice none 0 0, .slice none 0 0, Str [], Str [], Str [], I 0, .slice none 0 0, .bool false, Str [], Str []]) (vs := [N64 (1), I ((b : Nat) : Int), Str ((nW a d).dig), I ((nm : Nat) : Int), I ((us.getD nm 0 % 4 : Nat) : Int), .slice A1 (sgC (qAG nm) (us.getD nm 0 % 4) (atM 1 b nm (nW a d).dig)).length c1, .slice A2 (sgP (qAG nm) 2 (us.getD nm 0 % 4)).length c2, Str (wN nm), Str (Wo.opn (qAG nm)), Str (Xm.root (qAG nm) 2), I ((2 : Nat) : Int), .slice A3 (bsd (qAB a) (qAM nm) 0 (s3 - 0)).length c3, .bool (qAw (qAB a) (qAM nm) s3), Str (qCB (qAB a) (qAM nm) s3), Str (qCL (qAB a) (qAM nm) s3)]) rfl rfl rfl rfl rfl qIg rfl rfl) rfl rfl fun _ _ => ?_
 change J _ _ _ [_, _, _, blk g6 [N64 (1), I ((b : Nat) : Int), Str ((nW a d).dig), I ((nm : Nat) : Int), I ((us.getD nm 0 % 4 : Nat) : Int), .slice A1 (sgC (qAG nm) (us.getD nm 0 % 4) (atM 1 b nm (nW a d).dig)).length c1, .slice A2 (sgP (qAG nm) 2 (us.getD nm 0 % 4)).length c2, Str (wN nm), Str (Wo.opn (qAG nm)), Str (Xm.root (qAG nm) 2), I ((2 : Nat) : Int), .slice A3 (bsd (qAB a) (qAM nm) 0 (s3 - 0)).length c3, .bool (qAw (qAB a) (qAM nm) s3), Str (qCB (qAB a) (qAM nm) s3), Str (qCL (qAB a) (qAM nm) s3)] 60, _, _, _, _, _, _] _
 refine J.c hK9 <| J.u 6 ?_
 exact J.D <| J.b8 hw0 (fun _ _ h => h) (rv1 rfl (RV.blkA 3 rfl rfl isAgg60 qIg)) (qA6 (⟨A1, c1, m1, A2, c2, m2, s3, A3, c3, m3, mr, m3_1⟩ : VoR) rfl ⟨h1, h2, hst, h3, hro, hm3_1⟩ [0, 1, 2, 5, 6, 9] rfl (by decide))
end Go.Proofs.YtfldiegfenndjaaGreatDoor
