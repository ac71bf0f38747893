/- A part of the proof. -/
import Derived.Test.YtfldiegfenndjaaGreatDoorTopAkG7
import Derived.Test.YtfldiegfenndjaaGreatDoorTopAkG17
import Derived.Test.YtfldiegfenndjaaGreatDoorTopAkG10
set_option linter.unusedSimpArgs false
set_option linter.unusedVariables false
namespace Go.Proofs.YtfldiegfenndjaaGreatDoor
open Go Go.Fw Go.Proofs.Tryz
set_option maxRecDepth 100000
set_option maxHeartbeats 1000000
theorem qL4 (F : Hp) (hK : KF F) (gh hat : Nat) (hturn : UInt64) (hend : Nat) (Ar : Option Addr) (nr cr : Nat) (hH : qAQ F ⟨gh, 0, none⟩ [I ((hat : Nat) : Int), W64 (hturn), I ((hend : Nat) : Int), .slice Ar nr cr]) (hnr : nr ≤ 1048576) (A : Option Addr) (n c : Nat) (l : List (List UInt8)) (hl : Sl F 1 A n c (qAI l)) (hn : 0 < n) (h64 : ∀ s ∈ l, s.length = 64) :
    Ct prog 160 [Ptr gh, .slice A n c] [F] (fun _ : Unit => (qBi hturn nr l).val) (fun _ => True) (fun _ => [F]) := by
  have hln : l.length = n := by have := hl.1; simpa [qAI] using this
  obtain ⟨p, ok, hp⟩ : ∃ p ok, qA4 (l.getD 0 []) = (p, ok) := ⟨_, _, rfl⟩
  obtain ⟨p1, p2, p3, p4, p5, p6⟩ : p.ok := by have := qDy (l.getD 0 []); rwa [hp] at this
  refine Ct.walk func160 rfl ntmps160 rfl (fun w0 hw0 => ?_)
  change J _ [(0, _), (1, _)] _ _ _
  refine J.g fun K1 hK1 => J.j 4 rfl <| J.c hK1 <| J.E 0 1 ?_
  refine J.g fun K2 hK2 => J.b rfl <| J.f (qAH (i := 0) rfl rfl rfl qAh z9_ hl (by omega)) rfl <| J.f (qAN rfl rfl b9_ (m := F) (by simp) (hl.elem (qAZ (qAg [] (by omega))))) rfl <| J.p (qAB rfl rfl ent192 (Ct.use0 (fun F' hF => by have := qJg F' (hK.mo hF) (l.getD 0 []) (qI5 h64 (by omega)); rw [hp] at this; exact this))) rfl fun g18 _ => J.j 3 rfl <| J.p (qAO (l := [.int .u64 0, .int .u64 0, I 0, I 0, Str [], Str []]) rfl qJA rfl) rfl fun g8 _ => ?_
  change J _ _ _ [F, blk g8 [.int .u64 0, .int .u64 0, I 0, I 0, Str [], Str []] 303] _
  refine J.b1 (qAG (i := 1) (l := [.int .u64 0, .int .u64 0, I 0, I 0, Str [], Str []]) (vs := [W64 (p.turn), W64 (p.num), I ((p.at_ : Nat) : Int), I ((p.all : Nat) : Int), Str (p.name), Str (p.con)]) rfl rfl rfl rfl rfl qE5 rfl rfl) rfl rfl fun _ _ => ?_
  change J _ _ _ [_, blk g8 [W64 (p.turn), W64 (p.num), I ((p.at_ : Nat) : Int), I ((p.all : Nat) : Int), Str (p.name), Str (p.con)] 303] _
  refine J.b rfl <| J.c hK2 <| J.M 0 1 8 9 ?_
  refine J.e4 (X := Unit) (fun ζ => [(1, .slice A n c), (8, Ptr g8)]) (fun ζ => [F, blk g8 [W64 (p.turn), W64 (p.num), I ((p.at_ : Nat) : Int), I ((p.all : Nat) : Int), Str (p.name), Str (p.con)] 303]) (fun ζ => qQR hturn nr l.length (p, ok)) (fun K3 hK3 => ?_) ?_
  ·
    refine J.k fun K4 hK4 => J.c1 [F, blk g8 [W64 (p.turn), W64 (p.num), I ((p.at_ : Nat) : Int), I ((p.all : Nat) : Int), Str (p.name), Str (p.con)] 303] [] (.y 0 (.y 1 (.y 2 (.y 3 (.y 4 (.y 5 (.y 6 (.y 7 (.y 8 (.y 9 (.y 10 (.y 11 (.y 12 (.y 13 (.y 14 (.y 15 (.y 16 (.y 17 (.y 18 (.y 19 (.y 20 (.y 21 (.y 22 (.y 23 (.y 24 (.y 25 (.y 26 (.y 27 (.y 28 (.y 29 (.y 30 (.y 31 (.y 32 (.y 33 (.y 34 (.y 35 (.y 36 (.y 37 (.y 38 (.y 39 (.y 40 (.y 41 (.y 42 (.y 43 (.y 44 (.y 45 (.y 46 .nil))))))))))))))))))))))))))))))))))))))))))))))) Tryz.wide (by decide +kernel) (by simp) ?_
    refine J.O ?_
    refine J.q rfl (qA1 rfl rfl) rfl rfl <| J.O ?_
    refine J.g1 (d := 23) rfl (fun h23 => ?_) (fun h23 => ?_)
    ·
      iterate 3 refine J.Z ?_
      refine J.d2 ?_
      refine J.O ?_
      iterate 3 refine J.Z ?_
      refine J.d2 ?_
      refine J.O ?_
      iterate 9 refine J.Z ?_
      refine J.d2 ?_
      refine J.O ?_
      iterate 5 refine J.Z ?_
      refine J.d2 ?_
      refine J.O ?_
      iterate 7 refine J.Z ?_
      refine J.c3 rfl (Wan.un rfl rfl rfl rfl) rfl rfl ?_
      refine J.c3 rfl (Wan.un rfl rfl rfl rfl) rfl rfl ?_
      refine J.c3 rfl (Wan.un rfl rfl rfl rfl) rfl rfl ?_
      refine J.c3 rfl (Wan.un rfl rfl rfl rfl) rfl rfl ?_
      refine J.c3 rfl (Wan.un rfl rfl rfl rfl) rfl rfl ?_
      refine J.c3 rfl (Wan.un rfl rfl rfl rfl) rfl rfl ?_
      refine J.c3 rfl (Wan.un rfl rfl rfl rfl) rfl rfl ?_
      refine J.Z ?_
      refine J.d2 ?_
      refine J.b5 <| J.A (J.L hK4 ?_)
      refine J.H 1 8 67 ?_
      refine J.c6 ?_
      refine J.g fun K5 hK5 => J.j 4 rfl <| J.c hK5 <| J.M 4 5 6 7 ?_
      exact J.D <| J.a3 <| J.b4 hw0 (fun _ _ h => h) (qJb rfl rfl rfl rfl rfl) (qAj () (by rw [qF8 hp (fun ⟨a1, a2, a3, a4, a5, a6⟩ => by dsimp only at a1 a2 a3 a4 a5 a6; first | (simp [a1] at h23; done) | omega | (have := a6 (by omega); omega))]; rfl) trivial [0] rfl (by decide))
    refine J.a4 rfl (qAA (j := 2) rfl rfl qBO rfl z3_ rfl) rfl rfl <| J.a4 rfl (qAC 1 (v := I ((p.at_ : Nat) : Int)) rfl rfl rfl b3_ rfl) rfl rfl <| J.a4 rfl (qAY rfl rfl rfl) rfl rfl <| J.e2 ?_
    refine J.O ?_
    refine J.c5 (d := 28) rfl (fun h28 => ?_) (fun h28 => ?_)
    ·
      iterate 3 refine J.Z ?_
      refine J.d2 ?_
      refine J.O ?_
      iterate 9 refine J.Z ?_
      refine J.d2 ?_
      refine J.O ?_
      iterate 5 refine J.Z ?_
      refine J.d2 ?_
      refine J.O ?_
      iterate 7 refine J.Z ?_
      refine J.c3 rfl (Wan.un rfl rfl rfl rfl) rfl rfl ?_
      refine J.c3 rfl (Wan.un rfl rfl rfl rfl) rfl rfl ?_
      refine J.c3 rfl (Wan.un rfl rfl rfl rfl) rfl rfl ?_
      refine J.c3 rfl (Wan.un rfl rfl rfl rfl) rfl rfl ?_
      refine J.c3 rfl (Wan.un rfl rfl rfl rfl) rfl rfl ?_
      refine J.c3 rfl (Wan.un rfl rfl rfl rfl) rfl rfl ?_
      refine J.c3 rfl (Wan.un rfl rfl rfl rfl) rfl rfl ?_
      refine J.Z ?_
      refine J.d2 ?_
      refine J.b5 <| J.A (J.L hK4 ?_)
      refine J.H 1 8 67 ?_
      refine J.c6 ?_
      refine J.g fun K6 hK6 => J.j 4 rfl <| J.c hK6 <| J.M 4 5 6 7 ?_
      exact J.D <| J.a3 <| J.b4 hw0 (fun _ _ h => h) (qJb rfl rfl rfl rfl rfl) (qAj () (by rw [qF8 hp (fun ⟨a1, a2, a3, a4, a5, a6⟩ => by dsimp only at a1 a2 a3 a4 a5 a6; first | (simp [a1] at h23; done) | omega | (have := a6 (by omega); omega))]; rfl) trivial [0] rfl (by decide))
    refine J.a4 rfl (qAA (j := 0) rfl rfl qBO rfl qCm rfl) rfl rfl <| J.a4 rfl (qAC 1 (v := W64 (p.turn)) rfl rfl rfl qDN rfl) rfl rfl <| J.a4 rfl (qAV rfl rfl rfl) rfl rfl <| J.e2 ?_
    refine J.O ?_
    refine J.c5 (d := 33) rfl (fun h33 => ?_) (fun h33 => ?_)
    ·
      iterate 9 refine J.Z ?_
      refine J.d2 ?_
      refine J.O ?_
      iterate 5 refine J.Z ?_
      refine J.d2 ?_
      refine J.O ?_
      iterate 7 refine J.Z ?_
      refine J.c3 rfl (Wan.un rfl rfl rfl rfl) rfl rfl ?_
      refine J.c3 rfl (Wan.un rfl rfl rfl rfl) rfl rfl ?_
      refine J.c3 rfl (Wan.un rfl rfl rfl rfl) rfl rfl ?_
      refine J.c3 rfl (Wan.un rfl rfl rfl rfl) rfl rfl ?_
      refine J.c3 rfl (Wan.un rfl rfl rfl rfl) rfl rfl ?_
      refine J.c3 rfl (Wan.un rfl rfl rfl rfl) rfl rfl ?_
      refine J.c3 rfl (Wan.un rfl rfl rfl rfl) rfl rfl ?_
      refine J.Z ?_
      refine J.d2 ?_
      refine J.b5 <| J.A (J.L hK4 ?_)
      refine J.H 1 8 67 ?_
      refine J.c6 ?_
      refine J.g fun K7 hK7 => J.j 4 rfl <| J.c hK7 <| J.M 4 5 6 7 ?_
      exact J.D <| J.a3 <| J.b4 hw0 (fun _ _ h => h) (qJb rfl rfl rfl rfl rfl) (qAj () (by rw [qF8 hp (fun ⟨a1, a2, a3, a4, a5, a6⟩ => by dsimp only at a1 a2 a3 a4 a5 a6; first | (simp [a1] at h23; done) | omega | (have := a6 (by omega); omega))]; rfl) trivial [0] rfl (by decide))
    refine J.a4 rfl (qAA (j := 1) rfl rfl qBO rfl qCm rfl) rfl rfl <| J.a4 rfl (qAC 1 (v := W64 (p.num)) rfl rfl rfl qDN rfl) rfl rfl <| J.a4 rfl (qAl rfl rfl) rfl rfl <| J.a4 rfl (qAD rfl rfl) rfl rfl <| J.a4 rfl (qAA (j := 3) rfl rfl qBu rfl qB0 rfl) rfl rfl <| J.a4 rfl (qAN (v := .slice Ar nr cr) rfl rfl qCQ (m := F) (by simp) (hH.at (i := 3) rfl)) rfl rfl <| J.a4 rfl (qAa qAh rfl rfl) rfl rfl <| J.a4 rfl (qEQ (m := nr) rfl rfl u3_ qEm (by omega)) rfl rfl <| J.a4 rfl (qAY rfl rfl rfl) rfl rfl <| J.e2 ?_
    refine J.O ?_
    refine J.c5 (d := 44) rfl (fun h44 => ?_) (fun h44 => ?_)
    ·
      iterate 5 refine J.Z ?_
      refine J.d2 ?_
      refine J.O ?_
      iterate 7 refine J.Z ?_
      refine J.c3 rfl (Wan.un rfl rfl rfl rfl) rfl rfl ?_
      refine J.c3 rfl (Wan.un rfl rfl rfl rfl) rfl rfl ?_
      refine J.c3 rfl (Wan.un rfl rfl rfl rfl) rfl rfl ?_
      refine J.c3 rfl (Wan.un rfl rfl rfl rfl) rfl rfl ?_
      refine J.c3 rfl (Wan.un rfl rfl rfl rfl) rfl rfl ?_
      refine J.c3 rfl (Wan.un rfl rfl rfl rfl) rfl rfl ?_
      refine J.c3 rfl (Wan.un rfl rfl rfl rfl) rfl rfl ?_
      refine J.Z ?_
      refine J.d2 ?_
      refine J.b5 <| J.A (J.L hK4 ?_)
      refine J.H 1 8 67 ?_
      refine J.c6 ?_
      refine J.g fun K8 hK8 => J.j 4 rfl <| J.c hK8 <| J.M 4 5 6 7 ?_
      exact J.D <| J.a3 <| J.b4 hw0 (fun _ _ h => h) (qJb rfl rfl rfl rfl rfl) (qAj () (by rw [qF8 hp (fun ⟨a1, a2, a3, a4, a5, a6⟩ => by dsimp only at a1 a2 a3 a4 a5 a6; first | (simp [a1] at h23; done) | omega | (have := a6 (by omega); omega))]; rfl) trivial [0] rfl (by decide))
    refine J.a4 rfl (qAA (j := 3) rfl rfl qBO rfl z3_ rfl) rfl rfl <| J.a4 rfl (qAC 1 (v := I ((p.all : Nat) : Int)) rfl rfl rfl b3_ rfl) rfl rfl <| J.a4 rfl (qAl rfl rfl) rfl rfl <| J.a4 rfl (qAa qAh rfl rfl) rfl rfl <| J.a4 rfl (qAx rfl rfl rfl) rfl rfl <| J.e2 ?_
    refine J.O ?_
    refine J.c5 (d := 51) rfl (fun h51 => ?_) (fun h51 => ?_)
    ·
      iterate 7 refine J.Z ?_
      refine J.c3 rfl (Wan.un rfl rfl rfl rfl) rfl rfl ?_
      refine J.c3 rfl (Wan.un rfl rfl rfl rfl) rfl rfl ?_
      refine J.c3 rfl (Wan.un rfl rfl rfl rfl) rfl rfl ?_
      refine J.c3 rfl (Wan.un rfl rfl rfl rfl) rfl rfl ?_
      refine J.c3 rfl (Wan.un rfl rfl rfl rfl) rfl rfl ?_
      refine J.c3 rfl (Wan.un rfl rfl rfl rfl) rfl rfl ?_
      refine J.c3 rfl (Wan.un rfl rfl rfl rfl) rfl rfl ?_
      refine J.Z ?_
      refine J.d2 ?_
      refine J.b5 <| J.A (J.L hK4 ?_)
      refine J.H 1 8 67 ?_
      refine J.c6 ?_
      refine J.g fun K9 hK9 => J.j 4 rfl <| J.c hK9 <| J.M 4 5 6 7 ?_
      exact J.D <| J.a3 <| J.b4 hw0 (fun _ _ h => h) (qJb rfl rfl rfl rfl rfl) (qAj () (by rw [qF8 hp (fun ⟨a1, a2, a3, a4, a5, a6⟩ => by dsimp only at a1 a2 a3 a4 a5 a6; first | (simp [a1] at h23; done) | omega | (have := a6 (by omega); omega))]; rfl) trivial [0] rfl (by decide))
    refine J.a4 rfl (qAl rfl rfl) rfl rfl <| J.a4 rfl (qAD rfl rfl) rfl rfl <| J.a4 rfl (qAA (j := 3) rfl rfl qBu rfl qB0 rfl) rfl rfl <| J.a4 rfl (qAN (v := .slice Ar nr cr) rfl rfl qCQ (m := F) (by simp) (hH.at (i := 3) rfl)) rfl rfl <| J.a4 rfl (qAa qAh rfl rfl) rfl rfl <| J.a4 rfl (qAx rfl rfl rfl) rfl rfl <| J.a4 rfl (qAl rfl rfl) rfl rfl <| J.c5 (d := 58) rfl (fun h58 => ?_) (fun h58 => ?_)
    ·
      refine J.a4 rfl (qAA (j := 0) rfl rfl qBO rfl qCm rfl) rfl rfl <| J.a4 rfl (qAC 1 (v := W64 (p.turn)) rfl rfl rfl qDN rfl) rfl rfl <| J.a4 rfl (qAl rfl rfl) rfl rfl <| J.a4 rfl (qAD rfl rfl) rfl rfl <| J.a4 rfl (qAA (j := 1) rfl rfl qBu rfl qCm rfl) rfl rfl <| J.a4 rfl (qAN (v := W64 (hturn)) rfl rfl qDN (m := F) (by simp) (hH.at (i := 1) rfl)) rfl rfl <| J.a4 rfl (qAY rfl rfl rfl) rfl rfl <| J.a4 rfl (qBW rfl rfl rfl) rfl rfl <| J.e2 ?_
      refine J.b5 <| J.A (J.L hK4 ?_)
      refine J.H 1 8 67 ?_
      refine J.a5 rfl (fun h67 => ?_) (fun h67 => ?_)
      ·
        refine J.g fun K10 hK10 => J.j 4 rfl <| J.c hK10 <| J.M 4 5 6 7 ?_
        exact J.D <| J.a3 <| J.b4 hw0 (fun _ _ h => h) (qJb rfl rfl rfl rfl rfl) (qAj () (by rw [qF8 hp (fun ⟨a1, a2, a3, a4, a5, a6⟩ => by dsimp only at a1 a2 a3 a4 a5 a6; first | (simp [a1] at h23; done) | omega | (have := a6 (by omega); omega))]; rfl) trivial [0] rfl (by decide))
      exact J.c7 <| J.A <| J.b0 () hK3 (⟨by simpa using h23, by show p.at_ = 0; omega, by show p.turn.toNat ≠ 0; omega, by show p.num.toNat = nr; omega, by show p.all ≤ l.length; omega, fun h0 => by show p.turn.toNat = hturn.toNat; omega⟩) ⟨rfl, rfl, trivial⟩ (fun _ h => h)
    iterate 7 refine J.Z ?_
    refine J.a4 rfl (qBd rfl rfl rfl) rfl rfl <| J.e2 ?_
    refine J.b5 <| J.A (J.L hK4 ?_)
    refine J.H 1 8 67 ?_
    refine J.a8 ?_
    exact J.c7 <| J.A <| J.b0 () hK3 (⟨by simpa using h23, by show p.at_ = 0; omega, by show p.turn.toNat ≠ 0; omega, by show p.num.toNat = nr; omega, by show p.all ≤ l.length; omega, fun h0 => by show p.turn.toNat = hturn.toNat; omega⟩) ⟨rfl, rfl, trivial⟩ (fun _ h => h)
  rintro _ hf
  refine J.g fun K11 hK11 => J.b rfl <| J.c hK11 <| J.H 1 8 10 ?_
  refine J.k fun K12 hK12 => J.k fun K13 hK13 => ?_
  have hf5 : p.all ≤ l.length := hf.2.2.2.2.1
  refine J.G <| J.a2 3 qBO z3_ rfl rfl rfl rfl rfl <| J.f (qAC 1 (v := I ((p.all : Nat) : Int)) rfl rfl rfl b3_ rfl) rfl <| J.b rfl <| J.c hK13 <| J.a0 1 8 10 69 70 ?_
  refine J.a1 <| J.c0 (X := Nat) (fun ζ => [(1, .slice A n c), (8, Ptr g8), (10, Str (qE3 l ζ)), (69, I ((p.all : Nat) : Int)), (70, I ((ζ : Nat) : Int))]) (fun ζ => [F, blk g8 [W64 (p.turn), W64 (p.num), I ((p.at_ : Nat) : Int), I ((p.all : Nat) : Int), Str (p.name), Str (p.con)] 303]) (fun ζ => ζ ≤ p.all ∧ ∀ j < ζ, qPM p j (qA4 (l.getD j []))) (fun ζ => p.all - ζ) 0 (⟨Nat.zero_le _, fun j h => absurd h (Nat.not_lt_zero j)⟩) ⟨rfl, rfl, rfl, rfl, rfl, trivial⟩ (fun _ h => h) ?_
  rintro i ⟨hi, hqs⟩ I0 hI0
  refine J.g fun K14 hK14 => J.f (qAW rfl rfl rfl) rfl <| J.c hK14 <| J.b3 1 8 10 69 70 71 ?_
  refine J.k fun K15 hK15 => J.a5 rfl (fun h71 => ?_) (fun h71 => ?_)
  ·
    refine J.W hK15 <| J.a0 1 8 10 69 70 ?_
    refine J.k fun K16 hK16 => J.a1 <| J.g fun K17 hK17 => J.j 2 rfl <| J.c hK17 <| J.b3 1 8 10 11 69 70 ?_
    refine J.k fun K18 hK18 => ?_
    obtain ⟨q, ok2, hq⟩ : ∃ q ok2, qA4 (l.getD i []) = (q, ok2) := ⟨_, _, rfl⟩
    obtain ⟨q1, q2, q3, q4, q5, q6⟩ : q.ok := by have := qDy (l.getD i []); rwa [hq] at this
    have hcl := qE2 l i
    refine J.G <| J.j 2 rfl <| J.f (qAH (i := i) rfl rfl rfl qAh z9_ hl (by omega)) rfl <| J.f (qAN rfl rfl b9_ (m := F) (by simp) (hl.elem (qAZ (qAg [] (by omega))))) rfl <| J.p (qAB rfl rfl ent192 (Ct.use0 (fun F' hF => by have := qJg F' (hK.mo hF) (l.getD i []) (qI5 h64 (by omega)); rw [hq] at this; exact this))) rfl fun g78 _ => J.j 3 rfl <| J.p (qAO (l := [.int .u64 0, .int .u64 0, I 0, I 0, Str [], Str []]) rfl qJA rfl) rfl fun g12 _ => ?_
    change J _ _ _ [F, blk g8 [W64 (p.turn), W64 (p.num), I ((p.at_ : Nat) : Int), I ((p.all : Nat) : Int), Str (p.name), Str (p.con)] 303, blk g12 [.int .u64 0, .int .u64 0, I 0, I 0, Str [], Str []] 303] _
    refine J.b1 (qAG (i := 2) (l := [.int .u64 0, .int .u64 0, I 0, I 0, Str [], Str []]) (vs := [W64 (q.turn), W64 (q.num), I ((q.at_ : Nat) : Int), I ((q.all : Nat) : Int), Str (q.name), Str (q.con)]) rfl rfl rfl rfl rfl qE5 rfl rfl) rfl rfl fun _ _ => ?_
    change J _ _ _ [_, _, blk g12 [W64 (q.turn), W64 (q.num), I ((q.at_ : Nat) : Int), I ((q.all : Nat) : Int), Str (q.name), Str (q.con)] 303] _
    refine J.b rfl <| J.c hK18 <| J.d3 1 8 10 11 12 13 69 70 ?_
    refine J.k fun K19 hK19 => J.g fun K20 hK20 => J.b rfl <| J.f (qA1 rfl rfl) rfl <| J.b rfl <| J.g1 (d := 83) rfl (fun h83 => ?_) (fun h83 => ?_)
    ·
      refine J.j 33 rfl <| J.c hK20 <| J.c2 1 8 10 12 69 70 116 ?_
      refine J.c6 ?_
      refine J.g fun K21 hK21 => J.j 4 rfl <| J.c hK21 <| J.M 4 5 6 7 ?_
      exact J.D <| J.a3 <| J.b6 <| J.a3 <| J.a3 <| J.b6 <| J.a3 <| J.b4 hw0 (fun _ _ h => h) (qJb rfl rfl rfl rfl rfl) (qAj () (by rw [qF7 hp (by omega) hq (fun ⟨a1, a2, a3, a4, a5, a6⟩ => by dsimp only at a1 a2 a3 a4 a5 a6; first | (simp [a1] at h83; done) | omega | contradiction)]; rfl) trivial [0] rfl (by decide))
    refine J.T (qAA (j := 2) rfl rfl qBO rfl z3_ rfl) rfl <| J.T (qAC 2 (v := I ((q.at_ : Nat) : Int)) rfl rfl rfl b3_ rfl) rfl <| J.b rfl <| J.T (qAY rfl rfl rfl) rfl <| J.j 2 rfl <| J.c5 (d := 89) rfl (fun h89 => ?_) (fun h89 => ?_)
    ·
      refine J.j 27 rfl <| J.c hK20 <| J.c2 1 8 10 12 69 70 116 ?_
      refine J.c6 ?_
      refine J.g fun K22 hK22 => J.j 4 rfl <| J.c hK22 <| J.M 4 5 6 7 ?_
      exact J.D <| J.a3 <| J.b6 <| J.a3 <| J.a3 <| J.b6 <| J.a3 <| J.b4 hw0 (fun _ _ h => h) (qJb rfl rfl rfl rfl rfl) (qAj () (by rw [qF7 hp (by omega) hq (fun ⟨a1, a2, a3, a4, a5, a6⟩ => by dsimp only at a1 a2 a3 a4 a5 a6; first | (simp [a1] at h83; done) | omega | contradiction)]; rfl) trivial [0] rfl (by decide))
    refine J.T (qAA (j := 0) rfl rfl qBO rfl qCm rfl) rfl <| J.T (qAC 2 (v := W64 (q.turn)) rfl rfl rfl qDN rfl) rfl <| J.T (qAA (j := 0) rfl rfl qBO rfl qCm rfl) rfl <| J.T (qAC 1 (v := W64 (p.turn)) rfl rfl rfl qDN rfl) rfl <| J.T (qAY rfl rfl rfl) rfl <| J.j 2 rfl <| J.c5 (d := 96) rfl (fun h96 => ?_) (fun h96 => ?_)
    ·
      refine J.j 20 rfl <| J.c hK20 <| J.c2 1 8 10 12 69 70 116 ?_
      refine J.c6 ?_
      refine J.g fun K23 hK23 => J.j 4 rfl <| J.c hK23 <| J.M 4 5 6 7 ?_
      exact J.D <| J.a3 <| J.b6 <| J.a3 <| J.a3 <| J.b6 <| J.a3 <| J.b4 hw0 (fun _ _ h => h) (qJb rfl rfl rfl rfl rfl) (qAj () (by rw [qF7 hp (by omega) hq (fun ⟨a1, a2, a3, a4, a5, a6⟩ => by dsimp only at a1 a2 a3 a4 a5 a6; first | (simp [a1] at h83; done) | omega | contradiction)]; rfl) trivial [0] rfl (by decide))
    refine J.T (qAA (j := 1) rfl rfl qBO rfl qCm rfl) rfl <| J.T (qAC 2 (v := W64 (q.num)) rfl rfl rfl qDN rfl) rfl <| J.T (qAA (j := 1) rfl rfl qBO rfl qCm rfl) rfl <| J.T (qAC 1 (v := W64 (p.num)) rfl rfl rfl qDN rfl) rfl <| J.T (qAY rfl rfl rfl) rfl <| J.j 2 rfl <| J.c5 (d := 103) rfl (fun h103 => ?_) (fun h103 => ?_)
    ·
      refine J.j 13 rfl <| J.c hK20 <| J.c2 1 8 10 12 69 70 116 ?_
      refine J.c6 ?_
      refine J.g fun K24 hK24 => J.j 4 rfl <| J.c hK24 <| J.M 4 5 6 7 ?_
      exact J.D <| J.a3 <| J.b6 <| J.a3 <| J.a3 <| J.b6 <| J.a3 <| J.b4 hw0 (fun _ _ h => h) (qJb rfl rfl rfl rfl rfl) (qAj () (by rw [qF7 hp (by omega) hq (fun ⟨a1, a2, a3, a4, a5, a6⟩ => by dsimp only at a1 a2 a3 a4 a5 a6; first | (simp [a1] at h83; done) | omega | contradiction)]; rfl) trivial [0] rfl (by decide))
    refine J.T (qAA (j := 3) rfl rfl qBO rfl z3_ rfl) rfl <| J.T (qAC 2 (v := I ((q.all : Nat) : Int)) rfl rfl rfl b3_ rfl) rfl <| J.T (qAA (j := 3) rfl rfl qBO rfl z3_ rfl) rfl <| J.T (qAC 1 (v := I ((p.all : Nat) : Int)) rfl rfl rfl b3_ rfl) rfl <| J.T (qAY rfl rfl rfl) rfl <| J.j 2 rfl <| J.c5 (d := 110) rfl (fun h110 => ?_) (fun h110 => ?_)
    ·
      refine J.j 6 rfl <| J.c hK20 <| J.c2 1 8 10 12 69 70 116 ?_
      refine J.c6 ?_
      refine J.g fun K25 hK25 => J.j 4 rfl <| J.c hK25 <| J.M 4 5 6 7 ?_
      exact J.D <| J.a3 <| J.b6 <| J.a3 <| J.a3 <| J.b6 <| J.a3 <| J.b4 hw0 (fun _ _ h => h) (qJb rfl rfl rfl rfl rfl) (qAj () (by rw [qF7 hp (by omega) hq (fun ⟨a1, a2, a3, a4, a5, a6⟩ => by dsimp only at a1 a2 a3 a4 a5 a6; first | (simp [a1] at h83; done) | omega | contradiction)]; rfl) trivial [0] rfl (by decide))
    refine J.T (qAA (j := 4) rfl rfl qBO rfl z9_ rfl) rfl <| J.T (qAC 2 (v := Str (q.name)) rfl rfl rfl b9_ rfl) rfl <| J.T (qAA (j := 4) rfl rfl qBO rfl z9_ rfl) rfl <| J.T (qAC 1 (v := Str (p.name)) rfl rfl rfl b9_ rfl) rfl <| J.T (qC5 rfl rfl rfl) rfl <| J.b rfl <| J.c hK20 <| J.c2 1 8 10 12 69 70 116 ?_
    refine J.a5 rfl (fun h116 => ?_) (fun h116 => ?_)
    ·
      refine J.g fun K26 hK26 => J.j 4 rfl <| J.c hK26 <| J.M 4 5 6 7 ?_
      exact J.D <| J.a3 <| J.b6 <| J.a3 <| J.a3 <| J.b6 <| J.a3 <| J.b4 hw0 (fun _ _ h => h) (qJb rfl rfl rfl rfl rfl) (qAj () (by rw [qF7 hp (by omega) hq (fun ⟨a1, a2, a3, a4, a5, a6⟩ => by dsimp only at a1 a2 a3 a4 a5 a6; first | (simp [a1] at h83; done) | omega | contradiction)]; rfl) trivial [0] rfl (by decide))
    refine J.W hK19 <| J.b3 1 8 10 12 69 70 ?_
    have hqi : qPM p i (qA4 (l.getD i [])) := by rw [hq]; exact ⟨by simpa using h83, by show q.at_ = i; omega, by show q.turn.toNat = p.turn.toNat; omega, by show q.num.toNat = p.num.toNat; omega, by show q.all = p.all; omega, by first | assumption | exact Decidable.not_not.1 (by assumption)⟩
    refine J.G <| J.b rfl <| J.a2 5 qBO z9_ rfl rfl rfl rfl rfl <| J.f (qAC 2 (v := Str (q.con)) rfl rfl rfl b9_ rfl) rfl <| J.f (qBK (a := qE3 l i) (b := q.con) rfl rfl rfl (by omega)) rfl ?_
    rw [show qE3 l i ++ q.con = qE3 l (i + 1) by rw [qE3, hq]]
    refine J.b rfl <| J.a7 <| J.a9 <| J.A (J.L hK16 ?_)
    refine J.a0 1 8 10 69 70 ?_
    exact J.G <| J.f ((qAR rfl rfl rfl (by omega)).nat (i + 1) (by omega)) rfl <| J.b rfl <| J.a7 <| J.A <| J.b0 (i + 1) (fun η (hη : _ ∧ p.all - η < p.all - i) => hI0 η hη.1 hη.2) ⟨⟨by omega, fun j hj => by rcases Nat.lt_succ_iff_lt_or_eq.1 hj with h | rfl; exact hqs j h; exact hqi⟩, by first | omega | (dsimp only; omega)⟩ ⟨rfl, rfl, rfl, rfl, rfl, trivial⟩ (fun _ h => h.pick [0, 1] (by decide))
  refine J.b7 <| J.a6 <| J.a6 <| J.b8 ?_
  refine J.A (J.L hK12 ?_)
  refine J.E 8 10 ?_
  refine J.k fun K27 hK27 => ?_
  obtain rfl : i = p.all := by omega
  have hy := qPL hp hf hqs
  have hcl := qE2 l p.all
  refine J.c1 [blk g8 [W64 (p.turn), W64 (p.num), I ((p.at_ : Nat) : Int), I ((p.all : Nat) : Int), Str (p.name), Str (p.con)] 303] [] (.y 0 (.y 1 (.y 2 (.y 3 (.y 4 (.y 5 (.y 6 (.y 7 (.y 8 (.e 9 (.y 10 (.y 11 (.y 12 (.y 13 (.y 14 (.y 15 (.y 16 (.y 17 (.y 18 (.e 19 (.y 20 (.y 21 (.y 22 (.y 23 (.y 24 (.y 25 .nil)))))))))))))))))))))))))) Tryz.wide (by decide +kernel) (by simp) ?_
  refine J.q rfl (qAA (j := 0) rfl rfl qBO rfl qCm rfl) rfl rfl <| J.q rfl (qAC 0 (v := W64 (p.turn)) rfl rfl rfl qDN rfl) rfl rfl <| J.O ?_
  refine J.q rfl (qAA (j := 3) rfl rfl qBO rfl z3_ rfl) rfl rfl <| J.q rfl (qAC 0 (v := I ((p.all : Nat) : Int)) rfl rfl rfl b3_ rfl) rfl rfl <| J.q rfl (qAA (j := 3) rfl rfl qBO rfl z3_ rfl) rfl rfl <| J.q rfl (qAC 0 (v := I ((p.all : Nat) : Int)) rfl rfl rfl b3_ rfl) rfl rfl <| J.O ?_
  refine J.q rfl (qAk u9_ rfl rfl) rfl rfl <| J.b2 rfl (qAB rfl rfl ent166 (Ct.use0 (fun F' hF => qFL F' (qE3 l p.all).length (by omega)))) rfl (by simp) fun g131 _ => J.q rfl (qAV rfl rfl rfl) rfl rfl <| J.O ?_
  refine J.c5 (d := 133) rfl (fun h133 => ?_) (fun h133 => ?_)
  ·
    refine J.a4 rfl (qAA (j := 4) rfl rfl qBO rfl z9_ rfl) rfl rfl <| J.a4 rfl (qAC 0 (v := Str (p.name)) rfl rfl rfl b9_ rfl) rfl rfl <| J.a4 rfl (qAA (j := 0) rfl rfl qBO rfl qCm rfl) rfl rfl <| J.a4 rfl (qAC 0 (v := W64 (p.turn)) rfl rfl rfl qDN rfl) rfl rfl <| J.a4 rfl (qAA (j := 1) rfl rfl qBO rfl qCm rfl) rfl rfl <| J.a4 rfl (qAC 0 (v := W64 (p.num)) rfl rfl rfl qDN rfl) rfl rfl <| J.a4 rfl (qAl rfl rfl) rfl rfl <| J.e6 rfl (qAB rfl rfl ent193 (Ct.use0 (fun F' hF => qKD F' (hK.mo hF) p.turn p.num (qE3 l p.all) p1 p2 (by omega)))) (Wan.is rfl rfl rfl rfl rfl) rfl rfl (by simp) ?_
    intro g141 _
    refine J.a4 rfl (qBL rfl rfl rfl) rfl rfl <| J.d2 ?_
    iterate 4 refine J.b9 ?_
    refine J.b5 <| J.A (J.L hK27 ?_)
    refine J.M 4 5 6 7 ?_
    exact J.D <| J.b4 hw0 (fun _ _ h => h) (qJb rfl rfl rfl rfl rfl) (qAj () (by rw [hy, show decide (p.all = qBR (qE3 l p.all).length ∧ p.name = qCX p.turn p.num (qE3 l p.all)) = decide (p.name = qCX p.turn p.num (qE3 l p.all)) from decide_eq_decide.2 ⟨fun h => h.2, fun h => ⟨by omega, h⟩⟩]; rfl) trivial [0] rfl (by decide))
  iterate 7 refine J.Z ?_
  refine J.i4 rfl (Wan.is rfl rfl rfl rfl rfl) rfl rfl (by simp) <| J.Z ?_
  refine J.e2 ?_
  iterate 4 refine J.b9 ?_
  refine J.b5 <| J.A (J.L hK27 ?_)
  refine J.M 4 5 6 7 ?_
  exact J.D <| J.b4 hw0 (fun _ _ h => h) (qJb rfl rfl rfl rfl rfl) (qAj () (by rw [hy, show decide (p.all = qBR (qE3 l p.all).length ∧ p.name = qCX p.turn p.num (qE3 l p.all)) = false from decide_eq_false (fun h => by have := h.1; omega)]; rfl) trivial [0] rfl (by decide))
def rdl (t : UInt64) (R : List (List UInt8)) (e : Nat) (l : List (List UInt8)) : UInt64 × List (List UInt8) × Nat :=
 if h : l ≠ [] ∧ (qBi t R.length l).ok = true then
  rdl (qBi t R.length l).turn (R ++ [(qBi t R.length l).text]) (e + (qBi t R.length l).n) (l.drop (qBi t R.length l).n)
 else (t, R, e)
termination_by l.length
decreasing_by
 have := qL5 h.2
 rw [List.length_drop]; omega
theorem qL7 {t : UInt64} {R : List (List UInt8)} {e : Nat} {l : List (List UInt8)} (h : l ≠ []) (h2 : (qBi t R.length l).ok = true) :
    rdl t R e l = rdl (qBi t R.length l).turn (R ++ [(qBi t R.length l).text]) (e + (qBi t R.length l).n) (l.drop (qBi t R.length l).n) := by rw [rdl, dif_pos ⟨h, h2⟩]
theorem qJe {t : UInt64} {R : List (List UInt8)} {e : Nat} {l : List (List UInt8)} (h : ¬ (l ≠ [] ∧ (qBi t R.length l).ok = true)) : rdl t R e l = (t, R, e) := by rw [rdl, dif_neg h]
def qDd (d : Dk) (at_ n : Nat) : List (List UInt8) := (List.range n).map fun i => d.now (at_ + i)
theorem qLx (d : Dk) (at_ n : Nat) : qDd d at_ (n + 1) = qDd d at_ n ++ [d.now (at_ + n)] := by unfold qDd; rw [List.range_succ, List.map_append]; rfl
theorem qCb (d : Dk) (at_ n : Nat) : (qDd d at_ n).length = n := by unfold qDd; rw [List.length_map, List.length_range]
theorem qLw {L : List Wri} {m : Nat} (h : ∀ w ∈ L, w.1 < m ∧ w.2.length = 64) (i : Nat) : ∀ k, k ≤ L.length → ∀ s, qNV L i k = some s → s.length = 64
 | 0, _, s, hs => by cases hs
 | k + 1, hk, s, hs => by
  rw [qHc] at hs
  split at hs
  · cases hs; exact (qMx h (show k < L.length by omega)).2
  · exact qLw h i k (by omega) s hs
theorem qRy {d : Dk} (h : d.ok) {i : Nat} (hi : i < d.last.length) : (d.now i).length = 64 := by
 unfold Dk.now
 cases e : qNV d.wait i d.wait.length with
 | none => exact qI5 h.l64 hi
 | some s => exact qLw h.w64 i _ (Nat.le_refl _) s e
theorem qQD {d : Dk} (h : d.ok) {at_ n : Nat} (hn : at_ + n ≤ d.last.length) : ∀ s ∈ qDd d at_ n, s.length = 64 := fun s hs => by
 obtain ⟨i, hi, rfl⟩ := List.mem_map.1 hs
 have := List.mem_range.1 hi
 exact qRy h (by omega)
theorem qOw (F : Hp) (hK : KF F) (gb gd : Nat) (first : Int) (size : Nat) (rest : List Value) (hB : qAQ F ⟨gb, 0, none⟩ (Ptr gd :: I first :: I (size : Nat) :: rest)) (d : Dk) (hok : d.ok) (A : Option Addr) (c : Nat) (B : Option Addr) (e : Nat) (C : Option Addr) (f : Nat) (hc : qAQ F ⟨gd, 0, none⟩ (d.cells A c B e C f)) (hL : Sl F 1 A d.last.length c (qAI d.last)) (hW : Sl F 2 B d.wait.length e (qB2 d.wait)) (hn1 : d.last.length ≤ 1073741824) (hn2 : d.wait.length ≤ 1073741824) (at_ : Nat) (hs : at_ + size ≤ d.last.length) (hoff : d.off = false) :
    Ct prog 116 [Ptr gb, I ((at_ : Nat) : Int)] [F] (fun x : Option Addr × Nat × Hp => .tuple #[.agg #[I ((at_ : Nat) : Int), W64 (rdl 0 [] 0 (qDd d at_ size)).1, I (((rdl 0 [] 0 (qDd d at_ size)).2.2 : Nat) : Int), .slice x.1 (rdl 0 [] 0 (qDd d at_ size)).2.1.length x.2.1], I ((0 : Nat) : Int)]) (fun x => Row x.2.2 9 1 x.1 (rdl 0 [] 0 (qDd d at_ size)).2.1.length x.2.1 (qAI (rdl 0 [] 0 (qDd d at_ size)).2.1)) (fun x => [F, x.2.2]) := by
  have hn3 := hok.n1
  refine Ct.walk func116 rfl ntmps116 rfl (fun w0 hw0 => ?_)
  change J _ [(0, _), (1, _)] _ _ _
  refine J.g fun K1 hK1 => J.p (qAO (l := [I 0, .int .u64 0, I 0, .slice none 0 0]) rfl zeroValue221 rfl) rfl fun g4 _ => ?_
  change J _ _ _ [F, blk g4 [I 0, .int .u64 0, I 0, .slice none 0 0] 221] _
  refine J.b rfl <| J.c hK1 <| J.H 0 1 4 ?_
  refine J.g fun K2 hK2 => J.b rfl <| J.f (qAM (l := [(0, .tmp 15)]) (vs := [I ((at_ : Nat) : Int)]) (places := [(0, 1), (1, 1), (2, 1), (3, 1)]) (r := [I ((at_ : Nat) : Int), .int .u64 0, I 0, .slice none 0 0]) rfl rfl rfl qBu zeroValue221 (fun _ => by kernel_rfl) rfl) rfl <| J.p (qAO (l := [I 0, .int .u64 0, I 0, .slice none 0 0]) rfl zeroValue221 rfl) rfl fun g6 _ => ?_
  change J _ _ _ [_, _, blk g6 [I 0, .int .u64 0, I 0, .slice none 0 0] 221] _
  refine J.b1 (qAG (i := 2) (l := [I 0, .int .u64 0, I 0, .slice none 0 0]) (vs := [I ((at_ : Nat) : Int), .int .u64 0, I 0, .slice none 0 0]) rfl rfl rfl rfl rfl qBj rfl rfl) rfl rfl fun _ _ => ?_
  change J _ _ _ [_, _, blk g6 [I ((at_ : Nat) : Int), .int .u64 0, I 0, .slice none 0 0] 221] _
  refine J.c hK2 <| J.M 0 1 4 6 ?_
  refine J.g fun K3 hK3 => J.b rfl <| J.c hK3 <| J.a0 0 1 4 6 7 ?_
  refine J.k fun K4 hK4 => J.g fun K5 hK5 => J.b rfl <| J.f (qAD rfl rfl) rfl <| J.a2 2 qCx z3_ rfl rfl rfl rfl rfl <| J.f (qAN rfl rfl b3_ (m := F) (by simp) (hB.at (i := 2) rfl)) rfl <| J.b rfl <| J.c hK5 <| J.c2 0 1 4 6 7 20 21 ?_
  refine J.a1 <| J.c0 (X := Nat × Option Addr × Nat × Hp) (fun ζ => [(0, Ptr gb), (1, I ((at_ : Nat) : Int)), (4, Ptr g4), (6, Ptr g6), (7, .slice ζ.2.1 ((qDd d at_ ζ.1).length) ζ.2.2.1), (20, I ((size : Nat) : Int)), (21, I ((ζ.1 : Nat) : Int))]) (fun ζ => [F, blk g4 [I 0, .int .u64 0, I 0, .slice none 0 0] 221, blk g6 [I ((at_ : Nat) : Int), .int .u64 0, I 0, .slice none 0 0] 221, ζ.2.2.2]) (fun ζ => ζ.1 ≤ size ∧ Row ζ.2.2.2 9 1 ζ.2.1 (qDd d at_ ζ.1).length ζ.2.2.1 (qAI (qDd d at_ ζ.1))) (fun ζ => size - ζ.1) (0, none, 0, (fun _ => none)) (⟨Nat.zero_le _, qBa.nil⟩) ⟨rfl, rfl, rfl, rfl, rfl, rfl, rfl, trivial⟩ (fun _ h => h.empty.pick [0, 1, 2, 3] (by decide)) ?_
  rintro ⟨k, A7, c7, m⟩ ⟨hk, hr0⟩ I0 hI0
  dsimp only at hk hr0 ⊢
  have hsl := qCb d at_ k
  refine J.g fun K6 hK6 => J.f (qAW rfl rfl rfl) rfl <| J.c hK6 <| J.d3 0 1 4 6 7 20 21 22 ?_
  refine J.k fun K7 hK7 => J.a5 rfl (fun h22 => ?_) (fun h22 => ?_)
  ·
    refine J.W hK7 <| J.c2 0 1 4 6 7 20 21 ?_
    refine J.k fun K8 hK8 => J.a1 <| J.g fun K9 hK9 => J.j 2 rfl <| J.c hK9 <| J.d3 0 1 4 6 7 8 20 21 ?_
    refine J.k fun K10 hK10 => ?_
    have hrk : d.read ((at_ + k : Nat) : Int) = d.now (at_ + k) ∧ d.ready ((at_ + k : Nat) : Int) = 0 := by
      have h0 := qBZ hoff (i := at_ + k) (by omega)
      exact ⟨qQS h0, h0⟩
    refine J.G <| J.b rfl <| J.f (qAD rfl rfl) rfl <| J.a2 0 qCx sizeOf67 rfl rfl rfl rfl rfl <| J.f (qAN rfl rfl isAgg67 (m := F) (by simp) (hB.at (i := 0) rfl)) rfl <| J.j 2 rfl <| J.f ((qAR rfl rfl rfl (by omega)).nat (at_ + k) (by omega)) rfl <| J.p (qAB rfl rfl ent159 (Ct.use0 (fun F' hF => by have := qNn F' gd d A c B e C f (hc.mono (hF F (by simp))) (hL.mono (hF F (by simp))) (hW.mono (hF F (by simp))) ((at_ + k : Nat) : Int) hn1 hn2; rw [hrk.1, hrk.2] at this; exact this))) rfl fun g32 _ => J.j 5 rfl <| J.c hK10 <| J.d8 0 1 4 6 7 9 10 20 21 ?_
    refine J.k fun K11 hK11 => J.g fun K12 hK12 => J.b rfl <| J.f ((qAY rfl rfl rfl).no (by decide)) rfl <| J.c hK12 <| J.f0 0 1 4 6 7 9 10 20 21 36 ?_
    refine J.a8 ?_
    refine J.W hK11 <| J.d3 0 1 4 6 7 9 20 21 ?_
    refine J.G <| J.j 2 rfl <| J.p (qAJ (l := [.tmp 40]) (xs := [[Str (d.now (at_ + k))]]) rfl rfl rfl rfl qAh el9 rfl (by decide) (by decide) (by simp)) rfl fun g41 _ => ?_
    change J _ _ _ [F, blk g4 [I 0, .int .u64 0, I 0, .slice none 0 0] 221, blk g6 [I ((at_ : Nat) : Int), .int .u64 0, I 0, .slice none 0 0] 221, m, blk g41 [Str (d.now (at_ + k))] 9] _
    refine J.p (qAd (i := 3) (xs := qAI (qDd d at_ k)) (m2 := blk g41 [Str (d.now (at_ + k))] 9) (ys := [[Str (d.now (at_ + k))]]) rfl rfl rfl qAh qAh el9 rfl hr0 (by simp) ((qBm (q := True) (qAI [d.now (at_ + k)]) rfl (by simp [qAI]) rfl).sl) rfl (by omega) (by omega)) rfl ?_
    rintro ⟨A42, c42, m42⟩ h42
    try dsimp only at h42
    change J _ ((42, .slice A42 (((qDd d at_ k).length) + 1) c42) :: _) _ [_, _, _, m42, _] _
    rw [← qBY, ← qLx] at h42
    rw [show (qDd d at_ k).length + 1 = (qDd d at_ (k + 1)).length by rw [qCb, qCb]] at h42 ⊢
    refine J.b rfl <| J.a7 <| J.a9 <| J.A (J.L hK8 ?_)
    refine J.c2 0 1 4 6 7 20 21 ?_
    exact J.G <| J.f ((qAR rfl rfl rfl (by omega)).nat (k + 1) (by omega)) rfl <| J.b rfl <| J.a7 <| J.A <| J.b0 (k + 1, A42, c42, m42) (fun η (hη : _ ∧ size - η.1 < size - k) => hI0 η hη.1 hη.2) ⟨⟨by dsimp only; omega, h42⟩, by dsimp only; omega⟩ ⟨rfl, rfl, rfl, rfl, rfl, rfl, rfl, trivial⟩ (fun _ h => h.pick [0, 1, 2, 3] (by decide))
  refine J.b7 <| J.a6 <| J.a6 <| J.b8 ?_
  refine J.A (J.L hK4 ?_)
  refine J.H 4 6 7 ?_
  refine J.k fun K13 hK13 => J.a1 ?_
  obtain rfl : size = k := by omega
  refine J.c0 (X := UInt64 × List (List UInt8) × Nat × Option Addr × Nat × Hp × Option Addr × Nat × List (List UInt8)) (fun ζ => [(4, Ptr g4), (6, Ptr g6), (7, .slice ζ.2.2.2.2.2.2.1 ζ.2.2.2.2.2.2.2.2.length ζ.2.2.2.2.2.2.2.1)]) (fun ζ => [F, blk g4 [I 0, .int .u64 0, I 0, .slice none 0 0] 221, blk g6 [I ((at_ : Nat) : Int), W64 (ζ.1), I ((ζ.2.2.1 : Nat) : Int), .slice ζ.2.2.2.1 ζ.2.1.length ζ.2.2.2.2.1] 221, m, ζ.2.2.2.2.2.1]) (fun ζ => Sl m 1 ζ.2.2.2.2.2.2.1 ζ.2.2.2.2.2.2.2.2.length ζ.2.2.2.2.2.2.2.1 (qAI ζ.2.2.2.2.2.2.2.2) ∧ Row ζ.2.2.2.2.2.1 9 1 ζ.2.2.2.1 ζ.2.1.length ζ.2.2.2.2.1 (qAI ζ.2.1) ∧ rdl ζ.1 ζ.2.1 ζ.2.2.1 ζ.2.2.2.2.2.2.2.2 = (rdl 0 [] 0 (qDd d at_ size)) ∧ ζ.2.1.length + ζ.2.2.2.2.2.2.2.2.length ≤ size ∧ ζ.2.2.1 + ζ.2.2.2.2.2.2.2.2.length ≤ size ∧ ∀ s ∈ ζ.2.2.2.2.2.2.2.2, s.length = 64) (fun ζ => ζ.2.2.2.2.2.2.2.2.length) (0, [], 0, none, 0, (fun _ => none), A7, c7, qDd d at_ size) (⟨hr0.sl, qBa.nil, rfl, by simp only [qCb, List.length_nil]; omega, by simp only [qCb]; omega, qQD hok hs⟩) ⟨rfl, rfl, rfl, trivial⟩ (fun _ h => h.empty.pick [0, 1, 2, 3, 4] (by decide)) ?_
  rintro ⟨t, R, e', Ar, cr, mr, A7, c7, l⟩ ⟨hl, hr, hq, hb1, hb2, h64⟩ I2 hI2
  dsimp only at hl hr hq hb1 hb2 h64 ⊢
  refine J.k fun K14 hK14 => J.g fun K15 hK15 => J.b rfl <| J.f (qAa qAh rfl rfl) rfl <| J.f (qAx rfl rfl rfl) rfl <| J.c hK15 <| J.M 4 6 7 46 ?_
  refine J.a5 rfl (fun h46 => ?_) (fun h46 => ?_)
  ·
    refine J.W hK14 <| J.H 4 6 7 ?_
    refine J.a1 <| J.g fun K16 hK16 => J.b rfl <| J.p (qAB rfl rfl ent160 (Ct.use0 (fun F' hF => qL4 F' (hK.mo hF) g6 at_ t e' Ar R.length cr (qAQ.blk0.mono (hF (blk g6 [I ((at_ : Nat) : Int), W64 (t), I ((e' : Nat) : Int), .slice Ar R.length cr] 221) (by simp))) (by omega) A7 l.length c7 l (hl.mono (hF m (by simp))) (by omega) h64))) rfl fun g49 _ => J.j 9 rfl <| J.c hK16 <| J.c2 4 6 7 11 12 13 14 ?_
    refine J.k fun K17 hK17 => J.g fun K18 hK18 => J.b rfl <| J.f (qA1 rfl rfl) rfl <| J.c hK18 <| J.c2 4 6 7 11 12 13 55 ?_
    refine J.e5 rfl (fun h55 => ?_) (fun h55 => ?_)
    ·
      refine J.b7 <| J.a6 <| J.h7 rfl ?_
      refine J.a6 <| J.b8 ?_
      refine J.A (J.L hK13 ?_)
      refine J.E 4 6 ?_
      refine J.k fun K19 hK19 => ?_
      have hfin : rdl t R e' l = (t, R, e') := qJe (by rintro ⟨q1, q2⟩; first | (simp [q2] at h55; done) | exact q1 (List.length_eq_zero_iff.1 (by omega)))
      have hx : (rdl 0 [] 0 (qDd d at_ size)) = (t, R, e') := hq.symm.trans hfin
      refine J.G <| J.c4 2 isAgg221 qBj rfl rfl rfl rfl rfl <| J.b1 (qAG (i := 1) (l := [I 0, .int .u64 0, I 0, .slice none 0 0]) (vs := [I ((at_ : Nat) : Int), W64 (t), I ((e' : Nat) : Int), .slice Ar R.length cr]) rfl rfl rfl rfl rfl qBj rfl rfl) rfl rfl fun _ _ => ?_
      change J _ _ _ [F, blk g4 [I ((at_ : Nat) : Int), W64 (t), I ((e' : Nat) : Int), .slice Ar R.length cr] 221, blk g6 [I ((at_ : Nat) : Int), W64 (t), I ((e' : Nat) : Int), .slice Ar R.length cr] 221, m, mr] _
      refine J.b rfl <| J.c hK19 <| J.E 4 5 ?_
      exact J.D <| J.b4 hw0 (fun _ _ h => h) (rv2 rfl (RV.blkA 1 rfl rfl isAgg221 qBj) rfl) (qAj (Ar, cr, mr) (by rw [hx]; rfl) (by rw [hx]; exact hr) [0, 4] rfl (by decide))
    refine J.W hK17 <| J.b3 4 6 7 11 12 13 ?_
    refine J.k fun K20 hK20 => ?_
    have hok2 : (qBi t R.length l).ok = true := by simpa using h55
    obtain ⟨hr1, hr2, hr3, hr4⟩ := qL5 hok2
    have hne : l ≠ [] := fun h => by have hz := congrArg List.length h; rw [List.length_nil] at hz; omega
    have hcap := hl.2.1
    have hstep := qL7 (e := e') hne hok2
    refine J.G <| J.b rfl <| J.a2 3 qBu qB0 rfl rfl rfl rfl rfl <| J.f (qAC 2 (v := .slice Ar R.length cr) rfl rfl rfl qCQ rfl) rfl <| J.b rfl <| J.p (qAJ (l := [.tmp 59]) (xs := [[Str ((qBi t R.length l).text)]]) rfl rfl rfl rfl qAh el9 rfl (by decide) (by decide) (by simp)) rfl fun g60 _ => ?_
    change J _ _ _ [F, blk g4 [I 0, .int .u64 0, I 0, .slice none 0 0] 221, blk g6 [I ((at_ : Nat) : Int), W64 (t), I ((e' : Nat) : Int), .slice Ar R.length cr] 221, m, mr, blk g60 [Str ((qBi t R.length l).text)] 9] _
    refine J.p (qAd (i := 4) (xs := qAI R) (m2 := blk g60 [Str ((qBi t R.length l).text)] 9) (ys := [[Str ((qBi t R.length l).text)]]) rfl rfl rfl qAh qAh el9 rfl hr (by simp) ((qBm (q := True) (qAI [(qBi t R.length l).text]) rfl (by simp [qAI]) rfl).sl) rfl (by omega) (by omega)) rfl ?_
    rintro ⟨A61, c61, m61⟩ h61
    try dsimp only at h61
    change J _ ((61, .slice A61 (R.length + 1) c61) :: _) _ [_, _, _, _, m61, _] _
    rw [show R.length + 1 = (R ++ [(qBi t R.length l).text]).length by rw [List.length_append]; rfl] at h61 ⊢
    rw [← qBY] at h61
    refine J.a2 1 qBu qCm rfl rfl rfl rfl rfl <| J.b1 (qAT (i := 2) (l := [I ((at_ : Nat) : Int), W64 (t), I ((e' : Nat) : Int), .slice Ar R.length cr]) (vs := [W64 ((qBi t R.length l).turn)]) rfl rfl rfl rfl rfl qCm rfl (by simp)) rfl rfl fun _ _ => ?_
    change J _ _ _ [_, _, blk g6 [I ((at_ : Nat) : Int), W64 ((qBi t R.length l).turn), I ((e' : Nat) : Int), .slice Ar R.length cr] 221, _, _, _] _
    refine J.a2 3 qBu qB0 rfl rfl rfl rfl rfl <| J.b1 (qAT (i := 2) (l := [I ((at_ : Nat) : Int), W64 ((qBi t R.length l).turn), I ((e' : Nat) : Int), .slice Ar R.length cr]) (vs := [.slice A61 ((R ++ [(qBi t R.length l).text]).length) c61]) rfl rfl rfl rfl rfl qB0 rfl (by simp)) rfl rfl fun _ _ => ?_
    change J _ _ _ [_, _, blk g6 [I ((at_ : Nat) : Int), W64 ((qBi t R.length l).turn), I ((e' : Nat) : Int), .slice A61 ((R ++ [(qBi t R.length l).text]).length) c61] 221, _, _, _] _
    refine J.c hK20 <| J.M 4 6 7 13 ?_
    refine J.g fun K21 hK21 => J.a2 2 qBu z3_ rfl rfl rfl rfl rfl <| J.f (qAC 2 (v := I ((e' : Nat) : Int)) rfl rfl rfl b3_ rfl) rfl <| J.b rfl <| J.f ((qAR rfl rfl rfl (by omega)).as (v' := I ((e' + ((qBi t R.length l).n) : Nat) : Int)) (congrArg I (by omega))) rfl <| J.a2 2 qBu z3_ rfl rfl rfl rfl rfl <| J.b1 (qAT (i := 2) (l := [I ((at_ : Nat) : Int), W64 ((qBi t R.length l).turn), I ((e' : Nat) : Int), .slice A61 ((R ++ [(qBi t R.length l).text]).length) c61]) (vs := [I ((e' + ((qBi t R.length l).n) : Nat) : Int)]) rfl rfl rfl rfl rfl z3_ rfl (by simp)) rfl rfl fun _ _ => ?_
    change J _ _ _ [_, _, blk g6 [I ((at_ : Nat) : Int), W64 ((qBi t R.length l).turn), I ((e' + ((qBi t R.length l).n) : Nat) : Int), .slice A61 ((R ++ [(qBi t R.length l).text]).length) c61] 221, _, _, _] _
    refine J.c hK21 <| J.M 4 6 7 13 ?_
    exact J.G <| J.j 2 rfl <| J.f (qCd (l := (qBi t R.length l).n) (h := l.length) rfl rfl qAh z9_ rfl rfl (by omega)) rfl <| J.b rfl <| J.a7 <| J.a9 <| J.A <| J.b0 ((qBi t R.length l).turn, R ++ [(qBi t R.length l).text], e' + (qBi t R.length l).n, A61, c61, m61, if c7 = (qBi t R.length l).n then A7 else (A7).map (·.add ((qBi t R.length l).n * 1)), c7 - ((qBi t R.length l).n), l.drop (qBi t R.length l).n) (fun η (hη : _ ∧ η.2.2.2.2.2.2.2.2.length < l.length) => hI2 η hη.1 hη.2) ⟨⟨by dsimp only; rw [List.length_drop]; exact hl.strsFrom (by omega), h61, by dsimp only; rw [← hstep]; exact hq, by dsimp only; rw [List.length_append, List.length_drop, List.length_singleton]; omega, by dsimp only; rw [List.length_drop]; omega, fun s hs => h64 s (List.mem_of_mem_drop hs)⟩, by dsimp only; rw [List.length_drop]; omega⟩ ⟨rfl, rfl, by dsimp only; rw [List.length_drop]; rfl, trivial⟩ (fun _ h => h.pick [0, 1, 2, 3, 4] (by decide))
  refine J.b7 <| J.a6 <| J.a6 <| J.b8 ?_
  refine J.A (J.L hK13 ?_)
  refine J.E 4 6 ?_
  refine J.k fun K22 hK22 => ?_
  have hfin : rdl t R e' l = (t, R, e') := qJe (by rintro ⟨q1, q2⟩; first | (simp [q2] at h55; done) | exact q1 (List.length_eq_zero_iff.1 (by omega)))
  have hx : (rdl 0 [] 0 (qDd d at_ size)) = (t, R, e') := hq.symm.trans hfin
  refine J.G <| J.c4 2 isAgg221 qBj rfl rfl rfl rfl rfl <| J.b1 (qAG (i := 1) (l := [I 0, .int .u64 0, I 0, .slice none 0 0]) (vs := [I ((at_ : Nat) : Int), W64 (t), I ((e' : Nat) : Int), .slice Ar R.length cr]) rfl rfl rfl rfl rfl qBj rfl rfl) rfl rfl fun _ _ => ?_
  change J _ _ _ [F, blk g4 [I ((at_ : Nat) : Int), W64 (t), I ((e' : Nat) : Int), .slice Ar R.length cr] 221, blk g6 [I ((at_ : Nat) : Int), W64 (t), I ((e' : Nat) : Int), .slice Ar R.length cr] 221, m, mr] _
  refine J.b rfl <| J.c hK22 <| J.E 4 5 ?_
  exact J.D <| J.b4 hw0 (fun _ _ h => h) (rv2 rfl (RV.blkA 1 rfl rfl isAgg221 qBj) rfl) (qAj (Ar, cr, mr) (by rw [hx]; rfl) (by rw [hx]; exact hr) [0, 4] rfl (by decide))
structure Hlf where
 at_ : Nat
 t : UInt64
 R : List (List UInt8)
 e : Nat
def hlf (d : Dk) (at_ size : Nat) : Hlf := ⟨at_, (rdl 0 [] 0 (qDd d at_ size)).1, (rdl 0 [] 0 (qDd d at_ size)).2.1, (rdl 0 [] 0 (qDd d at_ size)).2.2⟩
def hst (d : Dk) (first size : Nat) : Nat → Hlf
 | 0 => ⟨0, 0, [], 0⟩
 | 1 => hlf d first size
 | _ + 2 => if 0 < (hlf d (first + size) size).R.length ∧ ((hlf d first size).R.length = 0 ∨ (hlf d first size).t.toNat < (hlf d (first + size) size).t.toNat) then hlf d (first + size) size else hlf d first size
theorem qH5 {d : Dk} {at_ size : Nat} {t : UInt64} {R : List (List UInt8)} {e : Nat} (h : rdl 0 [] 0 (qDd d at_ size) = (t, R, e)) : hlf d at_ size = ⟨at_, t, R, e⟩ := by unfold hlf; rw [h]
theorem qG5 {d : Dk} {first size k km at1 e1 e2 : Nat} {t1 t2 : UInt64} {R1 R2 : List (List UInt8)} (hk : k < 2) (hkm : km = k * size) (h1 : hst d first size k = ⟨at1, t1, R1, e1⟩) (h2 : rdl 0 [] 0 (qDd d (first + km) size) = (t2, R2, e2))
    (hc : k = 0 ∨ (0 < R2.length ∧ (R1.length = 0 ∨ t1.toNat < t2.toNat))) : hst d first size (k + 1) = ⟨first + km, t2, R2, e2⟩ := by
  have h3 := qH5 h2
  match k, hk with
  | 0, _ =>
    rw [Nat.zero_mul] at hkm
    subst hkm
    exact h3
  | 1, _ =>
    rw [Nat.one_mul] at hkm
    subst hkm
    have hc2 := hc.resolve_left (by decide)
    have h4 : hlf d first km = ⟨at1, t1, R1, e1⟩ := h1
    show (if _ then _ else _) = _
    rw [h3, h4, if_pos hc2]
theorem qJ3 {d : Dk} {first size k km at1 e1 e2 : Nat} {t1 t2 : UInt64} {R1 R2 : List (List UInt8)} (hk : k < 2) (hkm : km = k * size) (h1 : hst d first size k = ⟨at1, t1, R1, e1⟩) (h2 : rdl 0 [] 0 (qDd d (first + km) size) = (t2, R2, e2))
    (hc : k ≠ 0 ∧ ¬ (0 < R2.length ∧ (R1.length = 0 ∨ t1.toNat < t2.toNat))) : hst d first size (k + 1) = ⟨at1, t1, R1, e1⟩ := by
  have h3 := qH5 h2
  match k, hk with
  | 0, _ => exact absurd rfl hc.1
  | 1, _ =>
    rw [Nat.one_mul] at hkm
    subst hkm
    have h4 : hlf d first km = ⟨at1, t1, R1, e1⟩ := h1
    show (if _ then _ else _) = _
    rw [h3, h4, if_neg hc.2]
def bkC (gd first size : Nat) (x : Hlf) (A : Option Addr) (c : Nat) (bad : Bool) : List Value := [Ptr gd, I ((first : Nat) : Int), I ((size : Nat) : Int), I ((x.at_ : Nat) : Int), W64 x.t, I ((x.e : Nat) : Int), .slice A x.R.length c, .bool bad]
theorem qHG (F : Hp) (hK : KF F) (gd : Nat) (d : Dk) (hok : d.ok) (A : Option Addr) (c : Nat) (B : Option Addr) (e : Nat) (C : Option Addr) (f : Nat) (hc : qAQ F ⟨gd, 0, none⟩ (d.cells A c B e C f)) (hL : Sl F 1 A d.last.length c (qAI d.last)) (hW : Sl F 2 B d.wait.length e (qB2 d.wait)) (hn2 : d.wait.length ≤ 1073741824) (first count : Nat) (h8 : 8 ≤ count) (hfc : first + count ≤ d.last.length) (hoff : d.off = false) :
    Ct prog 53 [Ptr gd, I ((first : Nat) : Int), I ((count : Nat) : Int)] [F] (fun x : Nat × Option Addr × Nat × Hp => .tuple #[Ptr x.1, I ((0 : Nat) : Int)]) (fun x => Row x.2.2.2 9 1 x.2.1 (hst d first (count / 2) 2).R.length x.2.2.1 (qAI (hst d first (count / 2) 2).R)) (fun x => [F, blk x.1 (bkC gd first (count / 2) (hst d first (count / 2) 2) x.2.1 x.2.2.1 false) 223, x.2.2.2]) := by
  have hn1 := hok.n1
  refine Ct.walk func53 rfl ntmps53 rfl (fun w0 hw0 => ?_)
  change J _ [(0, _), (1, _), (2, _)] _ _ _
  refine J.g fun K1 hK1 => J.j 2 rfl <| J.c hK1 <| J.H 0 1 2 ?_
  refine J.k fun K2 hK2 => J.g fun K3 hK3 => J.b rfl <| J.f ((qAu qRc rfl rfl rfl).as (v' := .bool false) rfl) rfl <| J.j 2 rfl <| J.T ((qAW rfl rfl rfl).no (by omega)) rfl <| J.j 3 rfl <| J.T ((qAW rfl rfl rfl).no (by omega)) rfl <| J.j 4 rfl <| J.d6 (qAB rfl rfl ent115 (Ct.use0 (fun F' hF => qE1 F' gd d A c B e C f (hc.mono (hF F (by simp)))))) rfl fun g25 _ => J.T ((qAx rfl rfl rfl).no (by omega)) rfl <| J.j 4 rfl <| J.d6 (qAB rfl rfl ent115 (Ct.use0 (fun F' hF => qE1 F' gd d A c B e C f (hc.mono (hF F (by simp)))))) rfl fun g31 _ => J.b rfl <| J.T (qAp rfl rfl rfl (by omega)) rfl <| J.T ((qAx rfl rfl rfl).no (by omega)) rfl <| J.b rfl <| J.c hK3 <| J.M 0 1 2 35 ?_
  refine J.a8 ?_
  refine J.W hK2 <| J.H 0 1 2 ?_
  refine J.g fun K4 hK4 => J.j 3 rfl <| J.f ((qGC rfl rfl rfl (by omega)).nat (count / 2) (by omega)) rfl <| J.f (qAM (l := [(0, .tmp 36), (1, .tmp 37), (2, .tmp 39)]) (vs := [Ptr gd, I ((first : Nat) : Int), I ((count / 2 : Nat) : Int)]) (places := [(0, 1), (1, 1), (2, 1), (3, 4), (7, 1)]) (r := [Ptr gd, I ((first : Nat) : Int), I ((count / 2 : Nat) : Int), I 0, .int .u64 0, I 0, .slice none 0 0, .bool false]) rfl rfl rfl qCx zeroValue223 (fun _ => by kernel_rfl) (by kernel_rfl)) rfl <| J.p (qAf (l := [Ptr gd, I ((first : Nat) : Int), I ((count / 2 : Nat) : Int), I 0, .int .u64 0, I 0, .slice none 0 0, .bool false]) rfl rfl rfl) rfl fun g41 _ => ?_
  change J _ _ _ [F, blk g41 [Ptr gd, I ((first : Nat) : Int), I ((count / 2 : Nat) : Int), I 0, .int .u64 0, I 0, .slice none 0 0, .bool false] 223] _
  refine J.b rfl <| J.c hK4 <| J.E 1 8 ?_
  refine J.k fun K5 hK5 => J.g fun K6 hK6 => J.b rfl <| J.c hK6 <| J.H 1 8 42 ?_
  refine J.a1 <| J.c0 (X := Nat × Nat × UInt64 × List (List UInt8) × Nat × Option Addr × Nat × Hp) (fun ζ => [(1, I ((first : Nat) : Int)), (8, Ptr g41), (42, I ((ζ.1 : Nat) : Int))]) (fun ζ => [F, blk g41 [Ptr gd, I ((first : Nat) : Int), I ((count / 2 : Nat) : Int), I ((ζ.2.1 : Nat) : Int), W64 (ζ.2.2.1), I ((ζ.2.2.2.2.1 : Nat) : Int), .slice ζ.2.2.2.2.2.1 ζ.2.2.2.1.length ζ.2.2.2.2.2.2.1, .bool false] 223, ζ.2.2.2.2.2.2.2]) (fun ζ => ζ.1 ≤ 2 ∧ hst d first (count / 2) ζ.1 = ⟨ζ.2.1, ζ.2.2.1, ζ.2.2.2.1, ζ.2.2.2.2.1⟩ ∧ Row ζ.2.2.2.2.2.2.2 9 1 ζ.2.2.2.2.2.1 ζ.2.2.2.1.length ζ.2.2.2.2.2.2.1 (qAI ζ.2.2.2.1)) (fun ζ => 2 - ζ.1) (0, 0, 0, [], 0, none, 0, (fun _ => none)) (⟨Nat.zero_le _, rfl, qBa.nil⟩) ⟨rfl, rfl, rfl, trivial⟩ (fun _ h => h.empty.pick [0, 1, 2] (by decide)) ?_
  rintro ⟨k, at1, t1, R1, e1, A1, c1, mr⟩ ⟨hk, hq, hr⟩ I0 hI0
  dsimp only at hk hq hr ⊢
  refine J.g fun K7 hK7 => J.f (qAW rfl rfl rfl) rfl <| J.c hK7 <| J.M 1 8 42 43 ?_
  refine J.k fun K8 hK8 => J.a5 rfl (fun h43 => ?_) (fun h43 => ?_)
  ·
    refine J.W hK8 <| J.H 1 8 42 ?_
    refine J.k fun K9 hK9 => J.a1 <| J.g fun K10 hK10 => J.j 2 rfl <| J.c hK10 <| J.M 1 8 9 42 ?_
    refine J.k fun K11 hK11 => ?_
    obtain ⟨km, hkm⟩ : ∃ km, km = k * (count / 2) := ⟨_, rfl⟩
    have hkm2 : km + count / 2 ≤ count := by
      have : k = 0 ∨ k = 1 := by omega
      rcases this with e | e <;> rw [hkm, e] <;> omega
    obtain ⟨t2, R2, e2, hD2⟩ : ∃ t2 R2 e2, rdl 0 [] 0 (qDd d (first + km) (count / 2)) = (t2, R2, e2) := ⟨_, _, _, rfl⟩
    refine J.G <| J.j 4 rfl <| J.f (qAD rfl rfl) rfl <| J.a2 2 qCx z3_ rfl rfl rfl rfl rfl <| J.f (qAC 1 (v := I ((count / 2 : Nat) : Int)) rfl rfl rfl b3_ rfl) rfl <| J.f ((qB8 rfl rfl rfl (by rw [← Int.natCast_mul, ← hkm]; omega)).as (v' := I ((km : Nat) : Int)) (congrArg I (by rw [hkm, Int.natCast_mul]))) rfl <| J.f ((qAR rfl rfl rfl (by omega)).nat (first + km) (by omega)) rfl <| J.p (qAB rfl rfl ent116 (Ct.use (new := fun x : Option Addr × Nat × Hp => [x.2.2]) (fun F' hF => by have := qOw F' (hK.mo hF) g41 gd ((first : Nat) : Int) (count / 2) _ (qAQ.blk0.mono (hF (blk g41 [Ptr gd, I ((first : Nat) : Int), I ((count / 2 : Nat) : Int), I ((at1 : Nat) : Int), W64 (t1), I ((e1 : Nat) : Int), .slice A1 R1.length c1, .bool false] 223) (by simp))) d hok A c B e C f (hc.mono (hF F (by simp))) (hL.mono (hF F (by simp))) (hW.mono (hF F (by simp))) (by omega) hn2 (first + km) (by omega) hoff; rw [hD2] at this; exact this))) rfl ?_
    rintro ⟨A55, c55, m55⟩ h55
    try dsimp only at h55
    change J _ ((55, .tuple #[.agg #[I ((first + km : Nat) : Int), W64 (t2), I ((e2 : Nat) : Int), .slice A55 R2.length c55], I ((0 : Nat) : Int)]) :: _) _ [F, blk g41 [Ptr gd, I ((first : Nat) : Int), I ((count / 2 : Nat) : Int), I ((at1 : Nat) : Int), W64 (t1), I ((e1 : Nat) : Int), .slice A1 R1.length c1, .bool false] 223, mr, m55] _
    refine J.j 3 rfl <| J.p (qAO (l := [I 0, .int .u64 0, I 0, .slice none 0 0]) rfl zeroValue221 rfl) rfl fun g10 _ => ?_
    change J _ _ _ [_, _, _, _, blk g10 [I 0, .int .u64 0, I 0, .slice none 0 0] 221] _
    refine J.b1 (qAG (i := 4) (l := [I 0, .int .u64 0, I 0, .slice none 0 0]) (vs := [I ((first + km : Nat) : Int), W64 (t2), I ((e2 : Nat) : Int), .slice A55 R2.length c55]) rfl rfl rfl rfl rfl qBj rfl rfl) rfl rfl fun _ _ => ?_
    change J _ _ _ [_, _, _, _, blk g10 [I ((first + km : Nat) : Int), W64 (t2), I ((e2 : Nat) : Int), .slice A55 R2.length c55] 221] _
    refine J.b rfl <| J.c hK11 <| J.b3 1 8 9 10 11 42 ?_
    refine J.k fun K12 hK12 => J.g fun K13 hK13 => J.b rfl <| J.f ((qAY rfl rfl rfl).no (by decide)) rfl <| J.c hK13 <| J.c2 1 8 9 10 11 42 59 ?_
    refine J.a8 ?_
    refine J.W hK12 <| J.a0 1 8 9 10 42 ?_
    refine J.k fun K14 hK14 => J.c1 [F, blk g41 [Ptr gd, I ((first : Nat) : Int), I ((count / 2 : Nat) : Int), I ((at1 : Nat) : Int), W64 (t1), I ((e1 : Nat) : Int), .slice A1 R1.length c1, .bool false] 223, blk g10 [I ((first + km : Nat) : Int), W64 (t2), I ((e2 : Nat) : Int), .slice A55 R2.length c55] 221] [] (.y 0 (.y 1 (.y 2 (.y 3 (.y 4 (.y 5 (.y 6 (.y 7 (.y 8 (.y 9 (.y 10 (.y 11 (.y 12 (.y 13 (.y 14 (.y 15 (.y 16 (.y 17 (.y 18 (.y 19 (.y 20 (.y 21 (.y 22 (.y 23 (.y 24 (.y 25 (.y 26 .nil))))))))))))))))))))))))))) Tryz.wide (by decide +kernel) (by simp) ?_
    refine J.O ?_
    refine J.q rfl (qAV rfl rfl rfl) rfl rfl <| J.O ?_
    refine J.c5 (d := 63) rfl (fun h63 => ?_) (fun h63 => ?_)
    ·
      iterate 5 refine J.Z ?_
      refine J.c3 rfl (Wan.un rfl rfl rfl rfl) rfl rfl ?_
      refine J.c3 rfl (Wan.un rfl rfl rfl rfl) rfl rfl ?_
      refine J.c3 rfl (Wan.un rfl rfl rfl rfl) rfl rfl ?_
      refine J.c3 rfl (Wan.un rfl rfl rfl rfl) rfl rfl ?_
      refine J.c3 rfl (Wan.un rfl rfl rfl rfl) rfl rfl ?_
      refine J.c3 rfl (Wan.un rfl rfl rfl rfl) rfl rfl ?_
      refine J.c3 rfl (Wan.un rfl rfl rfl rfl) rfl rfl ?_
      refine J.c3 rfl (Wan.un rfl rfl rfl rfl) rfl rfl ?_
      refine J.c3 rfl (Wan.un rfl rfl rfl rfl) rfl rfl ?_
      refine J.c3 rfl (Wan.un rfl rfl rfl rfl) rfl rfl ?_
      refine J.c3 rfl (Wan.un rfl rfl rfl rfl) rfl rfl ?_
      refine J.c3 rfl (Wan.un rfl rfl rfl rfl) rfl rfl ?_
      refine J.c3 rfl (Wan.un rfl rfl rfl rfl) rfl rfl ?_
      refine J.c3 rfl (Wan.un rfl rfl rfl rfl) rfl rfl ?_
      refine J.c3 rfl (Wan.un rfl rfl rfl rfl) rfl rfl ?_
      refine J.c3 rfl (Wan.un rfl rfl rfl rfl) rfl rfl ?_
      refine J.c3 rfl (Wan.un rfl rfl rfl rfl) rfl rfl ?_
      refine J.Z ?_
      refine J.d2 ?_
      refine J.b5 <| J.A (J.L hK14 ?_)
      refine J.a0 1 8 10 42 87 ?_
      refine J.c6 ?_
      refine J.G <| J.b rfl <| J.c4 4 isAgg221 qBj rfl rfl rfl rfl rfl <| J.f (qAD rfl rfl) rfl <| J.a2 3 qCx qBj rfl rfl rfl rfl rfl <| J.b1 (qAT (i := 1) (l := [Ptr gd, I ((first : Nat) : Int), I ((count / 2 : Nat) : Int), I ((at1 : Nat) : Int), W64 (t1), I ((e1 : Nat) : Int), .slice A1 R1.length c1, .bool false]) (vs := [I ((first + km : Nat) : Int), W64 (t2), I ((e2 : Nat) : Int), .slice A55 R2.length c55]) rfl rfl rfl rfl rfl qBj rfl (by simp)) rfl rfl fun _ _ => ?_
      change J _ _ _ [_, blk g41 [Ptr gd, I ((first : Nat) : Int), I ((count / 2 : Nat) : Int), I ((first + km : Nat) : Int), W64 (t2), I ((e2 : Nat) : Int), .slice A55 R2.length c55, .bool false] 223, _, _, _] _
      refine J.a7 <| J.a9 <| J.A (J.L hK9 ?_)
      refine J.H 1 8 42 ?_
      exact J.G <| J.f ((qAR rfl rfl rfl (by omega)).nat (k + 1) (by omega)) rfl <| J.b rfl <| J.a7 <| J.A <| J.b0 (k + 1, first + km, t2, R2, e2, A55, c55, m55) (fun η (hη : _ ∧ 2 - η.1 < 2 - k) => hI0 η hη.1 hη.2) ⟨⟨by dsimp only; omega, by dsimp only; exact qG5 (by omega) hkm hq hD2 (by omega), h55⟩, by dsimp only; omega⟩ ⟨rfl, rfl, rfl, trivial⟩ (fun _ h => h.pick [0, 1, 3] (by decide))
    refine J.a4 rfl (qAA (j := 3) rfl rfl qBu rfl qB0 rfl) rfl rfl <| J.a4 rfl (qAC 2 (v := .slice A55 R2.length c55) rfl rfl rfl qCQ rfl) rfl rfl <| J.a4 rfl (qAa qAh rfl rfl) rfl rfl <| J.a4 rfl (qAx rfl rfl rfl) rfl rfl <| J.a4 rfl (qAl rfl rfl) rfl rfl <| J.c5 (d := 68) rfl (fun h68 => ?_) (fun h68 => ?_)
    ·
      refine J.a4 rfl (qAl rfl rfl) rfl rfl <| J.a4 rfl (qAD rfl rfl) rfl rfl <| J.a4 rfl (qAA (j := 3) rfl rfl qCx rfl qBj rfl) rfl rfl <| J.a4 rfl (qAA (j := 6) rfl rfl qBu rfl qB0 rfl) rfl rfl <| J.a4 rfl (qAC 1 (v := .slice A1 R1.length c1) rfl rfl rfl qCQ rfl) rfl rfl <| J.a4 rfl (qAa qAh rfl rfl) rfl rfl <| J.a4 rfl (qAV rfl rfl rfl) rfl rfl <| J.a4 rfl (qAl rfl rfl) rfl rfl <| J.c5 (d := 76) rfl (fun h76 => ?_) (fun h76 => ?_)
      ·
        iterate 8 refine J.Z ?_
        refine J.a4 rfl (qBW rfl rfl rfl) rfl rfl <| J.a4 rfl (qBW rfl rfl rfl) rfl rfl <| J.e2 ?_
        refine J.b5 <| J.A (J.L hK14 ?_)
        refine J.a0 1 8 10 42 87 ?_
        refine J.c6 ?_
        refine J.G <| J.b rfl <| J.c4 4 isAgg221 qBj rfl rfl rfl rfl rfl <| J.f (qAD rfl rfl) rfl <| J.a2 3 qCx qBj rfl rfl rfl rfl rfl <| J.b1 (qAT (i := 1) (l := [Ptr gd, I ((first : Nat) : Int), I ((count / 2 : Nat) : Int), I ((at1 : Nat) : Int), W64 (t1), I ((e1 : Nat) : Int), .slice A1 R1.length c1, .bool false]) (vs := [I ((first + km : Nat) : Int), W64 (t2), I ((e2 : Nat) : Int), .slice A55 R2.length c55]) rfl rfl rfl rfl rfl qBj rfl (by simp)) rfl rfl fun _ _ => ?_
        change J _ _ _ [_, blk g41 [Ptr gd, I ((first : Nat) : Int), I ((count / 2 : Nat) : Int), I ((first + km : Nat) : Int), W64 (t2), I ((e2 : Nat) : Int), .slice A55 R2.length c55, .bool false] 223, _, _, _] _
        refine J.a7 <| J.a9 <| J.A (J.L hK9 ?_)
        refine J.H 1 8 42 ?_
        exact J.G <| J.f ((qAR rfl rfl rfl (by omega)).nat (k + 1) (by omega)) rfl <| J.b rfl <| J.a7 <| J.A <| J.b0 (k + 1, first + km, t2, R2, e2, A55, c55, m55) (fun η (hη : _ ∧ 2 - η.1 < 2 - k) => hI0 η hη.1 hη.2) ⟨⟨by dsimp only; omega, by dsimp only; exact qG5 (by omega) hkm hq hD2 (by omega), h55⟩, by dsimp only; omega⟩ ⟨rfl, rfl, rfl, trivial⟩ (fun _ h => h.pick [0, 1, 3] (by decide))
      refine J.a4 rfl (qAA (j := 1) rfl rfl qBu rfl qCm rfl) rfl rfl <| J.a4 rfl (qAC 2 (v := W64 (t2)) rfl rfl rfl qDN rfl) rfl rfl <| J.a4 rfl (qAl rfl rfl) rfl rfl <| J.a4 rfl (qAD rfl rfl) rfl rfl <| J.a4 rfl (qAA (j := 3) rfl rfl qCx rfl qBj rfl) rfl rfl <| J.a4 rfl (qAA (j := 4) rfl rfl qBu rfl qCm rfl) rfl rfl <| J.a4 rfl (qAC 1 (v := W64 (t1)) rfl rfl rfl qDN rfl) rfl rfl <| J.a4 rfl (qAx rfl rfl rfl) rfl rfl <| J.a4 rfl (qBd rfl rfl rfl) rfl rfl <| J.a4 rfl (qBW rfl rfl rfl) rfl rfl <| J.e2 ?_
      refine J.b5 <| J.A (J.L hK14 ?_)
      refine J.a0 1 8 10 42 87 ?_
      refine J.a5 rfl (fun h87 => ?_) (fun h87 => ?_)
      ·
        refine J.G <| J.b rfl <| J.c4 4 isAgg221 qBj rfl rfl rfl rfl rfl <| J.f (qAD rfl rfl) rfl <| J.a2 3 qCx qBj rfl rfl rfl rfl rfl <| J.b1 (qAT (i := 1) (l := [Ptr gd, I ((first : Nat) : Int), I ((count / 2 : Nat) : Int), I ((at1 : Nat) : Int), W64 (t1), I ((e1 : Nat) : Int), .slice A1 R1.length c1, .bool false]) (vs := [I ((first + km : Nat) : Int), W64 (t2), I ((e2 : Nat) : Int), .slice A55 R2.length c55]) rfl rfl rfl rfl rfl qBj rfl (by simp)) rfl rfl fun _ _ => ?_
        change J _ _ _ [_, blk g41 [Ptr gd, I ((first : Nat) : Int), I ((count / 2 : Nat) : Int), I ((first + km : Nat) : Int), W64 (t2), I ((e2 : Nat) : Int), .slice A55 R2.length c55, .bool false] 223, _, _, _] _
        refine J.a7 <| J.a9 <| J.A (J.L hK9 ?_)
        refine J.H 1 8 42 ?_
        exact J.G <| J.f ((qAR rfl rfl rfl (by omega)).nat (k + 1) (by omega)) rfl <| J.b rfl <| J.a7 <| J.A <| J.b0 (k + 1, first + km, t2, R2, e2, A55, c55, m55) (fun η (hη : _ ∧ 2 - η.1 < 2 - k) => hI0 η hη.1 hη.2) ⟨⟨by dsimp only; omega, by dsimp only; exact qG5 (by omega) hkm hq hD2 (by omega), h55⟩, by dsimp only; omega⟩ ⟨rfl, rfl, rfl, trivial⟩ (fun _ h => h.pick [0, 1, 3] (by decide))
      refine J.c7 <| J.a9 <| J.A (J.L hK9 ?_)
      refine J.H 1 8 42 ?_
      exact J.G <| J.f ((qAR rfl rfl rfl (by omega)).nat (k + 1) (by omega)) rfl <| J.b rfl <| J.a7 <| J.A <| J.b0 (k + 1, at1, t1, R1, e1, A1, c1, mr) (fun η (hη : _ ∧ 2 - η.1 < 2 - k) => hI0 η hη.1 hη.2) ⟨⟨by dsimp only; omega, by dsimp only; exact qJ3 (by omega) hkm hq hD2 (by omega), hr⟩, by dsimp only; omega⟩ ⟨rfl, rfl, rfl, trivial⟩ (fun _ h => h.pick [0, 1, 2] (by decide))
    iterate 8 refine J.Z ?_
    refine J.c3 rfl (Wan.un rfl rfl rfl rfl) rfl rfl ?_
    refine J.c3 rfl (Wan.un rfl rfl rfl rfl) rfl rfl ?_
    refine J.c3 rfl (Wan.un rfl rfl rfl rfl) rfl rfl ?_
    refine J.c3 rfl (Wan.un rfl rfl rfl rfl) rfl rfl ?_
    refine J.c3 rfl (Wan.un rfl rfl rfl rfl) rfl rfl ?_
    refine J.c3 rfl (Wan.un rfl rfl rfl rfl) rfl rfl ?_
    refine J.c3 rfl (Wan.un rfl rfl rfl rfl) rfl rfl ?_
    refine J.c3 rfl (Wan.un rfl rfl rfl rfl) rfl rfl ?_
    refine J.Z ?_
    refine J.a4 rfl (qBd rfl rfl rfl) rfl rfl <| J.e2 ?_
    refine J.b5 <| J.A (J.L hK14 ?_)
    refine J.a0 1 8 10 42 87 ?_
    refine J.a8 ?_
    refine J.c7 <| J.a9 <| J.A (J.L hK9 ?_)
    refine J.H 1 8 42 ?_
    exact J.G <| J.f ((qAR rfl rfl rfl (by omega)).nat (k + 1) (by omega)) rfl <| J.b rfl <| J.a7 <| J.A <| J.b0 (k + 1, at1, t1, R1, e1, A1, c1, mr) (fun η (hη : _ ∧ 2 - η.1 < 2 - k) => hI0 η hη.1 hη.2) ⟨⟨by dsimp only; omega, by dsimp only; exact qJ3 (by omega) hkm hq hD2 (by omega), hr⟩, by dsimp only; omega⟩ ⟨rfl, rfl, rfl, trivial⟩ (fun _ h => h.pick [0, 1, 2] (by decide))
  refine J.b7 <| J.a6 <| J.a6 <| J.b8 ?_
  refine J.A (J.L hK5 ?_)
  refine J.u 8 ?_
  refine J.k fun K15 hK15 => ?_
  obtain rfl : k = 2 := by omega
  refine J.G <| J.j 3 rfl <| J.c hK15 <| J.E 6 7 ?_
  exact J.D <| J.b4 hw0 (fun _ _ h => h) (qCq rfl rfl rfl) (qAj (g41, A1, c1, mr) rfl (by rw [hq]; exact hr) [0, 1, 2] (by dsimp only; rw [hq]; rfl) (by decide))
end Go.Proofs.YtfldiegfenndjaaGreatDoor
namespace Go.Proofs.YtfldiegfenndjaaGreatDoor
open Go Go.Fw Go.Proofs.Tryz
set_option maxRecDepth 100000
set_option maxHeartbeats 1000000
namespace Wo
def place (leaf chain step : Nat) : List UInt8 := [UInt8.ofNat (leaf / 2 ^ 24), UInt8.ofNat (leaf / 2 ^ 16), UInt8.ofNat (leaf / 2 ^ 8), UInt8.ofNat leaf, UInt8.ofNat chain, UInt8.ofNat step]
def step (opn : List UInt8) (leaf chain k : Nat) (x : List UInt8) : List UInt8 := Sha.tagged 2 [opn, place leaf chain k, x]
def walk (opn : List UInt8) (leaf chain a : Nat) (x : List UInt8) : Nat → List UInt8
 | 0 => x
 | n + 1 => step opn leaf chain (a + n) (walk opn leaf chain a x n)
def secret (seed : List UInt8) (leaf chain : Nat) : List UInt8 := Sha.tagged 1 [seed, place leaf chain 0]
def opn (seed : List UInt8) : List UInt8 := Sha.tagged 3 [seed]
def nibs (s : List UInt8) : List Nat := s.flatMap fun b => [b.toNat / 16, b.toNat % 16]
def left (s : List UInt8) : Nat := (s.map fun b => 30 - b.toNat / 16 - b.toNat % 16).sum
def digs (s : List UInt8) : List Nat := nibs s ++ [left s / 256, left s / 16 % 16, left s % 16]
def signs (seed : List UInt8) (leaf : Nat) (ds : List Nat) (k : Nat) : List (List UInt8) := (List.range k).map fun i => walk (opn seed) leaf i 0 (secret seed leaf i) (ds.getD i 0)
def ends (op : List UInt8) (leaf : Nat) (ds : List Nat) (sig : List (List UInt8)) (k : Nat) : List (List UInt8) := (List.range k).map fun i => walk op leaf i (ds.getD i 0) (sig.getD i []) (15 - ds.getD i 0)
def publicOf (op : List UInt8) (leaf : Nat) (e : List (List UInt8)) : List UInt8 := Sha.tagged 4 ([op, place leaf 0 0] ++ e)
def tops (seed : List UInt8) (leaf : Nat) (k : Nat) : List (List UInt8) := (List.range k).map fun i => walk (opn seed) leaf i 0 (secret seed leaf i) 15
def pub (seed : List UInt8) (leaf : Nat) : List UInt8 := publicOf (opn seed) leaf (tops seed leaf 35)
theorem qFH (a : List UInt8) (b c d : Nat) (x : List UInt8) : (step a b c d x).length = 16 := Sha.tagged_length _ _
theorem secret_length (a : List UInt8) (b c : Nat) : (secret a b c).length = 16 := Sha.tagged_length _ _
theorem opn_length (a : List UInt8) : (opn a).length = 16 := Sha.tagged_length _ _
theorem walk_small (o : List UInt8) (leaf chain a : Nat) (x : List UInt8) (h : x.length ≤ 1048576) : ∀ n, (walk o leaf chain a x n).length ≤ 1048576
 | 0 => h
 | n + 1 => by rw [walk, qFH]; decide
theorem qLX (o : List UInt8) (leaf chain a : Nat) (x : List UInt8) (h : x.length = 16) : ∀ n, (walk o leaf chain a x n).length = 16
 | 0 => h
 | n + 1 => qFH _ _ _ _ _
theorem qJT (o : List UInt8) (leaf chain a : Nat) (x : List UInt8) (n : Nat) : ∀ m, walk o leaf chain (a + n) (walk o leaf chain a x n) m = walk o leaf chain a x (n + m)
 | 0 => rfl
 | m + 1 => by rw [walk, qJT o leaf chain a x n m, ← Nat.add_assoc, walk, Nat.add_assoc]
theorem place_length (a b c : Nat) : (place a b c).length = 6 := rfl
theorem nibs_snoc (s : List UInt8) (k : Nat) (h : k < s.length) : nibs (s.take (k + 1)) = nibs (s.take k) ++ [(s.getD k 0).toNat / 16, (s.getD k 0).toNat % 16] := by
 unfold nibs
 rw [List.take_succ_eq_append_getElem h, List.flatMap_append, List.getD_eq_getElem?_getD, List.getElem?_eq_getElem h]; simp
theorem left_snoc (s : List UInt8) (k : Nat) (h : k < s.length) : left (s.take (k + 1)) = left (s.take k) + (30 - (s.getD k 0).toNat / 16 - (s.getD k 0).toNat % 16) := by
 unfold left
 rw [List.take_succ_eq_append_getElem h, List.map_append, List.sum_append, List.getD_eq_getElem?_getD, List.getElem?_eq_getElem h]; simp
theorem qIw (s : List UInt8) : (nibs s).length = 2 * s.length := by
 unfold nibs
 induction s with
 | nil => rfl
 | cons a l ih => rw [List.flatMap_cons, List.length_append, ih]; simp; omega
theorem left_le (s : List UInt8) : left s ≤ 30 * s.length := by
 unfold left
 induction s with
 | nil => simp
 | cons a l ih => rw [List.map_cons, List.sum_cons, List.length_cons]; omega
theorem digs_length (s : List UInt8) : (digs s).length = 2 * s.length + 3 := by unfold digs; rw [List.length_append, qIw]; rfl
theorem digs_le (s : List UInt8) (h : s.length ≤ 16) (i : Nat) : (digs s).getD i 0 ≤ 15 := by
  have hl := left_le s
  have : ∀ x ∈ digs s, x ≤ 15 := fun x hx => by
    unfold digs nibs at hx
    rcases List.mem_append.1 hx with hx | hx
    · obtain ⟨b, _, hb⟩ := List.mem_flatMap.1 hx
      have := b.toNat_lt
      simp only [List.mem_cons, List.not_mem_nil, or_false] at hb
      omega
    · simp only [List.mem_cons, List.not_mem_nil, or_false] at hx
      omega
  by_cases hi : i < (digs s).length
  · rw [List.getD_eq_getElem?_getD, List.getElem?_eq_getElem hi]; exact this _ (List.getElem_mem _)
  · rw [List.getD_eq_getElem?_getD, List.getElem?_eq_none (by omega)]; decide
theorem signs_succ (seed : List UInt8) (leaf : Nat) (ds : List Nat) (k : Nat) : signs seed leaf ds (k + 1) = signs seed leaf ds k ++ [walk (opn seed) leaf k 0 (secret seed leaf k) (ds.getD k 0)] := by simp [signs, List.range_succ]
theorem ends_succ (op : List UInt8) (leaf : Nat) (ds : List Nat) (sig : List (List UInt8)) (k : Nat) : ends op leaf ds sig (k + 1) = ends op leaf ds sig k ++ [walk op leaf k (ds.getD k 0) (sig.getD k []) (15 - ds.getD k 0)] := by simp [ends, List.range_succ]
theorem tops_succ (seed : List UInt8) (leaf : Nat) (k : Nat) : tops seed leaf (k + 1) = tops seed leaf k ++ [walk (opn seed) leaf k 0 (secret seed leaf k) 15] := by simp [tops, List.range_succ]
theorem qLq (seed : List UInt8) (leaf : Nat) (ds : List Nat) (k i : Nat) (h : i < k) : (signs seed leaf ds k).getD i [] = walk (opn seed) leaf i 0 (secret seed leaf i) (ds.getD i 0) := by
 unfold signs
 rw [List.getD_eq_getElem?_getD, List.getElem?_map, List.getElem?_range h]; rfl
theorem tops_small (seed : List UInt8) (leaf : Nat) (k : Nat) : ∀ s ∈ tops seed leaf k, s.length ≤ 16 := fun s hs => by
 simp only [tops, List.mem_map] at hs
 obtain ⟨i, _, rfl⟩ := hs
 rw [qLX _ _ _ _ _ (secret_length _ _ _)]; exact Nat.le_refl _
theorem signs_16 (seed : List UInt8) (leaf : Nat) (ds : List Nat) (k : Nat) : ∀ s ∈ signs seed leaf ds k, s.length = 16 := fun s hs => by
 simp only [signs, List.mem_map] at hs
 obtain ⟨i, _, rfl⟩ := hs
 rw [qLX _ _ _ _ _ (secret_length _ _ _)]
theorem ends_small (op : List UInt8) (leaf : Nat) (ds : List Nat) (sig : List (List UInt8)) (k : Nat) (hg : ∀ s ∈ sig, s.length ≤ 16) : ∀ s ∈ ends op leaf ds sig k, s.length ≤ 1048576 := fun s hs => by
 simp only [ends, List.mem_map] at hs
 obtain ⟨i, _, rfl⟩ := hs
 refine walk_small _ _ _ _ _ ?_ _
 by_cases h0 : i < sig.length
 · rw [List.getD_eq_getElem?_getD, List.getElem?_eq_getElem h0]; exact Nat.le_trans (hg _ (List.getElem_mem _)) (by decide)
 · rw [List.getD_eq_getElem?_getD, List.getElem?_eq_none (by omega)]; decide
theorem recovers (seed : List UInt8) (leaf : Nat) (ds : List Nat) (hd : ∀ i, ds.getD i 0 ≤ 15) (k : Nat) : ends (opn seed) leaf ds (signs seed leaf ds k) k = tops seed leaf k := by
 unfold ends tops
 apply List.map_congr_left
 intro i hi
 rw [List.mem_range] at hi
 rw [qLq _ _ _ _ _ hi]
 have h := qJT (opn seed) leaf i 0 (secret seed leaf i) (ds.getD i 0) (15 - ds.getD i 0)
 rw [Nat.zero_add] at h
 have := hd i
 rw [h, show ds.getD i 0 + (15 - ds.getD i 0) = 15 by omega]
theorem qR9 : ∀ b : Fin 256, (UInt8.ofNat b.val &&& 15).toNat = b.val % 16 ∧ (UInt8.ofNat (b.val / 2 ^ min 4 8)).toNat = b.val / 16 := by decide +kernel
theorem lo_eq (b : UInt8) : (b &&& 15).toNat = b.toNat % 16 ∧ (UInt8.ofNat (b.toNat / 2 ^ min 4 8)).toNat = b.toNat / 16 := by
 have h := qR9 ⟨b.toNat, b.toNat_lt⟩
 simp only [UInt8.ofNat_toNat] at h
 exact h
end Wo
attribute [local irreducible] Sha.tagB Sha.tagged Wo.walk Wo.signs Wo.tops Wo.ends Wo.digs Wo.nibs Wo.left
theorem Wo.walk0 (o : List UInt8) (leaf chain a : Nat) (x : List UInt8) : Wo.walk o leaf chain a x 0 = x := by unfold Wo.walk; rfl
theorem Wo.walkS (o : List UInt8) (leaf chain a : Nat) (x : List UInt8) (n : Nat) : Wo.step o leaf chain (a + n) (Wo.walk o leaf chain a x n) = Wo.walk o leaf chain a x (n + 1) := by rw [Wo.walk]
theorem Wo.tops0 (a : List UInt8) (b : Nat) : Wo.tops a b 0 = [] := by unfold Wo.tops; rfl
theorem Wo.signs0 (a : List UInt8) (b : Nat) (d : List Nat) : Wo.signs a b d 0 = [] := by unfold Wo.signs; rfl
theorem Wo.ends0 (a : List UInt8) (b : Nat) (d : List Nat) (s : List (List UInt8)) : Wo.ends a b d s 0 = [] := by unfold Wo.ends; rfl
theorem Wo.nibs0 : Wo.nibs [] = [] := by unfold Wo.nibs; rfl
theorem Wo.left0 : Wo.left [] = 0 := by unfold Wo.left; rfl
theorem qPG {a b c : List UInt8} (h1 : a.length ≤ 1048576) (h2 : b.length ≤ 1048576) (h3 : c.length ≤ 1048576) : [a, b, c].flatten.length ≤ 3145728 := by simp; omega
theorem qGo (F : Hp) (leaf chain stp : Nat) (h1 : leaf < 4611686018427387904) (h2 : chain < 4611686018427387904) (h3 : stp < 4611686018427387904) :
    Ct prog 171 [I leaf, I chain, I stp] [F] (fun _ : Unit => Str (Wo.place leaf chain stp)) (fun _ => True) (fun _ => [F]) := by
  refine Ct.walk func171 rfl ntmps171 rfl (fun w0 hw0 => ?_)
  change J _ [(0, _), (1, _), (2, _)] _ _ _
  refine J.g fun K1 hK1 => J.b rfl <| J.c hK1 <| J.H 0 1 2 ?_
  refine J.g fun K2 hK2 => J.b rfl <| J.f ((qCK (m := 24) rfl rfl rfl ⟨by decide, by omega⟩).as (v' := I ((leaf / 2 ^ 24 : Nat) : Int)) (congrArg I (by simp))) rfl <| J.f (qAq rfl rfl u3_ u5_) rfl <| J.b rfl <| J.f ((qCK (m := 16) rfl rfl rfl ⟨by decide, by omega⟩).as (v' := I ((leaf / 2 ^ 16 : Nat) : Int)) (congrArg I (by simp))) rfl <| J.f (qAq rfl rfl u3_ u5_) rfl <| J.b rfl <| J.f ((qCK (m := 8) rfl rfl rfl ⟨by decide, by omega⟩).as (v' := I ((leaf / 2 ^ 8 : Nat) : Int)) (congrArg I (by simp))) rfl <| J.f (qAq rfl rfl u3_ u5_) rfl <| J.b rfl <| J.f (qAq rfl rfl u3_ u5_) rfl <| J.b rfl <| J.f (qAq rfl rfl u3_ u5_) rfl <| J.b rfl <| J.f (qAq rfl rfl u3_ u5_) rfl <| J.p (qAJ (l := [.tmp 9, .tmp 12, .tmp 15, .tmp 17, .tmp 19, .tmp 21]) (xs := [[B8 (UInt8.ofNat (leaf / 2 ^ 24))], [B8 (UInt8.ofNat (leaf / 2 ^ 16))], [B8 (UInt8.ofNat (leaf / 2 ^ 8))], [B8 (UInt8.ofNat leaf)], [B8 (UInt8.ofNat chain)], [B8 (UInt8.ofNat stp)]]) rfl rfl rfl rfl qBl el5 rfl (by decide) (by decide) (by simp)) rfl fun g22 _ => ?_
  change J _ _ _ [F, blk g22 [B8 (UInt8.ofNat (leaf / 2 ^ 24)), B8 (UInt8.ofNat (leaf / 2 ^ 16)), B8 (UInt8.ofNat (leaf / 2 ^ 8)), B8 (UInt8.ofNat leaf), B8 (UInt8.ofNat chain), B8 (UInt8.ofNat stp)] 5] _
  refine J.f (qCE (l := Wo.place leaf chain stp) rfl rfl qBl u5_ u9_ (m := blk g22 [B8 (UInt8.ofNat (leaf / 2 ^ 24)), B8 (UInt8.ofNat (leaf / 2 ^ 16)), B8 (UInt8.ofNat (leaf / 2 ^ 8)), B8 (UInt8.ofNat leaf), B8 (UInt8.ofNat chain), B8 (UInt8.ofNat stp)] 5) (by simp) (slB (Wo.place leaf chain stp) rfl)) rfl <| J.b rfl <| J.c hK2 <| J.u 6 ?_
  exact J.D <| J.V hw0 rfl () rfl trivial [0] rfl (by decide)
theorem qGc (F : Hp) (hK : KF F) (seed : List UInt8) (hs : seed.length ≤ 1048576) : Ct prog 70 [Str seed] [F] (fun _ : Unit => Str (Wo.opn seed)) (fun _ => True) (fun _ => [F]) := by
 refine Ct.walk func70 rfl ntmps70 rfl (fun w0 hw0 => ?_)
 change J _ [(0, _)] _ _ _
 refine J.g fun K1 hK1 => J.b rfl <| J.c hK1 <| J.u 0 ?_
 refine J.g fun K2 hK2 => J.b rfl <| J.p (qAJ (l := [.tmp 3]) (xs := [[Str (seed)]]) rfl rfl rfl rfl qAh el9 rfl (by decide) (by decide) (by simp)) rfl fun g4 _ => ?_
 change J _ _ _ [F, blk g4 [Str (seed)] 9] _
 refine J.p (qAB rfl rfl ent44 (Ct.use0 (fun F' hF => qA3 F' (hK.mono (hF _ (by simp))) 3 (some ⟨g4, 0, none⟩) 1 1 [seed] ((slS [seed] rfl).mono (hF (blk g4 (([seed] : List (List UInt8)).map fun s => Str s) 9) (by simp))) (by simp [Wo.place_length]; omega) (by decide)))) rfl fun g5 _ => J.b rfl <| J.c hK2 <| J.u 2 ?_
 exact J.D <| J.V hw0 rfl () rfl trivial [0] rfl (by decide)
theorem qIh (F : Hp) (hK : KF F) (o : List UInt8) (leaf chain : Nat) (ho : o.length ≤ 1048576) (h1 : leaf < 4611686018427387904) (h2 : chain < 4611686018427387904) (x : List UInt8) (hx : x.length ≤ 1048576) (from' to' : Int) (a n : Nat) (ha : (a : Int) = max from' 0) (ha2 : a < 4611686018427387904) (hn : (n : Int) = max (min to' 15 - a) 0) :
    Ct prog 125 [Str o, I leaf, I chain, I from', I to', Str x] [F] (fun _ : Unit => Str (Wo.walk o leaf chain a x n)) (fun _ => True) (fun _ => [F]) := by
  refine Ct.walk func125 rfl ntmps125 rfl (fun w0 hw0 => ?_)
  change J _ [(0, _), (1, _), (2, _), (3, _), (4, _), (5, _)] _ _ _
  refine J.g fun K1 hK1 => J.b rfl <| J.c hK1 <| J.b3 0 1 2 3 4 5 ?_
  refine J.k fun K2 hK2 => J.g fun K3 hK3 => J.b rfl <| J.f ((qHp rfl rfl rfl).nat (a + 0) (by omega)) rfl <| J.b rfl <| J.c hK3 <| J.b3 0 1 2 4 5 13 ?_
  refine J.a1 <| J.c0 (fun k : Nat => [(0, Str o), (1, I leaf), (2, I chain), (4, I to'), (5, Str (Wo.walk o leaf chain a x k)), (13, I ((a + k : Nat) : Int))]) (fun _ => [F]) (fun k => k ≤ n) (fun k => n - k) 0 (Nat.zero_le _) ⟨rfl, rfl, rfl, rfl, by rw [Wo.walk0]; rfl, rfl, trivial⟩ (fun _ h => h) ?_
  intro k hk I0 hI0
  have hw := Wo.walk_small o leaf chain a x hx k
  refine J.k fun K4 hK4 => J.g fun K5 hK5 => J.j 2 rfl <| J.f (qDX rfl rfl rfl) rfl <| J.f (qAW rfl rfl rfl) rfl <| J.c hK5 <| J.c2 0 1 2 4 5 13 19 ?_
  refine J.a5 rfl (fun h19 => ?_) (fun h19 => ?_)
  ·
    refine J.W hK4 <| J.b3 0 1 2 4 5 13 ?_
    refine J.k fun K6 hK6 => J.a1 <| J.G <| J.j 4 rfl <| J.p (qAB rfl rfl ent171 (qGo F leaf chain (a + k) h1 h2 (by omega))) rfl fun g26 _ => J.b rfl <| J.p (qAJ (l := [.tmp 22, .tmp 26, .tmp 27]) (xs := [[Str (o)], [Str (Wo.place leaf chain (a + k))], [Str ((Wo.walk o leaf chain a x k))]]) rfl rfl rfl rfl qAh el9 rfl (by decide) (by decide) (by simp)) rfl fun g28 _ => ?_
    change J _ _ _ [F, blk g28 [Str (o), Str (Wo.place leaf chain (a + k)), Str ((Wo.walk o leaf chain a x k))] 9] _
    refine J.p (qAB rfl rfl ent44 (Ct.use0 (fun F' hF => qA3 F' (hK.mono (hF _ (by simp))) 2 (some ⟨g28, 0, none⟩) 3 3 [o, Wo.place leaf chain (a + k), (Wo.walk o leaf chain a x k)] ((slS [o, Wo.place leaf chain (a + k), (Wo.walk o leaf chain a x k)] rfl).mono (hF (blk g28 (([o, Wo.place leaf chain (a + k), (Wo.walk o leaf chain a x k)] : List (List UInt8)).map fun s => Str s) 9) (by simp))) (by have := qPG ho (show (Wo.place leaf chain (a + k)).length ≤ 1048576 by rw [Wo.place_length]; decide) hw; omega) (by decide)))) rfl fun g29 _ => J.b rfl <| J.a7 <| J.a9 <| J.A (J.L hK6 ?_)
    refine J.b3 0 1 2 4 5 13 ?_
    exact J.c9 [0] [F] rfl (by decide) <| J.G <| J.b rfl <| J.f ((qAR rfl rfl rfl (by omega)).nat (a + (k + 1)) (by omega)) rfl <| J.b rfl <| J.a7 <| J.A <| J.b0 (k + 1) (fun x (hx : x ≤ n ∧ n - x < n - k) => hI0 x hx.1 hx.2) ⟨by omega, by omega⟩ ⟨rfl, rfl, rfl, rfl, by rw [← Wo.walkS]; rfl, rfl, trivial⟩ (fun _ h => h)
  refine J.b7 <| J.a6 <| J.a6 <| J.b8 ?_
  refine J.A (J.L hK2 ?_)
  refine J.u 5 ?_
  refine J.k fun K7 hK7 => ?_
  have hkn : n = k := by omega
  subst hkn
  refine J.G <| J.j 2 rfl <| J.c hK7 <| J.u 12 ?_
  exact J.D <| J.V hw0 rfl () rfl trivial [0] rfl (by decide)
theorem qFx (F : Hp) (hK : KF F) (seed : List UInt8) (leaf chain : Nat) (hs : seed.length ≤ 1048576) (h1 : leaf < 4611686018427387904) (h2 : chain < 4611686018427387904) :
    Ct prog 126 [Str seed, I leaf, I chain] [F] (fun _ : Unit => Str (Wo.secret seed leaf chain)) (fun _ => True) (fun _ => [F]) := by
  refine Ct.walk func126 rfl ntmps126 rfl (fun w0 hw0 => ?_)
  change J _ [(0, _), (1, _), (2, _)] _ _ _
  refine J.g fun K1 hK1 => J.b rfl <| J.c hK1 <| J.H 0 1 2 ?_
  refine J.g fun K2 hK2 => J.j 3 rfl <| J.p (qAB rfl rfl ent171 (qGo F leaf chain 0 h1 h2 (by decide))) rfl fun g10 _ => J.p (qAJ (l := [.tmp 7, .tmp 10]) (xs := [[Str (seed)], [Str (Wo.place leaf chain 0)]]) rfl rfl rfl rfl qAh el9 rfl (by decide) (by decide) (by simp)) rfl fun g11 _ => ?_
  change J _ _ _ [F, blk g11 [Str (seed), Str (Wo.place leaf chain 0)] 9] _
  refine J.p (qAB rfl rfl ent44 (Ct.use0 (fun F' hF => qA3 F' (hK.mono (hF _ (by simp))) 1 (some ⟨g11, 0, none⟩) 2 2 [seed, Wo.place leaf chain 0] ((slS [seed, Wo.place leaf chain 0] rfl).mono (hF (blk g11 (([seed, Wo.place leaf chain 0] : List (List UInt8)).map fun s => Str s) 9) (by simp))) (by simp [Wo.place_length]; omega) (by decide)))) rfl fun g12 _ => J.b rfl <| J.c hK2 <| J.u 6 ?_
  exact J.D <| J.V hw0 rfl () rfl trivial [0] rfl (by decide)
theorem qFy (F : Hp) (hK : KF F) (o : List UInt8) (leaf : Nat) (ho : o.length ≤ 1048576) (h1 : leaf < 4611686018427387904) (A : Option Addr) (n c : Nat) (e : List (List UInt8)) (he : Sl F 1 A n c (qAI e)) (hsm : ∀ s ∈ e, s.length ≤ 1048576) (hn : n ≤ 1024) :
    Ct prog 127 [Str o, I leaf, .slice A n c] [F] (fun _ : Unit => Str (Wo.publicOf o leaf e)) (fun _ => True) (fun _ => [F]) := by
  have hlen : e.length = n := by have := he.1; simpa [qAI] using this
  have hfl := Mk.flat_small hsm
  rw [hlen] at hfl
  refine Ct.walk func127 rfl ntmps127 rfl (fun w0 hw0 => ?_)
  change J _ [(0, _), (1, _), (2, _)] _ _ _
  refine J.g fun K1 hK1 => J.b rfl <| J.c hK1 <| J.H 0 1 2 ?_
  refine J.g fun K2 hK2 => J.j 2 rfl <| J.p (qAB rfl rfl ent171 (qGo F leaf 0 0 h1 (by decide) (by decide))) rfl fun g9 _ => J.p (qAJ (l := [.tmp 7, .tmp 9]) (xs := [[Str (o)], [Str (Wo.place leaf 0 0)]]) rfl rfl rfl rfl qAh el9 rfl (by decide) (by decide) (by simp)) rfl fun g10 _ => ?_
  change J _ _ _ [F, blk g10 [Str (o), Str (Wo.place leaf 0 0)] 9] _
  refine J.b rfl <| J.p (qAd (i := 1) (m2 := F) (ys := qAI e) rfl rfl rfl qAh qAh el9 rfl (qBm (q := True) (qAI [o, Wo.place leaf 0 0]) (n := 2) rfl (by simp [qAI]) rfl) (by simp) he (qCf _) (by omega) (by omega)) rfl ?_
  rintro ⟨A12, c12, m12⟩ h12
  try dsimp only at h12
  change J _ ((12, .slice A12 (2 + n) c12) :: _) _ [_, m12] _
  rw [← qBv] at h12
  refine J.p (qAB rfl rfl ent44 (Ct.use0 (fun F' hF => qA3 F' (hK.mono (hF _ (by simp))) 4 A12 (2 + n) c12 ([o, Wo.place leaf 0 0] ++ e) (h12.sl.mono (hF _ (by simp))) (by simp only [List.flatten_append, List.length_append, List.flatten_cons, List.flatten_nil, Wo.place_length, List.length_nil]; omega) (by omega)))) rfl fun g13 _ => J.b rfl <| J.c hK2 <| J.u 6 ?_
  exact J.D <| J.V hw0 rfl () rfl trivial [0] rfl (by decide)
theorem qPt (F : Hp) (hK : KF F) (seed : List UInt8) (leaf : Nat) (hs : seed.length ≤ 1048576) (h1 : leaf < 4611686018427387904) :
    Ct prog 68 [Str seed, I leaf] [F] (fun _ : Unit => Str (Wo.pub seed leaf)) (fun _ => True) (fun _ => [F]) := by
  refine Ct.walk func68 rfl ntmps68 rfl (fun w0 hw0 => ?_)
  change J _ [(0, _), (1, _)] _ _ _
  refine J.g fun K1 hK1 => J.b rfl <| J.c hK1 <| J.E 0 1 ?_
  refine J.g fun K2 hK2 => J.b rfl <| J.p (qAB rfl rfl ent70 (qGc F hK seed hs)) rfl fun g9 _ => J.b rfl <| J.c hK2 <| J.H 0 1 5 ?_
  refine J.g fun K3 hK3 => J.b rfl <| J.c hK3 <| J.M 0 1 5 6 ?_
  refine J.k fun K4 hK4 => J.k fun K5 hK5 => J.d9 [0, 1] [F, (fun _ => none)] rfl (by decide) <| J.G <| J.b rfl <| J.c hK5 <| J.a0 0 1 5 6 10 ?_
  refine J.a1 <| J.c0 (X := Nat × Option Addr × Nat × Hp) (fun x => [(0, Str seed), (1, I leaf), (5, Str (Wo.opn seed)), (6, .slice x.2.1 x.1 x.2.2.1), (10, I x.1)]) (fun x => [F, x.2.2.2]) (fun x => x.1 ≤ 35 ∧ Row x.2.2.2 9 1 x.2.1 x.1 x.2.2.1 (qAI (Wo.tops seed leaf x.1))) (fun x => 35 - x.1) (0, none, 0, fun _ => none) (⟨Nat.zero_le _, by rw [Wo.tops0]; exact qBa.nil⟩) ⟨rfl, rfl, rfl, rfl, rfl, trivial⟩ (fun _ h => h) ?_
  rintro ⟨k, A6, c6, m⟩ ⟨hk, hrow⟩ I0 hI0
  dsimp only at hk hrow ⊢
  refine J.g fun K6 hK6 => J.f (qAW rfl rfl rfl) rfl <| J.c hK6 <| J.b3 0 1 5 6 10 11 ?_
  refine J.k fun K7 hK7 => J.a5 rfl (fun h11 => ?_) (fun h11 => ?_)
  ·
    refine J.W hK7 <| J.a0 0 1 5 6 10 ?_
    refine J.k fun K8 hK8 => J.a1 <| J.g fun K9 hK9 => J.j 2 rfl <| J.c hK9 <| J.b3 0 1 5 6 7 10 ?_
    refine J.G <| J.j 7 rfl <| J.p (qAB rfl rfl ent126 (Ct.use0 (fun F' hF => qFx F' (hK.mono (hF _ (by simp))) seed leaf k hs h1 (by omega)))) rfl fun g20 _ => J.p (qAB rfl rfl ent125 (Ct.use0 (fun F' hF => qIh F' (hK.mono (hF _ (by simp))) (Wo.opn seed) leaf k (by rw [Wo.opn_length]; decide) h1 (by omega) (Wo.secret seed leaf k) (by rw [Wo.secret_length]; decide) 0 15 0 15 (by omega) (by omega) (by omega)))) rfl fun g21 _ => J.p (qAJ (l := [.tmp 21]) (xs := [[Str ((Wo.walk (Wo.opn seed) leaf k 0 (Wo.secret seed leaf k) 15))]]) rfl rfl rfl rfl qAh el9 rfl (by decide) (by decide) (by simp)) rfl fun g22 _ => ?_
    change J _ _ _ [F, m, blk g22 [Str ((Wo.walk (Wo.opn seed) leaf k 0 (Wo.secret seed leaf k) 15))] 9] _
    refine J.p (qAd (i := 1) (m2 := blk g22 [Str (Wo.walk (Wo.opn seed) leaf k 0 (Wo.secret seed leaf k) 15)] 9) (ys := qAI [(Wo.walk (Wo.opn seed) leaf k 0 (Wo.secret seed leaf k) 15)]) rfl rfl rfl qAh qAh el9 rfl hrow (by simp) (qAv (q := True) (xs := qAI [(Wo.walk (Wo.opn seed) leaf k 0 (Wo.secret seed leaf k) 15)]) rfl (by simp [qAI])).sl (qCf _) (by omega) (by omega)) rfl ?_
    rintro ⟨A23, c23, m23⟩ h23
    try dsimp only at h23
    change J _ ((23, .slice A23 (k + 1) c23) :: _) _ [_, m23, blk g22 [Str (Wo.walk (Wo.opn seed) leaf k 0 (Wo.secret seed leaf k) 15)] 9] _
    rw [← qBv, ← Wo.tops_succ] at h23
    refine J.c9 [0, 1] [F, m23] rfl (by decide) <| J.b rfl <| J.a7 <| J.a9 <| J.A (J.L hK8 ?_)
    refine J.a0 0 1 5 6 10 ?_
    exact J.G <| J.f ((qAR rfl rfl rfl (by omega)).nat (k + 1) (by omega)) rfl <| J.b rfl <| J.a7 <| J.A <| J.b0 (k + 1, A23, c23, m23) (fun x (hx : _ ∧ 35 - x.1 < 35 - k) => hI0 x hx.1 hx.2) ⟨⟨by dsimp only; omega, h23⟩, by dsimp only; omega⟩ ⟨rfl, rfl, rfl, rfl, rfl, trivial⟩ (fun _ h => h)
  refine J.b7 <| J.a6 <| J.a6 <| J.b8 ?_
  refine J.A (J.L hK4 ?_)
  refine J.H 1 5 6 ?_
  refine J.k fun K10 hK10 => ?_
  have hk35 : k = 35 := by omega
  subst hk35
  refine J.G <| J.j 3 rfl <| J.p (qAB rfl rfl ent127 (Ct.use0 (fun F' hF => qFy F' (hK.mono (hF _ (by simp))) (Wo.opn seed) leaf (by rw [Wo.opn_length]; decide) h1 A6 35 c6 (Wo.tops seed leaf 35) (hrow.sl.mono (hF _ (by simp))) (fun s hs => Nat.le_trans (Wo.tops_small seed leaf 35 s hs) (by decide)) (by decide)))) rfl fun g28 _ => J.b rfl <| J.c hK10 <| J.u 4 ?_
  exact J.D <| J.V hw0 rfl () rfl trivial [0] rfl (by decide)
theorem qFf (F : Hp) (s : List UInt8) (hs : s.length = 16) :
    Ct prog 143 [Str s] [F] (fun x : Option Addr × Nat × Hp => .tuple #[.slice x.1 35 x.2.1, I 0]) (fun x => Row x.2.2 3 1 x.1 35 x.2.1 (qCg (Wo.digs s))) (fun x => [F, x.2.2]) := by
  have hll := Wo.left_le s
  refine Ct.walk func143 rfl ntmps143 rfl (fun w0 hw0 => ?_)
  change J _ [(0, _)] _ _ _
  refine J.g fun K1 hK1 => J.j 2 rfl <| J.c hK1 <| J.u 0 ?_
  refine J.k fun K2 hK2 => J.g fun K3 hK3 => J.b rfl <| J.f (qAk u9_ rfl rfl) rfl <| J.f ((qAY rfl rfl rfl).no (by omega)) rfl <| J.c hK3 <| J.E 0 12 ?_
  refine J.a8 ?_
  refine J.W hK2 <| J.u 0 ?_
  refine J.g fun K4 hK4 => J.b rfl <| J.c hK4 <| J.E 0 4 ?_
  refine J.k fun K5 hK5 => J.d9 [0, 1] [F, (fun _ => none)] rfl (by decide) <| J.G <| J.b rfl <| J.c hK5 <| J.H 0 4 5 ?_
  refine J.k fun K6 hK6 => J.g fun K7 hK7 => J.b rfl <| J.f (qAk u9_ rfl rfl) rfl <| J.b rfl <| J.c hK7 <| J.a0 0 4 5 14 15 ?_
  refine J.a1 <| J.c0 (X := Nat × Option Addr × Nat × Hp) (fun x => [(0, Str s), (4, .slice x.2.1 (2 * x.1) x.2.2.1), (5, I ((Wo.left (s.take x.1) : Nat) : Int)), (14, I s.length), (15, I x.1)]) (fun x => [F, x.2.2.2]) (fun x => x.1 ≤ 16 ∧ Row x.2.2.2 3 1 x.2.1 (2 * x.1) x.2.2.1 (qCg (Wo.nibs (s.take x.1)))) (fun x => 16 - x.1) (0, none, 0, fun _ => none) (⟨Nat.zero_le _, by rw [List.take_zero, Wo.nibs0]; exact qBa.nil⟩) ⟨rfl, rfl, by rw [List.take_zero, Wo.left0]; rfl, rfl, rfl, trivial⟩ (fun _ h => h) ?_
  rintro ⟨k, A4, c4, m⟩ ⟨hk, hrow⟩ I0 hI0
  dsimp only at hk hrow ⊢
  have hlk := Wo.left_le (s.take k)
  rw [List.length_take] at hlk
  refine J.g fun K8 hK8 => J.f (qAW rfl rfl rfl) rfl <| J.c hK8 <| J.b3 0 4 5 14 15 16 ?_
  refine J.k fun K9 hK9 => J.a5 rfl (fun h16 => ?_) (fun h16 => ?_)
  ·
    refine J.W hK9 <| J.a0 0 4 5 14 15 ?_
    refine J.k fun K10 hK10 => J.a1 <| J.g fun K11 hK11 => J.j 2 rfl <| J.c hK11 <| J.b3 0 4 5 6 14 15 ?_
    refine J.k fun K12 hK12 => ?_
    have hk16 : k < 16 := by omega
    have hb8 := (s.getD k 0).toNat_lt
    refine J.c1 [F, m] [] (.y 0 (.y 1 (.y 2 (.y 3 (.y 4 (.y 5 (.y 6 (.y 7 (.y 8 (.y 9 (.y 10 (.y 11 .nil)))))))))))) Tryz.wide (by decide +kernel) (by simp) ?_
    refine J.O ?_
    refine J.O ?_
    refine J.q rfl (qBC (i := k) u9_ rfl rfl rfl (qAg 0 (by omega))) rfl rfl <| J.q rfl (qMQ (m := 4) rfl rfl rfl) rfl rfl <| J.q rfl ((qBw rfl rfl u5_ u3_).as (v' := I (((s.getD k 0).toNat / 16 : Nat) : Int)) (congrArg (fun n : Nat => I (n : Int)) (Wo.lo_eq (s.getD k 0)).2)) rfl rfl <| J.O ?_
    refine J.O ?_
    refine J.q rfl (qBC (i := k) u9_ rfl rfl rfl (qAg 0 (by omega))) rfl rfl <| J.q rfl (qQk (b := 15) rfl rfl rfl) rfl rfl <| J.q rfl ((qBw rfl rfl u5_ u3_).as (v' := I (((s.getD k 0).toNat % 16 : Nat) : Int)) (congrArg (fun n : Nat => I (n : Int)) (Wo.lo_eq (s.getD k 0)).1)) rfl rfl <| J.q rfl (qDg (l := [.tmp 22, .tmp 27]) rfl rfl rfl underlying287 el3 zeroValue287 rfl rfl (by simp [Value.cells]) (r := [(s.getD k 0).toNat / 16, (s.getD k 0).toNat % 16].map fun x : Nat => I (x : Int)) rfl) rfl rfl <| J.O ?_
    refine J.b5 <| J.A (J.L hK12 ?_)
    refine J.c2 0 4 5 14 15 28 29 ?_
    refine J.a1 <| J.c0 (X := Nat × Option Addr × Nat × Hp) (fun x => [(0, Str s), (4, .slice x.2.1 (2 * k + x.1) x.2.2.1), (5, I ((Wo.left (s.take k) + (([(s.getD k 0).toNat / 16, (s.getD k 0).toNat % 16].take x.1).map (15 - ·)).sum : Nat) : Int)), (14, I s.length), (15, I k), (28, .agg ([(s.getD k 0).toNat / 16, (s.getD k 0).toNat % 16].map fun x : Nat => I (x : Int)).toArray), (29, I x.1)]) (fun x => [F, x.2.2.2]) (fun x => x.1 ≤ 2 ∧ Row x.2.2.2 3 1 x.2.1 (2 * k + x.1) x.2.2.1 (qCg ((Wo.nibs (s.take k)) ++ [(s.getD k 0).toNat / 16, (s.getD k 0).toNat % 16].take x.1))) (fun x => 2 - x.1) (0, A4, c4, m) (⟨Nat.zero_le _, by rw [List.take_zero, List.append_nil]; exact hrow⟩) ⟨rfl, rfl, rfl, rfl, rfl, rfl, rfl, trivial⟩ (fun _ h => h) ?_
    clear hrow
    rintro ⟨j, A4, c4, m⟩ ⟨hj, hrow⟩ I2 hI2
    dsimp only at hj hrow ⊢
    refine J.g fun K13 hK13 => J.f (qAW rfl rfl rfl) rfl <| J.c hK13 <| J.d3 0 4 5 14 15 28 29 30 ?_
    refine J.k fun K14 hK14 => J.a5 rfl (fun h30 => ?_) (fun h30 => ?_)
    ·
      refine J.W hK14 <| J.c2 0 4 5 14 15 28 29 ?_
      refine J.k fun K15 hK15 => J.a1 <| J.k fun K16 hK16 => ?_
      have hj2 : j < 2 := by omega
      have hsj : (([(s.getD k 0).toNat / 16, (s.getD k 0).toNat % 16].take (j + 1)).map (15 - ·)).sum = (([(s.getD k 0).toNat / 16, (s.getD k 0).toNat % 16].take j).map (15 - ·)).sum + (15 - ([(s.getD k 0).toNat / 16, (s.getD k 0).toNat % 16].getD j 0)) := by match j, hj2 with | 0, _ => simp | 1, _ => simp
      have hdl : ([(s.getD k 0).toNat / 16, (s.getD k 0).toNat % 16].getD j 0) ≤ 15 := by match j, hj2 with | 0, _ => (show (s.getD k 0).toNat / 16 ≤ 15; omega) | 1, _ => (show (s.getD k 0).toNat % 16 ≤ 15; omega)
      have hsl : (([(s.getD k 0).toNat / 16, (s.getD k 0).toNat % 16].take j).map (15 - ·)).sum ≤ 15 * j := by match j, hj2 with | 0, _ => simp | 1, _ => simp
      refine J.G <| J.f (qGu (i := j) (v := I ((([(s.getD k 0).toNat / 16, (s.getD k 0).toNat % 16].getD j 0) : Nat) : Int)) rfl rfl rfl underlying287 z3_ b3_ (by omega) (by rw [Nat.mul_one]; match j, hj2 with | 0, _ => rfl | 1, _ => rfl)) rfl <| J.b rfl <| J.c hK16 <| J.d3 0 4 5 8 14 15 28 29 ?_
      refine J.g fun K17 hK17 => J.j 2 rfl <| J.p (qAJ (l := [.tmp 33]) (xs := [[I ((([(s.getD k 0).toNat / 16, (s.getD k 0).toNat % 16].getD j 0) : Nat) : Int)]]) rfl rfl rfl rfl qNU el3 rfl (by decide) (by decide) (by simp)) rfl fun g34 _ => ?_
      change J _ _ _ [F, m, blk g34 [I ((([(s.getD k 0).toNat / 16, (s.getD k 0).toNat % 16].getD j 0) : Nat) : Int)] 3] _
      refine J.p (qAd (i := 1) (m2 := blk g34 (([([(s.getD k 0).toNat / 16, (s.getD k 0).toNat % 16].getD j 0)] : List Nat).map fun x : Nat => I (x : Int)) 3) (ys := qCg [([(s.getD k 0).toNat / 16, (s.getD k 0).toNat % 16].getD j 0)]) rfl rfl rfl qNU qNU el3 rfl hrow (by simp) (slN [([(s.getD k 0).toNat / 16, (s.getD k 0).toNat % 16].getD j 0)] rfl) (qJm _) (by omega) (by omega)) rfl ?_
      rintro ⟨A35, c35, m35⟩ h35
      try dsimp only at h35
      change J _ ((35, .slice A35 (2 * k + j + 1) c35) :: _) _ [_, m35, _] _
      rw [← qHy] at h35
      refine J.b rfl <| J.c hK17 <| J.d3 0 4 5 8 14 15 28 29 ?_
      refine J.c9 [0, 1] [F, m35] rfl (by decide) <| J.G <| J.j 2 rfl <| J.f ((qAp (a := 15) rfl rfl rfl (by omega)).as (v' := I ((15 - ([(s.getD k 0).toNat / 16, (s.getD k 0).toNat % 16].getD j 0) : Nat) : Int)) (congrArg I (by omega))) rfl <| J.f ((qAR rfl rfl rfl (by omega)).as (v' := I ((Wo.left (s.take k) + (([(s.getD k 0).toNat / 16, (s.getD k 0).toNat % 16].take (j + 1)).map (15 - ·)).sum : Nat) : Int)) (congrArg I (by rw [hsj]; omega))) rfl <| J.b rfl <| J.a7 <| J.a9 <| J.A (J.L hK15 ?_)
      refine J.c2 0 4 5 14 15 28 29 ?_
      exact J.G <| J.f ((qAR rfl rfl rfl (by omega)).nat (j + 1) (by omega)) rfl <| J.b rfl <| J.a7 <| J.A <| J.b0 (j + 1, A35, c35, m35) (fun x (hx : _ ∧ 2 - x.1 < 2 - j) => hI2 x hx.1 hx.2) ⟨⟨by dsimp only; omega, by dsimp only; rw [show [(s.getD k 0).toNat / 16, (s.getD k 0).toNat % 16].take (j + 1) = [(s.getD k 0).toNat / 16, (s.getD k 0).toNat % 16].take j ++ [([(s.getD k 0).toNat / 16, (s.getD k 0).toNat % 16].getD j 0)] by match j, hj2 with | 0, _ => rfl | 1, _ => rfl, ← List.append_assoc]; exact h35⟩, by dsimp only; omega⟩ ⟨rfl, rfl, rfl, rfl, rfl, rfl, rfl, trivial⟩ (fun _ h => h)
    refine J.b7 <| J.a6 <| J.a6 <| J.b8 ?_
    refine J.a9 <| J.A (J.L hK10 ?_)
    refine J.a0 0 4 5 14 15 ?_
    refine J.G <| J.f ((qAR rfl rfl rfl (by omega)).nat (k + 1) (by omega)) rfl <| J.b rfl <| J.a7 <| J.A ?_
    have hj2 : j = 2 := by omega
    subst hj2
    have e1 := Wo.nibs_snoc s k (by omega)
    have e2 := Wo.left_snoc s k (by omega)
    have hb8 := (s.getD k 0).toNat_lt
    have e3 : (([(s.getD k 0).toNat / 16, (s.getD k 0).toNat % 16].take 2).map (15 - ·)).sum = (15 - (s.getD k 0).toNat / 16) + ((15 - (s.getD k 0).toNat % 16) + 0) := rfl
    exact J.b0 (k + 1, A4, c4, m) (fun x (hx : _ ∧ 16 - x.1 < 16 - k) => hI0 x hx.1 hx.2) ⟨⟨by dsimp only; omega, by dsimp only; rw [e1]; exact hrow⟩, by dsimp only; omega⟩ ⟨rfl, by rw [show 2 * (k + 1) = 2 * k + 2 by omega]; rfl, by rw [e2]; exact congrArg (fun n : Nat => some (I (n : Int))) (by rw [e3]; omega), rfl, rfl, trivial⟩ (fun _ h => h)
  refine J.b7 <| J.a6 <| J.a6 <| J.b8 ?_
  refine J.A (J.L hK6 ?_)
  refine J.E 4 5 ?_
  refine J.k fun K18 hK18 => J.k fun K19 hK19 => ?_
  have hk16 : k = 16 := by omega
  subst hk16
  rw [List.take_of_length_le (by omega)] at hrow
  refine J.G <| J.b rfl <| J.c hK19 <| J.H 4 5 9 ?_
  refine J.a1 <| J.c0 (X := Nat × Option Addr × Nat × Hp) (fun x => [(4, .slice x.2.1 (32 + x.1) x.2.2.1), (5, I ((Wo.left s : Nat) : Int)), (9, I (2 - (x.1 : Int)))]) (fun x => [F, x.2.2.2]) (fun x => x.1 ≤ 3 ∧ Row x.2.2.2 3 1 x.2.1 (32 + x.1) x.2.2.1 (qCg (Wo.nibs s ++ [Wo.left s / 256, Wo.left s / 16 % 16, Wo.left s % 16].take x.1))) (fun x => 3 - x.1) (0, A4, c4, m) (⟨Nat.zero_le _, by rw [List.take_zero, List.append_nil]; exact hrow⟩) ⟨rfl, by rw [List.take_of_length_le (by omega)]; rfl, rfl, trivial⟩ (fun _ h => h) ?_
  clear hrow hlk
  rintro ⟨t, A4, c4, m⟩ ⟨ht, hrow⟩ I4 hI4
  dsimp only at ht hrow ⊢
  refine J.k fun K20 hK20 => J.g fun K21 hK21 => J.b rfl <| J.f (qBN rfl rfl rfl) rfl <| J.c hK21 <| J.M 4 5 9 43 ?_
  refine J.a5 rfl (fun h43 => ?_) (fun h43 => ?_)
  ·
    refine J.W hK20 <| J.H 4 5 9 ?_
    refine J.k fun K22 hK22 => J.a1 ?_
    have ht2 : t < 3 := by omega
    refine J.G <| J.j 2 rfl <| J.f ((qAl rfl rfl).nat (2 - t) (by omega)) rfl <| J.f ((qB8 (a := 4) rfl rfl rfl (by omega)).nat (4 * (2 - t)) (by omega)) rfl <| J.f ((qCK (m := 4 * (2 - t)) rfl rfl rfl (by omega)).as (v' := I ((Wo.left s / 2 ^ (4 * (2 - t)) : Nat) : Int)) (congrArg I (by simp))) rfl <| J.f ((qJj 4 rfl rfl rfl (by decide) (by decide)).as (v' := I (([Wo.left s / 256, Wo.left s / 16 % 16, Wo.left s % 16].getD t 0 : Nat) : Int)) (congrArg I (by match t, ht2 with | 0, _ => (show ((Wo.left s / 2 ^ (4 * (2 - 0)) : Nat) : Int) % 2 ^ 4 = ((Wo.left s / 256 : Nat) : Int); omega) | 1, _ => (show ((Wo.left s / 2 ^ (4 * (2 - 1)) : Nat) : Int) % 2 ^ 4 = ((Wo.left s / 16 % 16 : Nat) : Int); omega) | 2, _ => (show ((Wo.left s / 2 ^ (4 * (2 - 2)) : Nat) : Int) % 2 ^ 4 = ((Wo.left s % 16 : Nat) : Int); omega)))) rfl <| J.p (qAJ (l := [.tmp 51]) (xs := [[I ((([Wo.left s / 256, Wo.left s / 16 % 16, Wo.left s % 16].getD t 0) : Nat) : Int)]]) rfl rfl rfl rfl qNU el3 rfl (by decide) (by decide) (by simp)) rfl fun g52 _ => ?_
    change J _ _ _ [F, m, blk g52 [I ((([Wo.left s / 256, Wo.left s / 16 % 16, Wo.left s % 16].getD t 0) : Nat) : Int)] 3] _
    refine J.p (qAd (i := 1) (m2 := blk g52 (([([Wo.left s / 256, Wo.left s / 16 % 16, Wo.left s % 16].getD t 0)] : List Nat).map fun x : Nat => I (x : Int)) 3) (ys := qCg [([Wo.left s / 256, Wo.left s / 16 % 16, Wo.left s % 16].getD t 0)]) rfl rfl rfl qNU qNU el3 rfl hrow (by simp) (slN [([Wo.left s / 256, Wo.left s / 16 % 16, Wo.left s % 16].getD t 0)] rfl) (qJm _) (by omega) (by omega)) rfl ?_
    rintro ⟨A53, c53, m53⟩ h53
    try dsimp only at h53
    change J _ ((53, .slice A53 (32 + t + 1) c53) :: _) _ [_, m53, _] _
    rw [← qHy] at h53
    refine J.b rfl <| J.a7 <| J.a9 <| J.A (J.L hK22 ?_)
    refine J.H 4 5 9 ?_
    exact J.c9 [0, 1] [F, m53] rfl (by decide) <| J.G <| J.b rfl <| J.f ((qAp rfl rfl rfl (by omega)).as (v' := I (2 - ((t + 1 : Nat) : Int))) (congrArg I (by omega))) rfl <| J.b rfl <| J.a7 <| J.A <| J.b0 (t + 1, A53, c53, m53) (fun x (hx : _ ∧ 3 - x.1 < 3 - t) => hI4 x hx.1 hx.2) ⟨⟨by dsimp only; omega, by dsimp only; rw [show [Wo.left s / 256, Wo.left s / 16 % 16, Wo.left s % 16].take (t + 1) = [Wo.left s / 256, Wo.left s / 16 % 16, Wo.left s % 16].take t ++ [[Wo.left s / 256, Wo.left s / 16 % 16, Wo.left s % 16].getD t 0] by match t, ht2 with | 0, _ => rfl | 1, _ => rfl | 2, _ => rfl, ← List.append_assoc]; exact h53⟩, by dsimp only; omega⟩ ⟨rfl, rfl, rfl, trivial⟩ (fun _ h => h)
  refine J.b7 <| J.a6 <| J.a6 <| J.b8 ?_
  refine J.A (J.L hK18 ?_)
  refine J.u 4 ?_
  refine J.k fun K23 hK23 => ?_
  have ht3 : t = 3 := by omega
  subst ht3
  refine J.G <| J.j 3 rfl <| J.c hK23 <| J.E 2 3 ?_
  exact J.D <| J.b4 hw0 (fun _ _ h => h) (qCq rfl rfl rfl) (qAj (A4, c4, m) rfl (by unfold Wo.digs; exact hrow) [0, 1] rfl (by decide))
theorem qP9 (F : Hp) (hK : KF F) (seed : List UInt8) (leaf : Nat) (d : List UInt8) (hs : seed.length ≤ 1048576) (h1 : leaf < 4611686018427387904) (hd : d.length = 16) :
    Ct prog 90 [Str seed, I leaf, Str d] [F] (fun x : Option Addr × Nat × Hp => .tuple #[.slice x.1 35 x.2.1, I 0]) (fun x => Row x.2.2 9 1 x.1 35 x.2.1 (qAI (Wo.signs seed leaf (Wo.digs d) 35))) (fun x => [F, x.2.2]) := by
  have hdl : (Wo.digs d).length = 35 := by rw [Wo.digs_length, hd]
  have hd15 := Wo.digs_le d (by omega)
  refine Ct.walk func90 rfl ntmps90 rfl (fun w0 hw0 => ?_)
  change J _ [(0, _), (1, _), (2, _)] _ _ _
  refine J.g fun K1 hK1 => J.j 2 rfl <| J.c hK1 <| J.H 0 1 2 ?_
  refine J.g fun K2 hK2 => J.b rfl <| J.p (qAB rfl rfl ent143 (Ct.use (fun F' hF => qFf F' d hd))) rfl ?_
  rintro ⟨A16, c16, m16⟩ h16
  try dsimp only at h16
  change J _ ((16, .tuple #[.slice A16 35 c16, I 0]) :: _) _ [F, m16] _
  refine J.b rfl <| J.f (qA2 rfl rfl rfl) rfl <| J.f (qA2 rfl rfl rfl) rfl <| J.j 2 rfl <| J.c hK2 <| J.M 0 1 8 9 ?_
  refine J.k fun K3 hK3 => J.g fun K4 hK4 => J.b rfl <| J.f ((qAY rfl rfl rfl).no (by decide)) rfl <| J.c hK4 <| J.a0 0 1 8 9 20 ?_
  refine J.a8 ?_
  refine J.W hK3 <| J.H 0 1 8 ?_
  refine J.g fun K5 hK5 => J.b rfl <| J.p (qAB rfl rfl ent70 (Ct.use0 (fun F' hF => qGc F' (hK.mono (hF _ (by simp))) seed hs))) rfl fun g23 _ => J.b rfl <| J.c hK5 <| J.M 0 1 8 10 ?_
  refine J.k fun K6 hK6 => J.d9 [0, 1, 2] [F, m16, (fun _ => none)] rfl (by decide) <| J.G <| J.b rfl <| J.c hK6 <| J.a0 0 1 8 10 11 ?_
  refine J.k fun K7 hK7 => J.g fun K8 hK8 => J.b rfl <| J.f (qAa qNU rfl rfl) rfl <| J.b rfl <| J.c hK8 <| J.c2 0 1 10 11 24 25 26 ?_
  refine J.a1 <| J.c0 (X := Nat × Option Addr × Nat × Hp) (fun x => [(0, Str seed), (1, I leaf), (10, Str (Wo.opn seed)), (11, .slice x.2.1 x.1 x.2.2.1), (24, .slice A16 35 c16), (25, I ((35 : Nat) : Int)), (26, I x.1)]) (fun x => [F, m16, x.2.2.2]) (fun x => x.1 ≤ 35 ∧ Row x.2.2.2 9 1 x.2.1 x.1 x.2.2.1 (qAI (Wo.signs seed leaf (Wo.digs d) x.1))) (fun x => 35 - x.1) (0, none, 0, fun _ => none) (⟨Nat.zero_le _, by rw [Wo.signs0]; exact qBa.nil⟩) ⟨rfl, rfl, rfl, rfl, rfl, rfl, rfl, trivial⟩ (fun _ h => h) ?_
  rintro ⟨k, A6, c6, m⟩ ⟨hk, hrow⟩ I0 hI0
  dsimp only at hk hrow ⊢
  have hdk := hd15 k
  refine J.g fun K9 hK9 => J.f (qAW rfl rfl rfl) rfl <| J.c hK9 <| J.d3 0 1 10 11 24 25 26 27 ?_
  refine J.k fun K10 hK10 => J.a5 rfl (fun h27 => ?_) (fun h27 => ?_)
  ·
    refine J.W hK10 <| J.c2 0 1 10 11 24 25 26 ?_
    refine J.k fun K11 hK11 => J.a1 <| J.g fun K12 hK12 => J.b rfl <| J.f (qAH (i := k) rfl rfl rfl qNU z3_ h16.sl (by omega)) rfl <| J.f (qAN rfl rfl b3_ (m := m16) (by simp) (h16.sl.elem (qHx (k := k) (by omega)))) rfl <| J.j 2 rfl <| J.c hK12 <| J.d8 0 1 10 11 12 13 24 25 26 ?_
    refine J.G <| J.j 8 rfl <| J.p (qAB rfl rfl ent126 (Ct.use0 (fun F' hF => qFx F' (hK.mono (hF _ (by simp))) seed leaf k hs h1 (by omega)))) rfl fun g39 _ => J.p (qAB rfl rfl ent125 (Ct.use0 (fun F' hF => qIh F' (hK.mono (hF _ (by simp))) (Wo.opn seed) leaf k (by rw [Wo.opn_length]; decide) h1 (by omega) (Wo.secret seed leaf k) (by rw [Wo.secret_length]; decide) 0 ((Wo.digs d).getD k 0) 0 ((Wo.digs d).getD k 0) (by omega) (by omega) (by omega)))) rfl fun g40 _ => J.p (qAJ (l := [.tmp 40]) (xs := [[Str ((Wo.walk (Wo.opn seed) leaf k 0 (Wo.secret seed leaf k) ((Wo.digs d).getD k 0)))]]) rfl rfl rfl rfl qAh el9 rfl (by decide) (by decide) (by simp)) rfl fun g41 _ => ?_
    change J _ _ _ [F, m16, m, blk g41 [Str ((Wo.walk (Wo.opn seed) leaf k 0 (Wo.secret seed leaf k) ((Wo.digs d).getD k 0)))] 9] _
    refine J.p (qAd (i := 2) (m2 := blk g41 [Str (Wo.walk (Wo.opn seed) leaf k 0 (Wo.secret seed leaf k) ((Wo.digs d).getD k 0))] 9) (ys := qAI [(Wo.walk (Wo.opn seed) leaf k 0 (Wo.secret seed leaf k) ((Wo.digs d).getD k 0))]) rfl rfl rfl qAh qAh el9 rfl hrow (by simp) (qAv (q := True) (xs := qAI [(Wo.walk (Wo.opn seed) leaf k 0 (Wo.secret seed leaf k) ((Wo.digs d).getD k 0))]) rfl (by simp [qAI])).sl (qCf _) (by omega) (by omega)) rfl ?_
    rintro ⟨A42, c42, m42⟩ h42
    try dsimp only at h42
    change J _ ((42, .slice A42 (k + 1) c42) :: _) _ [_, _, m42, blk g41 [Str (Wo.walk (Wo.opn seed) leaf k 0 (Wo.secret seed leaf k) ((Wo.digs d).getD k 0))] 9] _
    rw [← qBv, ← Wo.signs_succ] at h42
    refine J.c9 [0, 1, 2] [F, m16, m42] rfl (by decide) <| J.b rfl <| J.a7 <| J.a9 <| J.A (J.L hK11 ?_)
    refine J.c2 0 1 10 11 24 25 26 ?_
    exact J.G <| J.f ((qAR rfl rfl rfl (by omega)).nat (k + 1) (by omega)) rfl <| J.b rfl <| J.a7 <| J.A <| J.b0 (k + 1, A42, c42, m42) (fun x (hx : _ ∧ 35 - x.1 < 35 - k) => hI0 x hx.1 hx.2) ⟨⟨by dsimp only; omega, h42⟩, by dsimp only; omega⟩ ⟨rfl, rfl, rfl, rfl, rfl, rfl, rfl, trivial⟩ (fun _ h => h)
  refine J.b7 <| J.a6 <| J.a6 <| J.b8 ?_
  refine J.A (J.L hK7 ?_)
  refine J.u 11 ?_
  refine J.k fun K13 hK13 => ?_
  have hk35 : k = 35 := by omega
  subst hk35
  refine J.G <| J.j 3 rfl <| J.c hK13 <| J.E 6 7 ?_
  exact J.D <| J.b4 hw0 (fun _ _ h => h) (qCq rfl rfl rfl) (qAj (A6, c6, m) rfl hrow [0, 2] rfl (by decide))
theorem qLS (F : Hp) (A : Option Addr) (n c : Nat) (ls : List (List UInt8)) (hl : Sl F 1 A n c (qAI ls)) (h16 : ∀ s ∈ ls, s.length = 16) (hn : n = 35) :
    Ct prog 169 [.slice A n c] [F] (fun _ : Unit => .bool true) (fun _ => True) (fun _ => [F]) := by
  have hlen : ls.length = n := by have := hl.1; simpa [qAI] using this
  refine Ct.walk func169 rfl ntmps169 rfl (fun w0 hw0 => ?_)
  change J _ [(0, _)] _ _ _
  refine J.g fun K1 hK1 => J.b rfl <| J.c hK1 <| J.u 0 ?_
  refine J.k fun K2 hK2 => J.g fun K3 hK3 => J.b rfl <| J.f (qAa qAh rfl rfl) rfl <| J.b rfl <| J.c hK3 <| J.M 0 5 6 7 ?_
  refine J.a1 <| J.c0 (fun k : Nat => [(0, .slice A n c), (5, .slice A n c), (6, I n), (7, I k)]) (fun _ => [F]) (fun k => k ≤ n) (fun k => n - k) 0 (Nat.zero_le _) ⟨rfl, rfl, rfl, rfl, trivial⟩ (fun _ h => h) ?_
  intro k hk I0 hI0
  refine J.g fun K4 hK4 => J.f (qAW rfl rfl rfl) rfl <| J.c hK4 <| J.a0 0 5 6 7 8 ?_
  refine J.k fun K5 hK5 => J.a5 rfl (fun h8 => ?_) (fun h8 => ?_)
  ·
    refine J.W hK5 <| J.M 0 5 6 7 ?_
    refine J.k fun K6 hK6 => J.a1 <| J.g fun K7 hK7 => J.f (qAH (i := k) rfl rfl rfl qAh z9_ hl (by omega)) rfl <| J.f (qAN rfl rfl b9_ (m := F) (by simp) (hl.elem (qAZ (qAg [] (show k < ls.length by omega))))) rfl <| J.b rfl <| J.c hK7 <| J.a0 0 4 5 6 7 ?_
    refine J.g fun K8 hK8 => J.b rfl <| J.f (qAk u9_ rfl rfl) rfl <| J.f ((qAY rfl rfl rfl).no (by have := h16 _ (List.mem_of_getElem? (qAg [] (show k < ls.length by omega))); omega)) rfl <| J.c hK8 <| J.a0 0 5 6 7 13 ?_
    refine J.a8 ?_
    refine J.c7 <| J.a9 <| J.A (J.L hK6 ?_)
    refine J.M 0 5 6 7 ?_
    exact J.G <| J.f ((qAR rfl rfl rfl (by omega)).nat (k + 1) (by omega)) rfl <| J.b rfl <| J.a7 <| J.A <| J.b0 (k + 1) (fun x (hx : x ≤ n ∧ n - x < n - k) => hI0 x hx.1 hx.2) ⟨by omega, by omega⟩ ⟨rfl, rfl, rfl, rfl, trivial⟩ (fun _ h => h)
  refine J.b7 <| J.a6 <| J.a6 <| J.b8 ?_
  refine J.A (J.L hK2 ?_)
  refine J.u 0 ?_
  refine J.g fun K9 hK9 => J.b rfl <| J.f (qAa qAh rfl rfl) rfl <| J.f ((qAV rfl rfl rfl).yes (by omega)) rfl <| J.b rfl <| J.c hK9 <| J.u 2 ?_
  exact J.D <| J.V hw0 rfl () rfl trivial [0] rfl (by decide)
theorem qKf (F : Hp) (hK : KF F) (o : List UInt8) (leaf : Nat) (d : List UInt8) (A : Option Addr) (c : Nat) (sig : List (List UInt8)) (hl : Sl F 1 A 35 c (qAI sig)) (ho : o.length ≤ 1048576) (h1 : leaf < 4611686018427387904) (hd : d.length = 16) (hsg : ∀ s ∈ sig, s.length = 16) :
    Ct prog 123 [Str o, I leaf, Str d, .slice A 35 c] [F] (fun _ : Unit => .tuple #[Str (Wo.publicOf o leaf (Wo.ends o leaf (Wo.digs d) sig 35)), I 0]) (fun _ => True) (fun _ => [F]) := by
  have hdl : (Wo.digs d).length = 35 := by rw [Wo.digs_length, hd]
  have hd15 := Wo.digs_le d (by omega)
  have hlen : sig.length = 35 := by have := hl.1; simpa [qAI] using this
  refine Ct.walk func123 rfl ntmps123 rfl (fun w0 hw0 => ?_)
  change J _ [(0, _), (1, _), (2, _), (3, _)] _ _ _
  refine J.g fun K1 hK1 => J.j 2 rfl <| J.c hK1 <| J.M 0 1 2 3 ?_
  refine J.g fun K2 hK2 => J.b rfl <| J.p (qAB rfl rfl ent143 (Ct.use (fun F' hF => qFf F' d hd))) rfl ?_
  rintro ⟨A17, c17, m17⟩ h17
  try dsimp only at h17
  change J _ ((17, .tuple #[.slice A17 35 c17, I 0]) :: _) _ [F, m17] _
  refine J.b rfl <| J.f (qA2 rfl rfl rfl) rfl <| J.f (qA2 rfl rfl rfl) rfl <| J.j 2 rfl <| J.c hK2 <| J.a0 0 1 3 10 11 ?_
  refine J.k fun K3 hK3 => J.a1 <| J.g fun K4 hK4 => J.b rfl <| J.f ((qAY rfl rfl rfl).no (by decide)) rfl <| J.b rfl <| J.c hK4 <| J.b3 0 1 3 10 11 20 ?_
  refine J.a8 ?_
  refine J.g fun K5 hK5 => J.b rfl <| J.p (qAB rfl rfl ent169 (Ct.use0 (fun F' hF => qLS F' A 35 c sig (hl.mono (hF _ (by simp))) hsg rfl))) rfl fun g26 _ => J.f ((qA1 rfl rfl).as (v' := .bool false) rfl) rfl <| J.b rfl <| J.c hK5 <| J.a0 0 1 3 10 24 ?_
  refine J.a8 ?_
  refine J.c7 <| J.a9 <| J.A (J.L hK3 ?_)
  refine J.M 0 1 3 10 ?_
  refine J.k fun K6 hK6 => J.d9 [0, 1, 2] [F, m17, (fun _ => none)] rfl (by decide) <| J.G <| J.b rfl <| J.c hK6 <| J.a0 0 1 3 10 12 ?_
  refine J.k fun K7 hK7 => J.g fun K8 hK8 => J.b rfl <| J.f (qAa qNU rfl rfl) rfl <| J.b rfl <| J.c hK8 <| J.c2 0 1 3 12 28 29 30 ?_
  refine J.a1 <| J.c0 (X := Nat × Option Addr × Nat × Hp) (fun x => [(0, Str o), (1, I leaf), (3, .slice A 35 c), (12, .slice x.2.1 x.1 x.2.2.1), (28, .slice A17 35 c17), (29, I ((35 : Nat) : Int)), (30, I x.1)]) (fun x => [F, m17, x.2.2.2]) (fun x => x.1 ≤ 35 ∧ Row x.2.2.2 9 1 x.2.1 x.1 x.2.2.1 (qAI (Wo.ends o leaf (Wo.digs d) sig x.1))) (fun x => 35 - x.1) (0, none, 0, fun _ => none) (⟨Nat.zero_le _, by rw [Wo.ends0]; exact qBa.nil⟩) ⟨rfl, rfl, rfl, rfl, rfl, rfl, rfl, trivial⟩ (fun _ h => h) ?_
  rintro ⟨k, A6, c6, m⟩ ⟨hk, hrow⟩ I0 hI0
  dsimp only at hk hrow ⊢
  have hdk := hd15 k
  refine J.g fun K9 hK9 => J.f (qAW rfl rfl rfl) rfl <| J.c hK9 <| J.d3 0 1 3 12 28 29 30 31 ?_
  refine J.k fun K10 hK10 => J.a5 rfl (fun h31 => ?_) (fun h31 => ?_)
  ·
    refine J.W hK10 <| J.c2 0 1 3 12 28 29 30 ?_
    refine J.k fun K11 hK11 => J.a1 <| J.g fun K12 hK12 => J.b rfl <| J.f (qAH (i := k) rfl rfl rfl qNU z3_ h17.sl (by omega)) rfl <| J.f (qAN rfl rfl b3_ (m := m17) (by simp) (h17.sl.elem (qHx (k := k) (by omega)))) rfl <| J.j 2 rfl <| J.c hK12 <| J.d8 0 1 3 12 13 14 28 29 30 ?_
    refine J.G <| J.j 7 rfl <| J.f (qAH (i := k) rfl rfl rfl qAh z9_ hl (by omega)) rfl <| J.f (qAN rfl rfl b9_ (m := F) (by simp) (hl.elem (qAZ (qAg [] (show k < sig.length by omega))))) rfl <| J.p (qAB rfl rfl ent125 (Ct.use0 (fun F' hF => qIh F' (hK.mono (hF _ (by simp))) o leaf k ho h1 (by omega) (sig.getD k []) (by have := hsg _ (List.mem_of_getElem? (qAg [] (show k < sig.length by omega))); omega) ((((Wo.digs d).getD k 0) : Nat) : Int) 15 ((Wo.digs d).getD k 0) (15 - ((Wo.digs d).getD k 0)) (by omega) (by omega) (by omega)))) rfl fun g44 _ => J.p (qAJ (l := [.tmp 44]) (xs := [[Str ((Wo.walk o leaf k ((Wo.digs d).getD k 0) (sig.getD k []) (15 - ((Wo.digs d).getD k 0))))]]) rfl rfl rfl rfl qAh el9 rfl (by decide) (by decide) (by simp)) rfl fun g45 _ => ?_
    change J _ _ _ [F, m17, m, blk g45 [Str ((Wo.walk o leaf k ((Wo.digs d).getD k 0) (sig.getD k []) (15 - ((Wo.digs d).getD k 0))))] 9] _
    refine J.p (qAd (i := 2) (m2 := blk g45 [Str (Wo.walk o leaf k ((Wo.digs d).getD k 0) (sig.getD k []) (15 - ((Wo.digs d).getD k 0)))] 9) (ys := qAI [(Wo.walk o leaf k ((Wo.digs d).getD k 0) (sig.getD k []) (15 - ((Wo.digs d).getD k 0)))]) rfl rfl rfl qAh qAh el9 rfl hrow (by simp) (qAv (q := True) (xs := qAI [(Wo.walk o leaf k ((Wo.digs d).getD k 0) (sig.getD k []) (15 - ((Wo.digs d).getD k 0)))]) rfl (by simp [qAI])).sl (qCf _) (by omega) (by omega)) rfl ?_
    rintro ⟨A46, c46, m46⟩ h46
    try dsimp only at h46
    change J _ ((46, .slice A46 (k + 1) c46) :: _) _ [_, _, m46, blk g45 [Str (Wo.walk o leaf k ((Wo.digs d).getD k 0) (sig.getD k []) (15 - ((Wo.digs d).getD k 0)))] 9] _
    rw [← qBv, ← Wo.ends_succ] at h46
    refine J.c9 [0, 1, 2] [F, m17, m46] rfl (by decide) <| J.b rfl <| J.a7 <| J.a9 <| J.A (J.L hK11 ?_)
    refine J.c2 0 1 3 12 28 29 30 ?_
    exact J.G <| J.f ((qAR rfl rfl rfl (by omega)).nat (k + 1) (by omega)) rfl <| J.b rfl <| J.a7 <| J.A <| J.b0 (k + 1, A46, c46, m46) (fun x (hx : _ ∧ 35 - x.1 < 35 - k) => hI0 x hx.1 hx.2) ⟨⟨by dsimp only; omega, h46⟩, by dsimp only; omega⟩ ⟨rfl, rfl, rfl, rfl, rfl, rfl, rfl, trivial⟩ (fun _ h => h)
  refine J.b7 <| J.a6 <| J.a6 <| J.b8 ?_
  refine J.A (J.L hK7 ?_)
  refine J.H 0 1 12 ?_
  refine J.k fun K13 hK13 => ?_
  have hk35 : k = 35 := by omega
  subst hk35
  refine J.G <| J.j 3 rfl <| J.p (qAB rfl rfl ent127 (Ct.use0 (fun F' hF => qFy F' (hK.mono (hF _ (by simp))) o leaf ho h1 A6 35 c6 (Wo.ends o leaf (Wo.digs d) sig 35) (hrow.sl.mono (hF _ (by simp))) (Wo.ends_small o leaf (Wo.digs d) sig 35 (fun s hs => Nat.le_of_eq (hsg s hs))) (by decide)))) rfl fun g51 _ => J.j 2 rfl <| J.c hK13 <| J.E 8 9 ?_
  exact J.D <| J.b4 hw0 (fun _ _ h => h) (qCq rfl rfl rfl) (qAj () rfl trivial [0] rfl (by decide))
end Go.Proofs.YtfldiegfenndjaaGreatDoor
namespace Go.Proofs.YtfldiegfenndjaaGreatDoor
open Go Go.Fw Go.Proofs.Tryz
set_option maxRecDepth 100000
set_option maxHeartbeats 1000000
theorem ent68 : qAE prog 68 := qAE.of func68 rfl (by kernel_rfl)
theorem ent89 : qAE prog 89 := qAE.of func89 rfl (by kernel_rfl)
theorem ent90 : qAE prog 90 := qAE.of func90 rfl (by kernel_rfl)
theorem ent91 : qAE prog 91 := qAE.of func91 rfl (by kernel_rfl)
theorem ent123 : qAE prog 123 := qAE.of func123 rfl (by kernel_rfl)
namespace Xm
def leaves (seed : List UInt8) (k : Nat) : List (List UInt8) := (List.range k).map fun i => Wo.pub seed i
def root (seed : List UInt8) (h : Nat) : List UInt8 := Mk.root (leaves seed (2 ^ h)) h
def four (n : Nat) : List UInt8 := [UInt8.ofNat (n / 2 ^ 24), UInt8.ofNat (n / 2 ^ 16), UInt8.ofNat (n / 2 ^ 8), UInt8.ofNat n]
def digest (o : List UInt8) (i : Nat) (m : List UInt8) : List UInt8 := Sha.tagged 6 [o, four i, m]
theorem leaves_succ (seed : List UInt8) (k : Nat) : leaves seed (k + 1) = leaves seed k ++ [Wo.pub seed k] := by simp [leaves, List.range_succ]
theorem leaves_length (seed : List UInt8) (k : Nat) : (leaves seed k).length = k := by simp [leaves]
theorem leaves_get (seed : List UInt8) (k i : Nat) (h : i < k) : (leaves seed k).getD i [] = Wo.pub seed i := by
 unfold leaves
 rw [List.getD_eq_getElem?_getD, List.getElem?_map, List.getElem?_range h]; rfl
theorem pub_length (seed : List UInt8) (i : Nat) : (Wo.pub seed i).length = 16 := Sha.tagged_length _ _
theorem leaves_small (seed : List UInt8) (k : Nat) : ∀ s ∈ leaves seed k, s.length ≤ 1048576 := fun s hs => by
 simp only [leaves, List.mem_map] at hs
 obtain ⟨i, _, rfl⟩ := hs
 rw [pub_length]; decide
theorem digest_length (o : List UInt8) (i : Nat) (m : List UInt8) : (digest o i m).length = 16 := Sha.tagged_length _ _
theorem four_length (n : Nat) : (four n).length = 4 := rfl
theorem pow_le (h : Nat) (h6 : h ≤ 6) : 2 ^ h ≤ 64 := Nat.le_trans (Nat.pow_le_pow_right (by decide) h6) (by decide)
end Xm
attribute [local irreducible] Sha.tagged Wo.pub Wo.publicOf Wo.signs Wo.ends Wo.digs Wo.walk Wo.opn Mk.root Mk.path Mk.climb
theorem Xm.leaves0 (seed : List UInt8) : Xm.leaves seed 0 = [] := rfl
theorem Wo.recPub (seed : List UInt8) (leaf : Nat) (d : List UInt8) (hd : d.length ≤ 16) : Wo.publicOf (Wo.opn seed) leaf (Wo.ends (Wo.opn seed) leaf (Wo.digs d) (Wo.signs seed leaf (Wo.digs d) 35) 35) = Wo.pub seed leaf := by
 rw [Wo.recovers seed leaf (Wo.digs d) (Wo.digs_le d hd) 35]; unfold Wo.pub; rfl
def qAw (seed o r : List UInt8) (h : Int) (A : Option Addr) (n c : Nat) : List Value := [Str seed, Str o, Str r, I h, .slice A n c]
def qRU (mm : Hp) (g : Nat) (seed : List UInt8) (h : Nat) : Prop := ∃ A c mr, mm = U [blk g (qAw seed (Wo.opn seed) (Xm.root seed h) h A (2 ^ h) c) 171, mr] ∧ Dj (blk g (qAw seed (Wo.opn seed) (Xm.root seed h) h A (2 ^ h) c) 171) mr ∧ Row mr 9 1 A (2 ^ h) c (qAI (Xm.leaves seed (2 ^ h)))
theorem qRU.see {mm : Hp} {g : Nat} {seed : List UInt8} {h : Nat} (hk : qRU mm g seed h) : ∃ A c, qAQ mm ⟨g, 0, none⟩ (qAw seed (Wo.opn seed) (Xm.root seed h) h A (2 ^ h) c) ∧ Sl mm 1 A (2 ^ h) c (qAI (Xm.leaves seed (2 ^ h))) := by
 obtain ⟨A, c, mr, rfl, hd, hr⟩ := hk
 exact ⟨A, c, qAQ.blk0.mono (qPY _ _), hr.sl.mono (qMl hd)⟩
theorem qPs (F : Hp) (hK : KF F) (seed : List UInt8) (h : Nat) (hs : seed.length ≤ 1048576) (h6 : h ≤ 6) :
    Ct prog 33 [Str seed, I h] [F] (fun x : Nat × Hp => .tuple #[Ptr x.1, I 0]) (fun x => qRU x.2 x.1 seed h) (fun x => [x.2, F]) := by
  have hp64 := Xm.pow_le h h6
  have hp0 := Nat.two_pow_pos h
  refine Ct.walk func33 rfl ntmps33 rfl (fun w0 hw0 => ?_)
  change J _ [(0, _), (1, _)] _ _ _
  refine J.g fun K1 hK1 => J.j 2 rfl <| J.c hK1 <| J.E 0 1 ?_
  refine J.k fun K2 hK2 => J.g fun K3 hK3 => J.b rfl <| J.f ((qAW rfl rfl rfl).no (by omega)) rfl <| J.j 2 rfl <| J.T ((qAx rfl rfl rfl).no (by omega)) rfl <| J.b rfl <| J.c hK3 <| J.H 0 1 15 ?_
  refine J.a8 ?_
  refine J.W hK2 <| J.E 0 1 ?_
  refine J.g fun K4 hK4 => J.b rfl <| J.f (qAM (l := [(0, .tmp 16)]) (places := [(0, 1), (1, 3), (4, 1)]) (r := qAw seed [] [] 0 none 0 0) rfl rfl rfl qFr zeroValue171 (fun _ => by kernel_rfl) rfl) rfl <| J.p (qAf rfl rfl (l := qAw seed [] [] 0 none 0 0) rfl) rfl fun g18 _ => ?_
  change J _ _ _ [F, blk g18 (qAw seed [] [] 0 none 0 0) 171] _
  refine J.b rfl <| J.c hK4 <| J.H 0 1 6 ?_
  refine J.k fun K5 hK5 => J.k fun K6 hK6 => J.d9 [0, 1, 2] [F, blk g18 (qAw seed [] [] 0 none 0 0) 171, (fun _ => none)] rfl (by decide) <| J.G <| J.b rfl <| J.f ((qGr (a := 1) (m := h) rfl rfl rfl ⟨by omega, by have := Int.pow_pos (n := 2) (m := h) (by decide); omega, by rw [Int.one_mul]; exact Int.ofNat_le.2 (show 2 ^ h ≤ 9223372036854775807 by omega)⟩).as (v' := I ((2 ^ h : Nat) : Int)) (congrArg I (by simp))) rfl <| J.b rfl <| J.c hK6 <| J.a0 0 1 6 20 21 ?_
  refine J.a1 <| J.c0 (X := Nat × Option Addr × Nat × Hp) (fun x => [(0, Str seed), (1, I h), (6, Ptr g18), (20, I ((2 ^ h : Nat) : Int)), (21, I x.1)]) (fun x => [F, blk g18 (qAw seed [] [] 0 x.2.1 x.1 x.2.2.1) 171, x.2.2.2]) (fun x => x.1 ≤ 2 ^ h ∧ Row x.2.2.2 9 1 x.2.1 x.1 x.2.2.1 (qAI (Xm.leaves seed x.1))) (fun x => 2 ^ h - x.1) (0, none, 0, fun _ => none) (⟨Nat.zero_le _, by rw [Xm.leaves0]; exact qBa.nil⟩) ⟨rfl, rfl, rfl, rfl, rfl, trivial⟩ (fun _ h => h) ?_
  rintro ⟨k, A6, c6, m⟩ ⟨hk, hrow⟩ I0 hI0
  dsimp only at hk hrow ⊢
  refine J.g fun K7 hK7 => J.f (qAW rfl rfl rfl) rfl <| J.c hK7 <| J.b3 0 1 6 20 21 22 ?_
  refine J.k fun K8 hK8 => J.a5 rfl (fun h22 => ?_) (fun h22 => ?_)
  ·
    refine J.W hK8 <| J.a0 0 1 6 20 21 ?_
    refine J.k fun K9 hK9 => J.a1 <| J.g fun K10 hK10 => J.j 2 rfl <| J.c hK10 <| J.b3 0 1 6 7 20 21 ?_
    refine J.c1 [blk g18 (qAw seed [] [] 0 A6 k c6) 171] [12] (.y 0 (.y 1 (.y 2 (.y 3 (.y 4 (.y 5 (.y 6 (.e 7 (.e 8 (.e 9 (.y 10 (.y 11 (.e 12 .nil))))))))))))) Tryz.wide (by decide +kernel) (by simp) ?_
    refine J.O ?_
    refine J.O ?_
    refine J.q rfl (qAD rfl rfl) rfl rfl <| J.q rfl (qAA (j := 4) rfl rfl qFr rfl qB0 rfl) rfl rfl <| J.q rfl (qAC 0 rfl rfl rfl qCQ rfl) rfl rfl <| J.O ?_
    refine J.O ?_
    refine J.b2 rfl (qAB rfl rfl ent68 (Ct.use0 (fun F' hF => qPt F' (hK.mono (hF _ (by simp))) seed k hs (by omega)))) rfl (by simp) fun g31 _ => J.b2 rfl (qAJ (l := [.tmp 31]) (xs := [[Str (Wo.pub seed k)]]) rfl rfl rfl rfl qAh el9 rfl (by decide) (by decide) (by simp)) rfl (by simp) fun g32 _ => ?_
    change J _ _ _ [F, blk g18 (qAw seed [] [] 0 A6 k c6) 171, m, blk g32 [Str (Wo.pub seed k)] 9] _
    refine J.b2 rfl (qAd (i := 2) (m2 := blk g32 [Str (Wo.pub seed k)] 9) (ys := qAI [(Wo.pub seed k)]) rfl rfl rfl qAh qAh el9 rfl hrow (by simp) (qAv (q := True) (xs := qAI [(Wo.pub seed k)]) rfl (by simp [qAI])).sl (qCf _) (by omega) (by omega)) rfl (by simp) ?_
    rintro ⟨A33, c33, m33⟩ h33
    try dsimp only at h33
    change J _ ((33, .slice A33 (k + 1) c33) :: _) _ [_, _, m33, _] _
    rw [← qBv, ← Xm.leaves_succ] at h33
    refine J.q rfl (qAD rfl rfl) rfl rfl <| J.q rfl (qAA (j := 4) rfl rfl qFr rfl qB0 rfl) rfl rfl <| J.d7 rfl (qAT (i := 1) (vs := [.slice A33 (k + 1) c33]) rfl rfl rfl rfl rfl qB0 rfl (by simp [qAw])) rfl rfl rfl fun _ _ => ?_
    change J _ _ _ [_, blk g18 (qAw seed [] [] 0 A33 (k + 1) c33) 171, _, _] _
    refine J.b5 <| J.a9 <| J.A (J.L hK9 ?_)
    refine J.a0 0 1 6 20 21 ?_
    exact J.c9 [0, 1, 2] [F, blk g18 (qAw seed [] [] 0 A33 (k + 1) c33) 171, m33] rfl (by decide) <| J.G <| J.f ((qAR rfl rfl rfl (by omega)).nat (k + 1) (by omega)) rfl <| J.b rfl <| J.a7 <| J.A <| J.b0 (k + 1, A33, c33, m33) (fun x (hx : _ ∧ 2 ^ h - x.1 < 2 ^ h - k) => hI0 x hx.1 hx.2) ⟨⟨by dsimp only; omega, h33⟩, by dsimp only; omega⟩ ⟨rfl, rfl, rfl, rfl, rfl, trivial⟩ (fun _ h => h)
  refine J.b7 <| J.a6 <| J.a6 <| J.b8 ?_
  refine J.A (J.L hK5 ?_)
  refine J.H 0 1 6 ?_
  refine J.k fun K11 hK11 => ?_
  have hkn : k = 2 ^ h := by omega
  subst hkn
  refine J.G <| J.b rfl <| J.f (qAD rfl rfl) rfl <| J.a2 4 qFr qB0 rfl rfl rfl rfl rfl <| J.d1 1 qCQ rfl rfl rfl rfl rfl <| J.p (qAB rfl rfl ent69 (Ct.use0 (fun F' hF => qQM F' (hK.mono (hF _ (by simp))) A6 (2 ^ h) c6 (Xm.leaves seed (2 ^ h)) (hrow.sl.mono (hF _ (by simp))) h h6 rfl (Xm.leaves_small _ _)))) rfl fun g42 _ => J.j 2 rfl <| J.f (qA2 rfl rfl rfl) rfl <| J.j 2 rfl <| J.c hK11 <| J.M 0 1 6 8 ?_
  refine J.g fun K12 hK12 => J.j 2 rfl <| J.p (qAB rfl rfl ent70 (Ct.use0 (fun F' hF => qGc F' (hK.mono (hF _ (by simp))) seed hs))) rfl fun g47 _ => J.j 2 rfl <| J.f (qAM (l := [(0, .tmp 47), (1, .tmp 48), (2, .tmp 49)]) (places := [(0, 1), (1, 1), (2, 1)]) (r := [Str (Wo.opn seed), Str (Xm.root seed h), I h]) rfl rfl rfl qNT zeroValue54 (fun _ => by kernel_rfl) rfl) rfl <| J.f (qAD rfl rfl) rfl <| J.a2 1 qFr qLF rfl rfl rfl rfl rfl <| J.b1 (qAT (i := 1) (vs := [Str (Wo.opn seed), Str (Xm.root seed h), I h]) rfl rfl rfl rfl rfl qLF rfl (by simp [qAw])) rfl rfl fun _ _ => ?_
  change J _ _ _ [F, blk g18 (qAw seed (Wo.opn seed) (Xm.root seed h) h A6 (2 ^ h) c6) 171, m] _
  refine J.c hK12 <| J.u 6 ?_
  refine J.k fun K13 hK13 => J.c9 [1, 2, 0] [blk g18 (qAw seed (Wo.opn seed) (Xm.root seed h) h A6 (2 ^ h) c6) 171, m, F] rfl (by decide) <| J.G <| J.j 3 rfl <| J.c hK13 <| J.E 4 5 ?_
  exact J.D <| J.b4 hw0 (fun _ _ h => h) (qCq rfl rfl rfl) (qDW (g18, U [blk g18 (qAw seed (Wo.opn seed) (Xm.root seed h) h A6 (2 ^ h) c6) 171, m]) rfl (fun hd => ⟨A6, c6, m, rfl, hd, hrow⟩) [0, 1, 2] rfl rfl (by decide))
theorem qHP (F : Hp) (g : Nat) (seed o r : List UInt8) (h : Int) (A : Option Addr) (n c : Nat) (hc : qAQ F ⟨g, 0, none⟩ (qAw seed o r h A n c)) :
    Ct prog 89 [Ptr g] [F] (fun _ : Unit => I n) (fun _ => True) (fun _ => [F]) := by
  refine Ct.walk func89 rfl ntmps89 rfl (fun w0 hw0 => ?_)
  change J _ [(0, _)] _ _ _
  refine J.g fun K1 hK1 => J.b rfl <| J.c hK1 <| J.u 0 ?_
  refine J.k fun K2 hK2 => J.g fun K3 hK3 => J.b rfl <| J.f ((qAu underlying105 rfl rfl rfl).as (v' := .bool false) rfl) rfl <| J.c hK3 <| J.E 0 4 ?_
  refine J.a8 ?_
  refine J.W hK2 <| J.u 0 ?_
  refine J.g fun K4 hK4 => J.b rfl <| J.f (qAD rfl rfl) rfl <| J.a2 4 qFr qB0 rfl rfl rfl rfl rfl <| J.f (qAN rfl rfl qCQ (m := F) (by simp) (hc.at (i := 4) rfl)) rfl <| J.f (qAa qAh rfl rfl) rfl <| J.b rfl <| J.c hK4 <| J.u 2 ?_
  exact J.D <| J.V hw0 rfl () rfl trivial [0] rfl (by decide)
theorem qKP (F : Hp) (g : Nat) (seed o r : List UInt8) (h : Int) (A : Option Addr) (n c : Nat) (hc : qAQ F ⟨g, 0, none⟩ (qAw seed o r h A n c)) :
    Ct prog 35 [Ptr g] [F] (fun _ : Unit => .agg #[Str o, Str r, I h]) (fun _ => True) (fun _ => [F]) := by
  refine Ct.walk func35 rfl ntmps35 rfl (fun w0 hw0 => ?_)
  change J _ [(0, _)] _ _ _
  refine J.g fun K1 hK1 => J.p (qAO rfl zeroValue54 rfl) rfl fun g2 _ => ?_
  change J _ _ _ [F, blk g2 _ 54] _
  refine J.c hK1 <| J.E 0 2 ?_
  refine J.k fun K2 hK2 => J.g fun K3 hK3 => J.b rfl <| J.f ((qAu underlying105 rfl rfl rfl).as (v' := .bool false) rfl) rfl <| J.c hK3 <| J.H 0 2 4 ?_
  refine J.a8 ?_
  refine J.W hK2 <| J.E 0 2 ?_
  refine J.g fun K4 hK4 => J.b rfl <| J.f (qAD rfl rfl) rfl <| J.a2 1 qFr qLF rfl rfl rfl rfl rfl <| J.f (qAo rfl rfl isAgg54 qLF (m := F) (by simp) (vs := [Str o, Str r, I h]) (hc.sub 1 3) rfl) rfl <| J.b1 (qAG (l := [Str [], Str [], I 0]) (i := 1) (vs := [Str o, Str r, I h]) rfl rfl rfl rfl rfl qLF rfl rfl) rfl rfl fun _ _ => ?_
  change J _ _ _ [_, blk g2 [Str o, Str r, I h] 54] _
  refine J.c hK4 <| J.u 2 ?_
  exact J.D <| J.b4 hw0 (fun _ _ h => h) (rv1 rfl (RV.blkA 1 rfl rfl isAgg54 qLF)) (qAj () rfl trivial [0] rfl (by decide))
theorem qFw (F : Hp) (hK : KF F) (o : List UInt8) (i : Nat) (mg : List UInt8) (ho : o.length ≤ 1048576) (hi : i < 4611686018427387904) (hm : mg.length ≤ 1048576) :
    Ct prog 91 [Str o, I i, Str mg] [F] (fun _ : Unit => Str (Xm.digest o i mg)) (fun _ => True) (fun _ => [F]) := by
  refine Ct.walk func91 rfl ntmps91 rfl (fun w0 hw0 => ?_)
  change J _ [(0, _), (1, _), (2, _)] _ _ _
  refine J.g fun K1 hK1 => J.b rfl <| J.c hK1 <| J.H 0 1 2 ?_
  refine J.g fun K2 hK2 => J.b rfl <| J.f ((qCK (m := 24) rfl rfl rfl ⟨by decide, by omega⟩).as (v' := I ((i / 2 ^ 24 : Nat) : Int)) (congrArg I (by simp))) rfl <| J.f (qAq rfl rfl u3_ u5_) rfl <| J.b rfl <| J.f ((qCK (m := 16) rfl rfl rfl ⟨by decide, by omega⟩).as (v' := I ((i / 2 ^ 16 : Nat) : Int)) (congrArg I (by simp))) rfl <| J.f (qAq rfl rfl u3_ u5_) rfl <| J.b rfl <| J.f ((qCK (m := 8) rfl rfl rfl ⟨by decide, by omega⟩).as (v' := I ((i / 2 ^ 8 : Nat) : Int)) (congrArg I (by simp))) rfl <| J.f (qAq rfl rfl u3_ u5_) rfl <| J.b rfl <| J.f (qAq rfl rfl u3_ u5_) rfl <| J.p (qAJ (l := [.tmp 10, .tmp 13, .tmp 16, .tmp 18]) (xs := [[B8 (UInt8.ofNat (i / 2 ^ 24))], [B8 (UInt8.ofNat (i / 2 ^ 16))], [B8 (UInt8.ofNat (i / 2 ^ 8))], [B8 (UInt8.ofNat i)]]) rfl rfl rfl rfl qBl el5 rfl (by decide) (by decide) (by simp)) rfl fun g19 _ => ?_
  change J _ _ _ [F, blk g19 [B8 (UInt8.ofNat (i / 2 ^ 24)), B8 (UInt8.ofNat (i / 2 ^ 16)), B8 (UInt8.ofNat (i / 2 ^ 8)), B8 (UInt8.ofNat i)] 5] _
  refine J.f (qCE (l := Xm.four i) rfl rfl qBl u5_ u9_ (m := blk g19 [B8 (UInt8.ofNat (i / 2 ^ 24)), B8 (UInt8.ofNat (i / 2 ^ 16)), B8 (UInt8.ofNat (i / 2 ^ 8)), B8 (UInt8.ofNat i)] 5) (by simp) (slB (Xm.four i) rfl)) rfl <| J.b rfl <| J.c hK2 <| J.H 0 2 7 ?_
  refine J.g fun K3 hK3 => J.j 3 rfl <| J.p (qAJ (l := [.tmp 21, .tmp 22, .tmp 23]) (xs := [[Str (o)], [Str (Xm.four i)], [Str (mg)]]) rfl rfl rfl rfl qAh el9 rfl (by decide) (by decide) (by simp)) rfl fun g24 _ => ?_
  change J _ _ _ [_, _, blk g24 [Str (o), Str (Xm.four i), Str (mg)] 9] _
  refine J.p (qAB rfl rfl ent44 (Ct.use0 (fun F' hF => qA3 F' (hK.mono (hF _ (by simp))) 6 (some ⟨g24, 0, none⟩) 3 3 [o, Xm.four i, mg] ((slS [o, Xm.four i, mg] rfl).mono (hF (blk g24 (([o, Xm.four i, mg] : List (List UInt8)).map fun s => Str s) 9) (by simp))) (by have := qPG ho (show (Xm.four i).length ≤ 1048576 by rw [Xm.four_length]; decide) hm; omega) (by decide)))) rfl fun g25 _ => J.b rfl <| J.c hK3 <| J.u 6 ?_
  exact J.D <| J.V hw0 rfl () rfl trivial [0] rfl (by decide)
theorem qNa (F : Hp) (hK : KF F) (g : Nat) (seed : List UInt8) (h : Nat) (A : Option Addr) (c : Nat) (hc : qAQ F ⟨g, 0, none⟩ (qAw seed (Wo.opn seed) (Xm.root seed h) h A (2 ^ h) c)) (hsl : Sl F 1 A (2 ^ h) c (qAI (Xm.leaves seed (2 ^ h)))) (hs : seed.length ≤ 1048576) (h6 : h ≤ 6) (mg : List UInt8) (hm : mg.length ≤ 1048576) (i : Nat) (hi : i < 2 ^ h) :
    Ct prog 45 [Ptr g, I i, Str mg] [F] (fun x : (Option Addr × Nat × Hp) × (Option Addr × Nat × Hp) => .tuple #[.agg #[I i, .slice x.1.1 35 x.1.2.1, .slice x.2.1 h x.2.2.1], I 0]) (fun x => Row x.1.2.2 9 1 x.1.1 35 x.1.2.1 (qAI (Wo.signs seed i (Wo.digs (Xm.digest (Wo.opn seed) i mg)) 35)) ∧ Row x.2.2.2 9 1 x.2.1 h x.2.2.1 (qAI (Mk.path (Xm.leaves seed (2 ^ h)) i h))) (fun x => [F, x.1.2.2, x.2.2.2]) := by
  have hp64 := Xm.pow_le h h6
  have hdl := Xm.digest_length (Wo.opn seed) i mg
  refine Ct.walk func45 rfl ntmps45 rfl (fun w0 hw0 => ?_)
  change J _ [(0, _), (1, _), (2, _)] _ _ _
  refine J.g fun K1 hK1 => J.p (qAO rfl qRX rfl) rfl fun g6 _ => ?_
  change J _ _ _ [F, blk g6 _ 50] _
  refine J.b rfl <| J.c hK1 <| J.M 0 1 2 6 ?_
  refine J.k fun K2 hK2 => J.a1 <| J.g fun K3 hK3 => J.b rfl <| J.f ((qAu underlying105 rfl rfl rfl).as (v' := .bool false) rfl) rfl <| J.b rfl <| J.c hK3 <| J.a0 0 1 2 6 11 ?_
  refine J.a8 ?_
  refine J.g fun K4 hK4 => J.j 2 rfl <| J.p (qAB rfl rfl ent89 (Ct.use0 (fun F' hF => qHP F' g seed (Wo.opn seed) (Xm.root seed h) h A (2 ^ h) c (hc.mono (hF F (by simp)))))) rfl fun g18 _ => J.f ((qBN rfl rfl rfl).no (by omega)) rfl <| J.b rfl <| J.c hK4 <| J.a0 0 1 2 6 15 ?_
  refine J.a8 ?_
  refine J.g fun K5 hK5 => J.b rfl <| J.f ((qAW rfl rfl rfl).no (by omega)) rfl <| J.b rfl <| J.c hK5 <| J.a0 0 1 2 6 21 ?_
  refine J.a8 ?_
  refine J.c7 <| J.a9 <| J.A (J.L hK2 ?_)
  refine J.M 0 1 2 6 ?_
  refine J.k fun K6 hK6 => J.c1 [F] [] (.y 0 (.y 1 (.y 2 (.y 3 (.y 4 (.y 5 (.y 6 (.y 7 (.y 8 (.y 9 (.y 10 (.y 11 (.e 12 (.e 13 (.y 14 (.y 15 (.y 16 (.y 17 (.y 18 .nil))))))))))))))))))) Tryz.wide (by decide +kernel) (by simp) ?_
  refine J.O ?_
  refine J.q rfl (qAD rfl rfl) rfl rfl <| J.q rfl (qAA (j := 0) rfl rfl qFr rfl z9_ rfl) rfl rfl <| J.q rfl (qAN rfl rfl b9_ (m := F) (by simp) (hc.at (i := 0) rfl)) rfl rfl <| J.O ?_
  refine J.O ?_
  refine J.q rfl (qAD rfl rfl) rfl rfl <| J.q rfl (qAA (j := 1) rfl rfl qFr rfl qLF rfl) rfl rfl <| J.q rfl (qAA (j := 1) rfl rfl qNT rfl z9_ rfl) rfl rfl <| J.q rfl (qAN rfl rfl b9_ (m := F) (by simp) (hc.at (i := 1) rfl)) rfl rfl <| J.O ?_
  refine J.O ?_
  refine J.b2 rfl (qAB rfl rfl ent91 (Ct.use0 (fun F' hF => qFw F' (hK.mono (hF _ (by simp))) (Wo.opn seed) i mg (by rw [Wo.opn_length]; decide) (by omega) hm))) rfl (by simp) fun g38 _ => J.b2 rfl (qAB rfl rfl ent90 (Ct.use (fun F' hF => qP9 F' (hK.mono (hF _ (by simp))) seed i (Xm.digest (Wo.opn seed) i mg) hs (by omega) hdl))) rfl (by simp) ?_
  rintro ⟨A39, c39, m39⟩ h39
  try dsimp only at h39
  change J _ ((39, .tuple #[.slice A39 35 c39, I 0]) :: _) _ [_, _, m39] _
  refine J.O ?_
  refine J.d0 (.slice A39 35 c39) ?_
  refine J.d0 (I 0) ?_
  refine J.b9 ?_
  refine J.b9 ?_
  refine J.b5 <| J.A (J.L hK6 ?_)
  refine J.a0 0 1 6 8 9 ?_
  refine J.k fun K7 hK7 => J.g fun K8 hK8 => J.b rfl <| J.f ((qAY rfl rfl rfl).no (by decide)) rfl <| J.c hK8 <| J.b3 0 1 6 8 9 43 ?_
  refine J.a8 ?_
  refine J.W hK7 <| J.M 0 1 6 8 ?_
  refine J.g fun K9 hK9 => J.b rfl <| J.f (qAD rfl rfl) rfl <| J.a2 4 qFr qB0 rfl rfl rfl rfl rfl <| J.f (qAN rfl rfl qCQ (m := F) (by simp) (hc.at (i := 4) rfl)) rfl <| J.b rfl <| J.p (qAB rfl rfl ent92 (Ct.use (fun F' hF => qQX F' (hK.mono (hF _ (by simp))) A (2 ^ h) c (Xm.leaves seed (2 ^ h)) (hsl.mono (hF F (by simp))) h h6 rfl (Xm.leaves_small _ _) i hi))) rfl ?_
  rintro ⟨A52, c52, m52⟩ h52
  try dsimp only at h52
  change J _ ((52, .tuple #[.slice A52 h c52, I 0]) :: _) _ [_, _, _, m52] _
  refine J.j 5 rfl <| J.c hK9 <| J.a0 1 6 8 9 10 ?_
  refine J.g fun K10 hK10 => J.j 3 rfl <| J.f (qAM (l := [(0, .tmp 55), (1, .tmp 56), (2, .tmp 57)]) (places := [(0, 1), (1, 1), (2, 1)]) (r := [I i, .slice A39 35 c39, .slice A52 h c52]) rfl rfl rfl qNg qRX (fun _ => by kernel_rfl) rfl) rfl <| J.b rfl <| J.b1 (qAG (l := [I 0, .slice none 0 0, .slice none 0 0]) (i := 1) (vs := [I i, .slice A39 35 c39, .slice A52 h c52]) rfl rfl rfl rfl rfl qLG rfl rfl) rfl rfl fun _ _ => ?_
  change J _ _ _ [_, blk g6 [I i, .slice A39 35 c39, .slice A52 h c52] 50, _, _] _
  refine J.b rfl <| J.c hK10 <| J.E 6 7 ?_
  exact J.D <| J.b4 hw0 (fun _ _ h => h) (rv2 rfl (RV.blkA 1 rfl rfl isAgg50 qLG) rfl) (qAj ((A39, c39, m39), (A52, c52, m52)) rfl ⟨h39, h52⟩ [0, 2, 3] rfl (by decide))
theorem Wo.publicOf_length (o : List UInt8) (leaf : Nat) (e : List (List UInt8)) : (Wo.publicOf o leaf e).length = 16 := by unfold Wo.publicOf; exact Sha.tagged_length _ _
theorem qKO (F : Hp) (hK : KF F) (o r : List UInt8) (h : Nat) (mg : List UInt8) (i : Nat) (A1 : Option Addr) (c1 : Nat) (ch : List (List UInt8)) (hch : Sl F 1 A1 35 c1 (qAI ch)) (hsg : ∀ s ∈ ch, s.length = 16) (A2 : Option Addr) (c2 : Nat) (pt : List (List UInt8)) (hpt : Sl F 1 A2 h c2 (qAI pt)) (hps : ∀ s ∈ pt, s.length ≤ 1048576)
    (ho : o.length ≤ 1048576) (hm : mg.length ≤ 1048576) (h6 : h ≤ 6) (hi : i < 2 ^ h) :
    Ct prog 66 [.agg #[Str o, Str r, I h], Str mg, .agg #[I i, .slice A1 35 c1, .slice A2 h c2]] [F] (fun _ : Unit => .bool (decide (Mk.climb (Wo.publicOf o i (Wo.ends o i (Wo.digs (Xm.digest o i mg)) ch 35)) i pt = r))) (fun _ => True) (fun _ => [F]) := by
  have hp64 := Xm.pow_le h h6
  have hdl := Xm.digest_length o i mg
  refine Ct.walk func66 rfl ntmps66 rfl (fun w0 hw0 => ?_)
  change J _ [(0, _), (1, _), (2, _)] _ _ _
  refine J.g fun K1 hK1 => J.p (qAf rfl rfl (l := [Str o, Str r, I h]) rfl) rfl fun g3 _ => ?_
  change J _ _ _ [F, blk g3 [Str o, Str r, I h] 54] _
  refine J.p (qAf rfl rfl (l := [I i, .slice A1 35 c1, .slice A2 h c2]) rfl) rfl fun g5 _ => ?_
  change J _ _ _ [_, _, blk g5 [I i, .slice A1 35 c1, .slice A2 h c2] 50] _
  refine J.b rfl <| J.c hK1 <| J.H 1 3 5 ?_
  refine J.k fun K2 hK2 => J.k fun K3 hK3 => J.c1 [F, blk g3 [Str o, Str r, I h] 54, blk g5 [I i, .slice A1 35 c1, .slice A2 h c2] 50] [] (.y 0 (.y 1 (.y 2 (.y 3 (.y 4 (.y 5 (.y 6 (.y 7 (.y 8 (.y 9 (.y 10 (.y 11 (.y 12 (.y 13 (.y 14 (.y 15 (.y 16 (.y 17 (.y 18 (.y 19 (.y 20 (.y 21 (.y 22 (.y 23 (.y 24 (.y 25 (.y 26 (.y 27 (.y 28 .nil))))))))))))))))))))))))))))) Tryz.wide (by decide +kernel) (by simp) ?_
  refine J.q rfl (qAA (j := 2) rfl rfl qNT rfl z3_ rfl) rfl rfl <| J.q rfl (qAC 1 rfl rfl rfl b3_ rfl) rfl rfl <| J.q rfl ((qAW rfl rfl rfl).no (by omega)) rfl rfl <| J.O ?_
  refine J.a4 rfl (qAA (j := 2) rfl rfl qNT rfl z3_ rfl) rfl rfl <| J.a4 rfl (qAC 1 rfl rfl rfl b3_ rfl) rfl rfl <| J.a4 rfl ((qAx rfl rfl rfl).no (by omega)) rfl rfl <| J.e2 ?_
  refine J.O ?_
  refine J.a4 rfl (qAA (j := 0) rfl rfl qNg rfl z3_ rfl) rfl rfl <| J.a4 rfl (qAC 2 rfl rfl rfl b3_ rfl) rfl rfl <| J.a4 rfl ((qAW rfl rfl rfl).no (by omega)) rfl rfl <| J.e2 ?_
  refine J.O ?_
  refine J.a4 rfl (qAA (j := 0) rfl rfl qNg rfl z3_ rfl) rfl rfl <| J.a4 rfl (qAC 2 rfl rfl rfl b3_ rfl) rfl rfl <| J.a4 rfl (qAA (j := 2) rfl rfl qNT rfl z3_ rfl) rfl rfl <| J.a4 rfl (qAC 1 rfl rfl rfl b3_ rfl) rfl rfl <| J.a4 rfl ((qGr (a := 1) (m := h) rfl rfl rfl ⟨by omega, by have := Int.pow_pos (n := 2) (m := h) (by decide); omega, by rw [Int.one_mul]; exact Int.ofNat_le.2 (show 2 ^ h ≤ 9223372036854775807 by omega)⟩).as (v' := I ((2 ^ h : Nat) : Int)) (congrArg I (by simp))) rfl rfl <| J.a4 rfl ((qBN rfl rfl rfl).no (by omega)) rfl rfl <| J.e2 ?_
  refine J.O ?_
  refine J.a4 rfl (qAA (j := 2) rfl rfl qNg rfl qB0 rfl) rfl rfl <| J.a4 rfl (qAC 2 rfl rfl rfl qCQ rfl) rfl rfl <| J.a4 rfl (qAa qAh rfl rfl) rfl rfl <| J.a4 rfl (qAA (j := 2) rfl rfl qNT rfl z3_ rfl) rfl rfl <| J.a4 rfl (qAC 1 rfl rfl rfl b3_ rfl) rfl rfl <| J.a4 rfl ((qAY rfl rfl rfl).no (fun h => h rfl)) rfl rfl <| J.e2 ?_
  refine J.b5 <| J.A (J.L hK3 ?_)
  refine J.M 1 3 5 37 ?_
  refine J.a8 ?_
  refine J.W hK2 <| J.H 1 3 5 ?_
  refine J.k fun K4 hK4 => J.c1 [F, blk g3 [Str o, Str r, I h] 54, blk g5 [I i, .slice A1 35 c1, .slice A2 h c2] 50] [] (.y 0 (.y 1 (.y 2 (.y 3 (.y 4 (.y 5 (.y 6 (.y 7 (.y 8 (.y 10 (.y 11 (.e 9 (.e 12 (.y 13 (.y 14 (.y 15 (.y 16 (.y 17 .nil)))))))))))))))))) Tryz.wide (by decide +kernel) (by simp) ?_
  refine J.q rfl (qAA (j := 0) rfl rfl qNT rfl z9_ rfl) rfl rfl <| J.q rfl (qAC 1 rfl rfl rfl b9_ rfl) rfl rfl <| J.q rfl (qAA (j := 0) rfl rfl qNg rfl z3_ rfl) rfl rfl <| J.q rfl (qAC 2 rfl rfl rfl b3_ rfl) rfl rfl <| J.q rfl (qAA (j := 0) rfl rfl qNT rfl z9_ rfl) rfl rfl <| J.q rfl (qAC 1 rfl rfl rfl b9_ rfl) rfl rfl <| J.q rfl (qAA (j := 0) rfl rfl qNg rfl z3_ rfl) rfl rfl <| J.q rfl (qAC 2 rfl rfl rfl b3_ rfl) rfl rfl <| J.O ?_
  refine J.q rfl (qAA (j := 1) rfl rfl qNg rfl qB0 rfl) rfl rfl <| J.q rfl (qAC 2 rfl rfl rfl qCQ rfl) rfl rfl <| J.b2 rfl (qAB rfl rfl ent91 (Ct.use0 (fun F' hF => qFw F' (hK.mono (hF _ (by simp))) o i mg ho (by omega) hm))) rfl (by simp) fun g48 _ => J.b2 rfl (qAB rfl rfl ent123 (Ct.use0 (fun F' hF => qKf F' (hK.mono (hF _ (by simp))) o i (Xm.digest o i mg) A1 c1 ch (hch.mono (hF F (by simp))) ho (by omega) hdl hsg))) rfl (by simp) fun g51 _ => J.O ?_
  refine J.d0 (Str (Wo.publicOf o i (Wo.ends o i (Wo.digs (Xm.digest o i mg)) ch 35))) ?_
  refine J.d0 (I 0) ?_
  refine J.b9 ?_
  refine J.b9 ?_
  refine J.b5 <| J.A (J.L hK4 ?_)
  refine J.M 3 5 7 8 ?_
  refine J.k fun K5 hK5 => J.c1 [F, blk g3 [Str o, Str r, I h] 54, blk g5 [I i, .slice A1 35 c1, .slice A2 h c2] 50] [] (.y 0 (.y 1 (.y 2 (.y 3 (.y 4 (.y 5 (.y 6 (.y 7 (.y 9 (.y 10 (.e 8 (.y 11 (.y 12 (.y 13 .nil)))))))))))))) Tryz.wide (by decide +kernel) (by simp) ?_
  refine J.O ?_
  refine J.q rfl ((qAV rfl rfl rfl).yes (by decide)) rfl rfl <| J.O ?_
  refine J.a4 rfl (qAl rfl rfl) rfl rfl <| J.a4 rfl (qAA (j := 0) rfl rfl qNg rfl z3_ rfl) rfl rfl <| J.a4 rfl (qAC 2 rfl rfl rfl b3_ rfl) rfl rfl <| J.a4 rfl (qAA (j := 2) rfl rfl qNg rfl qB0 rfl) rfl rfl <| J.a4 rfl (qAC 2 rfl rfl rfl qCQ rfl) rfl rfl <| J.a4 rfl (qAA (j := 1) rfl rfl qNT rfl z9_ rfl) rfl rfl <| J.a4 rfl (qAC 1 rfl rfl rfl b9_ rfl) rfl rfl <| J.e6 rfl (qAB rfl rfl ent124 (Ct.use0 (fun F' hF => qOs F' (hK.mono (hF _ (by simp))) (Wo.publicOf o i (Wo.ends o i (Wo.digs (Xm.digest o i mg)) ch 35)) i A2 h c2 pt (hpt.mono (hF F (by simp))) (by rw [Wo.publicOf_length]; decide) hps (by omega) (by omega)))) (Wan.is rfl rfl rfl rfl rfl) rfl rfl (by simp) ?_
  intro g62 _
  refine J.a4 rfl (qBL rfl rfl rfl) rfl rfl <| J.d2 ?_
  refine J.b9 ?_
  refine J.b5 <| J.A (J.L hK5 ?_)
  refine J.u 6 ?_
  exact J.D <| J.V hw0 rfl () rfl trivial [0] rfl (by decide)
end Go.Proofs.YtfldiegfenndjaaGreatDoor
namespace Go.Proofs.YtfldiegfenndjaaGreatDoor
open Go Go.Fw Go.Proofs.Tryz
set_option maxRecDepth 100000
set_option maxHeartbeats 1000000
theorem Mk.lvl_16 (l : List (List UInt8)) (hs : ∀ s ∈ l, s.length = 16) : ∀ j, ∀ s ∈ Mk.lvl l j, s.length = 16
 | 0, s, h => hs s h
 | j + 1, s, h => by
  simp only [Mk.lvl, Mk.above, List.mem_map] at h
  obtain ⟨k, _, rfl⟩ := h
  exact Mk.node_length _ _
theorem Mk.path_16 (l : List (List UInt8)) (i h : Nat) (hs : ∀ s ∈ l, s.length = 16) (hl : l.length = 2 ^ h) (hi : i < 2 ^ h) : ∀ s ∈ Mk.path l i h, s.length = 16 := fun s hp => by
 unfold Mk.path at hp
 simp only [List.mem_map, List.mem_range] at hp
 obtain ⟨j, hj, rfl⟩ := hp
 refine Mk.lvl_16 l hs j _ (Mk.getS_mem ?_)
 rw [Mk.lvl_length l h hl j (by omega), show h - j = (h - 1 - j) + 1 by omega, Nat.pow_succ, Nat.mul_comm]
 refine Mk.xor_one _ _ ?_
 rw [Nat.div_lt_iff_lt_mul (Nat.two_pow_pos j), Nat.mul_assoc, ← Nat.pow_add, Nat.mul_comm, ← Nat.pow_succ, show (h - 1 - j + j).succ = h by omega]
 exact hi
theorem Xm.leaves_16 (seed : List UInt8) (k : Nat) : ∀ s ∈ Xm.leaves seed k, s.length = 16 := fun s hs => by
 simp only [Xm.leaves, List.mem_map] at hs
 obtain ⟨i, _, rfl⟩ := hs
 exact Xm.pub_length _ _
theorem Wo.signs_len (seed : List UInt8) (i : Nat) (d : List Nat) : (Wo.signs seed i d 35).length = 35 := by simp [Wo.signs]
def qJM (m : Hp) (g : Nat) (seed : List UInt8) (h : Nat) : Prop := ∃ A c, qAQ m ⟨g, 0, none⟩ (qAw seed (Wo.opn seed) (Xm.root seed h) h A (2 ^ h) c) ∧ Sl m 1 A (2 ^ h) c (qAI (Xm.leaves seed (2 ^ h)))
theorem qJM.mono {m m' : Hp} {g : Nat} {seed : List UInt8} {h : Nat} (hk : qJM m g seed h) (hl : Le m m') : qJM m' g seed h := by
 obtain ⟨A, c, h1, h2⟩ := hk
 exact ⟨A, c, h1.mono hl, h2.mono hl⟩
def sgC (seed : List UInt8) (i : Nat) (mg : List UInt8) : List (List UInt8) := Wo.signs seed i (Wo.digs (Xm.digest (Wo.opn seed) i mg)) 35
def sgP (seed : List UInt8) (h i : Nat) : List (List UInt8) := Mk.path (Xm.leaves seed (2 ^ h)) i h
theorem qLs (seed : List UInt8) (i : Nat) (mg : List UInt8) : (sgC seed i mg).length = 35 := Wo.signs_len _ _ _
theorem qRg (seed : List UInt8) (i : Nat) (mg : List UInt8) : ∀ s ∈ sgC seed i mg, s.length = 16 := Wo.signs_16 _ _ _ _
theorem qLr (seed : List UInt8) (h i : Nat) : (sgP seed h i).length = h := Mk.path_length _ _ _
theorem qRf (seed : List UInt8) {h i : Nat} (hi : i < 2 ^ h) : ∀ s ∈ sgP seed h i, s.length = 16 := Mk.path_16 _ _ _ (Xm.leaves_16 _ _) (Xm.leaves_length _ _) hi
theorem qJP (F : Hp) (hK : KF F) (seed : List UInt8) (h : Nat) (hs : seed.length ≤ 1048576) (h6 : h ≤ 6) :
    Ct prog 33 [Str seed, I ((h : Nat) : Int)] [F] (fun x : Nat × Hp => .tuple #[Ptr x.1, I 0]) (fun x => qJM x.2 x.1 seed h) (fun x => [F, x.2]) := fun w0 w hw =>
  (qPs F hK seed h hs h6 w0 w hw).mono fun e w' ⟨x, he, hx, hs'⟩ => ⟨x, he, hx.see, hs'.pick [1, 0] (by decide)⟩
theorem qLN (F : Hp) (hK : KF F) (g : Nat) (seed : List UInt8) (h : Nat) (hk : qJM F g seed h) (hs : seed.length ≤ 1048576) (h6 : h ≤ 6) (i : Nat) (hi : i < 2 ^ h) (mg : List UInt8) (hm : mg.length ≤ 1048576) :
    Ct prog 45 [Ptr g, I ((i : Nat) : Int), Str mg] [F] (fun x : (Option Addr × Nat × Hp) × (Option Addr × Nat × Hp) => .tuple #[.agg #[I ((i : Nat) : Int), .slice x.1.1 (sgC seed i mg).length x.1.2.1, .slice x.2.1 (sgP seed h i).length x.2.2.1], I 0])
      (fun x => Row x.1.2.2 9 1 x.1.1 (sgC seed i mg).length x.1.2.1 (qAI (sgC seed i mg)) ∧ Row x.2.2.2 9 1 x.2.1 (sgP seed h i).length x.2.2.1 (qAI (sgP seed h i))) (fun x => [F, x.1.2.2, x.2.2.2]) := by
  obtain ⟨A, c, h1, h2⟩ := hk
  rw [qLs, qLr]
  exact qNa F hK g seed h A c h1 h2 hs h6 mg hm i hi
theorem qNb (F : Hp) (g : Nat) (seed : List UInt8) (h : Nat) (hk : qJM F g seed h) : Ct prog 35 [Ptr g] [F] (fun _ : Unit => .agg #[Str (Wo.opn seed), Str (Xm.root seed h), I ((h : Nat) : Int)]) (fun _ => True) (fun _ => [F]) := by
 obtain ⟨A, c, h1, h2⟩ := hk
 exact qKP F g seed (Wo.opn seed) (Xm.root seed h) h A (2 ^ h) c h1
theorem qKQ (F : Hp) (g : Nat) (seed : List UInt8) (h : Nat) (hk : qJM F g seed h) : Ct prog 89 [Ptr g] [F] (fun _ : Unit => I ((2 ^ h : Nat) : Int)) (fun _ => True) (fun _ => [F]) := by
 obtain ⟨A, c, h1, h2⟩ := hk
 exact qHP F g seed (Wo.opn seed) (Xm.root seed h) h A (2 ^ h) c h1
theorem qJC (seed : List UInt8) (h i : Nat) (hi : i < 2 ^ h) : Mk.climb (Wo.pub seed i) i (sgP seed h i) = Xm.root seed h := by
 have := Mk.climb_root (Xm.leaves seed (2 ^ h)) h i (Xm.leaves_length _ _) hi
 rw [Xm.leaves_get seed _ i hi] at this
 exact this
end Go.Proofs.YtfldiegfenndjaaGreatDoor
