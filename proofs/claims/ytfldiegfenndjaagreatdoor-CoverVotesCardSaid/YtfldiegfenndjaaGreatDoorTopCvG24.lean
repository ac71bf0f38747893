/- A part of the proof. -/
import Derived.Test.YtfldiegfenndjaaGreatDoorTopCvG23
import Derived.Shelf.Strings.Count
import Derived.Test.YtfldiegfenndjaaGreatDoorTopCvG8
import Derived.Test.YtfldiegfenndjaaGreatDoorTopCvG9
set_option linter.unusedSimpArgs false
set_option linter.unusedVariables false
namespace Go.Proofs.YtfldiegfenndjaaGreatDoor
open Go Go.Fw Go.Proofs.Tryz
set_option maxRecDepth 100000
set_option maxHeartbeats 1000000
open Go.Shelf Go.RowKit
def Tryz.lays138_ren : Go.Shelf.Ren := ⟨fun | 138 => 208 | 195 => 202 | 218 => 227 | 143 => 228 | 219 => 244 | 217 => 253 | 225 => 254 | 224 => 255 | 267 => 256 | 266 => 258 | 314 => 259 | n => n, fun | 9 => 9 | 3 => 3 | 4 => 4 | 5 => 5 | 0 => 0 | 46 => 94 | 146 => 261 | 51 => 246 | n => n, fun | 1 => 2 | n => n⟩
theorem Tryz.lays138 : Go.Proofs.Lays.n138 prog Tryz.lays138_ren := {
 mixed := by kernel_rfl
 f138 := func208.trans (congrArg some (by kernel_rfl))
 f143 := func228.trans (congrArg some (by kernel_rfl))
 f195 := func202.trans (congrArg some (by kernel_rfl))
 f217 := func253.trans (congrArg some (by kernel_rfl))
 f218 := func227.trans (congrArg some (by kernel_rfl))
 f219 := func244.trans (congrArg some (by kernel_rfl))
 f224 := func255.trans (congrArg some (by kernel_rfl))
 f225 := func254.trans (congrArg some (by kernel_rfl))
 f266 := func258.trans (congrArg some (by kernel_rfl))
 f267 := func256.trans (congrArg some (by kernel_rfl))
 f314 := func259.trans (congrArg some (by kernel_rfl))
 t0 := u0_
 a0 := isAgg0
 z0 := sizeOf0
 v0 := e0_
 t3 := u3_
 a3 := b3_
 z3 := z3_
 v3 := e3_
 t4 := u4_
 a4 := b4_
 z4 := z4_
 v4 := e4_
 t5 := u5_
 a5 := b5_
 z5 := z5_
 v5 := e5_
 t9 := u9_
 a9 := b9_
 z9 := z9_
 v9 := e9_
 t46 := qSy
 a46 := isAgg94
 z46 := sizeOf94
 v46 := qTz
 t51 := qHh
 a51 := qCY
 z51 := qBu
 v51 := zeroValue246
 t146 := underlying261
 a146 := isAgg261
 z146 := sizeOf261
 v146 := zeroValue261
 g1 := by kernel_rfl }
theorem Ct.ofSame {P : Program} {f : FuncId} {vs : List Value} {F : Hp} {v : Value} (h : ∀ w, Le F (hp w) → Calls P f vs.toArray w fun e w' => e = .returned v ∧ w' = w) :
    Ct P f vs [F] (fun _ : Unit => v) (fun _ => True) (fun _ => [F]) := Ct.ofBelow fun w hw => (h w hw).mono fun _ _ ⟨he, hs⟩ => ⟨he, hs ▸ Below.refl _ _⟩
theorem qMN (F : Hp) (s : List UInt8) (hs : s.length ≤ 1000000) : Ct prog 208 [Str s, Str [64]] [F] (fun _ : Unit => I ((s.count 64 : Nat) : Int)) (fun _ => True) (fun _ => [F]) := Ct.ofSame fun w hw =>
 Any.strings_Count_one Tryz.lays138 ⟨s.toArray⟩ 64 w
end Go.Proofs.YtfldiegfenndjaaGreatDoor
namespace Go.Proofs.YtfldiegfenndjaaGreatDoor
open Go Go.Fw Go.Proofs.Tryz
set_option maxRecDepth 100000
set_option maxHeartbeats 1000000
theorem ent175 : qAF prog 175 := qAF.of func175 rfl (by kernel_rfl)
theorem ent201 : qAF prog 201 := qAF.of func201 rfl (by kernel_rfl)
theorem ent202 : qAF prog 202 := qAF.of func202 rfl (by kernel_rfl)
theorem ent203 : qAF prog 203 := qAF.of func203 rfl (by kernel_rfl)
theorem ent204 : qAF prog 204 := qAF.of func204 rfl (by kernel_rfl)
theorem ent209 : qAF prog 209 := qAF.of func209 rfl (by kernel_rfl)
theorem ent210 : qAF prog 210 := qAF.of func210 rfl (by kernel_rfl)
theorem ent213 : qAF prog 213 := qAF.of func213 rfl (by kernel_rfl)
def qBo : List Value := [I 1, R32 97, R32 122, I 2, R32 945, R32 969, I 4, R32 1072, R32 1103]
def qJL (k : Nat) : Nat := if k = 0 then 1 else if k = 1 then 2 else 4
def qEz (k : Nat) : Nat := if k = 0 then 97 else if k = 1 then 945 else 1072
def qEx (k : Nat) : Nat := if k = 0 then 122 else if k = 1 then 969 else 1103
theorem qIV {k : Nat} (h : k < 3) : Value.agg (qBo.toArray.extract (k * 3) (k * 3 + 3)) = .agg [I (qJL k : Nat), R32 (qEz k), R32 (qEx k)].toArray := by
 match k, h with
 | 0, _ => rfl
 | 1, _ => rfl
 | 2, _ => rfl
def qLe (k r : Nat) : Bool := decide (qEz k ≤ r ∧ r ≤ qEx k)
def qP2 (k r : Nat) : Bool := qLe k (r + 32) && !qLe k r && decide (r ≠ 930)
theorem qOX {k r : Nat} (hk : k < 3) (h : qP2 k r = true) : small r = r + 32 := by
 unfold qP2 qLe at h
 unfold small
 match k, hk with
 | 0, _ => simp [qEz, qEx] at h; rw [if_pos (by omega)]
 | 1, _ => simp [qEz, qEx] at h; rw [if_pos (by omega)]
 | 2, _ => simp [qEz, qEx] at h; rw [if_pos (by omega)]
theorem qOY {r : Nat} (h : ∀ k < 3, qP2 k r = false) : small r = r := by
 have h0 := h 0 (by decide)
 have h1 := h 1 (by decide)
 have h2 := h 2 (by decide)
 simp [qP2, qLe, qEz, qEx] at h0 h1 h2
 unfold small
 rw [if_neg (by omega)]
theorem qSK {k r : Nat} (hk : k < 3) (h : qLe k (small r) = true) : qHX r = qJL k := by
 unfold qLe at h
 unfold qHX
 match k, hk with
 | 0, _ => simp [qEz, qEx] at h; rw [if_pos (by omega)]; rfl
 | 1, _ => simp [qEz, qEx] at h; rw [if_neg (by omega), if_pos (by omega)]; rfl
 | 2, _ => simp [qEz, qEx] at h; rw [if_neg (by omega), if_neg (by omega), if_pos (by omega)]; rfl
theorem qSL {r : Nat} (h : ∀ k < 3, qLe k (small r) = false) : qHX r = 0 := by
 have h0 := h 0 (by decide)
 have h1 := h 1 (by decide)
 have h2 := h 2 (by decide)
 simp [qLe, qEz, qEx] at h0 h1 h2
 unfold qHX
 rw [if_neg (by omega), if_neg (by omega), if_neg (by omega)]
theorem qNL (F : Hp) (k r : Nat) : Ct prog 213 [.agg #[I (qJL k : Nat), R32 (qEz k), R32 (qEx k)], .int .i32 ((r : Nat) : Int)] [F] (fun _ : Unit => .bool (qLe k r)) (fun _ => True) (fun _ => [F]) := by
 refine Ct.walk func213 rfl ntmps213 rfl (fun w0 hw0 => ?_)
 change J _ [(0, _), (1, _)] _ _ _
 refine J.g fun K1 hK1 => J.q (qAi (l := [I (qJL k : Nat), R32 (qEz k), R32 (qEx k)]) rfl rfl rfl) rfl fun g2 _ => ?_
 change J _ _ _ [F, blk g2 [I (qJL k : Nat), R32 (qEz k), R32 (qEx k)] 321] _
 refine J.b rfl <| J.c hK1 <| J.G 1 2 ?_
 refine J.g fun K2 hK2 => J.b rfl <| J.a7 1 qL4 sizeOf21 rfl rfl rfl rfl rfl <| J.f (qAE 1 (v := R32 (qEz k)) rfl rfl rfl isAgg21 rfl) rfl <| J.f (qBR rfl rfl rfl) rfl <| J.b rfl <| J.c2 (d := 9) rfl (fun h9 => ?_) (fun h9 => ?_)
 ·
  refine J.b rfl <| J.E (qAA (j := 2) rfl rfl qL4 rfl sizeOf21 rfl) rfl <| J.E (qAE 1 (v := R32 (qEx k)) rfl rfl rfl isAgg21 rfl) rfl <| J.E (qB1 rfl rfl rfl) rfl <| J.j 2 rfl <| J.c hK2 <| J.u 4 ?_
  exact J.D <| J.H hw0 rfl () (by unfold qLe; exact congrArg Value.bool (decide_eq_decide.2 (by omega))) trivial [0] rfl (by decide)
 refine J.j 6 rfl <| J.c hK2 <| J.u 4 ?_
 exact J.D <| J.H hw0 rfl () (by unfold qLe; rw [decide_eq_false (by omega : ¬ (qEz k ≤ r ∧ r ≤ qEx k))]) trivial [0] rfl (by decide)
theorem qJe (F : Hp) (hA : qAS F ⟨1, 0, none⟩ qBo) (r : Nat) (hr : r ≤ 1073741824) : Ct prog 175 [.int .i32 ((r : Nat) : Int)] [F] (fun _ : Unit => .int .i32 ((small r : Nat) : Int)) (fun _ => True) (fun _ => [F]) := by
 refine Ct.walk func175 rfl ntmps175 rfl (fun w0 hw0 => ?_)
 change J _ [(0, _)] _ _ _
 refine J.g fun K1 hK1 => J.b rfl <| J.c hK1 <| J.u 0 ?_
 refine J.p fun K2 hK2 => J.g fun K3 hK3 => J.f (qFS 0 rfl rfl isAgg322 sizeOf322 rfl hA rfl) rfl <| J.b rfl <| J.c hK3 <| J.O 0 5 6 ?_
 refine J.W <| J.b6 (X := Nat) (fun ζ => [(0, .int .i32 ((r : Nat) : Int)), (5, .agg qBo.toArray), (6, I ((ζ : Nat) : Int))]) (fun ζ => [F]) (fun ζ => ζ ≤ 3 ∧ ∀ j < ζ, qP2 j r = false) (fun ζ => 3 - ζ) 0 (⟨by omega, fun j h => absurd h (Nat.not_lt_zero j)⟩) ⟨rfl, rfl, rfl, trivial⟩ (fun _ h => h) ?_
 rintro k ⟨hk, hn⟩ I0 hI0
 refine J.g fun K4 hK4 => J.f (qAX rfl rfl rfl) rfl <| J.c hK4 <| J.T 0 5 6 7 ?_
 refine J.p fun K5 hK5 => J.a0 rfl (fun h7 => ?_) (fun h7 => ?_)
 ·
  refine J.a1 hK5 <| J.O 0 5 6 ?_
  refine J.p fun K6 hK6 => J.W <| J.g fun K7 hK7 => J.f ((qH1 (i := k) rfl rfl rfl underlying322 sizeOf321 isAgg321 (by omega)).as (v' := .agg #[I (qJL k : Nat), R32 (qEz k), R32 (qEx k)]) (qIV (by omega))) rfl <| J.q (qAe (l := [I 0, .int .i32 0, .int .i32 0]) rfl zeroValue321 rfl) rfl fun g4 _ => ?_
  change J _ _ _ [F, blk g4 [I 0, .int .i32 0, .int .i32 0] 321] _
  refine J.b4 (qAP (i := 1) (l := [I 0, .int .i32 0, .int .i32 0]) (vs := [I (qJL k : Nat), R32 (qEz k), R32 (qEx k)]) rfl rfl rfl rfl rfl sizeOf321 rfl rfl) rfl rfl fun _ _ => ?_
  change J _ _ _ [_, blk g4 [I (qJL k : Nat), R32 (qEz k), R32 (qEx k)] 321] _
  refine J.c hK7 <| J.T 0 4 5 6 ?_
  refine J.g fun K8 hK8 => J.c5 1 isAgg321 sizeOf321 rfl rfl rfl rfl rfl <| J.b rfl <| J.f (qMz rfl rfl rfl (by first | omega | (simp only [List.length_append, List.length_cons, List.length_nil, List.length_take, List.length_drop] at *; omega))) rfl <| J.q (qAC rfl rfl ent213 (Ct.use0 (fun F' hF => qNL F' k (r + 32)))) rfl fun g12 _ => J.b rfl <| J.f8 (d := 13) rfl (fun h13 => ?_) (fun h13 => ?_)
  ·
   refine J.E (qAg 1 rfl rfl rfl isAgg321 sizeOf321 rfl) rfl <| J.b rfl <| J.d5 (qAC rfl rfl ent213 (Ct.use0 (fun F' hF => qNL F' k (r)))) rfl fun g16 _ => J.E (qA3 rfl rfl) rfl <| J.j 2 rfl <| J.f8 (d := 19) rfl (fun h19 => ?_) (fun h19 => ?_)
   ·
    refine J.b rfl <| J.E (qAz rfl rfl rfl) rfl <| J.b rfl <| J.c hK8 <| J.T 0 5 6 22 ?_
    refine J.a0 rfl (fun h22 => ?_) (fun h22 => ?_)
    ·
     refine J.g fun K9 hK9 => J.b rfl <| J.f (qMz rfl rfl rfl (by first | omega | (simp only [List.length_append, List.length_cons, List.length_nil, List.length_take, List.length_drop] at *; omega))) rfl <| J.b rfl <| J.c hK9 <| J.u 2 ?_
     exact J.D <| J.a9 <| J.Z <| J.Z <| J.a9 <| J.Z <| J.H hw0 rfl () (by rw [qOX (k := k) (by omega) (by unfold qP2; simp [*]; omega)]) trivial [0] rfl (by decide)
    refine J.b9 <| J.a5 <| J.A (J.L hK6 ?_)
    refine J.O 0 5 6 ?_
    exact J.M <| J.f ((qAU rfl rfl rfl (by first | omega | (simp only [List.length_append, List.length_cons, List.length_nil, List.length_take, List.length_drop] at *; omega))).nat (k + 1) (by omega)) rfl <| J.b rfl <| J.a6 <| J.A <| J.a8 (k + 1) (fun η (hη : _ ∧ 3 - η < 3 - k) => hI0 η hη.1 hη.2) ⟨⟨by omega, fun j hj => by rcases Nat.lt_succ_iff_lt_or_eq.1 hj with h | rfl; exact hn j h; exact (by unfold qP2; simp [*]; try omega)⟩, by first | omega | (dsimp only; omega)⟩ ⟨rfl, rfl, rfl, trivial⟩ (fun _ h => h.pick [0] (by decide))
   refine J.j 3 rfl <| J.c hK8 <| J.T 0 5 6 22 ?_
   refine J.b2 ?_
   refine J.b9 <| J.a5 <| J.A (J.L hK6 ?_)
   refine J.O 0 5 6 ?_
   exact J.M <| J.f ((qAU rfl rfl rfl (by first | omega | (simp only [List.length_append, List.length_cons, List.length_nil, List.length_take, List.length_drop] at *; omega))).nat (k + 1) (by omega)) rfl <| J.b rfl <| J.a6 <| J.A <| J.a8 (k + 1) (fun η (hη : _ ∧ 3 - η < 3 - k) => hI0 η hη.1 hη.2) ⟨⟨by omega, fun j hj => by rcases Nat.lt_succ_iff_lt_or_eq.1 hj with h | rfl; exact hn j h; exact (by unfold qP2; simp [*]; try omega)⟩, by first | omega | (dsimp only; omega)⟩ ⟨rfl, rfl, rfl, trivial⟩ (fun _ h => h.pick [0] (by decide))
  refine J.j 9 rfl <| J.c hK8 <| J.T 0 5 6 22 ?_
  refine J.b2 ?_
  refine J.b9 <| J.a5 <| J.A (J.L hK6 ?_)
  refine J.O 0 5 6 ?_
  exact J.M <| J.f ((qAU rfl rfl rfl (by first | omega | (simp only [List.length_append, List.length_cons, List.length_nil, List.length_take, List.length_drop] at *; omega))).nat (k + 1) (by omega)) rfl <| J.b rfl <| J.a6 <| J.A <| J.a8 (k + 1) (fun η (hη : _ ∧ 3 - η < 3 - k) => hI0 η hη.1 hη.2) ⟨⟨by omega, fun j hj => by rcases Nat.lt_succ_iff_lt_or_eq.1 hj with h | rfl; exact hn j h; exact (by unfold qP2; simp [*]; try omega)⟩, by first | omega | (dsimp only; omega)⟩ ⟨rfl, rfl, rfl, trivial⟩ (fun _ h => h.pick [0] (by decide))
 refine J.b5 <| J.a4 <| J.a4 <| J.b7 ?_
 refine J.A (J.L hK2 ?_)
 refine J.u 0 ?_
 refine J.g fun K10 hK10 => J.j 2 rfl <| J.c hK10 <| J.u 2 ?_
 exact J.D <| J.H hw0 rfl () (by rw [qOY (fun j hj => hn j (by omega))]) trivial [0] rfl (by decide)
theorem qIA (F : Hp) (hA : qAS F ⟨1, 0, none⟩ qBo) (r : Nat) (hr : r ≤ 1073741824) : Ct prog 203 [.int .i32 ((r : Nat) : Int)] [F] (fun _ : Unit => I ((qHX r : Nat) : Int)) (fun _ => True) (fun _ => [F]) := by
 refine Ct.walk func203 rfl ntmps203 rfl (fun w0 hw0 => ?_)
 change J _ [(0, _)] _ _ _
 refine J.g fun K1 hK1 => J.b rfl <| J.c hK1 <| J.u 0 ?_
 refine J.g fun K2 hK2 => J.b rfl <| J.q (qAC rfl rfl ent175 (Ct.use0 (fun F' hF => qJe F' (hA.mono (hF F (by simp))) r (by omega)))) rfl fun g6 _ => J.b rfl <| J.c hK2 <| J.u 0 ?_
 refine J.p fun K3 hK3 => J.g fun K4 hK4 => J.f (qFS 0 rfl rfl isAgg322 sizeOf322 rfl hA rfl) rfl <| J.b rfl <| J.c hK4 <| J.O 0 7 8 ?_
 refine J.W <| J.b6 (X := Nat) (fun ζ => [(0, .int .i32 ((small r : Nat) : Int)), (7, .agg qBo.toArray), (8, I ((ζ : Nat) : Int))]) (fun ζ => [F]) (fun ζ => ζ ≤ 3 ∧ ∀ j < ζ, qLe j (small r) = false) (fun ζ => 3 - ζ) 0 (⟨by omega, fun j h => absurd h (Nat.not_lt_zero j)⟩) ⟨rfl, rfl, rfl, trivial⟩ (fun _ h => h) ?_
 rintro k ⟨hk, hn⟩ I0 hI0
 refine J.g fun K5 hK5 => J.f (qAX rfl rfl rfl) rfl <| J.c hK5 <| J.T 0 7 8 9 ?_
 refine J.p fun K6 hK6 => J.a0 rfl (fun h9 => ?_) (fun h9 => ?_)
 ·
  refine J.a1 hK6 <| J.O 0 7 8 ?_
  refine J.p fun K7 hK7 => J.W <| J.g fun K8 hK8 => J.f ((qH1 (i := k) rfl rfl rfl underlying322 sizeOf321 isAgg321 (by omega)).as (v' := .agg #[I (qJL k : Nat), R32 (qEz k), R32 (qEx k)]) (qIV (by omega))) rfl <| J.q (qAe (l := [I 0, .int .i32 0, .int .i32 0]) rfl zeroValue321 rfl) rfl fun g4 _ => ?_
  change J _ _ _ [F, blk g4 [I 0, .int .i32 0, .int .i32 0] 321] _
  refine J.b4 (qAP (i := 1) (l := [I 0, .int .i32 0, .int .i32 0]) (vs := [I (qJL k : Nat), R32 (qEz k), R32 (qEx k)]) rfl rfl rfl rfl rfl sizeOf321 rfl rfl) rfl rfl fun _ _ => ?_
  change J _ _ _ [_, blk g4 [I (qJL k : Nat), R32 (qEz k), R32 (qEx k)] 321] _
  refine J.c hK8 <| J.T 0 4 7 8 ?_
  refine J.g fun K9 hK9 => J.c5 1 isAgg321 sizeOf321 rfl rfl rfl rfl rfl <| J.b rfl <| J.q (qAC rfl rfl ent213 (Ct.use0 (fun F' hF => qNL F' k (small r)))) rfl fun g13 _ => J.c hK9 <| J.a3 0 4 7 8 13 ?_
  refine J.d1 rfl (fun h13 => ?_) (fun h13 => ?_)
  ·
   refine J.g fun K10 hK10 => J.a7 0 qL4 z3_ rfl rfl rfl rfl rfl <| J.f (qAE 1 (v := I (qJL k : Nat)) rfl rfl rfl b3_ rfl) rfl <| J.b rfl <| J.c hK10 <| J.u 2 ?_
   exact J.D <| J.a9 <| J.Z <| J.Z <| J.a9 <| J.Z <| J.H hw0 rfl () (by rw [qSK (k := k) (by omega) (by assumption)]) trivial [0] rfl (by decide)
  refine J.b9 <| J.a5 <| J.A (J.L hK7 ?_)
  refine J.O 0 7 8 ?_
  exact J.M <| J.f ((qAU rfl rfl rfl (by first | omega | (simp only [List.length_append, List.length_cons, List.length_nil, List.length_take, List.length_drop] at *; omega))).nat (k + 1) (by omega)) rfl <| J.b rfl <| J.a6 <| J.A <| J.a8 (k + 1) (fun η (hη : _ ∧ 3 - η < 3 - k) => hI0 η hη.1 hη.2) ⟨⟨by omega, fun j hj => by rcases Nat.lt_succ_iff_lt_or_eq.1 hj with h | rfl; exact hn j h; assumption⟩, by first | omega | (dsimp only; omega)⟩ ⟨rfl, rfl, rfl, trivial⟩ (fun _ h => h.pick [0] (by decide))
 refine J.b5 <| J.a4 <| J.a4 <| J.b7 ?_
 refine J.A (J.L hK3 ?_)
 refine J.c7 [] trivial <| J.g fun K11 hK11 => J.b rfl <| J.c hK11 <| J.u 2 ?_
 exact J.D <| J.H hw0 rfl () (by rw [qSL (fun j hj => hn j (by omega))]; rfl) trivial [0] rfl (by decide)
theorem qMJ (F : Hp) (r : Nat) : Ct prog 204 [.int .i32 ((r : Nat) : Int)] [F] (fun _ : Unit => .bool (qGC r)) (fun _ => True) (fun _ => [F]) := by
 refine Ct.walk func204 rfl ntmps204 rfl (fun w0 hw0 => ?_)
 change J _ [(0, _)] _ _ _
 refine J.g fun K1 hK1 => J.b rfl <| J.c hK1 <| J.u 0 ?_
 refine J.g fun K2 hK2 => J.b rfl <| J.f (qAa rfl rfl rfl) rfl <| J.b rfl <| J.c2 (d := 5) rfl (fun h5 => ?_) (fun h5 => ?_)
 ·
  refine J.j 12 rfl <| J.c hK2 <| J.u 2 ?_
  exact J.D <| J.H hw0 rfl () (by unfold qGC; first | rw [decide_eq_true (by omega)] | exact congrArg Value.bool (decide_eq_decide.2 (by omega))) trivial [0] rfl (by decide)
 refine J.b rfl <| J.E (qAa rfl rfl rfl) rfl <| J.j 2 rfl <| J.c2 (d := 9) rfl (fun h9 => ?_) (fun h9 => ?_)
 ·
  refine J.j 8 rfl <| J.c hK2 <| J.u 2 ?_
  exact J.D <| J.H hw0 rfl () (by unfold qGC; first | rw [decide_eq_true (by omega)] | exact congrArg Value.bool (decide_eq_decide.2 (by omega))) trivial [0] rfl (by decide)
 refine J.b rfl <| J.E (qAa rfl rfl rfl) rfl <| J.j 2 rfl <| J.c2 (d := 13) rfl (fun h13 => ?_) (fun h13 => ?_)
 ·
  refine J.j 4 rfl <| J.c hK2 <| J.u 2 ?_
  exact J.D <| J.H hw0 rfl () (by unfold qGC; first | rw [decide_eq_true (by omega)] | exact congrArg Value.bool (decide_eq_decide.2 (by omega))) trivial [0] rfl (by decide)
 refine J.b rfl <| J.E (qAa rfl rfl rfl) rfl <| J.j 2 rfl <| J.c hK2 <| J.u 2 ?_
 exact J.D <| J.H hw0 rfl () (by unfold qGC; first | rw [decide_eq_true (by omega)] | exact congrArg Value.bool (decide_eq_decide.2 (by omega))) trivial [0] rfl (by decide)
theorem qSq (F : Hp) (hA : qAS F ⟨1, 0, none⟩ qBo) (s : List UInt8) (hs : s.length ≤ 1000000) : Ct prog 207 [Str (s)] [F] (fun _ : Unit => I ((qHY (rl s) 0 : Nat) : Int)) (fun _ => True) (fun _ => [F]) := by
 refine Ct.walk func207 rfl ntmps207 rfl (fun w0 hw0 => ?_)
 change J _ [(0, _)] _ _ _
 refine J.g fun K1 hK1 => J.b rfl <| J.c hK1 <| J.u 0 ?_
 refine J.g fun K2 hK2 => J.b rfl <| J.c hK2 <| J.G 0 3 ?_
 refine J.p fun K3 hK3 => J.g fun K4 hK4 => J.b rfl <| J.q (qD8 rfl rfl u9_) rfl ?_
 rintro g7 _
 change J _ _ _ [F, itr g7 s 0] _
 refine J.c hK4 <| J.G 3 7 ?_
 refine J.W <| J.b6 (X := Nat × Nat) (fun ζ => [(3, I ((ζ.2 : Nat) : Int)), (7, Ptr g7)]) (fun ζ => [F, itr g7 s ζ.1]) (fun ζ => ζ.1 ≤ s.length ∧ ζ.2 < 8 ∧ qHY (rl (s.drop ζ.1)) ζ.2 = qHY (rl s) 0) (fun ζ => s.length - ζ.1) (0, 0) (⟨by omega, by omega, rfl⟩) ⟨rfl, rfl, trivial⟩ (fun _ h => h) ?_
 rintro ⟨p, b⟩ ⟨hp, hb, he⟩ I0 hI0
 dsimp only at hp hb he ⊢
 refine J.g fun K5 hK5 => J.q (qEw (i := 1) rfl rfl rfl) rfl ?_
 rintro _ _
 change J _ _ _ [F, itr g7 s (qFV s p)] _
 refine J.f (qAm (v := .bool (decide (p < s.length))) rfl rfl (qPA _ _)) rfl <| J.c hK5 <| J.T 3 7 8 9 ?_
 refine J.p fun K6 hK6 => J.a0 rfl (fun h9 => ?_) (fun h9 => ?_)
 ·
  have hps : p < s.length := h9
  have hnp := qC8 hps
  have hdl := qKH s p hps
  have hdr := qE2 s p (by omega)
  have hdp := qDq s p (by omega)
  have hrl := qOn hps
  refine J.a1 hK6 <| J.O 3 7 8 ?_
  refine J.W <| J.g fun K7 hK7 => J.f (qAm (v := .int .i32 (((dec s p).1 : Nat) : Int)) rfl rfl (qR6 hps)) rfl <| J.b rfl <| J.c hK7 <| J.O 3 5 7 ?_
  refine J.M <| J.j 2 rfl <| J.q (qAC rfl rfl ent203 (Ct.use0 (fun F' hF => qIA F' (hA.mono (hF F (by simp))) ((dec s p).1) (by omega)))) rfl fun g13 _ => ?_
  have hll := qI7 (dec s p).1
  exact J.f (qTY (a := b) (b := qHX ((dec s p).1)) rfl rfl rfl (by first | omega | (simp only [List.length_append, List.length_cons, List.length_nil, List.length_take, List.length_drop] at *; omega))) rfl <| J.b rfl <| J.a6 <| J.a5 <| J.A <| J.a8 (qFV s p, b ||| qHX (dec s p).1) (fun η (hη : _ ∧ s.length - η.1 < s.length - p) => hI0 η hη.1 hη.2) ⟨⟨by dsimp only; omega, Nat.or_lt_two_pow (n := 3) hb (qI7 _), by rw [← he, hrl]; rfl⟩, by first | omega | (dsimp only; omega)⟩ ⟨rfl, rfl, trivial⟩ (fun _ h => h)
 refine J.b5 <| J.a4 <| J.a4 <| J.b7 ?_
 refine J.A (J.L hK3 ?_)
 refine J.u 3 ?_
 refine J.g fun K8 hK8 => J.j 2 rfl <| J.c hK8 <| J.u 2 ?_
 exact J.D <| J.H hw0 rfl () (by rw [← he, List.drop_of_length_le (by omega), qHq]; rfl) trivial [0] rfl (by decide)
theorem qMY (F : Hp) (s : List UInt8) (hs : s.length ≤ 1000000) : Ct prog 202 [Str (s)] [F] (fun _ : Unit => I (((rl s).length : Nat) : Int)) (fun _ => True) (fun _ => [F]) := by
 refine Ct.walk func202 rfl ntmps202 rfl (fun w0 hw0 => ?_)
 change J _ [(0, _)] _ _ _
 refine J.g fun K1 hK1 => J.b rfl <| J.c hK1 <| J.G 0 2 ?_
 refine J.p fun K2 hK2 => J.g fun K3 hK3 => J.b rfl <| J.q (qD8 rfl rfl u9_) rfl ?_
 rintro g4 _
 change J _ _ _ [F, itr g4 s 0] _
 refine J.c hK3 <| J.G 2 4 ?_
 refine J.W <| J.b6 (X := Nat × Nat) (fun ζ => [(2, I ((ζ.2 : Nat) : Int)), (4, Ptr g4)]) (fun ζ => [F, itr g4 s ζ.1]) (fun ζ => ζ.1 ≤ s.length ∧ ζ.2 ≤ ζ.1 ∧ ζ.2 + (rl (s.drop ζ.1)).length = (rl s).length) (fun ζ => s.length - ζ.1) (0, 0) (⟨by omega, by omega, Nat.zero_add _⟩) ⟨rfl, rfl, trivial⟩ (fun _ h => h) ?_
 rintro ⟨p, n⟩ ⟨hp, hb, he⟩ I0 hI0
 dsimp only at hp hb he ⊢
 refine J.g fun K4 hK4 => J.q (qEw (i := 1) rfl rfl rfl) rfl ?_
 rintro _ _
 change J _ _ _ [F, itr g4 s (qFV s p)] _
 refine J.f (qAm (v := .bool (decide (p < s.length))) rfl rfl (qPA _ _)) rfl <| J.c hK4 <| J.O 2 4 6 ?_
 refine J.p fun K5 hK5 => J.a0 rfl (fun h6 => ?_) (fun h6 => ?_)
 ·
  have hps : p < s.length := h6
  have hnp := qC8 hps
  have hdl := qKH s p hps
  have hdr := qE2 s p (by omega)
  have hdp := qDq s p (by omega)
  have hrl := qOn hps
  refine J.a1 hK5 <| J.G 2 4 ?_
  exact J.W <| J.M <| J.b rfl <| J.f ((qAU rfl rfl rfl (by first | omega | (simp only [List.length_append, List.length_cons, List.length_nil, List.length_take, List.length_drop] at *; omega))).nat (n + 1) (by omega)) rfl <| J.b rfl <| J.a6 <| J.a5 <| J.A <| J.a8 (qFV s p, n + 1) (fun η (hη : _ ∧ s.length - η.1 < s.length - p) => hI0 η hη.1 hη.2) ⟨⟨by dsimp only; omega, by dsimp only; omega, by rw [← he, hrl, List.length_cons]; dsimp only; omega⟩, by first | omega | (dsimp only; omega)⟩ ⟨rfl, rfl, trivial⟩ (fun _ h => h)
 refine J.b5 <| J.a4 <| J.a4 <| J.b7 ?_
 refine J.A (J.L hK2 ?_)
 refine J.u 2 ?_
 refine J.g fun K6 hK6 => J.j 2 rfl <| J.c hK6 <| J.u 2 ?_
 exact J.D <| J.H hw0 rfl () (by rw [← he, List.drop_of_length_le (by omega), qHq]; rfl) trivial [0] rfl (by decide)
theorem qOh (F : Hp) (hT : qCP F) (s : List UInt8) (hs : s.length ≤ 1000000) : Ct prog 172 [Str (s)] [F] (fun _ : Unit => .tuple #[I ((if vld s = true then (rl s).length else 0 : Nat) : Int), .bool (vld s)]) (fun _ => True) (fun _ => [F]) := by
 refine Ct.walk func172 rfl ntmps172 rfl (fun w0 hw0 => ?_)
 change J _ [(0, _)] _ _ _
 refine J.g fun K1 hK1 => J.j 2 rfl <| J.c hK1 <| J.u 0 ?_
 refine J.p fun K2 hK2 => J.g fun K3 hK3 => J.b rfl <| J.q (qAC rfl rfl ent201 (Ct.use0 (fun F' hF => qOM F' (hT.mono (hF F (by simp))) s (by omega)))) rfl fun g5 _ => J.f (qA3 rfl rfl) rfl <| J.c hK3 <| J.G 0 6 ?_
 refine J.d1 rfl (fun h6 => ?_) (fun h6 => ?_)
 ·
  refine J.g fun K4 hK4 => J.j 2 rfl <| J.c hK4 <| J.G 2 3 ?_
  exact J.D <| J.Z <| J.b8 hw0 (fun _ _ h => h) (qCx rfl rfl rfl) (qA6 () (by rw [show vld s = false by simpa using h6]; rfl) trivial [0] rfl (by decide))
 refine J.a1 hK2 <| J.u 0 ?_
 refine J.g fun K5 hK5 => J.b rfl <| J.q (qAC rfl rfl ent202 (Ct.use0 (fun F' hF => qMY F' s (by omega)))) rfl fun g8 _ => J.j 2 rfl <| J.c hK5 <| J.G 2 3 ?_
 exact J.D <| J.b8 hw0 (fun _ _ h => h) (qCx rfl rfl rfl) (qA6 () (by rw [show vld s = true by simpa using h6]; rfl) trivial [0] rfl (by decide))
theorem qRf (F : Hp) (r : Nat) (hr : Rn r) : Ct prog 210 [.int .i32 ((r : Nat) : Int)] [F] (fun _ : Unit => I (((enc r).length : Nat) : Int)) (fun _ => True) (fun _ => [F]) := by
 obtain ⟨hr1, hr2⟩ := hr
 refine Ct.walk func210 rfl ntmps210 rfl (fun w0 hw0 => ?_)
 change J _ [(0, _)] _ _ _
 refine J.g fun K1 hK1 => J.b rfl <| J.c hK1 <| J.u 0 ?_
 refine J.p fun K2 hK2 => J.W <| J.g fun K3 hK3 => J.b rfl <| J.f (qAX rfl rfl rfl) rfl <| J.b rfl <| J.c hK3 <| J.G 0 3 ?_
 refine J.a0 rfl (fun h3 => ?_) (fun h3 => ?_)
 ·
  refine J.g fun K4 hK4 => J.b rfl <| J.c hK4 <| J.u 2 ?_
  exact J.D <| J.a9 <| J.Z <| J.H hw0 rfl () (by exfalso; omega) trivial [0] rfl (by decide)
 refine J.g fun K5 hK5 => J.b rfl <| J.f (qB1 rfl rfl rfl) rfl <| J.b rfl <| J.c hK5 <| J.G 0 6 ?_
 refine J.a0 rfl (fun h6 => ?_) (fun h6 => ?_)
 ·
  refine J.g fun K6 hK6 => J.b rfl <| J.c hK6 <| J.u 2 ?_
  exact J.D <| J.a9 <| J.Z <| J.H hw0 rfl () (by rw [qB9 (by omega)]; rfl) trivial [0] rfl (by decide)
 refine J.g fun K7 hK7 => J.b rfl <| J.f (qB1 rfl rfl rfl) rfl <| J.b rfl <| J.c hK7 <| J.G 0 9 ?_
 refine J.a0 rfl (fun h9 => ?_) (fun h9 => ?_)
 ·
  refine J.g fun K8 hK8 => J.b rfl <| J.c hK8 <| J.u 2 ?_
  exact J.D <| J.a9 <| J.Z <| J.H hw0 rfl () (by unfold enc; rw [if_neg (by omega), if_pos (by omega)]; rfl) trivial [0] rfl (by decide)
 refine J.g fun K9 hK9 => J.b rfl <| J.f (qB1 rfl rfl rfl) rfl <| J.b rfl <| J.c2 (d := 15) rfl (fun h15 => ?_) (fun h15 => ?_)
 ·
  refine J.b rfl <| J.E (qB1 rfl rfl rfl) rfl <| J.j 2 rfl <| J.c hK9 <| J.G 0 12 ?_
  refine J.a0 rfl (fun h12 => ?_) (fun h12 => ?_)
  ·
   refine J.g fun K10 hK10 => J.b rfl <| J.c hK10 <| J.u 2 ?_
   exact J.D <| J.a9 <| J.Z <| J.H hw0 rfl () (by exfalso; omega) trivial [0] rfl (by decide)
  refine J.g fun K11 hK11 => J.b rfl <| J.f (qB1 rfl rfl rfl) rfl <| J.b rfl <| J.c hK11 <| J.G 0 19 ?_
  refine J.a0 rfl (fun h19 => ?_) (fun h19 => ?_)
  ·
   refine J.g fun K12 hK12 => J.b rfl <| J.c hK12 <| J.u 2 ?_
   exact J.D <| J.a9 <| J.Z <| J.H hw0 rfl () (by unfold enc; rw [if_neg (by omega), if_neg (by omega), if_pos (by omega)]; rfl) trivial [0] rfl (by decide)
  refine J.g fun K13 hK13 => J.b rfl <| J.f (qB1 rfl rfl rfl) rfl <| J.b rfl <| J.c hK13 <| J.u 22 ?_
  refine J.a0 rfl (fun h22 => ?_) (fun h22 => ?_)
  ·
   refine J.g fun K14 hK14 => J.b rfl <| J.c hK14 <| J.u 2 ?_
   exact J.D <| J.a9 <| J.Z <| J.H hw0 rfl () (by unfold enc; rw [if_neg (by omega), if_neg (by omega), if_neg (by omega)]; rfl) trivial [0] rfl (by decide)
  refine J.b9 <| J.a5 <| J.A (J.L hK2 ?_)
  refine J.c7 [] trivial <| J.g fun K15 hK15 => J.b rfl <| J.c hK15 <| J.u 2 ?_
  exact J.D <| J.H hw0 rfl () (by exfalso; omega) trivial [0] rfl (by decide)
 refine J.j 4 rfl <| J.c hK9 <| J.G 0 12 ?_
 refine J.b2 ?_
 refine J.g fun K16 hK16 => J.b rfl <| J.f (qB1 rfl rfl rfl) rfl <| J.b rfl <| J.c hK16 <| J.G 0 19 ?_
 refine J.a0 rfl (fun h19 => ?_) (fun h19 => ?_)
 ·
  refine J.g fun K17 hK17 => J.b rfl <| J.c hK17 <| J.u 2 ?_
  exact J.D <| J.a9 <| J.Z <| J.H hw0 rfl () (by unfold enc; rw [if_neg (by omega), if_neg (by omega), if_pos (by omega)]; rfl) trivial [0] rfl (by decide)
 refine J.g fun K18 hK18 => J.b rfl <| J.f (qB1 rfl rfl rfl) rfl <| J.b rfl <| J.c hK18 <| J.u 22 ?_
 refine J.a0 rfl (fun h22 => ?_) (fun h22 => ?_)
 ·
  refine J.g fun K19 hK19 => J.b rfl <| J.c hK19 <| J.u 2 ?_
  exact J.D <| J.a9 <| J.Z <| J.H hw0 rfl () (by unfold enc; rw [if_neg (by omega), if_neg (by omega), if_neg (by omega)]; rfl) trivial [0] rfl (by decide)
 refine J.b9 <| J.a5 <| J.A (J.L hK2 ?_)
 refine J.c7 [] trivial <| J.g fun K20 hK20 => J.b rfl <| J.c hK20 <| J.u 2 ?_
 exact J.D <| J.H hw0 rfl () (by exfalso; omega) trivial [0] rfl (by decide)
theorem qOv (F : Hp) (hT : qCP F) (s : List UInt8) (hs : s.length ≤ 1000000) : Ct prog 205 [Str (s)] [F] (fun x : Option Addr × Nat × Hp => .slice x.1 (spl [] s).length x.2.1) (fun x => Row x.2.2 9 1 x.1 (spl [] s).length x.2.1 (qAJ (spl [] s))) (fun x => [F, x.2.2]) := by
 refine Ct.walk func205 rfl ntmps205 rfl (fun w0 hw0 => ?_)
 change J _ [(0, _)] _ _ _
 refine J.g fun K1 hK1 => J.b rfl <| J.c hK1 <| J.u 0 ?_
 refine J.g fun K2 hK2 => J.q (qAH (l := [.const ((Value.string (ByteArray.mk #[])))]) (xs := [[Str ([])]]) rfl rfl rfl rfl qAo el9 rfl (by decide) (by decide) (by simp)) rfl fun g7 _ => ?_
 change J _ _ _ [F, blk g7 [Str ([])] 9] _
 refine J.b rfl <| J.c hK2 <| J.G 0 3 ?_
 refine J.p fun K3 hK3 => J.g fun K4 hK4 => J.b rfl <| J.q (qD8 rfl rfl u9_) rfl ?_
 rintro g9 _
 change J _ _ _ [_, _, itr g9 s 0] _
 refine J.c hK4 <| J.O 0 3 9 ?_
 refine J.W <| J.b6 (X := Nat × List (List UInt8) × List UInt8 × Nat × Option Addr × Nat × Hp) (fun ζ => [(0, Str (s)), (3, .slice ζ.2.2.2.2.1 ζ.2.2.2.1 ζ.2.2.2.2.2.1), (9, Ptr g9)]) (fun ζ => [F, ζ.2.2.2.2.2.2, itr g9 s ζ.1]) (fun ζ => ζ.1 ≤ s.length ∧ ζ.2.2.2.1 = ζ.2.1.length + 1 ∧ ζ.2.1.length ≤ ζ.1 ∧ ζ.2.2.1.length ≤ ζ.1 ∧ Row ζ.2.2.2.2.2.2 9 1 ζ.2.2.2.2.1 ζ.2.2.2.1 ζ.2.2.2.2.2.1 (qAJ (ζ.2.1 ++ [ζ.2.2.1])) ∧ ζ.2.1 ++ spl ζ.2.2.1 (s.drop ζ.1) = spl [] s) (fun ζ => s.length - ζ.1) (0, [], [], 1, _, _, _) (⟨by omega, rfl, by simp, by simp, qBG (qAJ [[]]) rfl (by simp [qAJ]) rfl, rfl⟩) ⟨rfl, rfl, rfl, trivial⟩ (fun _ h => h) ?_
 rintro ⟨p, ds, cur, n, A, c, m⟩ ⟨hp, hn, hd, hc, hr, he⟩ I0 hI0
 dsimp only at hp hn hd hc hr he ⊢
 obtain ⟨ga, rfl⟩ := hr.at (by omega)
 have hlen := congrArg List.length he
 refine J.g fun K5 hK5 => J.q (qEw (i := 2) rfl rfl rfl) rfl ?_
 rintro _ _
 change J _ _ _ [F, m, itr g9 s (qFV s p)] _
 refine J.f (qAm (v := .bool (decide (p < s.length))) rfl rfl (qPA _ _)) rfl <| J.c hK5 <| J.a3 0 3 9 10 11 ?_
 refine J.p fun K6 hK6 => J.a0 rfl (fun h11 => ?_) (fun h11 => ?_)
 ·
  have hps : p < s.length := h11
  have hnp := qC8 hps
  have hdl := qKH s p hps
  have hdr := qE2 s p (by omega)
  have hdp := qDq s p (by omega)
  have hrl := qOn hps
  have hdn := qFe hps
  have hdd := qDP (s := s) (pos := p) (by omega)
  refine J.a1 hK6 <| J.T 0 3 9 10 ?_
  refine J.W <| J.g fun K7 hK7 => J.f (qAm (v := I ((p : Nat) : Int)) rfl rfl (nxt_1 hps)) rfl <| J.f (qAm (v := .int .i32 (((dec s p).1 : Nat) : Int)) rfl rfl (qR6 hps)) rfl <| J.j 2 rfl <| J.c hK7 <| J.a3 0 3 4 5 9 ?_
  refine J.g fun K8 hK8 => J.b rfl <| J.q (qAC rfl rfl ent210 (Ct.use0 (fun F' hF => qRf F' ((dec s p).1) (qT2 hps)))) rfl fun g15 _ => J.b rfl <| J.c hK8 <| J.b1 0 3 4 5 6 9 ?_
  refine J.e5 (X := Unit) (fun ζ => [(0, Str (s)), (3, .slice (some ⟨ga, 0, none⟩) n c), (4, I ((p : Nat) : Int)), (5, .int .i32 (((dec s p).1 : Nat) : Int)), (6, I (((dec s p).2 : Nat) : Int)), (9, Ptr g9)]) (fun ζ => [F, m, itr g9 s (qFV s p)]) (fun ζ => True) (fun K9 hK9 => ?_) ?_
  ·
   refine J.g fun K10 hK10 => J.b rfl <| J.f (qAa rfl rfl rfl) rfl <| J.c hK10 <| J.c3 0 3 4 5 6 9 17 ?_
   refine J.a0 rfl (fun h17 => ?_) (fun h17 => ?_)
   ·
    exact J.M <| J.j 2 rfl <| J.f ((qC6 (a := s) (l := p) (h := s.length) u9_ rfl rfl rfl rfl ⟨by first | omega | (simp only [List.length_append, List.length_cons, List.length_nil, List.length_take, List.length_drop] at *; omega), by first | omega | (simp only [List.length_append, List.length_cons, List.length_nil, List.length_take, List.length_drop] at *; omega)⟩).as (v' := Str (s.drop p)) (by rw [List.take_length])) rfl <| J.q (qAC rfl rfl ent209 (Ct.use0 (fun F' hF => qNf F' (hT.mono (hF F (by simp))) (s.drop p) (by assumption)))) rfl fun g22 _ => J.j 4 rfl <| J.a6 <| J.A <| J.a8 () hK9 (trivial) ⟨rfl, rfl, rfl, rfl, (by show some (I (((dec (s.drop p) 0).2 : Nat) : Int)) = _; rw [← hdd]), rfl, trivial⟩ (fun _ h => h)
   exact J.b9 <| J.A <| J.a8 () hK9 (trivial) ⟨rfl, rfl, rfl, rfl, (by show some (I (((enc (dec s p).1).length : Nat) : Int)) = _; rw [qSb hps (by omega)]), rfl, trivial⟩ (fun _ h => h)
  rintro _ _
  refine J.g fun K11 hK11 => J.b rfl <| J.q (qAC rfl rfl ent204 (Ct.use0 (fun F' hF => qMJ F' ((dec s p).1)))) rfl fun g26 _ => J.c hK11 <| J.b1 0 3 4 6 9 26 ?_
  refine J.d1 rfl (fun h26 => ?_) (fun h26 => ?_)
  ·
   refine J.M <| J.b rfl <| J.q (qAH (l := [.const ((Value.string (ByteArray.mk #[])))]) (xs := [[Str ([])]]) rfl rfl rfl rfl qAo el9 rfl (by decide) (by decide) (by simp)) rfl fun g28 _ => ?_
   change J _ _ _ [F, m, itr g9 s (qFV s p), blk g28 [Str ([])] 9] _
   refine J.q (qAY (i := 1) (xs := qAJ (ds ++ [cur])) (m2 := blk g28 [Str ([])] 9) (ys := [[Str ([])]]) rfl rfl rfl qAo qAo el9 rfl hr (by simp) ((qBG (q := True) (qAJ [[]]) rfl (by simp [qAJ]) rfl).sl) rfl (by first | omega | (simp only [List.length_append, List.length_cons, List.length_nil, List.length_take, List.length_drop] at *; omega)) (by first | omega | (simp only [List.length_append, List.length_cons, List.length_nil, List.length_take, List.length_drop] at *; omega))) rfl ?_
   rintro ⟨A29, c29, m29⟩ h29
   try dsimp only at h29
   change J _ ((29, .slice A29 (n + 1) c29) :: _) _ [_, m29, _, _] _
   rw [← qDI] at h29
   exact J.b rfl <| J.a6 <| J.a5 <| J.A <| J.a8 (qFV s p, ds ++ [cur], [], n + 1, A29, c29, m29) (fun η (hη : _ ∧ s.length - η.1 < s.length - p) => hI0 η hη.1 hη.2) ⟨⟨by dsimp only; omega, by simp; omega, by simp; omega, by simp, h29, by rw [← he, qOW hps _ h26, List.append_assoc]; rfl⟩, by first | omega | (dsimp only; omega)⟩ ⟨rfl, rfl, rfl, trivial⟩ (fun _ h => h.pick [0, 1, 2] (by decide))
  refine J.c0 [F, m, itr g9 s (qFV s p)] [14] (.y 0 (.y 1 (.y 2 (.y 3 (.y 4 (.y 5 (.y 6 (.y 7 (.y 8 (.y 9 (.y 10 (.y 11 (.y 12 (.y 13 (.e 14 .nil))))))))))))))) Tryz.wide (by decide +kernel) (by simp) ?_
  refine J.V ?_
  refine J.V ?_
  refine J.k rfl (qAh qAo rfl rfl) rfl rfl <| J.k rfl ((qBI rfl rfl rfl (by omega)).nat (n - 1) (by omega)) rfl rfl <| J.k rfl (qAV (i := n - 1) (j := 0 + (n - 1) * 1) rfl rfl rfl qAo z9_ (by first | omega | (simp only [List.length_append, List.length_cons, List.length_nil, List.length_take, List.length_drop] at *; omega)) (by omega)) rfl rfl <| J.k rfl (qAQ rfl rfl b9_ (m := m) (by simp) (hr.sl.cells (qAZ (qAl [] (by first | omega | (simp only [List.length_append, List.length_cons, List.length_nil, List.length_take, List.length_drop] at *; omega)))))) rfl rfl <| J.V ?_
  iterate 3 refine J.V ?_
  refine J.k rfl ((qAU rfl rfl rfl (by first | omega | (simp only [List.length_append, List.length_cons, List.length_nil, List.length_take, List.length_drop] at *; omega))).as (v' := I ((p + ((dec s p).2) : Nat) : Int)) (congrArg I (by omega))) rfl rfl <| J.k rfl (qC6 (a := s) (l := p) (h := (p + ((dec s p).2))) u9_ rfl rfl rfl rfl ⟨by first | omega | (simp only [List.length_append, List.length_cons, List.length_nil, List.length_take, List.length_drop] at *; omega), by first | omega | (simp only [List.length_append, List.length_cons, List.length_nil, List.length_take, List.length_drop] at *; omega)⟩) rfl rfl ?_
  have hgl : ((ds ++ [cur]).getD (n - 1) []).length ≤ p := by rw [show n - 1 = ds.length by omega, qPb]; exact hc
  refine J.k rfl (qCj (a := (ds ++ [cur]).getD (n - 1) []) (b := (s.take (p + ((dec s p).2))).drop p) rfl rfl rfl (by first | omega | (simp only [List.length_append, List.length_cons, List.length_nil, List.length_take, List.length_drop] at *; omega))) rfl rfl <| J.k rfl (qAV (i := n - 1) (j := 0 + (n - 1) * 1) rfl rfl rfl qAo z9_ (by first | omega | (simp only [List.length_append, List.length_cons, List.length_nil, List.length_take, List.length_drop] at *; omega)) (by omega)) rfl rfl <| J.c8 rfl (qAu (i := 1) (k := n - 1) (off := 0) (b := [Str (((ds ++ [cur]).getD (n - 1) []) ++ ((s.take (p + ((dec s p).2))).drop p))]) rfl rfl rfl rfl hr (vs := [Str (((ds ++ [cur]).getD (n - 1) []) ++ ((s.take (p + ((dec s p).2))).drop p))]) rfl z9_ rfl (by omega) (qAZ (qAl [] (by first | omega | (simp only [List.length_append, List.length_cons, List.length_nil, List.length_take, List.length_drop] at *; omega)))) rfl (Nat.le_refl _)) rfl rfl rfl ?_
  rintro m10_1 hm10_1
  change J _ _ _ [F, m10_1, itr g9 s (qFV s p)] _
  rw [qFB] at hm10_1
  exact J.b3 <| J.a5 <| J.A <| J.a8 (qFV s p, ds, cur ++ (s.take (p + (dec s p).2)).drop p, n, some ⟨ga, 0, none⟩, c, m10_1) (fun η (hη : _ ∧ s.length - η.1 < s.length - p) => hI0 η hη.1 hη.2) ⟨⟨by dsimp only; omega, by simp; omega, by dsimp only; omega, by simp; omega, by rw [qPZ _ _ _ (by omega)] at hm10_1; exact hm10_1, by rw [← he, qFu hps _ h26]⟩, by first | omega | (dsimp only; omega)⟩ ⟨rfl, rfl, rfl, trivial⟩ (fun _ h => h)
 refine J.b5 <| J.a4 <| J.a4 <| J.b7 ?_
 refine J.A (J.L hK3 ?_)
 refine J.u 3 ?_
 refine J.g fun K12 hK12 => J.j 2 rfl <| J.c hK12 <| J.u 2 ?_
 refine J.D ?_
 have he2 : ds ++ [cur] = spl [] s := by rw [← he, List.drop_of_length_le (by omega)]; rfl
 have hn2 : n = (spl [] s).length := by rw [← he2]; simp; omega
 rw [he2, hn2] at hr
 exact J.H hw0 rfl (some ⟨ga, 0, none⟩, c, m) (by rw [hn2]) hr [0, 1] rfl (by decide)
theorem qO8 : ∀ b : Nat, b < 8 → IntKind.i64.wrap (((BitVec.ofInt 64 (b : Int)) &&& BitVec.ofInt 64 ((b : Int) - 1)).toNat : Int) = ((b &&& (b - 1) : Nat) : Int) := by decide
theorem qTb (F : Hp) (b : Nat) (hb : b < 8) : Ct prog 206 [I ((b : Nat) : Int)] [F] (fun _ : Unit => .bool (good b)) (fun _ => True) (fun _ => [F]) := by
 refine Ct.walk func206 rfl ntmps206 rfl (fun w0 hw0 => ?_)
 change J _ [(0, _)] _ _ _
 refine J.g fun K1 hK1 => J.b rfl <| J.c hK1 <| J.u 0 ?_
 refine J.g fun K2 hK2 => J.j 2 rfl <| J.f (qBI rfl rfl rfl (by omega)) rfl <| J.f (qR0 rfl rfl rfl (qO8 b hb)) rfl <| J.f (qAa rfl rfl rfl) rfl <| J.b rfl <| J.c hK2 <| J.u 2 ?_
 exact J.D <| J.H hw0 rfl () (congrArg Value.bool (Bool.eq_iff_iff.2 (by rw [decide_eq_true_eq, ← qO7 b hb]; exact Int.natCast_eq_zero))) trivial [0] rfl (by decide)
end Go.Proofs.YtfldiegfenndjaaGreatDoor
