/- A part of the proof. -/
import Derived.Test.YtfldiegfenndjaaGreatDoorTopCcG25
import Derived.Shelf.Strings.Count
import Derived.Test.YtfldiegfenndjaaGreatDoorTopCcG8
import Derived.Test.YtfldiegfenndjaaGreatDoorTopCcG9
set_option linter.unusedSimpArgs false
set_option linter.unusedVariables false
namespace Go.Proofs.YtfldiegfenndjaaGreatDoor
open Go Go.Fw Go.Proofs.Tryz
set_option maxRecDepth 100000
set_option maxHeartbeats 1000000
open Go.Shelf Go.RowKit
def Tryz.lays138_ren : Go.Shelf.Ren := ⟨fun | 138 => 208 | 195 => 202 | 218 => 227 | 143 => 228 | 219 => 244 | 217 => 253 | 225 => 254 | 224 => 255 | 267 => 256 | 266 => 258 | 314 => 259 | n => n, fun | 9 => 9 | 3 => 3 | 4 => 4 | 5 => 5 | 0 => 0 | 46 => 94 | 146 => 261 | 51 => 246 | n => n, fun | 1 => 2 | n => n⟩
theorem Tryz.lays138 : Go.Proofs.Lays.n138 prog Tryz.lays138_ren := {
 mixed := by kernel_rfl
 f138 := func208.trans (congrArg some (by kernel_rfl))
 f143 := func228.trans (congrArg some (by kernel_rfl))
 f195 := func202.trans (congrArg some (by kernel_rfl))
 f217 := func253.trans (congrArg some (by kernel_rfl))
 f218 := func227.trans (congrArg some (by kernel_rfl))
 f219 := func244.trans (congrArg some (by kernel_rfl))
 f224 := func255.trans (congrArg some (by kernel_rfl))
 f225 := func254.trans (congrArg some (by kernel_rfl))
 f266 := func258.trans (congrArg some (by kernel_rfl))
 f267 := func256.trans (congrArg some (by kernel_rfl))
 f314 := func259.trans (congrArg some (by kernel_rfl))
 t0 := u0_
 a0 := isAgg0
 z0 := sizeOf0
 v0 := e0_
 t3 := u3_
 a3 := b3_
 z3 := z3_
 v3 := e3_
 t4 := u4_
 a4 := b4_
 z4 := z4_
 v4 := e4_
 t5 := u5_
 a5 := b5_
 z5 := z5_
 v5 := e5_
 t9 := u9_
 a9 := b9_
 z9 := z9_
 v9 := e9_
 t46 := qTO
 a46 := isAgg94
 z46 := sizeOf94
 v46 := qUJ
 t51 := qHh
 a51 := qCo
 z51 := qBz
 v51 := zeroValue246
 t146 := underlying261
 a146 := isAgg261
 z146 := sizeOf261
 v146 := zeroValue261
 g1 := by kernel_rfl }
theorem Ct.ofSame {P : Program} {f : FuncId} {vs : List Value} {F : Hp} {v : Value} (h : ∀ w, Le F (hp w) → Calls P f vs.toArray w fun e w' => e = .returned v ∧ w' = w) :
    Ct P f vs [F] (fun _ : Unit => v) (fun _ => True) (fun _ => [F]) := Ct.ofBelow fun w hw => (h w hw).mono fun _ _ ⟨he, hs⟩ => ⟨he, hs ▸ Below.refl _ _⟩
theorem qMg (F : Hp) (s : List UInt8) (hs : s.length ≤ 1000000) : Ct prog 208 [Str s, Str [64]] [F] (fun _ : Unit => I ((s.count 64 : Nat) : Int)) (fun _ => True) (fun _ => [F]) := Ct.ofSame fun w hw =>
 Any.strings_Count_one Tryz.lays138 ⟨s.toArray⟩ 64 w
end Go.Proofs.YtfldiegfenndjaaGreatDoor
namespace Go.Proofs.YtfldiegfenndjaaGreatDoor
open Go Go.Fw Go.Proofs.Tryz
set_option maxRecDepth 100000
set_option maxHeartbeats 1000000
theorem ent175 : qAC prog 175 := qAC.of func175 rfl (by kernel_rfl)
theorem ent201 : qAC prog 201 := qAC.of func201 rfl (by kernel_rfl)
theorem ent202 : qAC prog 202 := qAC.of func202 rfl (by kernel_rfl)
theorem ent203 : qAC prog 203 := qAC.of func203 rfl (by kernel_rfl)
theorem ent204 : qAC prog 204 := qAC.of func204 rfl (by kernel_rfl)
theorem ent209 : qAC prog 209 := qAC.of func209 rfl (by kernel_rfl)
theorem ent210 : qAC prog 210 := qAC.of func210 rfl (by kernel_rfl)
theorem ent213 : qAC prog 213 := qAC.of func213 rfl (by kernel_rfl)
def qBr : List Value := [I 1, R32 97, R32 122, I 2, R32 945, R32 969, I 4, R32 1072, R32 1103]
def qJL (k : Nat) : Nat := if k = 0 then 1 else if k = 1 then 2 else 4
def qEv (k : Nat) : Nat := if k = 0 then 97 else if k = 1 then 945 else 1072
def qEs (k : Nat) : Nat := if k = 0 then 122 else if k = 1 then 969 else 1103
theorem qIT {k : Nat} (h : k < 3) : Value.agg (qBr.toArray.extract (k * 3) (k * 3 + 3)) = .agg [I (qJL k : Nat), R32 (qEv k), R32 (qEs k)].toArray := by
 match k, h with
 | 0, _ => rfl
 | 1, _ => rfl
 | 2, _ => rfl
def qLy (k r : Nat) : Bool := decide (qEv k ≤ r ∧ r ≤ qEs k)
def qQO (k r : Nat) : Bool := qLy k (r + 32) && !qLy k r && decide (r ≠ 930)
theorem qOv {k r : Nat} (hk : k < 3) (h : qQO k r = true) : small r = r + 32 := by
 unfold qQO qLy at h
 unfold small
 match k, hk with
 | 0, _ => simp [qEv, qEs] at h; rw [if_pos (by omega)]
 | 1, _ => simp [qEv, qEs] at h; rw [if_pos (by omega)]
 | 2, _ => simp [qEv, qEs] at h; rw [if_pos (by omega)]
theorem qOw {r : Nat} (h : ∀ k < 3, qQO k r = false) : small r = r := by
 have h0 := h 0 (by decide)
 have h1 := h 1 (by decide)
 have h2 := h 2 (by decide)
 simp [qQO, qLy, qEv, qEs] at h0 h1 h2
 unfold small
 rw [if_neg (by omega)]
theorem qSi {k r : Nat} (hk : k < 3) (h : qLy k (small r) = true) : qHX r = qJL k := by
 unfold qLy at h
 unfold qHX
 match k, hk with
 | 0, _ => simp [qEv, qEs] at h; rw [if_pos (by omega)]; rfl
 | 1, _ => simp [qEv, qEs] at h; rw [if_neg (by omega), if_pos (by omega)]; rfl
 | 2, _ => simp [qEv, qEs] at h; rw [if_neg (by omega), if_neg (by omega), if_pos (by omega)]; rfl
theorem qSj {r : Nat} (h : ∀ k < 3, qLy k (small r) = false) : qHX r = 0 := by
 have h0 := h 0 (by decide)
 have h1 := h 1 (by decide)
 have h2 := h 2 (by decide)
 simp [qLy, qEv, qEs] at h0 h1 h2
 unfold qHX
 rw [if_neg (by omega), if_neg (by omega), if_neg (by omega)]
theorem qNf (F : Hp) (k r : Nat) : Ct prog 213 [.agg #[I (qJL k : Nat), R32 (qEv k), R32 (qEs k)], .int .i32 ((r : Nat) : Int)] [F] (fun _ : Unit => .bool (qLy k r)) (fun _ => True) (fun _ => [F]) := by
 refine Ct.walk func213 rfl ntmps213 rfl (fun w0 hw0 => ?_)
 change J _ [(0, _), (1, _)] _ _ _
 refine J.g fun K1 hK1 => J.u (qAl (l := [I (qJL k : Nat), R32 (qEv k), R32 (qEs k)]) rfl rfl rfl) rfl fun g2 _ => ?_
 change J _ _ _ [F, blk g2 [I (qJL k : Nat), R32 (qEv k), R32 (qEs k)] 321] _
 refine J.b rfl <| J.c hK1 <| J.M 1 2 ?_
 refine J.g fun K2 hK2 => J.b rfl <| J.a8 1 qMK sizeOf21 rfl rfl rfl rfl rfl <| J.f (qAF 1 (v := R32 (qEv k)) rfl rfl rfl isAgg21 rfl) rfl <| J.f (qBG rfl rfl rfl) rfl <| J.b rfl <| J.c3 (d := 9) rfl (fun h9 => ?_) (fun h9 => ?_)
 ·
  refine J.b rfl <| J.O (qAA (j := 2) rfl rfl qMK rfl sizeOf21 rfl) rfl <| J.O (qAF 1 (v := R32 (qEs k)) rfl rfl rfl isAgg21 rfl) rfl <| J.O (qB4 rfl rfl rfl) rfl <| J.p 2 rfl <| J.c hK2 <| J.A 4 ?_
  exact J.D <| J.L hw0 rfl () (by unfold qLy; exact congrArg Value.bool (decide_eq_decide.2 (by omega))) trivial [0] rfl (by decide)
 refine J.p 6 rfl <| J.c hK2 <| J.A 4 ?_
 exact J.D <| J.L hw0 rfl () (by unfold qLy; rw [decide_eq_false (by omega : ¬ (qEv k ≤ r ∧ r ≤ qEs k))]) trivial [0] rfl (by decide)
theorem qJe (F : Hp) (hA : qAV F ⟨1, 0, none⟩ qBr) (r : Nat) (hr : r ≤ 1073741824) : Ct prog 175 [.int .i32 ((r : Nat) : Int)] [F] (fun _ : Unit => .int .i32 ((small r : Nat) : Int)) (fun _ => True) (fun _ => [F]) := by
 refine Ct.walk func175 rfl ntmps175 rfl (fun w0 hw0 => ?_)
 change J _ [(0, _)] _ _ _
 refine J.g fun K1 hK1 => J.b rfl <| J.c hK1 <| J.A 0 ?_
 refine J.k fun K2 hK2 => J.g fun K3 hK3 => J.f (qFU 0 rfl rfl isAgg322 sizeOf322 rfl hA rfl) rfl <| J.b rfl <| J.c hK3 <| J.V 0 5 6 ?_
 refine J.T <| J.b2 (X := Nat) (fun ζ => [(0, .int .i32 ((r : Nat) : Int)), (5, .agg qBr.toArray), (6, I ((ζ : Nat) : Int))]) (fun ζ => [F]) (fun ζ => ζ ≤ 3 ∧ ∀ j < ζ, qQO j r = false) (fun ζ => 3 - ζ) 0 (⟨by omega, fun j h => absurd h (Nat.not_lt_zero j)⟩) ⟨rfl, rfl, rfl, trivial⟩ (fun _ h => h) ?_
 rintro k ⟨hk, hn⟩ I0 hI0
 refine J.g fun K4 hK4 => J.f (qAS rfl rfl rfl) rfl <| J.c hK4 <| J.W 0 5 6 7 ?_
 refine J.k fun K5 hK5 => J.a0 rfl (fun h7 => ?_) (fun h7 => ?_)
 ·
  refine J.a1 hK5 <| J.V 0 5 6 ?_
  refine J.k fun K6 hK6 => J.T <| J.g fun K7 hK7 => J.f ((qH1 (i := k) rfl rfl rfl underlying322 sizeOf321 isAgg321 (by omega)).as (v' := .agg #[I (qJL k : Nat), R32 (qEv k), R32 (qEs k)]) (qIT (by omega))) rfl <| J.u (qAf (l := [I 0, .int .i32 0, .int .i32 0]) rfl zeroValue321 rfl) rfl fun g4 _ => ?_
  change J _ _ _ [F, blk g4 [I 0, .int .i32 0, .int .i32 0] 321] _
  refine J.c1 (qAR (i := 1) (l := [I 0, .int .i32 0, .int .i32 0]) (vs := [I (qJL k : Nat), R32 (qEv k), R32 (qEs k)]) rfl rfl rfl rfl rfl sizeOf321 rfl rfl) rfl rfl fun _ _ => ?_
  change J _ _ _ [_, blk g4 [I (qJL k : Nat), R32 (qEv k), R32 (qEs k)] 321] _
  refine J.c hK7 <| J.W 0 4 5 6 ?_
  refine J.g fun K8 hK8 => J.c7 1 isAgg321 sizeOf321 rfl rfl rfl rfl rfl <| J.b rfl <| J.f (qNJ rfl rfl rfl (by first | omega | (simp only [List.length_append, List.length_cons, List.length_nil, List.length_take, List.length_drop] at *; omega))) rfl <| J.u (qAB rfl rfl ent213 (Ct.use0 (fun F' hF => qNf F' k (r + 32)))) rfl fun g12 _ => J.b rfl <| J.f8 (d := 13) rfl (fun h13 => ?_) (fun h13 => ?_)
  ·
   refine J.O (qAk 1 rfl rfl rfl isAgg321 sizeOf321 rfl) rfl <| J.b rfl <| J.d7 (qAB rfl rfl ent213 (Ct.use0 (fun F' hF => qNf F' k (r)))) rfl fun g16 _ => J.O (qA2 rfl rfl) rfl <| J.p 2 rfl <| J.f8 (d := 19) rfl (fun h19 => ?_) (fun h19 => ?_)
   ·
    refine J.b rfl <| J.O (qAx rfl rfl rfl) rfl <| J.b rfl <| J.c hK8 <| J.W 0 5 6 22 ?_
    refine J.a0 rfl (fun h22 => ?_) (fun h22 => ?_)
    ·
     refine J.g fun K9 hK9 => J.b rfl <| J.f (qNJ rfl rfl rfl (by first | omega | (simp only [List.length_append, List.length_cons, List.length_nil, List.length_take, List.length_drop] at *; omega))) rfl <| J.b rfl <| J.c hK9 <| J.A 2 ?_
     exact J.D <| J.b3 <| J.a5 <| J.a5 <| J.b3 <| J.a5 <| J.L hw0 rfl () (by rw [qOv (k := k) (by omega) (by unfold qQO; simp [*]; omega)]) trivial [0] rfl (by decide)
    refine J.b7 <| J.a4 <| J.q (J.H hK6 ?_)
    refine J.V 0 5 6 ?_
    exact J.E <| J.f ((qAO rfl rfl rfl (by first | omega | (simp only [List.length_append, List.length_cons, List.length_nil, List.length_take, List.length_drop] at *; omega))).nat (k + 1) (by omega)) rfl <| J.b rfl <| J.a2 <| J.q <| J.a6 (k + 1) (fun η (hη : _ ∧ 3 - η < 3 - k) => hI0 η hη.1 hη.2) ⟨⟨by omega, fun j hj => by rcases Nat.lt_succ_iff_lt_or_eq.1 hj with h | rfl; exact hn j h; exact (by unfold qQO; simp [*]; try omega)⟩, by first | omega | (dsimp only; omega)⟩ ⟨rfl, rfl, rfl, trivial⟩ (fun _ h => h.pick [0] (by decide))
   refine J.p 3 rfl <| J.c hK8 <| J.W 0 5 6 22 ?_
   refine J.b6 ?_
   refine J.b7 <| J.a4 <| J.q (J.H hK6 ?_)
   refine J.V 0 5 6 ?_
   exact J.E <| J.f ((qAO rfl rfl rfl (by first | omega | (simp only [List.length_append, List.length_cons, List.length_nil, List.length_take, List.length_drop] at *; omega))).nat (k + 1) (by omega)) rfl <| J.b rfl <| J.a2 <| J.q <| J.a6 (k + 1) (fun η (hη : _ ∧ 3 - η < 3 - k) => hI0 η hη.1 hη.2) ⟨⟨by omega, fun j hj => by rcases Nat.lt_succ_iff_lt_or_eq.1 hj with h | rfl; exact hn j h; exact (by unfold qQO; simp [*]; try omega)⟩, by first | omega | (dsimp only; omega)⟩ ⟨rfl, rfl, rfl, trivial⟩ (fun _ h => h.pick [0] (by decide))
  refine J.p 9 rfl <| J.c hK8 <| J.W 0 5 6 22 ?_
  refine J.b6 ?_
  refine J.b7 <| J.a4 <| J.q (J.H hK6 ?_)
  refine J.V 0 5 6 ?_
  exact J.E <| J.f ((qAO rfl rfl rfl (by first | omega | (simp only [List.length_append, List.length_cons, List.length_nil, List.length_take, List.length_drop] at *; omega))).nat (k + 1) (by omega)) rfl <| J.b rfl <| J.a2 <| J.q <| J.a6 (k + 1) (fun η (hη : _ ∧ 3 - η < 3 - k) => hI0 η hη.1 hη.2) ⟨⟨by omega, fun j hj => by rcases Nat.lt_succ_iff_lt_or_eq.1 hj with h | rfl; exact hn j h; exact (by unfold qQO; simp [*]; try omega)⟩, by first | omega | (dsimp only; omega)⟩ ⟨rfl, rfl, rfl, trivial⟩ (fun _ h => h.pick [0] (by decide))
 refine J.b0 <| J.Z <| J.Z <| J.b1 ?_
 refine J.q (J.H hK2 ?_)
 refine J.A 0 ?_
 refine J.g fun K10 hK10 => J.p 2 rfl <| J.c hK10 <| J.A 2 ?_
 exact J.D <| J.L hw0 rfl () (by rw [qOw (fun j hj => hn j (by omega))]) trivial [0] rfl (by decide)
theorem qIA (F : Hp) (hA : qAV F ⟨1, 0, none⟩ qBr) (r : Nat) (hr : r ≤ 1073741824) : Ct prog 203 [.int .i32 ((r : Nat) : Int)] [F] (fun _ : Unit => I ((qHX r : Nat) : Int)) (fun _ => True) (fun _ => [F]) := by
 refine Ct.walk func203 rfl ntmps203 rfl (fun w0 hw0 => ?_)
 change J _ [(0, _)] _ _ _
 refine J.g fun K1 hK1 => J.b rfl <| J.c hK1 <| J.A 0 ?_
 refine J.g fun K2 hK2 => J.b rfl <| J.u (qAB rfl rfl ent175 (Ct.use0 (fun F' hF => qJe F' (hA.mono (hF F (by simp))) r (by omega)))) rfl fun g6 _ => J.b rfl <| J.c hK2 <| J.A 0 ?_
 refine J.k fun K3 hK3 => J.g fun K4 hK4 => J.f (qFU 0 rfl rfl isAgg322 sizeOf322 rfl hA rfl) rfl <| J.b rfl <| J.c hK4 <| J.V 0 7 8 ?_
 refine J.T <| J.b2 (X := Nat) (fun ζ => [(0, .int .i32 ((small r : Nat) : Int)), (7, .agg qBr.toArray), (8, I ((ζ : Nat) : Int))]) (fun ζ => [F]) (fun ζ => ζ ≤ 3 ∧ ∀ j < ζ, qLy j (small r) = false) (fun ζ => 3 - ζ) 0 (⟨by omega, fun j h => absurd h (Nat.not_lt_zero j)⟩) ⟨rfl, rfl, rfl, trivial⟩ (fun _ h => h) ?_
 rintro k ⟨hk, hn⟩ I0 hI0
 refine J.g fun K5 hK5 => J.f (qAS rfl rfl rfl) rfl <| J.c hK5 <| J.W 0 7 8 9 ?_
 refine J.k fun K6 hK6 => J.a0 rfl (fun h9 => ?_) (fun h9 => ?_)
 ·
  refine J.a1 hK6 <| J.V 0 7 8 ?_
  refine J.k fun K7 hK7 => J.T <| J.g fun K8 hK8 => J.f ((qH1 (i := k) rfl rfl rfl underlying322 sizeOf321 isAgg321 (by omega)).as (v' := .agg #[I (qJL k : Nat), R32 (qEv k), R32 (qEs k)]) (qIT (by omega))) rfl <| J.u (qAf (l := [I 0, .int .i32 0, .int .i32 0]) rfl zeroValue321 rfl) rfl fun g4 _ => ?_
  change J _ _ _ [F, blk g4 [I 0, .int .i32 0, .int .i32 0] 321] _
  refine J.c1 (qAR (i := 1) (l := [I 0, .int .i32 0, .int .i32 0]) (vs := [I (qJL k : Nat), R32 (qEv k), R32 (qEs k)]) rfl rfl rfl rfl rfl sizeOf321 rfl rfl) rfl rfl fun _ _ => ?_
  change J _ _ _ [_, blk g4 [I (qJL k : Nat), R32 (qEv k), R32 (qEs k)] 321] _
  refine J.c hK8 <| J.W 0 4 7 8 ?_
  refine J.g fun K9 hK9 => J.c7 1 isAgg321 sizeOf321 rfl rfl rfl rfl rfl <| J.b rfl <| J.u (qAB rfl rfl ent213 (Ct.use0 (fun F' hF => qNf F' k (small r)))) rfl fun g13 _ => J.c hK9 <| J.a3 0 4 7 8 13 ?_
  refine J.d0 rfl (fun h13 => ?_) (fun h13 => ?_)
  ·
   refine J.g fun K10 hK10 => J.a8 0 qMK z3_ rfl rfl rfl rfl rfl <| J.f (qAF 1 (v := I (qJL k : Nat)) rfl rfl rfl b3_ rfl) rfl <| J.b rfl <| J.c hK10 <| J.A 2 ?_
   exact J.D <| J.b3 <| J.a5 <| J.a5 <| J.b3 <| J.a5 <| J.L hw0 rfl () (by rw [qSi (k := k) (by omega) (by assumption)]) trivial [0] rfl (by decide)
  refine J.b7 <| J.a4 <| J.q (J.H hK7 ?_)
  refine J.V 0 7 8 ?_
  exact J.E <| J.f ((qAO rfl rfl rfl (by first | omega | (simp only [List.length_append, List.length_cons, List.length_nil, List.length_take, List.length_drop] at *; omega))).nat (k + 1) (by omega)) rfl <| J.b rfl <| J.a2 <| J.q <| J.a6 (k + 1) (fun η (hη : _ ∧ 3 - η < 3 - k) => hI0 η hη.1 hη.2) ⟨⟨by omega, fun j hj => by rcases Nat.lt_succ_iff_lt_or_eq.1 hj with h | rfl; exact hn j h; assumption⟩, by first | omega | (dsimp only; omega)⟩ ⟨rfl, rfl, rfl, trivial⟩ (fun _ h => h.pick [0] (by decide))
 refine J.b0 <| J.Z <| J.Z <| J.b1 ?_
 refine J.q (J.H hK3 ?_)
 refine J.c6 [] trivial <| J.g fun K11 hK11 => J.b rfl <| J.c hK11 <| J.A 2 ?_
 exact J.D <| J.L hw0 rfl () (by rw [qSj (fun j hj => hn j (by omega))]; rfl) trivial [0] rfl (by decide)
theorem qMc (F : Hp) (r : Nat) : Ct prog 204 [.int .i32 ((r : Nat) : Int)] [F] (fun _ : Unit => .bool (qGF r)) (fun _ => True) (fun _ => [F]) := by
 refine Ct.walk func204 rfl ntmps204 rfl (fun w0 hw0 => ?_)
 change J _ [(0, _)] _ _ _
 refine J.g fun K1 hK1 => J.b rfl <| J.c hK1 <| J.A 0 ?_
 refine J.g fun K2 hK2 => J.b rfl <| J.f (qAd rfl rfl rfl) rfl <| J.b rfl <| J.c3 (d := 5) rfl (fun h5 => ?_) (fun h5 => ?_)
 ·
  refine J.p 12 rfl <| J.c hK2 <| J.A 2 ?_
  exact J.D <| J.L hw0 rfl () (by unfold qGF; first | rw [decide_eq_true (by omega)] | exact congrArg Value.bool (decide_eq_decide.2 (by omega))) trivial [0] rfl (by decide)
 refine J.b rfl <| J.O (qAd rfl rfl rfl) rfl <| J.p 2 rfl <| J.c3 (d := 9) rfl (fun h9 => ?_) (fun h9 => ?_)
 ·
  refine J.p 8 rfl <| J.c hK2 <| J.A 2 ?_
  exact J.D <| J.L hw0 rfl () (by unfold qGF; first | rw [decide_eq_true (by omega)] | exact congrArg Value.bool (decide_eq_decide.2 (by omega))) trivial [0] rfl (by decide)
 refine J.b rfl <| J.O (qAd rfl rfl rfl) rfl <| J.p 2 rfl <| J.c3 (d := 13) rfl (fun h13 => ?_) (fun h13 => ?_)
 ·
  refine J.p 4 rfl <| J.c hK2 <| J.A 2 ?_
  exact J.D <| J.L hw0 rfl () (by unfold qGF; first | rw [decide_eq_true (by omega)] | exact congrArg Value.bool (decide_eq_decide.2 (by omega))) trivial [0] rfl (by decide)
 refine J.b rfl <| J.O (qAd rfl rfl rfl) rfl <| J.p 2 rfl <| J.c hK2 <| J.A 2 ?_
 exact J.D <| J.L hw0 rfl () (by unfold qGF; first | rw [decide_eq_true (by omega)] | exact congrArg Value.bool (decide_eq_decide.2 (by omega))) trivial [0] rfl (by decide)
theorem qTG (F : Hp) (hA : qAV F ⟨1, 0, none⟩ qBr) (s : List UInt8) (hs : s.length ≤ 1000000) : Ct prog 207 [Str (s)] [F] (fun _ : Unit => I ((qHY (rl s) 0 : Nat) : Int)) (fun _ => True) (fun _ => [F]) := by
 refine Ct.walk func207 rfl ntmps207 rfl (fun w0 hw0 => ?_)
 change J _ [(0, _)] _ _ _
 refine J.g fun K1 hK1 => J.b rfl <| J.c hK1 <| J.A 0 ?_
 refine J.g fun K2 hK2 => J.b rfl <| J.c hK2 <| J.M 0 3 ?_
 refine J.k fun K3 hK3 => J.g fun K4 hK4 => J.b rfl <| J.u (qD2 rfl rfl u9_) rfl ?_
 rintro g7 _
 change J _ _ _ [F, itr g7 s 0] _
 refine J.c hK4 <| J.M 3 7 ?_
 refine J.T <| J.b2 (X := Nat × Nat) (fun ζ => [(3, I ((ζ.2 : Nat) : Int)), (7, Ptr g7)]) (fun ζ => [F, itr g7 s ζ.1]) (fun ζ => ζ.1 ≤ s.length ∧ ζ.2 < 8 ∧ qHY (rl (s.drop ζ.1)) ζ.2 = qHY (rl s) 0) (fun ζ => s.length - ζ.1) (0, 0) (⟨by omega, by omega, rfl⟩) ⟨rfl, rfl, trivial⟩ (fun _ h => h) ?_
 rintro ⟨p, b⟩ ⟨hp, hb, he⟩ I0 hI0
 dsimp only at hp hb he ⊢
 refine J.g fun K5 hK5 => J.u (qEp (i := 1) rfl rfl rfl) rfl ?_
 rintro _ _
 change J _ _ _ [F, itr g7 s (qF1 s p)] _
 refine J.f (qAm (v := .bool (decide (p < s.length))) rfl rfl (qPa _ _)) rfl <| J.c hK5 <| J.W 3 7 8 9 ?_
 refine J.k fun K6 hK6 => J.a0 rfl (fun h9 => ?_) (fun h9 => ?_)
 ·
  have hps : p < s.length := h9
  have hnp := qDC hps
  have hdl := qKN s p hps
  have hdr := qEy s p (by omega)
  have hdp := qDn s p (by omega)
  have hrl := qPD hps
  refine J.a1 hK6 <| J.V 3 7 8 ?_
  refine J.T <| J.g fun K7 hK7 => J.f (qAm (v := .int .i32 (((dec s p).1 : Nat) : Int)) rfl rfl (qSV hps)) rfl <| J.b rfl <| J.c hK7 <| J.V 3 5 7 ?_
  refine J.E <| J.p 2 rfl <| J.u (qAB rfl rfl ent203 (Ct.use0 (fun F' hF => qIA F' (hA.mono (hF F (by simp))) ((dec s p).1) (by omega)))) rfl fun g13 _ => ?_
  have hll := qI7 (dec s p).1
  exact J.f (qTs (a := b) (b := qHX ((dec s p).1)) rfl rfl rfl (by first | omega | (simp only [List.length_append, List.length_cons, List.length_nil, List.length_take, List.length_drop] at *; omega))) rfl <| J.b rfl <| J.a2 <| J.a4 <| J.q <| J.a6 (qF1 s p, b ||| qHX (dec s p).1) (fun η (hη : _ ∧ s.length - η.1 < s.length - p) => hI0 η hη.1 hη.2) ⟨⟨by dsimp only; omega, Nat.or_lt_two_pow (n := 3) hb (qI7 _), by rw [← he, hrl]; rfl⟩, by first | omega | (dsimp only; omega)⟩ ⟨rfl, rfl, trivial⟩ (fun _ h => h)
 refine J.b0 <| J.Z <| J.Z <| J.b1 ?_
 refine J.q (J.H hK3 ?_)
 refine J.A 3 ?_
 refine J.g fun K8 hK8 => J.p 2 rfl <| J.c hK8 <| J.A 2 ?_
 exact J.D <| J.L hw0 rfl () (by rw [← he, List.drop_of_length_le (by omega), qHs]; rfl) trivial [0] rfl (by decide)
theorem qMt (F : Hp) (s : List UInt8) (hs : s.length ≤ 1000000) : Ct prog 202 [Str (s)] [F] (fun _ : Unit => I (((rl s).length : Nat) : Int)) (fun _ => True) (fun _ => [F]) := by
 refine Ct.walk func202 rfl ntmps202 rfl (fun w0 hw0 => ?_)
 change J _ [(0, _)] _ _ _
 refine J.g fun K1 hK1 => J.b rfl <| J.c hK1 <| J.M 0 2 ?_
 refine J.k fun K2 hK2 => J.g fun K3 hK3 => J.b rfl <| J.u (qD2 rfl rfl u9_) rfl ?_
 rintro g4 _
 change J _ _ _ [F, itr g4 s 0] _
 refine J.c hK3 <| J.M 2 4 ?_
 refine J.T <| J.b2 (X := Nat × Nat) (fun ζ => [(2, I ((ζ.2 : Nat) : Int)), (4, Ptr g4)]) (fun ζ => [F, itr g4 s ζ.1]) (fun ζ => ζ.1 ≤ s.length ∧ ζ.2 ≤ ζ.1 ∧ ζ.2 + (rl (s.drop ζ.1)).length = (rl s).length) (fun ζ => s.length - ζ.1) (0, 0) (⟨by omega, by omega, Nat.zero_add _⟩) ⟨rfl, rfl, trivial⟩ (fun _ h => h) ?_
 rintro ⟨p, n⟩ ⟨hp, hb, he⟩ I0 hI0
 dsimp only at hp hb he ⊢
 refine J.g fun K4 hK4 => J.u (qEp (i := 1) rfl rfl rfl) rfl ?_
 rintro _ _
 change J _ _ _ [F, itr g4 s (qF1 s p)] _
 refine J.f (qAm (v := .bool (decide (p < s.length))) rfl rfl (qPa _ _)) rfl <| J.c hK4 <| J.V 2 4 6 ?_
 refine J.k fun K5 hK5 => J.a0 rfl (fun h6 => ?_) (fun h6 => ?_)
 ·
  have hps : p < s.length := h6
  have hnp := qDC hps
  have hdl := qKN s p hps
  have hdr := qEy s p (by omega)
  have hdp := qDn s p (by omega)
  have hrl := qPD hps
  refine J.a1 hK5 <| J.M 2 4 ?_
  exact J.T <| J.E <| J.b rfl <| J.f ((qAO rfl rfl rfl (by first | omega | (simp only [List.length_append, List.length_cons, List.length_nil, List.length_take, List.length_drop] at *; omega))).nat (n + 1) (by omega)) rfl <| J.b rfl <| J.a2 <| J.a4 <| J.q <| J.a6 (qF1 s p, n + 1) (fun η (hη : _ ∧ s.length - η.1 < s.length - p) => hI0 η hη.1 hη.2) ⟨⟨by dsimp only; omega, by dsimp only; omega, by rw [← he, hrl, List.length_cons]; dsimp only; omega⟩, by first | omega | (dsimp only; omega)⟩ ⟨rfl, rfl, trivial⟩ (fun _ h => h)
 refine J.b0 <| J.Z <| J.Z <| J.b1 ?_
 refine J.q (J.H hK2 ?_)
 refine J.A 2 ?_
 refine J.g fun K6 hK6 => J.p 2 rfl <| J.c hK6 <| J.A 2 ?_
 exact J.D <| J.L hw0 rfl () (by rw [← he, List.drop_of_length_le (by omega), qHs]; rfl) trivial [0] rfl (by decide)
theorem qO7 (F : Hp) (hT : qCX F) (s : List UInt8) (hs : s.length ≤ 1000000) : Ct prog 172 [Str (s)] [F] (fun _ : Unit => .tuple #[I ((if vld s = true then (rl s).length else 0 : Nat) : Int), .bool (vld s)]) (fun _ => True) (fun _ => [F]) := by
 refine Ct.walk func172 rfl ntmps172 rfl (fun w0 hw0 => ?_)
 change J _ [(0, _)] _ _ _
 refine J.g fun K1 hK1 => J.p 2 rfl <| J.c hK1 <| J.A 0 ?_
 refine J.k fun K2 hK2 => J.g fun K3 hK3 => J.b rfl <| J.u (qAB rfl rfl ent201 (Ct.use0 (fun F' hF => qOk F' (hT.mono (hF F (by simp))) s (by omega)))) rfl fun g5 _ => J.f (qA2 rfl rfl) rfl <| J.c hK3 <| J.M 0 6 ?_
 refine J.d0 rfl (fun h6 => ?_) (fun h6 => ?_)
 ·
  refine J.g fun K4 hK4 => J.p 2 rfl <| J.c hK4 <| J.M 2 3 ?_
  exact J.D <| J.a5 <| J.c2 hw0 (fun _ _ h => h) (qDb rfl rfl rfl) (qBD () (by rw [show vld s = false by simpa using h6]; rfl) trivial [0] rfl (by decide))
 refine J.a1 hK2 <| J.A 0 ?_
 refine J.g fun K5 hK5 => J.b rfl <| J.u (qAB rfl rfl ent202 (Ct.use0 (fun F' hF => qMt F' s (by omega)))) rfl fun g8 _ => J.p 2 rfl <| J.c hK5 <| J.M 2 3 ?_
 exact J.D <| J.c2 hw0 (fun _ _ h => h) (qDb rfl rfl rfl) (qBD () (by rw [show vld s = true by simpa using h6]; rfl) trivial [0] rfl (by decide))
theorem qRz (F : Hp) (r : Nat) (hr : Rn r) : Ct prog 210 [.int .i32 ((r : Nat) : Int)] [F] (fun _ : Unit => I (((enc r).length : Nat) : Int)) (fun _ => True) (fun _ => [F]) := by
 obtain ⟨hr1, hr2⟩ := hr
 refine Ct.walk func210 rfl ntmps210 rfl (fun w0 hw0 => ?_)
 change J _ [(0, _)] _ _ _
 refine J.g fun K1 hK1 => J.b rfl <| J.c hK1 <| J.A 0 ?_
 refine J.k fun K2 hK2 => J.T <| J.g fun K3 hK3 => J.b rfl <| J.f (qAS rfl rfl rfl) rfl <| J.b rfl <| J.c hK3 <| J.M 0 3 ?_
 refine J.a0 rfl (fun h3 => ?_) (fun h3 => ?_)
 ·
  refine J.g fun K4 hK4 => J.b rfl <| J.c hK4 <| J.A 2 ?_
  exact J.D <| J.b3 <| J.a5 <| J.L hw0 rfl () (by exfalso; omega) trivial [0] rfl (by decide)
 refine J.g fun K5 hK5 => J.b rfl <| J.f (qB4 rfl rfl rfl) rfl <| J.b rfl <| J.c hK5 <| J.M 0 6 ?_
 refine J.a0 rfl (fun h6 => ?_) (fun h6 => ?_)
 ·
  refine J.g fun K6 hK6 => J.b rfl <| J.c hK6 <| J.A 2 ?_
  exact J.D <| J.b3 <| J.a5 <| J.L hw0 rfl () (by rw [qCH (by omega)]; rfl) trivial [0] rfl (by decide)
 refine J.g fun K7 hK7 => J.b rfl <| J.f (qB4 rfl rfl rfl) rfl <| J.b rfl <| J.c hK7 <| J.M 0 9 ?_
 refine J.a0 rfl (fun h9 => ?_) (fun h9 => ?_)
 ·
  refine J.g fun K8 hK8 => J.b rfl <| J.c hK8 <| J.A 2 ?_
  exact J.D <| J.b3 <| J.a5 <| J.L hw0 rfl () (by unfold enc; rw [if_neg (by omega), if_pos (by omega)]; rfl) trivial [0] rfl (by decide)
 refine J.g fun K9 hK9 => J.b rfl <| J.f (qB4 rfl rfl rfl) rfl <| J.b rfl <| J.c3 (d := 15) rfl (fun h15 => ?_) (fun h15 => ?_)
 ·
  refine J.b rfl <| J.O (qB4 rfl rfl rfl) rfl <| J.p 2 rfl <| J.c hK9 <| J.M 0 12 ?_
  refine J.a0 rfl (fun h12 => ?_) (fun h12 => ?_)
  ·
   refine J.g fun K10 hK10 => J.b rfl <| J.c hK10 <| J.A 2 ?_
   exact J.D <| J.b3 <| J.a5 <| J.L hw0 rfl () (by exfalso; omega) trivial [0] rfl (by decide)
  refine J.g fun K11 hK11 => J.b rfl <| J.f (qB4 rfl rfl rfl) rfl <| J.b rfl <| J.c hK11 <| J.M 0 19 ?_
  refine J.a0 rfl (fun h19 => ?_) (fun h19 => ?_)
  ·
   refine J.g fun K12 hK12 => J.b rfl <| J.c hK12 <| J.A 2 ?_
   exact J.D <| J.b3 <| J.a5 <| J.L hw0 rfl () (by unfold enc; rw [if_neg (by omega), if_neg (by omega), if_pos (by omega)]; rfl) trivial [0] rfl (by decide)
  refine J.g fun K13 hK13 => J.b rfl <| J.f (qB4 rfl rfl rfl) rfl <| J.b rfl <| J.c hK13 <| J.A 22 ?_
  refine J.a0 rfl (fun h22 => ?_) (fun h22 => ?_)
  ·
   refine J.g fun K14 hK14 => J.b rfl <| J.c hK14 <| J.A 2 ?_
   exact J.D <| J.b3 <| J.a5 <| J.L hw0 rfl () (by unfold enc; rw [if_neg (by omega), if_neg (by omega), if_neg (by omega)]; rfl) trivial [0] rfl (by decide)
  refine J.b7 <| J.a4 <| J.q (J.H hK2 ?_)
  refine J.c6 [] trivial <| J.g fun K15 hK15 => J.b rfl <| J.c hK15 <| J.A 2 ?_
  exact J.D <| J.L hw0 rfl () (by exfalso; omega) trivial [0] rfl (by decide)
 refine J.p 4 rfl <| J.c hK9 <| J.M 0 12 ?_
 refine J.b6 ?_
 refine J.g fun K16 hK16 => J.b rfl <| J.f (qB4 rfl rfl rfl) rfl <| J.b rfl <| J.c hK16 <| J.M 0 19 ?_
 refine J.a0 rfl (fun h19 => ?_) (fun h19 => ?_)
 ·
  refine J.g fun K17 hK17 => J.b rfl <| J.c hK17 <| J.A 2 ?_
  exact J.D <| J.b3 <| J.a5 <| J.L hw0 rfl () (by unfold enc; rw [if_neg (by omega), if_neg (by omega), if_pos (by omega)]; rfl) trivial [0] rfl (by decide)
 refine J.g fun K18 hK18 => J.b rfl <| J.f (qB4 rfl rfl rfl) rfl <| J.b rfl <| J.c hK18 <| J.A 22 ?_
 refine J.a0 rfl (fun h22 => ?_) (fun h22 => ?_)
 ·
  refine J.g fun K19 hK19 => J.b rfl <| J.c hK19 <| J.A 2 ?_
  exact J.D <| J.b3 <| J.a5 <| J.L hw0 rfl () (by unfold enc; rw [if_neg (by omega), if_neg (by omega), if_neg (by omega)]; rfl) trivial [0] rfl (by decide)
 refine J.b7 <| J.a4 <| J.q (J.H hK2 ?_)
 refine J.c6 [] trivial <| J.g fun K20 hK20 => J.b rfl <| J.c hK20 <| J.A 2 ?_
 exact J.D <| J.L hw0 rfl () (by exfalso; omega) trivial [0] rfl (by decide)
theorem qPL (F : Hp) (hT : qCX F) (s : List UInt8) (hs : s.length ≤ 1000000) : Ct prog 205 [Str (s)] [F] (fun x : Option Addr × Nat × Hp => .slice x.1 (spl [] s).length x.2.1) (fun x => Row x.2.2 9 1 x.1 (spl [] s).length x.2.1 (qAL (spl [] s))) (fun x => [F, x.2.2]) := by
 refine Ct.walk func205 rfl ntmps205 rfl (fun w0 hw0 => ?_)
 change J _ [(0, _)] _ _ _
 refine J.g fun K1 hK1 => J.b rfl <| J.c hK1 <| J.A 0 ?_
 refine J.g fun K2 hK2 => J.u (qAH (l := [.const ((Value.string (ByteArray.mk #[])))]) (xs := [[Str ([])]]) rfl rfl rfl rfl qAn el9 rfl (by decide) (by decide) (by simp)) rfl fun g7 _ => ?_
 change J _ _ _ [F, blk g7 [Str ([])] 9] _
 refine J.b rfl <| J.c hK2 <| J.M 0 3 ?_
 refine J.k fun K3 hK3 => J.g fun K4 hK4 => J.b rfl <| J.u (qD2 rfl rfl u9_) rfl ?_
 rintro g9 _
 change J _ _ _ [_, _, itr g9 s 0] _
 refine J.c hK4 <| J.V 0 3 9 ?_
 refine J.T <| J.b2 (X := Nat × List (List UInt8) × List UInt8 × Nat × Option Addr × Nat × Hp) (fun ζ => [(0, Str (s)), (3, .slice ζ.2.2.2.2.1 ζ.2.2.2.1 ζ.2.2.2.2.2.1), (9, Ptr g9)]) (fun ζ => [F, ζ.2.2.2.2.2.2, itr g9 s ζ.1]) (fun ζ => ζ.1 ≤ s.length ∧ ζ.2.2.2.1 = ζ.2.1.length + 1 ∧ ζ.2.1.length ≤ ζ.1 ∧ ζ.2.2.1.length ≤ ζ.1 ∧ Row ζ.2.2.2.2.2.2 9 1 ζ.2.2.2.2.1 ζ.2.2.2.1 ζ.2.2.2.2.2.1 (qAL (ζ.2.1 ++ [ζ.2.2.1])) ∧ ζ.2.1 ++ spl ζ.2.2.1 (s.drop ζ.1) = spl [] s) (fun ζ => s.length - ζ.1) (0, [], [], 1, _, _, _) (⟨by omega, rfl, by simp, by simp, qA8 (qAL [[]]) rfl (by simp [qAL]) rfl, rfl⟩) ⟨rfl, rfl, rfl, trivial⟩ (fun _ h => h) ?_
 rintro ⟨p, ds, cur, n, A, c, m⟩ ⟨hp, hn, hd, hc, hr, he⟩ I0 hI0
 dsimp only at hp hn hd hc hr he ⊢
 obtain ⟨ga, rfl⟩ := hr.at (by omega)
 have hlen := congrArg List.length he
 refine J.g fun K5 hK5 => J.u (qEp (i := 2) rfl rfl rfl) rfl ?_
 rintro _ _
 change J _ _ _ [F, m, itr g9 s (qF1 s p)] _
 refine J.f (qAm (v := .bool (decide (p < s.length))) rfl rfl (qPa _ _)) rfl <| J.c hK5 <| J.a3 0 3 9 10 11 ?_
 refine J.k fun K6 hK6 => J.a0 rfl (fun h11 => ?_) (fun h11 => ?_)
 ·
  have hps : p < s.length := h11
  have hnp := qDC hps
  have hdl := qKN s p hps
  have hdr := qEy s p (by omega)
  have hdp := qDn s p (by omega)
  have hrl := qPD hps
  have hdn := qFg hps
  have hdd := qDQ (s := s) (pos := p) (by omega)
  refine J.a1 hK6 <| J.W 0 3 9 10 ?_
  refine J.T <| J.g fun K7 hK7 => J.f (qAm (v := I ((p : Nat) : Int)) rfl rfl (nxt_1 hps)) rfl <| J.f (qAm (v := .int .i32 (((dec s p).1 : Nat) : Int)) rfl rfl (qSV hps)) rfl <| J.p 2 rfl <| J.c hK7 <| J.a3 0 3 4 5 9 ?_
  refine J.g fun K8 hK8 => J.b rfl <| J.u (qAB rfl rfl ent210 (Ct.use0 (fun F' hF => qRz F' ((dec s p).1) (qUN hps)))) rfl fun g15 _ => J.b rfl <| J.c hK8 <| J.a9 0 3 4 5 6 9 ?_
  refine J.e5 (X := Unit) (fun ζ => [(0, Str (s)), (3, .slice (some ⟨ga, 0, none⟩) n c), (4, I ((p : Nat) : Int)), (5, .int .i32 (((dec s p).1 : Nat) : Int)), (6, I (((dec s p).2 : Nat) : Int)), (9, Ptr g9)]) (fun ζ => [F, m, itr g9 s (qF1 s p)]) (fun ζ => True) (fun K9 hK9 => ?_) ?_
  ·
   refine J.g fun K10 hK10 => J.b rfl <| J.f (qAd rfl rfl rfl) rfl <| J.c hK10 <| J.b9 0 3 4 5 6 9 17 ?_
   refine J.a0 rfl (fun h17 => ?_) (fun h17 => ?_)
   ·
    exact J.E <| J.p 2 rfl <| J.f ((qCC (a := s) (l := p) (h := s.length) u9_ rfl rfl rfl rfl ⟨by first | omega | (simp only [List.length_append, List.length_cons, List.length_nil, List.length_take, List.length_drop] at *; omega), by first | omega | (simp only [List.length_append, List.length_cons, List.length_nil, List.length_take, List.length_drop] at *; omega)⟩).as (v' := Str (s.drop p)) (by rw [List.take_length])) rfl <| J.u (qAB rfl rfl ent209 (Ct.use0 (fun F' hF => qNz F' (hT.mono (hF F (by simp))) (s.drop p) (by assumption)))) rfl fun g22 _ => J.p 4 rfl <| J.a2 <| J.q <| J.a6 () hK9 (trivial) ⟨rfl, rfl, rfl, rfl, (by show some (I (((dec (s.drop p) 0).2 : Nat) : Int)) = _; rw [← hdd]), rfl, trivial⟩ (fun _ h => h)
   exact J.b7 <| J.q <| J.a6 () hK9 (trivial) ⟨rfl, rfl, rfl, rfl, (by show some (I (((enc (dec s p).1).length : Nat) : Int)) = _; rw [qSy hps (by omega)]), rfl, trivial⟩ (fun _ h => h)
  rintro _ _
  refine J.g fun K11 hK11 => J.b rfl <| J.u (qAB rfl rfl ent204 (Ct.use0 (fun F' hF => qMc F' ((dec s p).1)))) rfl fun g26 _ => J.c hK11 <| J.a9 0 3 4 6 9 26 ?_
  refine J.d0 rfl (fun h26 => ?_) (fun h26 => ?_)
  ·
   refine J.E <| J.b rfl <| J.u (qAH (l := [.const ((Value.string (ByteArray.mk #[])))]) (xs := [[Str ([])]]) rfl rfl rfl rfl qAn el9 rfl (by decide) (by decide) (by simp)) rfl fun g28 _ => ?_
   change J _ _ _ [F, m, itr g9 s (qF1 s p), blk g28 [Str ([])] 9] _
   refine J.u (qAb (i := 1) (xs := qAL (ds ++ [cur])) (m2 := blk g28 [Str ([])] 9) (ys := [[Str ([])]]) rfl rfl rfl qAn qAn el9 rfl hr (by simp) ((qA8 (q := True) (qAL [[]]) rfl (by simp [qAL]) rfl).sl) rfl (by first | omega | (simp only [List.length_append, List.length_cons, List.length_nil, List.length_take, List.length_drop] at *; omega)) (by first | omega | (simp only [List.length_append, List.length_cons, List.length_nil, List.length_take, List.length_drop] at *; omega))) rfl ?_
   rintro ⟨A29, c29, m29⟩ h29
   try dsimp only at h29
   change J _ ((29, .slice A29 (n + 1) c29) :: _) _ [_, m29, _, _] _
   rw [← qDM] at h29
   exact J.b rfl <| J.a2 <| J.a4 <| J.q <| J.a6 (qF1 s p, ds ++ [cur], [], n + 1, A29, c29, m29) (fun η (hη : _ ∧ s.length - η.1 < s.length - p) => hI0 η hη.1 hη.2) ⟨⟨by dsimp only; omega, by simp; omega, by simp; omega, by simp, h29, by rw [← he, qOu hps _ h26, List.append_assoc]; rfl⟩, by first | omega | (dsimp only; omega)⟩ ⟨rfl, rfl, rfl, trivial⟩ (fun _ h => h.pick [0, 1, 2] (by decide))
  refine J.b5 [F, m, itr g9 s (qF1 s p)] [14] (.y 0 (.y 1 (.y 2 (.y 3 (.y 4 (.y 5 (.y 6 (.y 7 (.y 8 (.y 9 (.y 10 (.y 11 (.y 12 (.y 13 (.e 14 .nil))))))))))))))) Tryz.wide (by decide +kernel) (by simp) ?_
  refine J.G ?_
  refine J.G ?_
  refine J.j rfl (qAZ qAn rfl rfl) rfl rfl <| J.j rfl ((qAs rfl rfl rfl (by omega)).nat (n - 1) (by omega)) rfl rfl <| J.j rfl (qAJ (i := n - 1) (j := 0 + (n - 1) * 1) rfl rfl rfl qAn z9_ (by first | omega | (simp only [List.length_append, List.length_cons, List.length_nil, List.length_take, List.length_drop] at *; omega)) (by omega)) rfl rfl <| J.j rfl (qAK rfl rfl b9_ (m := m) (by simp) (hr.sl.cells (qAa (qAi [] (by first | omega | (simp only [List.length_append, List.length_cons, List.length_nil, List.length_take, List.length_drop] at *; omega)))))) rfl rfl <| J.G ?_
  iterate 3 refine J.G ?_
  refine J.j rfl ((qAO rfl rfl rfl (by first | omega | (simp only [List.length_append, List.length_cons, List.length_nil, List.length_take, List.length_drop] at *; omega))).as (v' := I ((p + ((dec s p).2) : Nat) : Int)) (congrArg I (by omega))) rfl rfl <| J.j rfl (qCC (a := s) (l := p) (h := (p + ((dec s p).2))) u9_ rfl rfl rfl rfl ⟨by first | omega | (simp only [List.length_append, List.length_cons, List.length_nil, List.length_take, List.length_drop] at *; omega), by first | omega | (simp only [List.length_append, List.length_cons, List.length_nil, List.length_take, List.length_drop] at *; omega)⟩) rfl rfl ?_
  have hgl : ((ds ++ [cur]).getD (n - 1) []).length ≤ p := by rw [show n - 1 = ds.length by omega, qP0]; exact hc
  refine J.j rfl (qBZ (a := (ds ++ [cur]).getD (n - 1) []) (b := (s.take (p + ((dec s p).2))).drop p) rfl rfl rfl (by first | omega | (simp only [List.length_append, List.length_cons, List.length_nil, List.length_take, List.length_drop] at *; omega))) rfl rfl <| J.j rfl (qAJ (i := n - 1) (j := 0 + (n - 1) * 1) rfl rfl rfl qAn z9_ (by first | omega | (simp only [List.length_append, List.length_cons, List.length_nil, List.length_take, List.length_drop] at *; omega)) (by omega)) rfl rfl <| J.c8 rfl (qA9 (i := 1) (k := n - 1) (off := 0) (b := [Str (((ds ++ [cur]).getD (n - 1) []) ++ ((s.take (p + ((dec s p).2))).drop p))]) rfl rfl rfl rfl hr (vs := [Str (((ds ++ [cur]).getD (n - 1) []) ++ ((s.take (p + ((dec s p).2))).drop p))]) rfl z9_ rfl (by omega) (qAa (qAi [] (by first | omega | (simp only [List.length_append, List.length_cons, List.length_nil, List.length_take, List.length_drop] at *; omega)))) rfl (Nat.le_refl _)) rfl rfl rfl ?_
  rintro m10_1 hm10_1
  change J _ _ _ [F, m10_1, itr g9 s (qF1 s p)] _
  rw [qFA] at hm10_1
  exact J.b4 <| J.a4 <| J.q <| J.a6 (qF1 s p, ds, cur ++ (s.take (p + (dec s p).2)).drop p, n, some ⟨ga, 0, none⟩, c, m10_1) (fun η (hη : _ ∧ s.length - η.1 < s.length - p) => hI0 η hη.1 hη.2) ⟨⟨by dsimp only; omega, by simp; omega, by dsimp only; omega, by simp; omega, by rw [qPy _ _ _ (by omega)] at hm10_1; exact hm10_1, by rw [← he, qFy hps _ h26]⟩, by first | omega | (dsimp only; omega)⟩ ⟨rfl, rfl, rfl, trivial⟩ (fun _ h => h)
 refine J.b0 <| J.Z <| J.Z <| J.b1 ?_
 refine J.q (J.H hK3 ?_)
 refine J.A 3 ?_
 refine J.g fun K12 hK12 => J.p 2 rfl <| J.c hK12 <| J.A 2 ?_
 refine J.D ?_
 have he2 : ds ++ [cur] = spl [] s := by rw [← he, List.drop_of_length_le (by omega)]; rfl
 have hn2 : n = (spl [] s).length := by rw [← he2]; simp; omega
 rw [he2, hn2] at hr
 exact J.L hw0 rfl (some ⟨ga, 0, none⟩, c, m) (by rw [hn2]) hr [0, 1] rfl (by decide)
theorem qPY : ∀ b : Nat, b < 8 → IntKind.i64.wrap (((BitVec.ofInt 64 (b : Int)) &&& BitVec.ofInt 64 ((b : Int) - 1)).toNat : Int) = ((b &&& (b - 1) : Nat) : Int) := by decide
theorem qTv (F : Hp) (b : Nat) (hb : b < 8) : Ct prog 206 [I ((b : Nat) : Int)] [F] (fun _ : Unit => .bool (good b)) (fun _ => True) (fun _ => [F]) := by
 refine Ct.walk func206 rfl ntmps206 rfl (fun w0 hw0 => ?_)
 change J _ [(0, _)] _ _ _
 refine J.g fun K1 hK1 => J.b rfl <| J.c hK1 <| J.A 0 ?_
 refine J.g fun K2 hK2 => J.p 2 rfl <| J.f (qAs rfl rfl rfl (by omega)) rfl <| J.f (qSM rfl rfl rfl (qPY b hb)) rfl <| J.f (qAd rfl rfl rfl) rfl <| J.b rfl <| J.c hK2 <| J.A 2 ?_
 exact J.D <| J.L hw0 rfl () (congrArg Value.bool (Bool.eq_iff_iff.2 (by rw [decide_eq_true_eq, ← qPX b hb]; exact Int.natCast_eq_zero))) trivial [0] rfl (by decide)
end Go.Proofs.YtfldiegfenndjaaGreatDoor
