/- A part of the proof. -/
import Derived.Test.YtfldiegfenndjaaGreatDoorTopAkG7
import Derived.Test.YtfldiegfenndjaaGreatDoorTopAkG16
set_option linter.unusedSimpArgs false
set_option linter.unusedVariables false
namespace Go.Proofs.YtfldiegfenndjaaGreatDoor
open Go Go.Fw Go.Proofs.Tryz
set_option maxRecDepth 100000
set_option maxHeartbeats 1000000
theorem ent196 : qAE prog 196 := qAE.of func196 rfl (by kernel_rfl)
theorem ent224 : qAE prog 224 := qAE.of func224 rfl (by kernel_rfl)
theorem ent243 : qAE prog 243 := qAE.of func243 rfl (by kernel_rfl)
theorem ent252 : qAE prog 252 := qAE.of func252 rfl (by kernel_rfl)
def qQy : List UInt8 := [0, 1, 2, 2, 3, 3, 3, 3, 4, 4, 4, 4, 4, 4, 4, 4, 5, 5, 5, 5, 5, 5, 5, 5, 5, 5, 5, 5, 5, 5, 5, 5, 6, 6, 6, 6, 6, 6, 6, 6, 6, 6, 6, 6, 6, 6, 6, 6, 6, 6, 6, 6, 6, 6, 6, 6, 6, 6, 6, 6, 6, 6, 6, 6, 7, 7, 7, 7, 7, 7, 7, 7, 7, 7, 7, 7, 7, 7, 7, 7, 7, 7, 7, 7, 7, 7, 7, 7, 7, 7, 7, 7, 7, 7, 7, 7, 7, 7, 7, 7, 7, 7, 7, 7, 7, 7, 7, 7, 7, 7, 7, 7, 7, 7, 7, 7, 7, 7, 7, 7, 7, 7, 7, 7, 7, 7, 7, 7, 8, 8, 8, 8, 8, 8, 8, 8, 8, 8, 8, 8, 8, 8, 8, 8, 8, 8, 8, 8, 8, 8, 8, 8, 8, 8, 8, 8, 8, 8, 8, 8, 8, 8, 8, 8, 8, 8, 8, 8, 8, 8, 8, 8, 8, 8, 8, 8, 8, 8, 8, 8, 8, 8, 8, 8, 8, 8, 8, 8, 8, 8, 8, 8, 8, 8, 8, 8, 8, 8, 8, 8, 8, 8, 8, 8, 8, 8, 8, 8, 8, 8, 8, 8, 8, 8, 8, 8, 8, 8, 8, 8, 8, 8, 8, 8, 8, 8, 8, 8, 8, 8, 8, 8, 8, 8, 8, 8, 8, 8, 8, 8, 8, 8, 8, 8, 8, 8, 8, 8, 8, 8, 8, 8, 8, 8, 8, 8]
theorem qOU : ∀ x : Fin 256, qQy[x.val]? = some (UInt8.ofNat (qHK x.val)) := by decide +kernel
theorem qQx (x : UInt8) : qQy[x.toNat]? = some (UInt8.ofNat (qHK x.toNat)) := qOU ⟨x.toNat, x.toNat_lt⟩
theorem qMj : ∀ x : Fin 256, qHK x.val ≤ 8 := by decide +kernel
theorem qSA (x : UInt8) : (UInt8.ofNat (qHK x.toNat)).toNat = qHK x.toNat := by
 have := qMj ⟨x.toNat, x.toNat_lt⟩
 dsimp only at this
 rw [UInt8.toNat_ofNat']; omega
theorem qSB (x : UInt8) : qHK x.toNat ≤ 8 := qMj ⟨x.toNat, x.toNat_lt⟩
theorem qRj {k q : List UInt8} (hk : k.length = 16) (hq : q.length = 16) (h : ∀ j, j < 16 → k.getD j 0 = q.getD j 0) : q = k := by
 refine List.ext_getElem (by omega) fun j h1 h2 => ?_
 have := h j (by omega)
 rw [List.getD_eq_getElem?_getD, List.getD_eq_getElem?_getD, List.getElem?_eq_getElem h1, List.getElem?_eq_getElem h2] at this
 exact this.symm
def qIS (bs : List (List UInt8)) (th : Bool) (pk pv k v : List UInt8) (d : Nat) : List UInt8 := if th = true ∧ pk ≠ k then Sm.ndB [(k, v), (pk, pv)] k (d + bs.length) else Sb.leafN k v
def qEk (bs : List (List UInt8)) (th : Bool) (pk pv k v : List UInt8) (d : Nat) : List UInt8 := clm k d bs (qIS bs th pk pv k v d) bs.length
theorem qIo {kv : List Sm.PR} (hf : qCj kv) {k v : List UInt8} (hk : k.length = 16) (hv : v.length ≤ 1000000) (hl : kv.length ≤ 100000) {d s : Nat} (h : qLK kv k d s) :
    qEk (bsd kv k d (s - d)) (qBD kv k s) (qDz kv k s) (qEE kv k s) k v d = Sm.ndB (Sm.putP kv k v) k d := by
  have h1 := h.le
  have h2 := h.ge
  have hone := h.one
  have hf' := hf.put hk hv hl
  have h3 := qHD hf' hk (d := d) (n := s - d) (by omega) (s - d) (Nat.le_refl _)
  rw [show d + (s - d) = s by omega, show s - (s - d) = d by omega, qRG hf hk hv hl (by omega)] at h3
  unfold qEk
  rw [qCA, ← h3]
  congr 1
  unfold qIS
  rw [qCA, show d + (s - d) = s by omega]
  split
  · rename_i hc
    have hc1 : (kd kv k s).length = 1 := of_decide_eq_true hc.1
    exact (qN4 hf hk hv hl h1 (qHA hf.once hc1) hc.2).symm
  · rename_i hc
    refine (qQU hf hk hv hl h1 fun p hp => ?_).symm
    have hc1 : (kd kv k s).length = 1 := by
      rw [qGN hf.once]
      have := List.length_pos_of_mem hp
      omega
    have ht : qBD kv k s = true := decide_eq_true hc1
    rw [qHA hf.once hc1, List.mem_singleton] at hp
    rw [hp]
    exact Decidable.by_contra fun q => hc ⟨ht, q⟩
theorem qCR {x y : UInt8} (h : (x ^^^ y).toNat = 0) : x = y := by
 have : x ^^^ y = 0 := UInt8.toNat_inj.1 h
 exact UInt8.xor_eq_zero_iff.1 this
theorem qQw (F : Hp) (x : UInt8) : Ct prog 252 [B8 (x)] [F] (fun _ : Unit => I ((qHK x.toNat : Nat) : Int)) (fun _ => True) (fun _ => [F]) := by
 refine Ct.walk func252 rfl ntmps252 rfl (fun w0 hw0 => ?_)
 change J _ [(0, _)] _ _ _
 refine J.g fun K1 hK1 => J.b rfl <| J.c hK1 <| J.u 0 ?_
 refine J.g fun K2 hK2 => J.b rfl <| J.f (qBC (a := qQy) u9_ rfl rfl rfl (qQx x)) rfl <| J.f (qBw rfl rfl u5_ u3_) rfl <| J.b rfl <| J.c hK2 <| J.u 2 ?_
 exact J.D <| J.V hw0 rfl () (by rw [qSA]) trivial [0] rfl (by decide)
theorem qOV (F : Hp) (x : UInt8) : Ct prog 243 [B8 (x)] [F] (fun _ : Unit => I ((8 - qHK x.toNat : Nat) : Int)) (fun _ => True) (fun _ => [F]) := by
 have h8 := qSB x
 refine Ct.walk func243 rfl ntmps243 rfl (fun w0 hw0 => ?_)
 change J _ [(0, _)] _ _ _
 refine J.g fun K1 hK1 => J.b rfl <| J.c hK1 <| J.u 0 ?_
 refine J.g fun K2 hK2 => J.b rfl <| J.p (qAB rfl rfl ent252 (Ct.use0 (fun F' hF => qQw F' x))) rfl fun g4 _ => J.f (qAp rfl rfl rfl (by omega)) rfl <| J.b rfl <| J.c hK2 <| J.u 2 ?_
 exact J.D <| J.V hw0 rfl () (congrArg I (by omega)) trivial [0] rfl (by decide)
theorem qM8 (F : Hp) (k q : List UInt8) (hk : k.length = 16) (hq : q.length = 16) (hne : q ≠ k) : Ct prog 224 [Str k, Str q] [F] (fun x : Nat => I ((x : Nat) : Int)) (fun x => Two k q x) (fun _ => [F]) := by
 refine Ct.walk func224 rfl ntmps224 rfl (fun w0 hw0 => ?_)
 change J _ [(0, _), (1, _)] _ _ _
 refine J.g fun K1 hK1 => J.b rfl <| J.c hK1 <| J.E 0 1 ?_
 refine J.g fun K2 hK2 => J.b rfl <| J.f (qAk u9_ rfl rfl) rfl <| J.b rfl <| J.f (qAk u9_ rfl rfl) rfl <| J.f ((qDX rfl rfl rfl).nat (min k.length q.length) (by omega)) rfl <| J.b rfl <| J.c hK2 <| J.H 0 1 5 ?_
 refine J.k fun K3 hK3 => J.g fun K4 hK4 => J.j 2 rfl <| J.c hK4 <| J.a0 0 1 5 13 14 ?_
 refine J.a1 <| J.c0 (X := Nat) (fun ζ => [(0, Str (k)), (1, Str (q)), (5, I ((min k.length q.length : Nat) : Int)), (13, I ((min k.length q.length : Nat) : Int)), (14, I ((ζ : Nat) : Int))]) (fun ζ => [F]) (fun ζ => ζ ≤ 16 ∧ ∀ j, j < ζ → k.getD j 0 = q.getD j 0) (fun ζ => 16 - ζ) 0 (⟨Nat.zero_le _, fun j h => absurd h (Nat.not_lt_zero j)⟩) ⟨rfl, rfl, rfl, rfl, rfl, trivial⟩ (fun _ h => h) ?_
 rintro i ⟨hi, hs⟩ I0 hI0
 refine J.g fun K5 hK5 => J.f (qAW rfl rfl rfl) rfl <| J.c hK5 <| J.b3 0 1 5 13 14 15 ?_
 refine J.k fun K6 hK6 => J.a5 rfl (fun h15 => ?_) (fun h15 => ?_)
 ·
  refine J.W hK6 <| J.a0 0 1 5 13 14 ?_
  refine J.k fun K7 hK7 => J.a1 <| J.g fun K8 hK8 => J.j 2 rfl <| J.c hK8 <| J.b3 0 1 5 6 13 14 ?_
  refine J.k fun K9 hK9 => J.c1 [F] [] (.y 0 (.y 1 (.y 2 (.y 3 (.y 4 (.y 5 (.y 6 (.y 7 .nil)))))))) Tryz.wide (by decide +kernel) (by simp) ?_
  refine J.O ?_
  refine J.O ?_
  refine J.q rfl (qBC (c := k.getD i 0) u9_ rfl rfl rfl (qAg 0 (by omega))) rfl rfl <| J.O ?_
  refine J.O ?_
  refine J.q rfl (qBC (c := q.getD i 0) u9_ rfl rfl rfl (qAg 0 (by omega))) rfl rfl <| J.q rfl (qMP rfl rfl rfl) rfl rfl <| J.b9 ?_
  refine J.b5 <| J.A (J.L hK9 ?_)
  refine J.c2 0 1 5 6 7 13 14 ?_
  refine J.g fun K10 hK10 => J.b rfl <| J.f (qAY rfl rfl rfl) rfl <| J.c hK10 <| J.d3 0 1 5 6 7 13 14 25 ?_
  refine J.a5 rfl (fun h25 => ?_) (fun h25 => ?_)
  ·
   refine J.g fun K11 hK11 => J.b rfl <| J.f ((qB8 rfl rfl rfl (by omega)).nat (8 * i) (by omega)) rfl <| J.b rfl <| J.p (qAB rfl rfl ent243 (Ct.use0 (fun F' hF => qOV F' ((k.getD i 0) ^^^ (q.getD i 0))))) rfl fun g29 _ => J.f ((qAR rfl rfl rfl (by omega)).as (v' := I ((8 * i + (8 - qHK ((k.getD i 0) ^^^ (q.getD i 0)).toNat) : Nat) : Int)) (congrArg I (by omega))) rfl <| J.b rfl <| J.c hK11 <| J.u 4 ?_
   exact J.D <| J.b6 <| J.a3 <| J.a3 <| J.b6 <| J.a3 <| J.V hw0 rfl (8 * i + (8 - qHK (k.getD i 0 ^^^ q.getD i 0).toNat)) rfl (qRd hk hq (by omega) hs (by omega)) [0] rfl (by decide)
  refine J.c7 <| J.a9 <| J.A (J.L hK7 ?_)
  refine J.a0 0 1 5 13 14 ?_
  exact J.G <| J.f ((qAR rfl rfl rfl (by omega)).nat (i + 1) (by omega)) rfl <| J.b rfl <| J.a7 <| J.A <| J.b0 (i + 1) (fun η (hη : _ ∧ 16 - η < 16 - i) => hI0 η hη.1 hη.2) ⟨⟨by omega, fun j hj => by rcases Nat.lt_succ_iff_lt_or_eq.1 hj with h | rfl; exact hs j h; exact qCR (by omega)⟩, by first | omega | (dsimp only; omega)⟩ ⟨rfl, rfl, rfl, rfl, rfl, trivial⟩ (fun _ h => h)
 refine J.b7 <| J.a6 <| J.a6 <| J.b8 ?_
 refine J.A (J.L hK3 ?_)
 refine J.u 5 ?_
 refine J.k fun K12 hK12 => ?_
 have hfalse : False := hne (qRj hk hq fun j hj => hs j (by omega))
 refine J.G <| J.b rfl <| J.f ((qB8 rfl rfl rfl (by omega)).nat (8 * (min k.length q.length)) (by omega)) rfl <| J.b rfl <| J.c hK12 <| J.u 4 ?_
 exact J.D <| J.b4 hw0 (fun _ _ h => h) (qIc rfl rfl) hfalse.elim
theorem qN8 (F : Hp) (hK : KF F) (k q : List UInt8) (hk : k.length = 16) (hq : q.length = 16) (hne : q ≠ k) (v w : List UInt8) (hv : v.length ≤ 1000000) (hw : w.length ≤ 1000000) (d : Nat) (hb : Sm.belowB q k d = true) : Ct prog 196 [Str k, Str q, Str (Sb.leafN k v), Str (Sb.leafN q w), I ((d : Nat) : Int)] [F] (fun _ : Unit => Str (Sm.ndB [(k, v), (q, w)] k d)) (fun _ => True) (fun _ => [F]) := by
 have hl1 := qCI k v
 have hl2 := qCI q w
 refine Ct.walk func196 rfl ntmps196 rfl (fun w0 hw0 => ?_)
 change J _ [(0, _), (1, _), (2, _), (3, _), (4, _)] _ _ _
 refine J.g fun K1 hK1 => J.b rfl <| J.c hK1 <| J.a0 0 1 2 3 4 ?_
 refine J.g fun K2 hK2 => J.j 2 rfl <| J.p (qAB rfl rfl ent224 (Ct.use (new := fun _ : Nat => []) (fun F' _ => qM8 F' k q hk hq hne))) rfl ?_
 rintro a15 h15
 change J _ ((15, I ((a15 : Nat) : Int)) :: _) _ [F] _
 refine J.b rfl <| J.c hK2 <| J.a0 0 2 3 4 11 ?_
 refine J.k fun K3 hK3 => J.k fun K4 hK4 => ?_
 have hlt := h15.lt
 have hda := h15.le hb
 have htop := h15.top hv hw
 unfold up at htop
 refine J.G <| J.j 2 rfl <| J.p (qAB rfl rfl ent147 (Ct.use0 (fun F' hF => qEj F' k (by first | omega | exact hsm _) a15 (by omega)))) rfl fun g18 _ => J.f (qAV rfl rfl rfl) rfl <| J.c hK4 <| J.b3 0 2 3 4 11 19 ?_
 refine J.a5 rfl (fun h19 => ?_) (fun h19 => ?_)
 ·
  refine J.G <| J.j 4 rfl <| J.c hK3 <| J.a0 0 2 3 4 11 ?_
  refine J.g fun K5 hK5 => J.j 2 rfl <| J.p (qAB rfl rfl ent177 (Ct.use0 (fun F' hF => qB3 F' (hK.mo hF) (Sb.leafN q w) (Sb.leafN k v) (by omega) (by omega)))) rfl fun g24 _ => J.b rfl <| J.c hK5 <| J.M 0 4 11 12 ?_
  refine J.k fun K6 hK6 => J.k fun K7 hK7 => ?_
  first | rw [if_neg (by omega)] at htop | rw [if_pos (by have := Sm.bit_le k a15; omega)] at htop
  rw [← htop]
  refine J.G <| J.b rfl <| J.f (qAp rfl rfl rfl (by omega)) rfl <| J.b rfl <| J.c hK7 <| J.M 0 4 11 12 ?_
  refine J.a1 <| J.c0 (X := Nat) (fun ζ => [(0, Str (k)), (4, I ((d : Nat) : Int)), (11, I (((ζ : Nat) : Int) - 1)), (12, Str (Sm.ndB [(k, v), (q, w)] k ζ))]) (fun ζ => [F]) (fun ζ => d ≤ ζ ∧ ζ ≤ a15) (fun ζ => ζ) a15 (⟨hda, Nat.le_refl _⟩) ⟨rfl, rfl, rfl, rfl, trivial⟩ (fun _ h => h) ?_
  rintro e ⟨he1, he2⟩ I0 hI0
  have hone : ([0] : List UInt8).length = 1 := rfl
  have hns := qD5 [(k, v), (q, w)] k e
  refine J.k fun K8 hK8 => J.g fun K9 hK9 => J.j 2 rfl <| J.f (qBN rfl rfl rfl) rfl <| J.c hK9 <| J.a0 0 4 11 12 29 ?_
  refine J.a5 rfl (fun h29 => ?_) (fun h29 => ?_)
  ·
   refine J.W hK8 <| J.M 0 4 11 12 ?_
   refine J.k fun K10 hK10 => J.a1 <| J.g fun K11 hK11 => J.b rfl <| J.f ((qAl rfl rfl).nat (e - 1) (by omega)) rfl <| J.p (qAB rfl rfl ent147 (Ct.use0 (fun F' hF => qEj F' k (by first | omega | exact hsm _) (e - 1) (by omega)))) rfl fun g34 _ => J.f (qAV rfl rfl rfl) rfl <| J.c hK11 <| J.a0 0 4 11 12 35 ?_
   refine J.a5 rfl (fun h35 => ?_) (fun h35 => ?_)
   ·
    refine J.G <| J.b rfl <| J.p (qAB rfl rfl ent177 (Ct.use0 (fun F' hF => qB3 F' (hK.mo hF) (Sm.ndB [(k, v), (q, w)] k e) ([0]) (by omega) (by omega)))) rfl fun g37 _ => J.b rfl <| J.a7 <| J.a9 <| J.A (J.L hK10 ?_)
    refine J.M 0 4 11 12 ?_
    exact J.G <| J.b rfl <| J.f (qAp rfl rfl rfl (by omega)) rfl <| J.b rfl <| J.a7 <| J.A <| J.b0 (e - 1) (fun η (hη : _ ∧ η < e) => hI0 η hη.1 hη.2) ⟨⟨by omega, by omega⟩, by first | omega | (dsimp only; omega)⟩ ⟨rfl, rfl, congrArg (fun z => some (I z)) (by omega), congrArg (fun z => some (Str z)) (by rw [h15.step hv hw (show e - 1 < a15 by omega), show e - 1 + 1 = e by omega]; unfold up; first | rw [if_pos (by omega)] | rw [if_neg (by omega)]), trivial⟩ (fun _ h => h)
   refine J.G <| J.b rfl <| J.p (qAB rfl rfl ent177 (Ct.use0 (fun F' hF => qB3 F' (hK.mo hF) ([0]) (Sm.ndB [(k, v), (q, w)] k e) (by omega) (by omega)))) rfl fun g39 _ => J.b rfl <| J.a7 <| J.a9 <| J.A (J.L hK10 ?_)
   refine J.M 0 4 11 12 ?_
   exact J.G <| J.b rfl <| J.f (qAp rfl rfl rfl (by omega)) rfl <| J.b rfl <| J.a7 <| J.A <| J.b0 (e - 1) (fun η (hη : _ ∧ η < e) => hI0 η hη.1 hη.2) ⟨⟨by omega, by omega⟩, by first | omega | (dsimp only; omega)⟩ ⟨rfl, rfl, congrArg (fun z => some (I z)) (by omega), congrArg (fun z => some (Str z)) (by rw [h15.step hv hw (show e - 1 < a15 by omega), show e - 1 + 1 = e by omega]; unfold up; first | rw [if_pos (by omega)] | rw [if_neg (by omega)]), trivial⟩ (fun _ h => h)
  refine J.b7 <| J.a6 <| J.a6 <| J.b8 ?_
  refine J.A (J.L hK6 ?_)
  refine J.u 12 ?_
  refine J.g fun K12 hK12 => J.j 2 rfl <| J.c hK12 <| J.u 10 ?_
  exact J.D <| J.V hw0 rfl () (congrArg Str (by rw [show e = d by omega])) trivial [0] rfl (by decide)
 refine J.W hK3 <| J.a0 0 2 3 4 11 ?_
 refine J.g fun K13 hK13 => J.j 2 rfl <| J.p (qAB rfl rfl ent177 (Ct.use0 (fun F' hF => qB3 F' (hK.mo hF) (Sb.leafN k v) (Sb.leafN q w) (by omega) (by omega)))) rfl fun g24 _ => J.b rfl <| J.c hK13 <| J.M 0 4 11 12 ?_
 refine J.k fun K14 hK14 => J.k fun K15 hK15 => ?_
 first | rw [if_neg (by omega)] at htop | rw [if_pos (by have := Sm.bit_le k a15; omega)] at htop
 rw [← htop]
 refine J.G <| J.b rfl <| J.f (qAp rfl rfl rfl (by omega)) rfl <| J.b rfl <| J.c hK15 <| J.M 0 4 11 12 ?_
 refine J.a1 <| J.c0 (X := Nat) (fun ζ => [(0, Str (k)), (4, I ((d : Nat) : Int)), (11, I (((ζ : Nat) : Int) - 1)), (12, Str (Sm.ndB [(k, v), (q, w)] k ζ))]) (fun ζ => [F]) (fun ζ => d ≤ ζ ∧ ζ ≤ a15) (fun ζ => ζ) a15 (⟨hda, Nat.le_refl _⟩) ⟨rfl, rfl, rfl, rfl, trivial⟩ (fun _ h => h) ?_
 rintro e ⟨he1, he2⟩ I0 hI0
 have hone : ([0] : List UInt8).length = 1 := rfl
 have hns := qD5 [(k, v), (q, w)] k e
 refine J.k fun K16 hK16 => J.g fun K17 hK17 => J.j 2 rfl <| J.f (qBN rfl rfl rfl) rfl <| J.c hK17 <| J.a0 0 4 11 12 29 ?_
 refine J.a5 rfl (fun h29 => ?_) (fun h29 => ?_)
 ·
  refine J.W hK16 <| J.M 0 4 11 12 ?_
  refine J.k fun K18 hK18 => J.a1 <| J.g fun K19 hK19 => J.b rfl <| J.f ((qAl rfl rfl).nat (e - 1) (by omega)) rfl <| J.p (qAB rfl rfl ent147 (Ct.use0 (fun F' hF => qEj F' k (by first | omega | exact hsm _) (e - 1) (by omega)))) rfl fun g34 _ => J.f (qAV rfl rfl rfl) rfl <| J.c hK19 <| J.a0 0 4 11 12 35 ?_
  refine J.a5 rfl (fun h35 => ?_) (fun h35 => ?_)
  ·
   refine J.G <| J.b rfl <| J.p (qAB rfl rfl ent177 (Ct.use0 (fun F' hF => qB3 F' (hK.mo hF) (Sm.ndB [(k, v), (q, w)] k e) ([0]) (by omega) (by omega)))) rfl fun g37 _ => J.b rfl <| J.a7 <| J.a9 <| J.A (J.L hK18 ?_)
   refine J.M 0 4 11 12 ?_
   exact J.G <| J.b rfl <| J.f (qAp rfl rfl rfl (by omega)) rfl <| J.b rfl <| J.a7 <| J.A <| J.b0 (e - 1) (fun η (hη : _ ∧ η < e) => hI0 η hη.1 hη.2) ⟨⟨by omega, by omega⟩, by first | omega | (dsimp only; omega)⟩ ⟨rfl, rfl, congrArg (fun z => some (I z)) (by omega), congrArg (fun z => some (Str z)) (by rw [h15.step hv hw (show e - 1 < a15 by omega), show e - 1 + 1 = e by omega]; unfold up; first | rw [if_pos (by omega)] | rw [if_neg (by omega)]), trivial⟩ (fun _ h => h)
  refine J.G <| J.b rfl <| J.p (qAB rfl rfl ent177 (Ct.use0 (fun F' hF => qB3 F' (hK.mo hF) ([0]) (Sm.ndB [(k, v), (q, w)] k e) (by omega) (by omega)))) rfl fun g39 _ => J.b rfl <| J.a7 <| J.a9 <| J.A (J.L hK18 ?_)
  refine J.M 0 4 11 12 ?_
  exact J.G <| J.b rfl <| J.f (qAp rfl rfl rfl (by omega)) rfl <| J.b rfl <| J.a7 <| J.A <| J.b0 (e - 1) (fun η (hη : _ ∧ η < e) => hI0 η hη.1 hη.2) ⟨⟨by omega, by omega⟩, by first | omega | (dsimp only; omega)⟩ ⟨rfl, rfl, congrArg (fun z => some (I z)) (by omega), congrArg (fun z => some (Str z)) (by rw [h15.step hv hw (show e - 1 < a15 by omega), show e - 1 + 1 = e by omega]; unfold up; first | rw [if_pos (by omega)] | rw [if_neg (by omega)]), trivial⟩ (fun _ h => h)
 refine J.b7 <| J.a6 <| J.a6 <| J.b8 ?_
 refine J.A (J.L hK14 ?_)
 refine J.u 12 ?_
 refine J.g fun K20 hK20 => J.j 2 rfl <| J.c hK20 <| J.u 10 ?_
 exact J.D <| J.V hw0 rfl () (congrArg Str (by rw [show e = d by omega])) trivial [0] rfl (by decide)
theorem qLD (F : Hp) (hK : KF F) (A : Option Addr) (c : Nat) (bs : List (List UInt8)) (hs : Sl F 1 A bs.length c (qAI bs)) (th : Bool) (pk pv k : List UInt8) (d : Nat) (hg : qNQ bs th pk pv k d) (v : List UInt8) (hv : v.length ≤ 1000000) (hpv : pv.length ≤ 1000000) : Ct prog 163 [.agg #[.slice A bs.length c, .bool (th), Str (pk), Str (pv)], Str (k), Str (v), I ((d : Nat) : Int)] [F] (fun _ : Unit => .tuple #[Str (qEk bs th pk pv k v d), I ((0 : Nat) : Int)]) (fun _ => True) (fun _ => [F]) := by
 have hle := hg.le
 have hk16 := hg.k16
 have hsm := hg.small
 have hl17 := qCI k v
 have hn17 := qD5 [(k, v), (pk, pv)] k (d + bs.length)
 refine Ct.walk func163 rfl ntmps163 rfl (fun w0 hw0 => ?_)
 change J _ [(0, _), (1, _), (2, _), (3, _)] _ _ _
 refine J.g fun K1 hK1 => J.p (qAf (l := [.slice A bs.length c, .bool (th), Str (pk), Str (pv)]) rfl rfl rfl) rfl fun g4 _ => ?_
 change J _ _ _ [F, blk g4 [.slice A bs.length c, .bool (th), Str (pk), Str (pv)] 58] _
 refine J.j 2 rfl <| J.c hK1 <| J.M 1 2 3 4 ?_
 refine J.k fun K2 hK2 => J.g fun K3 hK3 => J.c4 1 qJH qFn rfl rfl rfl rfl rfl <| J.j 2 rfl <| J.p (qAB rfl rfl ent149 (Ct.use0 (fun F' hF => qI3 F' A c bs (hs.mono (hF F (by simp))) th pk pv k d (by assumption)))) rfl fun g14 _ => J.f ((qA1 rfl rfl).as (v' := .bool false) rfl) rfl <| J.c hK3 <| J.a0 1 2 3 4 15 ?_
 refine J.a8 ?_
 refine J.W hK2 <| J.M 1 2 3 4 ?_
 refine J.g fun K4 hK4 => J.j 2 rfl <| J.p (qAB rfl rfl ent176 (Ct.use0 (fun F' hF => qEt F' (hK.mo hF) k v (by first | omega | exact Nat.le_of_ble_eq_true rfl) (by first | omega | exact Nat.le_of_ble_eq_true rfl)))) rfl fun g18 _ => J.b rfl <| J.c hK4 <| J.M 1 3 4 10 ?_
 refine J.k fun K5 hK5 => J.g fun K6 hK6 => J.a2 1 qCw z4_ rfl rfl rfl rfl rfl <| J.f (qAC 1 (v := .bool (th)) rfl rfl rfl b4_ rfl) rfl <| J.b rfl <| J.g1 (d := 21) rfl (fun h21 => ?_) (fun h21 => ?_)
 ·
  refine J.T (qAA (j := 2) rfl rfl qCw rfl z9_ rfl) rfl <| J.T (qAC 1 (v := Str (pk)) rfl rfl rfl b9_ rfl) rfl <| J.b rfl <| J.T (qC5 rfl rfl rfl) rfl <| J.b rfl <| J.c hK6 <| J.a0 1 3 4 10 26 ?_
  refine J.a5 rfl (fun h26 => ?_) (fun h26 => ?_)
  ·
   obtain ⟨hpt, hpn⟩ : th = true ∧ pk ≠ k := ⟨h21, h26⟩
   obtain ⟨hpl, hpb⟩ := hg.yes hpt
   have haE : qIS bs th pk pv k v d = Sm.ndB [(k, v), (pk, pv)] k (d + bs.length) := if_pos ⟨hpt, hpn⟩
   refine J.c1 [F, blk g4 [.slice A bs.length c, .bool (th), Str (pk), Str (pv)] 58] [] (.y 0 (.y 1 (.y 2 (.y 3 (.y 4 (.y 5 (.y 6 (.y 7 (.y 9 (.y 10 (.y 11 (.y 12 (.y 13 (.e 8 (.e 14 (.y 15 .nil)))))))))))))))) Tryz.wide (by decide +kernel) (by simp) ?_
   refine J.O ?_
   refine J.q rfl (qAA (j := 2) rfl rfl qCw rfl z9_ rfl) rfl rfl <| J.q rfl (qAC 1 (v := Str (pk)) rfl rfl rfl b9_ rfl) rfl rfl <| J.O ?_
   refine J.q rfl (qAA (j := 2) rfl rfl qCw rfl z9_ rfl) rfl rfl <| J.q rfl (qAC 1 (v := Str (pk)) rfl rfl rfl b9_ rfl) rfl rfl <| J.q rfl (qAA (j := 3) rfl rfl qCw rfl z9_ rfl) rfl rfl <| J.q rfl (qAC 1 (v := Str (pv)) rfl rfl rfl b9_ rfl) rfl rfl <| J.O ?_
   refine J.q rfl (qAA (j := 0) rfl rfl qCw rfl qB0 rfl) rfl rfl <| J.q rfl (qAC 1 (v := .slice A bs.length c) rfl rfl rfl qCQ rfl) rfl rfl <| J.q rfl (qAa qAh rfl rfl) rfl rfl <| J.q rfl ((qAR rfl rfl rfl (by omega)).nat (d + bs.length) (by omega)) rfl rfl <| J.b2 rfl (qAB rfl rfl ent176 (Ct.use0 (fun F' hF => qEt F' (hK.mo hF) pk pv (by first | omega | exact Nat.le_of_ble_eq_true rfl) (by first | omega | exact Nat.le_of_ble_eq_true rfl)))) rfl (by simp) fun g35 _ => J.b2 rfl (qAB rfl rfl ent196 (Ct.use0 (fun F' hF => qN8 F' (hK.mo hF) k pk hk16 hpl hpn v pv hv hpv (d + bs.length) hpb))) rfl (by simp) fun g41 _ => J.b9 ?_
   refine J.b5 <| J.A (J.L hK5 ?_)
   refine J.M 1 3 4 10 ?_
   refine J.g fun K7 hK7 => J.c4 1 qJH qFn rfl rfl rfl rfl rfl <| J.j 3 rfl <| J.p (qAB rfl rfl ent186 (Ct.use0 (fun F' hF => qC4 F' (hK.mo hF) A c bs (hs.mono (hF F (by simp))) th pk pv (Sm.ndB [(k, v), (pk, pv)] k (d + bs.length)) k d (by assumption) (by assumption) (by assumption) (by first | assumption | exact qCI _ _ | exact Nat.le_of_ble_eq_true rfl)))) rfl fun g46 _ => J.j 2 rfl <| J.c hK7 <| J.E 8 9 ?_
   exact J.D <| J.b4 hw0 (fun _ _ h => h) (qCq rfl rfl rfl) (qAj () (by unfold qEk; rw [haE]; rfl) trivial [0] rfl (by decide))
  have haE : qIS bs th pk pv k v d = Sb.leafN k v := if_neg (fun h => h26 h.2)
  refine J.W hK5 <| J.M 1 3 4 10 ?_
  refine J.g fun K8 hK8 => J.c4 1 qJH qFn rfl rfl rfl rfl rfl <| J.j 3 rfl <| J.p (qAB rfl rfl ent186 (Ct.use0 (fun F' hF => qC4 F' (hK.mo hF) A c bs (hs.mono (hF F (by simp))) th pk pv (Sb.leafN k v) k d (by assumption) (by assumption) (by assumption) (by first | assumption | exact qCI _ _ | exact Nat.le_of_ble_eq_true rfl)))) rfl fun g46 _ => J.j 2 rfl <| J.c hK8 <| J.E 8 9 ?_
  exact J.D <| J.b4 hw0 (fun _ _ h => h) (qCq rfl rfl rfl) (qAj () (by unfold qEk; rw [haE]; rfl) trivial [0] rfl (by decide))
 have haE : qIS bs th pk pv k v d = Sb.leafN k v := if_neg (fun h => by rw [h21] at h; exact absurd h.1 (by decide))
 refine J.j 5 rfl <| J.c hK6 <| J.a0 1 3 4 10 26 ?_
 refine J.a8 ?_
 refine J.W hK5 <| J.M 1 3 4 10 ?_
 refine J.g fun K9 hK9 => J.c4 1 qJH qFn rfl rfl rfl rfl rfl <| J.j 3 rfl <| J.p (qAB rfl rfl ent186 (Ct.use0 (fun F' hF => qC4 F' (hK.mo hF) A c bs (hs.mono (hF F (by simp))) th pk pv (Sb.leafN k v) k d (by assumption) (by assumption) (by assumption) (by first | assumption | exact qCI _ _ | exact Nat.le_of_ble_eq_true rfl)))) rfl fun g46 _ => J.j 2 rfl <| J.c hK9 <| J.E 8 9 ?_
 exact J.D <| J.b4 hw0 (fun _ _ h => h) (qCq rfl rfl rfl) (qAj () (by unfold qEk; rw [haE]; rfl) trivial [0] rfl (by decide))
end Go.Proofs.YtfldiegfenndjaaGreatDoor
