/- A part of the proof. -/
import Derived.Test.YtfldiegfenndjaaGreatDoorTopCcG8
import Derived.Test.YtfldiegfenndjaaGreatDoorTopCcG11
import Derived.Test.YtfldiegfenndjaaGreatDoorTopCcG4
import Derived.Test.YtfldiegfenndjaaGreatDoorTopCcG5
set_option linter.unusedSimpArgs false
set_option linter.unusedVariables false
namespace Go.Proofs.YtfldiegfenndjaaGreatDoor
open Go Go.Fw Go.Proofs.Tryz
set_option maxRecDepth 100000
set_option maxHeartbeats 1000000
def qCp (ok : Bool) (e bad : Int) : Int := if ok = false ∧ bad = 0 then e else bad
def qFu (ok : Bool) (e bad : Int) (l : List Value) : List Value := if ok = false ∧ bad = 0 then qAw l 2 [I e] else l
theorem qHM {ok : Bool} {e bad : Int} {l : List Value} (hl : l.length = 3) : (qFu ok e bad l).length = 3 := by
 unfold qFu
 split
 · rw [qCY (by omega)]; exact hl
 · exact hl
theorem qHO {ok : Bool} {e bad : Int} {l : List Value} (hl : l.length = 3) (hb : l[2]? = some (I bad)) : (qFu ok e bad l)[2]? = some (I (qCp ok e bad)) := by
 unfold qFu qCp
 split
 · exact qCZ (by omega)
 · exact hb
theorem qHN {ok : Bool} {e bad : Int} {g : Nat} {l : List Value} {mr : Hp} {bs : List UInt8} {A : Option Addr} {c : Nat} {p : Option Addr} (hl : l.length = 3) (hb : Bld g 0 l mr bs A c p) : Bld g 0 (qFu ok e bad l) mr bs A c p := by
 unfold qFu
 split
 · exact ⟨(qBk (by omega) (by decide)).trans hb.a0, hb.self, (qBk (by omega) (by decide)).trans hb.a1, hb.row, hb.cap⟩
 · exact hb
theorem qNp (F : Hp) (g : Nat) (l : List Value) (hl : l.length = 3) (bad : Int) (hb : l[2]? = some (I bad)) (e : Int) :
    Ct prog 138 [Ptr g, .bool true, I e] [blk g l 188, F] (fun _ : Unit => .bool (decide (qCp true e bad = 0))) (fun _ => True) (fun _ => [blk g (qFu true e bad l) 188, F]) := by
  refine Ct.walk func138 rfl ntmps138 rfl (fun w0 hw0 => ?_)
  refine J.g fun K1 hK1 => J.b rfl <| J.c hK1 <| J.V 0 1 2 ?_
  refine J.k fun K2 hK2 => J.g fun K3 hK3 => J.b rfl <| J.f (qA2 rfl rfl) rfl <| J.p 7 rfl <| J.c hK3 <| J.V 0 2 15 ?_
  refine J.b6 ?_
  refine J.a1 hK2 <| J.A 0 ?_
  refine J.g fun K4 hK4 => J.b rfl <| J.f (qAE rfl rfl) rfl <| J.a8 2 qE6 qQk rfl rfl rfl rfl rfl <| J.f (qAF 0 rfl rfl rfl isAgg30 (by first | exact hb | exact qCZ (by omega))) rfl <| J.f (qAd rfl rfl rfl) rfl <| J.b rfl <| J.c hK4 <| J.A 6 ?_
  exact J.D <| J.L hw0 rfl () (congrArg Value.bool (decide_eq_decide.2 (by unfold qCp; rw [if_neg (show ¬ (true = false ∧ bad = 0) from fun h => by cases h.1)]))) trivial [0, 1] (by show [blk g _ _, F] = [blk g (qFu true e bad l) _, F]; unfold qFu; rw [if_neg (show ¬ (true = false ∧ bad = 0) from fun h => by cases h.1)]) (by decide)
theorem qLk (F : Hp) (g : Nat) (l : List Value) (hl : l.length = 3) (bad : Int) (hb : l[2]? = some (I bad)) (e : Int) :
    Ct prog 138 [Ptr g, .bool false, I e] [blk g l 188, F] (fun _ : Unit => .bool (decide (qCp false e bad = 0))) (fun _ => True) (fun _ => [blk g (qFu false e bad l) 188, F]) := by
  refine Ct.walk func138 rfl ntmps138 rfl (fun w0 hw0 => ?_)
  refine J.g fun K1 hK1 => J.b rfl <| J.c hK1 <| J.V 0 1 2 ?_
  refine J.k fun K2 hK2 => J.g fun K3 hK3 => J.b rfl <| J.f (qA2 rfl rfl) rfl <| J.p 2 rfl <| J.O (qAE rfl rfl) rfl <| J.O (qAA rfl rfl qE6 rfl qQk rfl) rfl <| J.O (qAF 0 rfl rfl rfl isAgg30 hb) rfl <| J.O (qAd rfl rfl rfl) rfl <| J.b rfl <| J.c hK3 <| J.V 0 2 15 ?_
  refine J.a0 rfl (fun h15 => ?_) (fun h15 => ?_)
  ·
    refine J.E <| J.p 2 rfl <| J.f (qAE rfl rfl) rfl <| J.a8 2 qE6 qQk rfl rfl rfl rfl rfl <| J.c1 (qAc (i := 0) rfl rfl rfl rfl rfl qQk rfl (by rw [hl]; exact Nat.le_refl 3)) rfl rfl fun _ _ => J.c hK2 <| J.A 0 ?_
    refine J.g fun K4 hK4 => J.b rfl <| J.f (qAE rfl rfl) rfl <| J.a8 2 qE6 qQk rfl rfl rfl rfl rfl <| J.f (qAF 0 rfl rfl rfl isAgg30 (by first | exact hb | exact qCZ (by omega))) rfl <| J.f (qAd rfl rfl rfl) rfl <| J.b rfl <| J.c hK4 <| J.A 6 ?_
    exact J.D <| J.L hw0 rfl () (congrArg Value.bool (decide_eq_decide.2 (by unfold qCp; rw [if_pos (show false = false ∧ bad = 0 from ⟨rfl, by omega⟩)]))) trivial [0, 1] (by show [blk g _ _, F] = [blk g (qFu false e bad l) _, F]; unfold qFu; rw [if_pos (show false = false ∧ bad = 0 from ⟨rfl, by omega⟩)]) (by decide)
  refine J.a1 hK2 <| J.A 0 ?_
  refine J.g fun K5 hK5 => J.b rfl <| J.f (qAE rfl rfl) rfl <| J.a8 2 qE6 qQk rfl rfl rfl rfl rfl <| J.f (qAF 0 rfl rfl rfl isAgg30 (by first | exact hb | exact qCZ (by omega))) rfl <| J.f (qAd rfl rfl rfl) rfl <| J.b rfl <| J.c hK5 <| J.A 6 ?_
  exact J.D <| J.L hw0 rfl () (congrArg Value.bool (decide_eq_decide.2 (by unfold qCp; rw [if_neg (show ¬ (false = false ∧ bad = 0) from fun h => h15 h.2)]))) trivial [0, 1] (by show [blk g _ _, F] = [blk g (qFu false e bad l) _, F]; unfold qFu; rw [if_neg (show ¬ (false = false ∧ bad = 0) from fun h => h15 h.2)]) (by decide)
theorem qJB (F : Hp) (g : Nat) (l : List Value) (hl : l.length = 3) (bad : Int) (hb : l[2]? = some (I bad)) (ok : Bool) (e : Int) :
    Ct prog 138 [Ptr g, .bool ok, I e] [blk g l 188, F] (fun _ : Unit => .bool (decide (qCp ok e bad = 0))) (fun _ => True) (fun _ => [blk g (qFu ok e bad l) 188, F]) := by
  cases ok
  · exact qLk F g l hl bad hb e
  · exact qNp F g l hl bad hb e
def Wtr (m : Hp) (g : Nat) (bs : List UInt8) (bad : Int) : Prop := ∃ l mr A c p, m = U [blk g l 188, mr] ∧ Dj (blk g l 188) mr ∧ l.length = 3 ∧ Bld g 0 l mr bs A c p ∧ l[2]? = some (I bad)
theorem lies (l : List Value) (hl : l.length = 3) : liesAt prog prog.depth 188 (l.length / prog.cellsOf 188) 0 186 1 = true := by rw [hl]; kernel_rfl
def okN (n : UInt64) (size : Nat) : Bool := decide (n.toNat < 2 ^ (8 * size))
def qKd (n : UInt64) (size : Nat) (bs : List UInt8) (bad : Int) : List UInt8 := if qCp (okN n size) 10 bad = 0 then bs ++ Sha.numB n size else bs
def okF (s : List UInt8) (size : Nat) : Bool := decide (s.length = size)
def qLv (s : List UInt8) (size : Nat) (bs : List UInt8) (bad : Int) : List UInt8 := if qCp (okF s size) 10 bad = 0 then bs ++ s else bs
theorem qNO (n : UInt64) (size t : Nat) (h : t < size) : (Sha.numB n size).take (t + 1) = (Sha.numB n size).take t ++ [(UInt64.ofNat (n.toNat / 2 ^ min (8 * (size - 1 - t)) 64)).toUInt8] := by
 rw [List.take_succ_eq_append_getElem (by rw [Sha.numB_length]; exact h)]
 congr 2
 simp [Sha.numB]
theorem qO1 (n : UInt64) (size : Nat) (h : size < 8) : (((UInt64.ofNat (n.toNat / 2 ^ min (8 * size) 64)).toNat : Int) = 0) ↔ n.toNat < 2 ^ (8 * size) := by
  have hn := n.toNat_lt
  rw [UInt64.toNat_ofNat', Nat.mod_eq_of_lt (Nat.lt_of_le_of_lt (Nat.div_le_self _ _) hn), Nat.min_eq_left (by omega)]
  have hp := Nat.two_pow_pos (8 * size)
  constructor
  · intro h0
    have h1 : n.toNat / 2 ^ (8 * size) = 0 := by omega
    rcases Nat.div_eq_zero_iff.1 h1 with h2 | h2
    · omega
    · exact h2
  · intro h0
    rw [Nat.div_eq_of_lt h0]; rfl
theorem qFX (F m : Hp) (g : Nat) (bs : List UInt8) (bad : Int) (hw : Wtr m g bs bad) (hlen : bs.length ≤ 1099511627776) (n : UInt64) (size : Nat) (h1 : 1 ≤ size) (h8 : size < 8) :
    Ct prog 83 [Ptr g, W64 n, I size] [m, F] (fun _ : Hp => Ptr g) (fun m' => Wtr m' g (qKd n size bs bad) (qCp (okN n size) 10 bad)) (fun m' => [m', F]) := by
  obtain ⟨l, mr, A, c, p, rfl, hd, hl, hb, hbad⟩ := hw
  have hfl := qHM (ok := (okN n size)) (e := 10) (bad := bad) hl
  have hfb := qHN (ok := (okN n size)) (e := 10) (bad := bad) hl hb
  have hf2 := qHO (ok := (okN n size)) (e := 10) hl hbad
  refine Ct.walk func83 rfl ntmps83 rfl (fun w0 hw0 => ?_)
  refine J.f2 hd ?_
  refine J.g fun K1 hK1 => J.b rfl <| J.c hK1 <| J.V 0 1 2 ?_
  refine J.k fun K2 hK2 => J.g fun K3 hK3 => J.b rfl <| J.f ((qBm underlying189 rfl rfl rfl).as (v' := .bool false) rfl) rfl <| J.p 3 rfl <| J.O ((qBG rfl rfl rfl).yes (by omega)) rfl <| J.p 2 rfl <| J.O ((qB4 rfl rfl rfl).yes (by omega)) rfl <| J.p 3 rfl <| J.O ((qAd rfl rfl rfl).no (by omega)) rfl <| J.p 3 rfl <| J.O ((qCD rfl rfl rfl (by omega)).nat (8 * size) (by omega)) rfl <| J.O (qG3 rfl rfl rfl) rfl <| J.O ((qAd rfl rfl rfl).as (v' := .bool (okN n size)) (congrArg Value.bool (by unfold okN; exact decide_eq_decide.2 (qO1 n size h8)))) rfl <| J.p 2 rfl <| J.d7 (qAB rfl rfl ent138 (Ct.use1 0 rfl (fun F' _ => qJB F' g l hl bad hbad (okN n size) 10))) rfl fun g29 _ => J.O (qFT rfl rfl) rfl <| J.b rfl <| J.c hK3 <| J.W 0 1 2 31 ?_
  refine J.a0 rfl (fun h31 => ?_) (fun h31 => ?_)
  ·
    refine J.g fun K4 hK4 => J.p 2 rfl <| J.c hK4 <| J.A 6 ?_
    exact J.D <| J.a5 <| J.c2 hw0 (fun _ _ h => h) (qOW rfl rfl) (qB3 (U [blk g (qFu (okN n size) 10 bad l) 188, mr]) rfl (fun hd => ⟨_, mr, A, c, p, rfl, hd, hfl, by unfold qKd; rw [if_neg (by omega)]; exact hfb, hf2⟩) [0, 1, 2] rfl rfl (by decide))
  refine J.a1 hK2 <| J.V 0 1 2 ?_
  refine J.k fun K5 hK5 => J.k fun K6 hK6 => ?_
  have hok : qCp (okN n size) 10 bad = 0 := by omega
  refine J.E <| J.b rfl <| J.f ((qAs rfl rfl rfl (by omega)).as (v' := I ((size : Int) - 1 - ((0 : Nat) : Int))) (congrArg I (by omega))) rfl <| J.b rfl <| J.c hK6 <| J.V 0 1 7 ?_
  refine J.T <| J.b2 (X := Nat × List Value × Hp) (fun x => [(0, Ptr g), (1, W64 n), (7, I ((size : Int) - 1 - (x.1 : Int)))]) (fun x => [blk g x.2.1 188, x.2.2, F]) (fun x => x.1 ≤ size ∧ x.2.1.length = 3 ∧ x.2.1[2]? = some (I (qCp (okN n size) 10 bad)) ∧ ∃ A c p, Bld g 0 x.2.1 x.2.2 (bs ++ (Sha.numB n size).take x.1) A c p) (fun x => size - x.1) (0, (qFu (okN n size) 10 bad l), mr) (⟨Nat.zero_le _, hfl, hf2, A, c, p, by rw [List.take_zero, List.append_nil]; exact hfb⟩) ⟨rfl, rfl, rfl, trivial⟩ (fun _ h => h) ?_
  rintro ⟨t, l2, mr2⟩ ⟨ht, hl2, hbad2, A2, c2, p2, hb2⟩ I0 hI0
  dsimp only at ht hl2 hbad2 hb2 ⊢
  refine J.k fun K7 hK7 => J.g fun K8 hK8 => J.b rfl <| J.f (qBG rfl rfl rfl) rfl <| J.c hK8 <| J.W 0 1 7 36 ?_
  refine J.a0 rfl (fun h36 => ?_) (fun h36 => ?_)
  ·
    refine J.a1 hK7 <| J.V 0 1 7 ?_
    refine J.k fun K9 hK9 => J.T <| J.b5 [] [] (.y 0 (.y 1 (.y 2 (.y 3 (.y 4 (.y 5 (.y 6 (.y 7 (.e 8 .nil))))))))) Tryz.wide (by decide +kernel) (by simp) ?_
    refine J.G ?_
    refine J.j rfl (qAE rfl rfl) rfl rfl <| J.j rfl (qAA rfl rfl qE6 rfl sizeOf186 rfl) rfl rfl <| J.G ?_
    refine J.j rfl ((qAj rfl rfl).nat (size - 1 - t) (by omega)) rfl rfl <| J.j rfl ((qCD rfl rfl rfl (by omega)).nat (8 * (size - 1 - t)) (by omega)) rfl rfl <| J.j rfl (qG3 rfl rfl rfl) rfl rfl <| J.j rfl (qDB rfl rfl qDu u5_) rfl rfl <| J.a7 rfl (qAB rfl rfl ent139 (Ct.useA [blk g l2 188, mr2] [F] (A' := fun x : List Value × Hp => [blk g x.1 188, x.2]) (new := fun _ => []) (fun F' _ => qHa F' mr2 g 188 0 l2 (bs ++ (Sha.numB n size).take t) A2 c2 p2 hb2 (lies l2 hl2) ((UInt64.ofNat (n.toNat / 2 ^ min (8 * (size - 1 - t)) 64)).toUInt8) (by rw [List.length_append, List.length_take, Sha.numB_length]; omega)))) rfl (by simp) ?_
    rintro ⟨l3, mr3⟩ ⟨A3, c3, hb3, hu3⟩
    dsimp only at hb3 hu3
    rw [List.append_assoc, ← qNO n size t (by omega)] at hb3
    refine J.b4 <| J.a4 <| J.q (J.H hK9 ?_)
    refine J.V 0 1 7 ?_
    exact J.E <| J.b rfl <| J.f ((qAs rfl rfl rfl (by omega)).as (v' := I ((size : Int) - 1 - ((t + 1 : Nat) : Int))) (congrArg I (by omega))) rfl <| J.b rfl <| J.a2 <| J.q <| J.a6 (t + 1, l3, mr3) (fun x (hx : _ ∧ size - x.1 < size - t) => hI0 x hx.1 hx.2) ⟨⟨by dsimp only; omega, hu3.1.trans hl2, (hu3.2 2 (by decide) (by decide)).trans hbad2, A3, c3, _, hb3⟩, by dsimp only; omega⟩ ⟨rfl, rfl, rfl, trivial⟩ (fun _ h => h)
  refine J.b0 <| J.Z <| J.Z <| J.b1 ?_
  refine J.q (J.H hK5 ?_)
  refine J.A 0 ?_
  refine J.k fun K10 hK10 => ?_
  have hts : t = size := by omega
  subst hts
  rw [List.take_of_length_le (by rw [Sha.numB_length]; exact Nat.le_refl _)] at hb2
  refine J.E <| J.p 2 rfl <| J.c hK10 <| J.A 6 ?_
  exact J.D <| J.c2 hw0 (fun _ _ h => h) (qOW rfl rfl) (qB3 (U [blk g l2 188, mr2]) rfl (fun hd => ⟨l2, mr2, A2, c2, p2, rfl, hd, hl2, by unfold qKd; rw [if_pos hok]; exact hb2, hbad2⟩) [0, 1, 2] rfl rfl (by decide))
theorem qHP (F m : Hp) (g : Nat) (bs : List UInt8) (bad : Int) (hw : Wtr m g bs bad) (hlen : bs.length ≤ 1099511627776) (s : List UInt8) (hs : s.length ≤ 1099511627776) (size : Nat) :
    Ct prog 84 [Ptr g, Str s, I size] [m, F] (fun _ : Hp => Ptr g) (fun m' => Wtr m' g (qLv s size bs bad) (qCp (okF s size) 10 bad)) (fun m' => [m', F]) := by
  obtain ⟨l, mr, A, c, p, rfl, hd, hl, hb, hbad⟩ := hw
  have hfl := qHM (ok := (okF s size)) (e := 10) (bad := bad) hl
  have hfb := qHN (ok := (okF s size)) (e := 10) (bad := bad) hl hb
  have hf2 := qHO (ok := (okF s size)) (e := 10) hl hbad
  refine Ct.walk func84 rfl ntmps84 rfl (fun w0 hw0 => ?_)
  refine J.f2 hd ?_
  refine J.g fun K1 hK1 => J.b rfl <| J.c hK1 <| J.V 0 1 2 ?_
  refine J.k fun K2 hK2 => J.g fun K3 hK3 => J.b rfl <| J.f ((qTr underlying189 rfl rfl rfl).as (v' := .bool true) rfl) rfl <| J.p 3 rfl <| J.O (qA0 u9_ rfl rfl) rfl <| J.b rfl <| J.O ((qAd rfl rfl rfl).as (v' := .bool (okF s size)) (congrArg Value.bool (by unfold okF; exact decide_eq_decide.2 (by omega)))) rfl <| J.d7 (qAB rfl rfl ent138 (Ct.use1 0 rfl (fun F' _ => qJB F' g l hl bad hbad (okF s size) 10))) rfl fun g15 _ => J.b rfl <| J.c hK3 <| J.V 0 1 16 ?_
  refine J.a0 rfl (fun h16 => ?_) (fun h16 => ?_)
  ·
    refine J.E <| J.b rfl <| J.f (qAE rfl rfl) rfl <| J.a8 0 qE6 sizeOf186 rfl rfl rfl rfl rfl <| J.b rfl <| J.u (qAB rfl rfl ent109 (Ct.useA [blk g (qFu (okF s size) 10 bad l) 188, mr] [F] (A' := fun x : List Value × Hp => [blk g x.1 188, x.2]) (new := fun _ => []) (fun F' _ => qBb F' mr g 188 0 (qFu (okF s size) 10 bad l) bs A c p hfb (lies _ hfl) s (by omega)))) rfl ?_
    rintro ⟨l3, mr3⟩ ⟨A3, c3, hb3, hu3⟩
    dsimp only at hb3 hu3
    refine J.c hK2 <| J.A 0 ?_
    refine J.g fun K4 hK4 => J.p 2 rfl <| J.c hK4 <| J.A 6 ?_
    exact J.D <| J.c2 hw0 (fun _ _ h => h) (qOW rfl rfl) (qB3 (U [blk g l3 188, mr3]) rfl (fun hd => ⟨l3, mr3, A3, c3, _, rfl, hd, hu3.1.trans hfl, by unfold qLv; rw [if_pos (by assumption)]; exact hb3, (hu3.2 2 (by decide) (by decide)).trans hf2⟩) [0, 1, 2] rfl rfl (by decide))
  refine J.a1 hK2 <| J.A 0 ?_
  refine J.g fun K5 hK5 => J.p 2 rfl <| J.c hK5 <| J.A 6 ?_
  exact J.D <| J.c2 hw0 (fun _ _ h => h) (qOW rfl rfl) (qB3 (U [blk g (qFu (okF s size) 10 bad l) 188, mr]) rfl (fun hd => ⟨_, mr, A, c, p, rfl, hd, hfl, by unfold qLv; rw [if_neg (by assumption)]; exact hfb, hf2⟩) [0, 1, 2] rfl rfl (by decide))
theorem qKO {P : Program} {X : Type} {f : FuncId} {vs : List Value} {a b : Hp} {r : List Hp} {val : X → Value} {φ : X → Prop} {A B : X → Hp} {ψ : Hp → Prop} {v : Value} (hd : Dj a b) (hv : ∀ x, φ x → val x = v) (hp : ∀ x, φ x → Dj (A x) (B x) → ψ (U [A x, B x])) (h : Ct P f vs (a :: b :: r) val φ (fun x => A x :: B x :: r)) : Ct P f vs (U [a, b] :: r) (fun _ : Hp => v) ψ (fun m => m :: r) :=
 fun w0 w hs => (h w0 w (hs.splitU hd)).mono fun e w' ⟨x, he, hx, hs'⟩ => ⟨U [A x, B x], by rw [he, hv x hx], hp x hx hs'.dj2, hs'.joinU⟩
theorem failW (F m : Hp) (g : Nat) (bs : List UInt8) (bad : Int) (hw : Wtr m g bs bad) (hlen : bs.length ≤ 1099511627776) (ok : Bool) (e : Int) :
    Ct prog 138 [Ptr g, .bool ok, I e] [m, F] (fun _ : Hp => .bool (decide (qCp ok e bad = 0))) (fun m' => Wtr m' g bs (qCp ok e bad)) (fun m' => [m', F]) := by
  obtain ⟨l, mr, A, c, p, rfl, hd, hl, hb, hbad⟩ := hw
  exact qKO (A := fun _ : Unit => blk g (qFu ok e bad l) 188) (B := fun _ => mr) hd (fun _ _ => rfl) (fun _ _ hd' => ⟨_, mr, A, c, p, rfl, hd', qHM hl, qHN hl hb, qHO hl hbad⟩) (Ct.use1 0 (m' := fun _ : Unit => blk g (qFu ok e bad l) 188) (new := fun _ => []) rfl (fun F' _ => qJB F' g l hl bad hbad ok e))
theorem qHZ (F m : Hp) (g : Nat) (bs : List UInt8) (bad : Int) (hw : Wtr m g bs bad) (hlen : bs.length ≤ 2199023255552) (s : List UInt8) (hs : s.length ≤ 1099511627776) :
    Ct prog 109 [.pointer (some ⟨g, 0, none⟩), Str s] [m, F] (fun _ : Hp => .tuple #[I s.length, .nilIface]) (fun m' => Wtr m' g (bs ++ s) bad) (fun m' => [m', F]) := by
  obtain ⟨l, mr, A, c, p, rfl, hd, hl, hb, hbad⟩ := hw
  exact qKO (A := fun x : List Value × Hp => blk g x.1 188) (B := fun x => x.2) hd (fun _ _ => rfl) (fun x hx hd' => by obtain ⟨A3, c3, hb3, hu3⟩ := hx; exact ⟨x.1, x.2, A3, c3, _, rfl, hd', hu3.1.trans hl, hb3, (hu3.2 2 (by decide) (by decide)).trans hbad⟩) (qBb F mr g 188 0 l bs A c p hb (lies l hl) s (by omega))
def okT (s : List UInt8) : Bool := decide (s.length ≤ 4096)
def qL5 (s : List UInt8) (bs : List UInt8) (bad : Int) : List UInt8 := if qCp (okT s) 2 bad = 0 then bs ++ Sha.numB (UInt64.ofNat s.length) 2 ++ s else bs
theorem qRc {s : List UInt8} {bad : Int} (h : qCp (okT s) 2 bad = 0) : s.length ≤ 4096 ∧ bad = 0 := by
  unfold qCp okT at h
  split at h
  · omega
  · rename_i h1
    refine ⟨?_, h⟩
    simp only [decide_eq_false_iff_not] at h1
    omega
theorem qNL {n : Nat} (h : n ≤ 4096) : okN (UInt64.ofNat n) 2 = true := by
 unfold okN
 rw [decide_eq_true_iff, UInt64.toNat_ofNat', Nat.mod_eq_of_lt (by omega)]
 omega
theorem qDe {n : UInt64} {size : Nat} {bs : List UInt8} (h : okN n size = true) : qKd n size bs 0 = bs ++ Sha.numB n size := by
 unfold qKd qCp
 rw [h]; rfl
theorem qRd (F m : Hp) (g : Nat) (bs : List UInt8) (bad : Int) (hw : Wtr m g bs bad) (hlen : bs.length ≤ 1099511627776) (s : List UInt8) (hs : s.length ≤ 1099511627776) :
    Ct prog 85 [Ptr g, Str s] [m, F] (fun _ : Hp => Ptr g) (fun m' => Wtr m' g (qL5 s bs bad) (qCp (okT s) 2 bad)) (fun m' => [m', F]) := by
  refine Ct.walk func85 rfl ntmps85 rfl (fun w0 hw0 => ?_)
  refine J.g fun K1 hK1 => J.b rfl <| J.c hK1 <| J.M 0 1 ?_
  refine J.k fun K2 hK2 => J.g fun K3 hK3 => J.b rfl <| J.f ((qBm underlying189 rfl rfl rfl).as (v' := .bool false) rfl) rfl <| J.p 3 rfl <| J.O (qA0 u9_ rfl rfl) rfl <| J.O ((qB4 rfl rfl rfl).as (v' := .bool (okT s)) (congrArg Value.bool (by unfold okT; exact decide_eq_decide.2 (by omega)))) rfl <| J.d7 (qAB rfl rfl ent138 (failW F m g bs bad hw hlen (okT s) 2)) rfl ?_
  rintro m1 hw1
  refine J.O (qFT rfl rfl) rfl <| J.b rfl <| J.c hK3 <| J.V 0 1 14 ?_
  refine J.a0 rfl (fun h14 => ?_) (fun h14 => ?_)
  ·
    refine J.g fun K4 hK4 => J.p 2 rfl <| J.c hK4 <| J.A 4 ?_
    exact J.D <| J.a5 <| J.L hw0 rfl m1 rfl (by unfold qL5; rw [if_neg (by omega)]; exact hw1) [0, 1] rfl (by decide)
  refine J.a1 hK2 <| J.M 0 1 ?_
  refine J.k fun K5 hK5 => ?_
  have hok : qCp (okT s) 2 bad = 0 := by omega
  have hs4 := (qRc hok).1
  rw [hok] at hw1
  refine J.E <| J.p 2 rfl <| J.f (qA0 u9_ rfl rfl) rfl <| J.f (qBL rfl rfl u3_ qDu (by omega)) rfl <| J.u (qAB rfl rfl ent83 ((qFX F m1 g bs 0 hw1 hlen (UInt64.ofNat s.length) 2 (by omega) (by omega)))) rfl ?_
  rintro m2 hw2
  rw [qDe (qNL hs4), qNL hs4] at hw2
  refine J.c hK5 <| J.M 0 1 ?_
  refine J.g fun K6 hK6 => J.b rfl <| J.f (qAE rfl rfl) rfl <| J.a8 0 qE6 sizeOf186 rfl rfl rfl rfl rfl <| J.b rfl <| J.u (qAB rfl rfl ent109 (qHZ F m2 g (bs ++ Sha.numB (UInt64.ofNat s.length) 2) 0 hw2 (by rw [List.length_append, Sha.numB_length]; omega) s hs)) rfl ?_
  rintro m3 hw3
  refine J.c hK6 <| J.A 0 ?_
  refine J.g fun K7 hK7 => J.p 2 rfl <| J.c hK7 <| J.A 4 ?_
  exact J.D <| J.L hw0 rfl m3 rfl (by unfold qL5; rw [if_pos hok, hok]; exact hw3) [0, 1] rfl (by decide)
theorem qHT (F m : Hp) (g : Nat) (bs : List UInt8) (bad : Int) (hw : Wtr m g bs bad) (hlen : bs.length ≤ 2199023255552) :
    Ct prog 86 [Ptr g] [m, F] (fun _ : Hp => .tuple #[Str (if bad = 0 then bs else []), I bad]) (fun m' => Wtr m' g bs bad) (fun m' => [m', F]) := by
  obtain ⟨l, mr, A, c, p, rfl, hd, hl, hb, hbad⟩ := hw
  refine Ct.walk func86 rfl ntmps86 rfl (fun w0 hw0 => ?_)
  refine J.f2 hd ?_
  refine J.g fun K1 hK1 => J.p 2 rfl <| J.c hK1 <| J.A 0 ?_
  refine J.k fun K2 hK2 => J.T <| J.g fun K3 hK3 => J.b rfl <| J.f ((qBm underlying189 rfl rfl rfl).as (v' := .bool false) rfl) rfl <| J.b rfl <| J.c hK3 <| J.M 0 4 ?_
  refine J.b6 ?_
  refine J.g fun K4 hK4 => J.b rfl <| J.f (qAE rfl rfl) rfl <| J.a8 2 qE6 qQk rfl rfl rfl rfl rfl <| J.f (qAF 0 rfl rfl rfl isAgg30 hbad) rfl <| J.f (qAx rfl rfl rfl) rfl <| J.b rfl <| J.c hK4 <| J.M 0 7 ?_
  refine J.a0 rfl (fun h7 => ?_) (fun h7 => ?_)
  ·
    refine J.k fun K5 hK5 => J.b5 [blk g l 188, mr, F] [] (.y 0 (.y 1 (.y 2 (.y 3 (.y 4 (.y 5 .nil)))))) Tryz.wide (by decide +kernel) (by simp) ?_
    refine J.G ?_
    refine J.j rfl (qAE rfl rfl) rfl rfl <| J.j rfl (qAA rfl rfl qE6 rfl qQk rfl) rfl rfl <| J.j rfl (qAF 0 rfl rfl rfl isAgg30 hbad) rfl rfl <| J.c0 ?_
    refine J.c0 ?_
    refine J.b4 <| J.q (J.H hK5 ?_)
    refine J.M 2 3 ?_
    exact J.D <| J.b3 <| J.a5 <| J.c2 hw0 (fun _ _ h => h) (qDb rfl rfl rfl) (qB3 (U [blk g l 188, mr]) (by rw [if_neg (by omega)]) (fun hd => ⟨l, mr, A, c, p, rfl, hd, hl, hb, hbad⟩) [0, 1, 2] rfl rfl (by decide))
  refine J.b7 <| J.a4 <| J.q (J.H hK2 ?_)
  refine J.A 0 ?_
  refine J.k fun K6 hK6 => ?_
  have hz : bad = 0 := by omega
  subst hz
  refine J.E <| J.b rfl <| J.f (qAE rfl rfl) rfl <| J.a8 0 qE6 sizeOf186 rfl rfl rfl rfl rfl <| J.u (qAB rfl rfl ent111 (Ct.useA [blk g l 188, mr] [F] (A' := fun x : Hp => [blk g l 188, x]) (new := fun _ => []) (fun F' _ => qGa F' mr g 188 0 l bs A c p hb (by omega)))) rfl ?_
  rintro mr2 hb2
  refine J.p 2 rfl <| J.c hK6 <| J.M 2 3 ?_
  exact J.D <| J.c2 hw0 (fun _ _ h => h) (qDb rfl rfl rfl) (qB3 (U [blk g l 188, mr2]) (rfl) (fun hd => ⟨l, mr2, A, c, p, rfl, hd, hl, hb2, hbad⟩) [0, 1, 2] rfl rfl (by decide))
structure RS where
 s : List UInt8
 bad : Int
def RS.out (st : RS) (size : Nat) : List UInt8 := if st.bad = 0 ∧ size ≤ st.s.length then st.s.take size else []
def RS.take (st : RS) (size : Nat) : RS := if st.bad = 0 then (if size ≤ st.s.length then ⟨st.s.drop size, 0⟩ else ⟨st.s, 3⟩) else st
def RS.form (st : RS) : RS := if st.bad = 0 then ⟨st.s, 4⟩ else st
def natB (l : List UInt8) : Nat := l.foldl (fun n c => n * 256 + c.toNat) 0
def RS.textR (st : RS) : RS := if 4096 < natB (st.out 2) then (st.take 2).form else (st.take 2).take (natB (st.out 2))
def RS.last (st : RS) : Int := if st.bad = 0 then (if st.s = [] then 0 else 2) else st.bad
theorem qIe (g : Nat) : Wtr (blk g [.pointer none, .slice none 0 0, I 0] 188) g [] 0 :=
 ⟨[.pointer none, .slice none 0 0, I 0], fun _ => none, none, 0, none, by funext k; simp only [U]; cases blk g [.pointer none, .slice none 0 0, I 0] 188 k <;> rfl, fun _ => .inr rfl, rfl, ⟨rfl, .inl rfl, rfl, qB5.nil, .inl rfl⟩, rfl⟩
theorem qDr (s : List UInt8) (n : Nat) (bs : List UInt8) (bad : Int) : (qLv s n bs bad).length ≤ bs.length + n := by
 unfold qLv qCp okF
 by_cases h1 : s.length = n <;> by_cases h2 : bad = 0 <;> simp [h1, h2]
theorem qOd (n : UInt64) (size : Nat) (bs : List UInt8) (bad : Int) : (qKd n size bs bad).length ≤ bs.length + size := by
 unfold qKd
 split
 · rw [List.length_append, Sha.numB_length]; omega
 · omega
theorem qST {s : List UInt8} {n : Nat} (h : s.length = n) : okF s n = true := decide_eq_true h
theorem qDH (e bad : Int) : qCp true e bad = bad := by simp [qCp]
theorem qL9 {s : List UInt8} {n : Nat} (h : s.length = n) (bs : List UInt8) : qLv s n bs 0 = bs ++ s := by
 unfold qLv; rw [qST h, qDH]; simp
def qGx (o r : List UInt8) (h : Int) : Prop := 0 ≤ h ∧ h ≤ 6 ∧ o.length = 16 ∧ r.length = 16
instance (o r : List UInt8) (h : Int) : Decidable (qGx o r h) := by unfold qGx; infer_instance
def qBe (o r : List UInt8) (h : Int) : List UInt8 := if qGx o r h then o ++ r ++ [UInt8.ofNat h.toNat] else []
def qBd (o r : List UInt8) (h : Int) : Int := if qGx o r h then 0 else 10
theorem numB1 : ∀ k, k < 7 → Sha.numB (UInt64.ofNat k) 1 = [UInt8.ofNat k] := by decide
theorem okN1 : ∀ k, k < 7 → okN (UInt64.ofNat k) 1 = true := by decide
def qLA (o r : List UInt8) : Int := qCp (okF r 16) 10 (qCp (okF o 16) 10 0)
def pbs (o r : List UInt8) : List UInt8 := qLv r 16 (qLv o 16 [] 0) (qCp (okF o 16) 10 0)
theorem qMx (o r : List UInt8) (k : Nat) (hk : k ≤ 6) : qCp (okN (UInt64.ofNat k) 1) 10 (qLA o r) = qBd o r k := by
 rw [okN1 k (by omega), qDH]
 unfold qLA qBd qGx okF qCp
 by_cases h1 : o.length = 16 <;> by_cases h2 : r.length = 16 <;> simp [h1, h2] <;> omega
theorem qTl (o r : List UInt8) (k : Nat) (hk : k ≤ 6) (h : qBd o r k = 0) : qKd (UInt64.ofNat k) 1 (pbs o r) (qLA o r) = qBe o r k := by
  have hb := qMx o r k hk
  unfold qKd qBe
  rw [hb, h, if_pos rfl, numB1 k (by omega)]
  unfold qBd at h
  split at h
  · rename_i h1
    rw [if_pos h1]
    have h2 := h1
    unfold qGx at h2
    unfold pbs
    rw [qL9 h2.2.2.1, qST h2.2.2.1, qDH, qL9 h2.2.2.2]; simp
  · omega
theorem qR7 {o r : List UInt8} {h : Int} (hn : ¬ qBd o r h = 0) : qBe o r h = [] := by
 unfold qBd at hn; unfold qBe
 split at hn
 · omega
 · rename_i h1; rw [if_neg h1]
theorem qQv {o r : List UInt8} {h : Int} (hn : h < 0 ∨ 6 < h) : Value.tuple #[Str [], I 10] = .tuple #[Str (qBe o r h), I (qBd o r h)] := by
 have h1 : ¬ qGx o r h := by unfold qGx; omega
 unfold qBe qBd
 rw [if_neg h1, if_neg h1]
theorem qR6 (o r : List UInt8) (k : Nat) (hk : k ≤ 6) : Value.tuple #[Str (if qCp (okN (UInt64.ofNat k) 1) 10 (qLA o r) = 0 then qKd (UInt64.ofNat k) 1 (pbs o r) (qLA o r) else []), I (qCp (okN (UInt64.ofNat k) 1) 10 (qLA o r))] = .tuple #[Str (qBe o r k), I (qBd o r k)] := by
 rw [qMx o r k hk]
 by_cases h : qBd o r k = 0
 · rw [if_pos h, qTl o r k hk h]
 · rw [if_neg h, qR7 h]
theorem qEN (F : Hp) (o r : List UInt8) (h : Int) (ho : o.length ≤ 1048576) (hr : r.length ≤ 1048576) :
    Ct prog 131 [.agg #[Str o, Str r, I h]] [F] (fun _ : Unit => .tuple #[Str (qBe o r h), I (qBd o r h)]) (fun _ => True) (fun _ => [F]) := by
  refine Ct.walk func131 rfl ntmps131 rfl (fun w0 hw0 => ?_)
  refine J.g fun K1 hK1 => J.u (qAl rfl rfl rfl) rfl fun g1 _ => J.p 2 rfl <| J.c hK1 <| J.A 1 ?_
  refine J.k fun K2 hK2 => J.g fun K3 hK3 => J.a8 2 qIn z3_ rfl rfl rfl rfl rfl <| J.c4 1 b3_ rfl rfl rfl rfl rfl <| J.f (qAS rfl rfl rfl) rfl <| J.b rfl <| J.c3 (d := 8) rfl (fun h8 => ?_) (fun h8 => ?_)
  ·
    refine J.p 4 rfl <| J.c hK3 <| J.M 1 12 ?_
    refine J.d1 ?_
    refine J.g fun K4 hK4 => J.p 2 rfl <| J.c hK4 <| J.M 2 3 ?_
    exact J.D <| J.a5 <| J.c2 hw0 (fun _ _ h => h) (qDb rfl rfl rfl) (qBD () (qQv (by omega)) trivial [0] rfl (by decide))
  refine J.O (qAA rfl rfl qIn rfl z3_ rfl) rfl <| J.O (qAF 1 rfl rfl rfl b3_ rfl) rfl <| J.O (qBJ rfl rfl rfl) rfl <| J.b rfl <| J.c hK3 <| J.M 1 12 ?_
  refine J.a0 rfl (fun h12 => ?_) (fun h12 => ?_)
  ·
    refine J.g fun K5 hK5 => J.p 2 rfl <| J.c hK5 <| J.M 2 3 ?_
    exact J.D <| J.a5 <| J.c2 hw0 (fun _ _ h => h) (qDb rfl rfl rfl) (qBD () (qQv (by omega)) trivial [0] rfl (by decide))
  refine J.a1 hK2 <| J.A 1 ?_
  refine J.k fun K6 hK6 => ?_
  obtain ⟨k, hk⟩ := Int.eq_ofNat_of_zero_le (show 0 ≤ h by omega)
  have hk6 : k ≤ 6 := by omega
  refine J.E <| J.u (qAf rfl zeroValue188 rfl) rfl fun g4 _ => J.c hK6 <| J.M 1 4 ?_
  refine J.k fun K7 hK7 => J.b5 [blk g1 [Str o, Str r, I h] 54] [] (.y 0 (.y 1 (.y 3 (.y 4 (.y 6 (.y 7 (.y 8 (.e 2 (.e 5 (.e 9 (.e 10 (.y 11 (.y 12 (.y 13 (.y 14 .nil))))))))))))))) Tryz.wide (by decide +kernel) (by simp) ?_
  refine J.j rfl (qAA rfl rfl qIn rfl z9_ rfl) rfl rfl <| J.j rfl (qAF 0 rfl rfl rfl b9_ rfl) rfl rfl <| J.j rfl (qAA rfl rfl qIn rfl z9_ rfl) rfl rfl <| J.j rfl (qAF 0 rfl rfl rfl b9_ rfl) rfl rfl <| J.j rfl (qAA rfl rfl qIn rfl z3_ rfl) rfl rfl <| J.j rfl (qAF 0 rfl rfl rfl b3_ rfl) rfl rfl <| J.j rfl ((qBx rfl rfl u3_ qDu).as (v' := W64 (UInt64.ofNat k)) (by rw [show (h % 18446744073709551616).toNat = k by omega])) rfl rfl <| J.a7 rfl (qAB rfl rfl ent84 (Ct.use1 2 rfl (fun F' _ => qHP F' (blk g4 [.pointer none, .slice none 0 0, I 0] 188) g4 [] 0 (qIe g4) (by decide) o (by omega) 16))) rfl (by simp) ?_
  rintro m15 hw15
  refine J.a7 rfl (qAB rfl rfl ent84 (Ct.use1 2 rfl (fun F' _ => qHP F' m15 g4 (qLv o 16 [] 0) (qCp (okF o 16) 10 0) hw15 (by have := qDr o 16 [] 0; simp only [List.length_nil] at this; omega) r (by omega) 16))) rfl (by simp) ?_
  rintro m18 hw18
  refine J.a7 rfl (qAB rfl rfl ent83 (Ct.use1 2 rfl (fun F' _ => qFX F' m18 g4 (pbs o r) (qLA o r) hw18 (by have := qDr o 16 [] 0; have h2 := qDr r 16 (qLv o 16 [] 0) (qCp (okF o 16) 10 0); simp only [List.length_nil] at this; unfold pbs; omega) (UInt64.ofNat k) 1 (by omega) (by omega)))) rfl (by simp) ?_
  rintro m22 hw22
  refine J.a7 rfl (qAB rfl rfl ent86 (Ct.use1 2 rfl (fun F' _ => qHT F' m22 g4 (qKd (UInt64.ofNat k) 1 (pbs o r) (qLA o r)) (qCp (okN (UInt64.ofNat k) 1) 10 (qLA o r)) hw22 (by have := qDr o 16 [] 0; have h2 := qDr r 16 (qLv o 16 [] 0) (qCp (okF o 16) 10 0); have h3 := qOd (UInt64.ofNat k) 1 (pbs o r) (qLA o r); simp only [List.length_nil] at this; unfold pbs at h3 ⊢; omega)))) rfl (by simp) ?_
  rintro m23 hw23
  refine J.d4 (Str (if qCp (okN (UInt64.ofNat k) 1) 10 (qLA o r) = 0 then qKd (UInt64.ofNat k) 1 (pbs o r) (qLA o r) else [])) ?_
  refine J.d4 (I (qCp (okN (UInt64.ofNat k) 1) 10 (qLA o r))) ?_
  refine J.c0 ?_
  refine J.c0 ?_
  refine J.b4 <| J.q (J.H hK7 ?_)
  refine J.M 2 3 ?_
  exact J.D <| J.c2 hw0 (fun _ _ h => h) (qDb rfl rfl rfl) (qBD () (by subst hk; exact qR6 o r k hk6) trivial [0] rfl (by decide))
theorem eqPub (d : Nat) (o r o' r' : List UInt8) (h h' : Int) (w : World) : (Op.equalIn (d + 2) 54 (.agg #[Str o, Str r, I h]) (.agg #[Str o', Str r', I h'])).run prog w = .ok (decide (o = o' ∧ r = r' ∧ h = h')) w := by
 have u3 := u3_
 have a3 := b3_
 have us := u9_
 have ag := b9_
 have hS : prog.underlying 54 = some (.struct (prog.fieldsOf 54)) := by kernel_rfl
 have hp : prog.stoodInHeld 54 = false := by kernel_rfl
 rw [show d + 2 = (d + 1) + 1 from rfl, run_equalIn_struct w (d + 1) 54 _ _ hS hp]
 simp only [Program.fieldsOf, qIn]
 have hi : ∀ (a b : Int) (w : World), (Op.equalIn (d + 1) 3 (.int .i64 a) (.int .i64 b)).run prog w = .ok (a == b) w := fun a b w => run_equalIn_int w d 3 .i64 .i64 a b u3
 have hs : ∀ (a b : List UInt8) (w : World), (Op.equalIn (d + 1) 9 (Str a) (Str b)).run prog w = .ok (decide (a = b)) w := fun a b w => by rw [run_equalIn_string w d 9 _ _ us, qFn]
 simp only [Op.eqFields]
 simp [part, a3, ag, hi, hs]
 by_cases h1 : o = o' <;> by_cases h2 : r = r' <;> by_cases h3 : h = h' <;> simp [h1, h2, h3]
theorem qK6 {o r : List UInt8} {h : Int} (he : qBd o r h = 0) : (qBe o r h).length = 33 := by
  unfold qBd at he; unfold qBe
  split at he
  · rename_i h1
    rw [if_pos h1]
    have h2 := h1
    unfold qGx at h2
    simp only [List.length_append, List.length_singleton]
    omega
  · omega
theorem qNN (F m : Hp) (g : Nat) (bs : List UInt8) (bad : Int) (hw : Wtr m g bs bad) (hlen : bs.length ≤ 1099511627776) (n : Nat) (hn : n < 18446744073709551616) (size : Nat) (h1 : 1 ≤ size) (h8 : size < 8) :
    Ct prog 83 [Ptr g, N64 n, I size] [m, F] (fun _ : Hp => Ptr g) (fun m' => Wtr m' g (qKd (UInt64.ofNat n) size bs bad) (qCp (okN (UInt64.ofNat n) size) 10 bad)) (fun m' => [m', F]) := by
  rw [N_W hn]
  exact qFX F m g bs bad hw hlen (UInt64.ofNat n) size h1 h8
theorem qH3 {n size : Nat} (hn : n < 18446744073709551616) (h : n < 2 ^ (8 * size)) : okN (UInt64.ofNat n) size = true := by
 unfold okN
 rw [qBF hn]
 exact decide_eq_true h
def qBw : List UInt8 := List.replicate 16 0
def RS.after : RS → Nat → RS
 | st, 0 => st
 | st, k + 1 => (st.after k).textR
theorem qNC {P : Program} {env : Env} {rs : List Hp} {o : Oper} {t e x q r sz A n' c h m} (ho : o.op = .slice t x none (some q) (some r)) (hx : ev env x = some (.slice A n' c)) (hu : P.underlying t = some (.slice e)) (hz : ∀ w, (sizeOf e).run P w = .ok sz w)
    (hhi : ev env q = some (I ((h : Nat) : Int))) (hmx : ev env r = some (I ((m : Nat) : Int))) (hr : h ≤ m ∧ m ≤ c) : YOp P env rs o (.slice A h m) := fun n a w hk _ => by
  simp [execOp, ho, hk.ev hx, hk.ev hhi, hk.ev hmx, Instr.sliceAt, Instr.slice, run_underlying hu, Instr.sliceBounds, Instr.sliceBound, asIntOf, hr.1, hr.2, hz]
  intro _
  cases A <;> simp [Addr.add]
theorem ent39 : qAC prog 39 := qAC.of func39 rfl (by kernel_rfl)
theorem ent148 : qAC prog 148 := qAC.of func148 rfl (by kernel_rfl)
theorem ent184 : qAC prog 184 := qAC.of func184 rfl (by kernel_rfl)
namespace Wd
open Sha
def drawN (fuel : Nat) (n : UInt64) (s : Strm) : Option (UInt64 × Strm) := if n.toNat < 2 then some (0, s) else (draw (stop n) fuel s).map fun x => (x.1 % n, x.2)
def start (a : Nat) : List Int := (List.range a).map fun i : Nat => (i : Int)
def wins (fuel a : Nat) (s0 : Strm) : Nat → Option (List Int × Strm)
  | 0 => some (start a, s0)
  | k + 1 => (wins fuel a s0 k).bind fun x => (drawN fuel (UInt64.ofNat (a - k)) x.2).map fun y =>
      ((x.1.set k (x.1.getD (k + y.1.toNat) 0)).set (k + y.1.toNat) (x.1.getD k 0), y.2)
def seedOf (seed : List UInt8) (band : Nat) : List UInt8 := Sha.tagged 17 [seed, [UInt8.ofNat band]]
theorem drawN_lt {fuel : Nat} {n : UInt64} {s : Strm} {v : UInt64} {s' : Strm} (h : drawN fuel n s = some (v, s')) (hn : 1 ≤ n.toNat) : v.toNat < n.toNat := by
  unfold drawN at h
  split at h
  · simp only [Option.some.injEq, Prod.mk.injEq] at h
    rw [← h.1]; exact hn
  · obtain ⟨x, _, h2⟩ := Option.map_eq_some_iff.1 h
    simp only [Prod.mk.injEq] at h2
    rw [← h2.1, UInt64.toNat_mod]
    exact Nat.mod_lt _ hn
theorem drawN_ok {fuel : Nat} {n : UInt64} {s : Strm} {v : UInt64} {s' : Strm} (h : drawN fuel n s = some (v, s')) (ho : s.Ok8) : s'.Ok8 ∧ s'.seed = s.seed := by
  unfold drawN at h
  split at h
  · simp only [Option.some.injEq, Prod.mk.injEq] at h
    rw [← h.2]; exact ⟨ho, rfl⟩
  · obtain ⟨x, h1, h2⟩ := Option.map_eq_some_iff.1 h
    obtain ⟨k, s1⟩ := x
    simp only [Prod.mk.injEq] at h2
    rw [← h2.2]; exact qNt h1 ho
theorem wins_pre {fuel a : Nat} {s0 : Strm} : ∀ {k j : Nat} {x : List Int × Strm}, wins fuel a s0 k = some x → j ≤ k → ∃ y, wins fuel a s0 j = some y
  | 0, j, x, h, hj => ⟨x, by rw [show j = 0 by omega]; exact h⟩
  | k + 1, j, x, h, hj => by
    by_cases e : j = k + 1
    · exact ⟨x, by rw [e]; exact h⟩
    · obtain ⟨z, hz, _⟩ := Option.bind_eq_some_iff.1 (show (wins fuel a s0 k).bind _ = some x from h)
      exact wins_pre hz (by omega)
def part (a k : Nat) : List Value := ((List.range k).map fun i => I ((i : Nat) : Int)) ++ List.replicate (a - k) (I 0)
theorem part_zero (a : Nat) : (List.replicate a [I 0]).flatten = part a 0 := by
 unfold part
 simp only [List.range_zero, List.map_nil, List.nil_append, Nat.sub_zero]
 induction a with
 | zero => rfl
 | succ a ih => simp only [List.replicate_succ, List.flatten_cons, ih]; rfl
theorem part_len (a k : Nat) (h : k ≤ a) : (part a k).length = a := by simp [part]; omega
theorem part_succ (a k : Nat) (h : k < a) : qAw (part a k) k [I k] = part a (k + 1) := by
 have e : a - k = (a - (k + 1)) + 1 := by omega
 have h2 := qIq ((List.range k).map fun i => I ((i : Nat) : Int)) (I 0) (a - (k + 1)) (I k)
 rw [List.length_map, List.length_range] at h2
 unfold qAw part
 rw [e, List.length_singleton, h2, List.range_succ, List.map_append]
 rfl
theorem part_full (a : Nat) : part a a = (start a).map fun x => I x := by simp [part, start]
theorem setAt_ints (l : List Int) (k : Nat) (x : Int) (h : k < l.length) : qAw (l.map fun x => I x) k [I x] = (l.set k x).map fun x => I x := by
 unfold qAw
 rw [List.length_singleton, List.set_eq_take_append_cons_drop, if_pos h, List.map_append, List.map_cons, List.map_take, List.map_drop]
 simp
theorem getI {l : List Int} {j : Nat} (h : j < l.length) : (l.map fun x => I x)[j]? = some (I (l.getD j 0)) := by
 rw [List.getElem?_map, List.getElem?_eq_getElem h, List.getD_eq_getElem?_getD, List.getElem?_eq_getElem h]; rfl
def find : List Int → Int → Nat → Int
 | [], _, _ => -1
 | a :: r, v, k => if v = a then (k : Int) else find r v (k + 1)
end Wd
theorem qOD (F : Hp) (hK : KF F) (g : Nat) (s : Sha.Strm) (ho : s.Ok8) (hs : s.seed.length ≤ 1048576) (n : UInt64) (fuel : Nat) (k : UInt64) (s' : Sha.Strm) (hd : Wd.drawN fuel n s = some (k, s')) :
    Ct prog 78 [Ptr g, W64 n] [blk g s.cells 240, F] (fun _ : Unit => W64 k) (fun _ => True) (fun _ => [blk g s'.cells 240, F]) := by
  unfold Wd.drawN at hd
  split at hd
  · rename_i hn
    simp only [Option.some.injEq, Prod.mk.injEq] at hd
    obtain ⟨rfl, rfl⟩ := hd
    exact qJM F g s n hn
  · rename_i hn
    obtain ⟨x, h1, h2⟩ := Option.map_eq_some_iff.1 hd
    obtain ⟨y, s1⟩ := x
    simp only [Prod.mk.injEq] at h2
    obtain ⟨rfl, rfl⟩ := h2
    exact qKy F hK g s ho hs n (by omega) fuel y s1 h1
theorem of_ct (F : Hp) (hK : KF F) (seed : List UInt8) (hseed : seed.length ≤ 1048576) (b a sl : Nat) (hb : b < 16) (ha : a ≤ 64) (h1 : 1 ≤ sl) (hsl : sl ≤ a) (fuel : Nat) (l : List Int) (st : Sha.Strm) (hw : Wd.wins fuel a (Sha.Strm.new (Wd.seedOf seed b)) sl = some (l, st)) :
    Ct prog 39 [Str seed, I b, I a, I sl] [F] (fun g : Nat => .tuple #[.slice (some ⟨g, 0, none⟩) sl sl, I 0]) (fun _ => True) (fun g => [F, blk g (l.map fun x => I x) 3]) := by
  have hsd : (Wd.seedOf seed b).length ≤ 1048576 := by unfold Wd.seedOf; rw [Sha.tagged_length]; decide
  refine Ct.walk func39 rfl ntmps39 rfl (fun w0 hw0 => ?_)
  change J _ [(0, _), (1, _), (2, _), (3, _)] _ _ _
  refine J.g fun K1 hK1 => J.p 2 rfl <| J.c hK1 <| J.W 0 1 2 3 ?_
  refine J.k fun K2 hK2 => J.T <| J.g fun K3 hK3 => J.b rfl <| J.f ((qAS rfl rfl rfl).no (by omega)) rfl <| J.p 2 rfl <| J.O ((qBG rfl rfl rfl).no (by omega)) rfl <| J.p 3 rfl <| J.O ((qAS rfl rfl rfl).no (by omega)) rfl <| J.p 3 rfl <| J.O ((qBJ rfl rfl rfl).no (by omega)) rfl <| J.p 3 rfl <| J.O ((qAS rfl rfl rfl).no (by omega)) rfl <| J.p 2 rfl <| J.c hK3 <| J.a3 0 1 2 3 15 ?_
  refine J.b6 ?_
  refine J.g fun K4 hK4 => J.p 2 rfl <| J.f ((qBJ rfl rfl rfl).no (by omega)) rfl <| J.b rfl <| J.c hK4 <| J.a3 0 1 2 3 34 ?_
  refine J.b6 ?_
  refine J.b7 <| J.a4 <| J.q (J.H hK2 ?_)
  refine J.W 0 1 2 3 ?_
  refine J.g fun K5 hK5 => J.p 2 rfl <| J.f (qAe rfl rfl u3_ u5_) rfl <| J.u (qAH (l := [.tmp 40]) (xs := [[B8 (UInt8.ofNat b)]]) rfl rfl rfl rfl qBP el5 rfl (by decide) (by decide) (by simp)) rfl fun g41 _ => ?_
  change J _ _ _ [F, blk g41 [B8 (UInt8.ofNat b)] 5] _
  refine J.f (qBB (l := [UInt8.ofNat b]) rfl rfl qBP u5_ u9_ (m := blk g41 [B8 (UInt8.ofNat b)] 5) (by simp) (qAr (q := True) (xs := [[B8 (UInt8.ofNat b)]]) rfl (by simp)).sl) rfl <| J.u (qAH (l := [.tmp 38, .tmp 42]) (xs := [[Str seed], [Str [UInt8.ofNat b]]]) rfl rfl rfl rfl qAn el9 rfl (by decide) (by decide) (by simp)) rfl fun g43 _ => ?_
  change J _ _ _ [_, _, blk g43 [Str seed, Str [UInt8.ofNat b]] 9] _
  refine J.u (qAB rfl rfl ent44 (Ct.use0 (fun F' hF => qA5 F' (hK.mono (hF _ (by simp))) 17 (some ⟨g43, 0, none⟩) 2 2 [seed, [UInt8.ofNat b]] (((qAr (q := True) (xs := qAL [seed, [UInt8.ofNat b]]) rfl (by simp [qAL])).sl (m := blk g43 [Str seed, Str [UInt8.ofNat b]] 9)).mono (hF _ (by simp))) (by simp; omega) (by decide)))) rfl fun g44 _ => J.u (qAB rfl rfl ent77 (Ct.use (fun F' _ => qH7 F' (Wd.seedOf seed b)))) rfl fun g45 _ => ?_
  change J _ _ _ [_, _, _, blk g45 (Sha.Strm.new (Wd.seedOf seed b)).cells 240] _
  refine J.b rfl <| J.c hK5 <| J.V 2 3 10 ?_
  refine J.g fun K6 hK6 => J.b rfl <| J.u (qBi (n' := a) rfl rfl qB1 el3 (by omega) (by omega)) rfl fun g47 _ => ?_
  change J _ _ _ [_, _, _, _, blk g47 (List.replicate a [I 0]).flatten 3] _
  refine J.c5 [0, 3, 4] [F, blk g45 (Sha.Strm.new (Wd.seedOf seed b)).cells 240, blk g47 (List.replicate a [I 0]).flatten 3] rfl (by decide) <| J.b rfl <| J.c hK6 <| J.W 2 3 10 11 ?_
  refine J.k fun K7 hK7 => J.g fun K8 hK8 => J.b rfl <| J.f (qAZ qB1 rfl rfl) rfl <| J.b rfl <| J.c hK8 <| J.a9 2 3 10 11 49 50 ?_
  refine J.T <| J.b2 (fun k : Nat => [(2, I a), (3, I sl), (10, Ptr g45), (11, .slice (some ⟨g47, 0, none⟩) a a), (49, I a), (50, I k)]) (fun k => [F, blk g45 (Sha.Strm.new (Wd.seedOf seed b)).cells 240, blk g47 (Wd.part a k) 3]) (fun k => k ≤ a) (fun k => a - k) 0 (Nat.zero_le _) ⟨rfl, rfl, rfl, rfl, rfl, rfl, trivial⟩ (fun _ h => by rw [← Wd.part_zero]; exact h) ?_
  intro k hk I1 hI1
  refine J.g fun K9 hK9 => J.f (qAS rfl rfl rfl) rfl <| J.c hK9 <| J.b9 2 3 10 11 49 50 51 ?_
  refine J.k fun K10 hK10 => J.a0 rfl (fun h51 => ?_) (fun h51 => ?_)
  ·
    refine J.a1 hK10 <| J.a9 2 3 10 11 49 50 ?_
    refine J.k fun K11 hK11 => J.T <| J.g fun K12 hK12 => J.p 2 rfl <| J.c hK12 <| J.b9 2 3 10 11 12 49 50 ?_
    refine J.E <| J.p 3 rfl <| J.f (qAJ (i := k) (j := k) rfl rfl rfl qB1 z3_ (by omega) (by omega)) rfl <| J.c1 (qAc (i := 2) (vs := [I k]) rfl rfl rfl rfl rfl z3_ rfl (by rw [Wd.part_len a k (by omega)]; show k + 1 ≤ a; omega)) rfl rfl fun _ _ => ?_
    change J _ _ _ [F, blk g45 (Sha.Strm.new (Wd.seedOf seed b)).cells 240, blk g47 (qAw (Wd.part a k) k [I k]) 3] _
    refine J.a2 <| J.a4 <| J.q (J.H hK11 ?_)
    refine J.a9 2 3 10 11 49 50 ?_
    exact J.E <| J.f (qAO rfl rfl rfl (by omega)) rfl <| J.b rfl <| J.a2 <| J.q <| J.a6 (k + 1) (fun x (hx : x ≤ a ∧ a - x < a - k) => hI1 x hx.1 hx.2) ⟨by omega, by omega⟩ ⟨rfl, rfl, rfl, rfl, rfl, rfl, trivial⟩ (fun _ h => by rw [← Wd.part_succ a k (by omega)]; exact h)
  refine J.b0 <| J.Z <| J.Z <| J.b1 ?_
  refine J.q (J.H hK7 ?_)
  refine J.W 2 3 10 11 ?_
  refine J.k fun K13 hK13 => J.k fun K14 hK14 => ?_
  have hka : a = k := by omega
  subst hka
  refine J.E <| J.p 2 rfl <| J.c hK14 <| J.a9 2 3 10 11 58 59 ?_
  refine J.T <| J.b2 (X := Nat × List Int × Sha.Strm) (fun x => [(2, I a), (3, I sl), (10, Ptr g45), (11, .slice (some ⟨g47, 0, none⟩) a a), (58, I sl), (59, I x.1)]) (fun x => [F, blk g45 x.2.2.cells 240, blk g47 (x.2.1.map fun x => I x) 3]) (fun x => x.1 ≤ sl ∧ Wd.wins fuel a (Sha.Strm.new (Wd.seedOf seed b)) x.1 = some (x.2.1, x.2.2) ∧ x.2.1.length = a ∧ x.2.2.Ok8 ∧ x.2.2.seed = Wd.seedOf seed b) (fun x => sl - x.1) (0, Wd.start a, (Sha.Strm.new (Wd.seedOf seed b))) (⟨Nat.zero_le _, rfl, by simp [Wd.start], rfl, rfl⟩) ⟨rfl, rfl, rfl, rfl, rfl, rfl, trivial⟩ (fun _ h => by rw [← Wd.part_full]; exact h) ?_
  rintro ⟨k, li, s1⟩ ⟨hk, hwk, hll, ho, hse⟩ I3 hI3
  dsimp only at hk hwk hll ho hse ⊢
  refine J.g fun K15 hK15 => J.f (qAS rfl rfl rfl) rfl <| J.c hK15 <| J.b9 2 3 10 11 58 59 60 ?_
  refine J.k fun K16 hK16 => J.a0 rfl (fun h60 => ?_) (fun h60 => ?_)
  ·
    refine J.a1 hK16 <| J.a9 2 3 10 11 58 59 ?_
    refine J.k fun K17 hK17 => J.T <| J.g fun K18 hK18 => J.p 2 rfl <| J.c hK18 <| J.b9 2 3 10 11 13 58 59 ?_
    refine J.k fun K19 hK19 => ?_
    have hks : k < sl := by omega
    obtain ⟨y, hy⟩ := Wd.wins_pre hw (show k + 1 ≤ sl by omega)
    have hy2 := hy
    rw [Wd.wins, hwk] at hy2
    obtain ⟨⟨v, s2⟩, hdr, hy3⟩ := Option.map_eq_some_iff.1 (show (Wd.drawN fuel (UInt64.ofNat (a - k)) s1).map _ = some y from hy2)
    have hak : (UInt64.ofNat (a - k)).toNat = a - k := by rw [UInt64.toNat_ofNat']; exact Nat.mod_eq_of_lt (by omega)
    have hv := Wd.drawN_lt hdr (by omega)
    have hok2 := Wd.drawN_ok hdr ho
    rw [hak] at hv
    refine J.E <| J.p 4 rfl <| J.f ((qAs rfl rfl rfl (by omega)).nat (a - k) (by omega)) rfl <| J.f (qBL rfl rfl u3_ qDu (by omega)) rfl <| J.u (qAB rfl rfl ent78 (Ct.use1 1 (m' := fun _ : Unit => blk g45 s2.cells 240) (new := fun _ => []) rfl (fun F' hF => qOD F' (hK.mono (hF _ (by simp))) g45 s1 ho (by rw [hse]; exact hsd) (UInt64.ofNat (a - k)) fuel v s2 hdr))) rfl fun g68 _ => ?_
    change J _ _ _ [F, blk g45 s2.cells 240, blk g47 (li.map fun x => I x) 3] _
    refine J.f (qD4 rfl rfl qDu u3_ (by omega)) rfl <| J.f ((qAO rfl rfl rfl (by omega)).nat (k + v.toNat) (by omega)) rfl <| J.b rfl <| J.c hK19 <| J.d2 2 3 10 11 13 14 58 59 ?_
    refine J.b5 [blk g47 (li.map fun x => I x) 3] [13, 14, 15, 100002, 100003] (.y 0 (.y 1 (.y 2 (.y 3 (.y 4 (.y 5 (.y 6 (.y 7 (.y 8 (.y 9 (.y 10 (.y 11 (.y 12 (.e 13 (.e 14 (.e 15 .nil)))))))))))))))) Tryz.wide (by decide +kernel) (by simp) ?_
    refine J.G ?_
    refine J.G ?_
    refine J.e3 rfl (qAj rfl rfl) rfl rfl rfl ?_
    refine J.e3 rfl (qAj rfl rfl) rfl rfl rfl ?_
    refine J.G ?_
    refine J.G ?_
    refine J.j rfl (qAJ (i := k + v.toNat) (j := k + v.toNat) rfl rfl rfl qB1 z3_ (by omega) (by omega)) rfl rfl <| J.j rfl (qAF 0 rfl rfl rfl b3_ (Wd.getI (l := li) (j := k + v.toNat) (by omega))) rfl rfl <| J.G ?_
    refine J.G ?_
    refine J.j rfl (qAJ (i := k) (j := k) rfl rfl rfl qB1 z3_ (by omega) (by omega)) rfl rfl <| J.j rfl (qAF 0 rfl rfl rfl b3_ (Wd.getI (l := li) (j := k) (by omega))) rfl rfl <| J.j rfl (qAJ (i := k) (j := k) rfl rfl rfl qB1 z3_ (by omega) (by omega)) rfl rfl <| J.c8 rfl (qAc (i := 2) (vs := [I (li.getD (k + v.toNat) 0)]) rfl rfl rfl rfl rfl z3_ rfl (by rw [List.length_map]; show k + 1 ≤ _; omega)) rfl rfl rfl fun _ _ => ?_
    change J _ _ _ [_, _, blk g47 (qAw (li.map fun x => I x) k [I (li.getD (k + v.toNat) 0)]) 3] _
    refine J.e1 rfl (YOp.eop (qAJ (i := k + v.toNat) (j := k + v.toNat) rfl rfl rfl qB1 z3_ (by omega) (by omega))) rfl rfl rfl rfl ?_
    intro _ _
    refine J.c8 rfl (qAc (i := 2) (vs := [I (li.getD k 0)]) rfl rfl rfl rfl rfl z3_ rfl (by rw [qCY (by rw [List.length_map]; omega), List.length_map]; show k + v.toNat + 1 ≤ _; omega)) rfl rfl rfl fun _ _ => ?_
    change J _ _ _ [_, _, blk g47 (qAw (qAw (li.map fun x => I x) k [I (li.getD (k + v.toNat) 0)]) (k + v.toNat) [I (li.getD k 0)]) 3] _
    refine J.b4 <| J.a4 <| J.q (J.H hK17 ?_)
    refine J.a9 2 3 10 11 58 59 ?_
    refine J.E <| J.f (qAO rfl rfl rfl (by omega)) rfl <| J.b rfl <| J.a2 <| J.q ?_
    rw [Wd.setAt_ints _ _ _ (by omega), Wd.setAt_ints _ _ _ (by rw [List.length_set]; omega)]
    exact J.a6 (k + 1, (li.set k (li.getD (k + v.toNat) 0)).set (k + v.toNat) (li.getD k 0), s2) (fun x (hx : _ ∧ sl - x.1 < sl - k) => hI3 x hx.1 hx.2) ⟨⟨by dsimp only; omega, by dsimp only; rw [hy]; exact congrArg some hy3.symm, by dsimp only; rw [List.length_set, List.length_set]; exact hll, hok2.1, hok2.2.trans hse⟩, by dsimp only; omega⟩ ⟨rfl, rfl, rfl, rfl, rfl, rfl, trivial⟩ (fun _ h => h)
  refine J.b0 <| J.Z <| J.Z <| J.b1 ?_
  refine J.q (J.H hK13 ?_)
  refine J.M 3 11 ?_
  refine J.k fun K20 hK20 => ?_
  have hks : sl = k := by omega
  subst hks
  rw [hwk] at hw
  simp only [Option.some.injEq, Prod.mk.injEq] at hw
  refine J.E <| J.p 3 rfl <| J.f (qNC (h := sl) (m := sl) rfl rfl qB1 z3_ rfl rfl (by omega)) rfl <| J.p 2 rfl <| J.c hK20 <| J.M 8 9 ?_
  exact J.D <| J.c2 hw0 (fun _ _ h => h) (qDb rfl rfl rfl) (qBD g47 rfl trivial [0, 2] (by rw [← hw.1]; rfl) (by decide))
theorem qP9 (F : Hp) (A : Option Addr) (n c : Nat) (l : List Int) (hl : Sl F 1 A n c (qEj l)) (v : Int) (hn : n < 4611686018427387904) :
    Ct prog 184 [.slice A n c, I v] [F] (fun _ : Unit => I (Wd.find l v 0)) (fun _ => True) (fun _ => [F]) := by
  have hlen : l.length = n := by have := hl.1; simpa [qEj] using this
  refine Ct.walk func184 rfl ntmps184 rfl (fun w0 hw0 => ?_)
  change J _ [(0, _), (1, _)] _ _ _
  refine J.g fun K1 hK1 => J.b rfl <| J.c hK1 <| J.M 0 1 ?_
  refine J.k fun K2 hK2 => J.g fun K3 hK3 => J.b rfl <| J.f (qAZ qB1 rfl rfl) rfl <| J.b rfl <| J.c hK3 <| J.W 0 1 7 8 ?_
  refine J.T <| J.b2 (fun k : Nat => [(0, .slice A n c), (1, I v), (7, I n), (8, I k)]) (fun _ => [F]) (fun k => k ≤ n ∧ Wd.find (l.drop k) v k = Wd.find l v 0) (fun k => n - k) 0 (⟨Nat.zero_le _, rfl⟩) ⟨rfl, rfl, rfl, rfl, trivial⟩ (fun _ h => h) ?_
  rintro k ⟨hk, hc⟩ I0 hI0
  refine J.g fun K4 hK4 => J.f (qAS rfl rfl rfl) rfl <| J.c hK4 <| J.a3 0 1 7 8 9 ?_
  refine J.k fun K5 hK5 => J.a0 rfl (fun h9 => ?_) (fun h9 => ?_)
  ·
    refine J.a1 hK5 <| J.W 0 1 7 8 ?_
    refine J.k fun K6 hK6 => J.T <| J.g fun K7 hK7 => J.p 2 rfl <| J.c hK7 <| J.a3 0 1 5 7 8 ?_
    refine J.k fun K8 hK8 => ?_
    have hkn : k < n := by omega
    obtain ⟨s, hs⟩ : ∃ s, l[k]? = some s := ⟨_, List.getElem?_eq_getElem (by omega)⟩
    have hdr : l.drop k = s :: l.drop (k + 1) := by
      obtain ⟨hk2, rfl⟩ := List.getElem?_eq_some_iff.1 hs
      exact List.drop_eq_getElem_cons hk2
    rw [hdr, Wd.find] at hc
    refine J.E <| J.p 3 rfl <| J.f (qAG (i := k) rfl rfl rfl qB1 z3_ hl (by omega)) rfl <| J.f (qAK rfl rfl b3_ (m := F) (by simp) (hl.elem (qNd hs))) rfl <| J.f (qAd rfl rfl rfl) rfl <| J.c hK8 <| J.a9 0 1 5 7 8 16 ?_
    refine J.a0 rfl (fun h16 => ?_) (fun h16 => ?_)
    ·
      refine J.g fun K9 hK9 => J.p 2 rfl <| J.c hK9 <| J.A 4 ?_
      refine J.D <| J.b3 <| J.a5 <| J.a5 <| J.b3 <| J.a5 ?_
      rw [if_pos h16] at hc
      exact J.L hw0 rfl () (by rw [← hc]) trivial [0] rfl (by decide)
    refine J.b7 <| J.a4 <| J.q (J.H hK6 ?_)
    refine J.W 0 1 7 8 ?_
    refine J.E <| J.f (qAO rfl rfl rfl (by omega)) rfl <| J.b rfl <| J.a2 <| J.q ?_
    rw [if_neg h16] at hc
    exact J.a6 (k + 1) (fun x (hx : _ ∧ n - x < n - k) => hI0 x hx.1 hx.2) ⟨⟨by omega, hc⟩, by omega⟩ ⟨rfl, rfl, rfl, rfl, trivial⟩ (fun _ h => h)
  refine J.b0 <| J.Z <| J.Z <| J.b1 ?_
  refine J.q (J.H hK2 ?_)
  refine J.c6 [] trivial <| J.k fun K10 hK10 => ?_
  rw [List.drop_of_length_le (by omega)] at hc
  refine J.E <| J.b rfl <| J.c hK10 <| J.A 4 ?_
  exact J.D <| J.L hw0 rfl () (by rw [← hc]; rfl) trivial [0] rfl (by decide)
theorem qRk (F : Hp) (A : Option Addr) (n c : Nat) (l : List Int) (hl : Sl F 1 A n c (qEj l)) (v : Int) (hn : n < 4611686018427387904) :
    Ct prog 148 [.slice A n c, I v] [F] (fun _ : Unit => .tuple #[I (max (Wd.find l v 0) 0), .bool (decide (0 ≤ Wd.find l v 0))]) (fun _ => True) (fun _ => [F]) := by
  refine Ct.walk func148 rfl ntmps148 rfl (fun w0 hw0 => ?_)
  change J _ [(0, _), (1, _)] _ _ _
  refine J.g fun K1 hK1 => J.p 2 rfl <| J.c hK1 <| J.M 0 1 ?_
  refine J.g fun K2 hK2 => J.p 2 rfl <| J.u (qAB rfl rfl ent184 (qP9 F A n c l hl v hn)) rfl fun g9 _ => J.b rfl <| J.c hK2 <| J.A 6 ?_
  refine J.g fun K3 hK3 => J.b rfl <| J.f (qJy rfl rfl rfl) rfl <| J.b rfl <| J.f (qBG rfl rfl rfl) rfl <| J.p 2 rfl <| J.c hK3 <| J.M 4 5 ?_
  exact J.D <| J.c2 hw0 (fun _ _ h => h) (qDb rfl rfl rfl) (qBD () rfl trivial [0] rfl (by decide))
end Go.Proofs.YtfldiegfenndjaaGreatDoor
