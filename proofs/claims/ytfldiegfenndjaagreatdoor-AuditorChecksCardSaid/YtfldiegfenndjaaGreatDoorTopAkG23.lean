/- A part of the proof. -/
import Derived.Test.YtfldiegfenndjaaGreatDoorTopAkG22
import Derived.Test.YtfldiegfenndjaaGreatDoorTopAkG16
import Derived.Test.YtfldiegfenndjaaGreatDoorTopAkG20
import Derived.Test.YtfldiegfenndjaaGreatDoorTopAkG19
set_option linter.unusedSimpArgs false
set_option linter.unusedVariables false
namespace Go.Proofs.YtfldiegfenndjaaGreatDoor
open Go Go.Fw Go.Proofs.Tryz
set_option maxRecDepth 100000
set_option maxHeartbeats 1000000
structure Chg where
 k : List UInt8
 v : List UInt8
 deriving DecidableEq
def Chg.cells (x : Chg) : List Value := [Str (x.k), Str (x.v)]
def qAc : Chg := ⟨[], []⟩
def qM9 (l : List Chg) : List (List Value) := l.map Chg.cells
theorem qII {l : List Chg} {k : Nat} (h : k < l.length) : (qM9 l)[k]? = some (l.getD k qAc).cells := by
 unfold qM9
 rw [List.getElem?_map, qAg qAc h]; rfl
structure qAm where
 k : List UInt8
 v : List UInt8
 bsA : Option Addr
 bsc : Nat
 bs : List (List UInt8)
 th : Bool
 pk : List UInt8
 pv : List UInt8
def qAm.cells (x : qAm) : List Value := [Str (x.k), Str (x.v), .slice x.bsA x.bs.length x.bsc, .bool (x.th), Str (x.pk), Str (x.pv)]
def qAF : qAm := ⟨[], [], none, 0, [], false, [], []⟩
def qDb (l : List qAm) : List (List Value) := l.map qAm.cells
theorem qFG {l : List qAm} {k : Nat} (h : k < l.length) : (qDb l)[k]? = some (l.getD k qAF).cells := by
 unfold qDb
 rw [List.getElem?_map, qAg qAF h]; rfl
theorem qKa (a : List qAm) (x : qAm) : qDb (a ++ [x]) = qDb a ++ [x.cells] := by simp [qDb]
theorem qGJ {a b : Hp} (h : Dj a b) : Le a (U [a, b]) := qGI (qAS.2 (by simpa using h)) (.head _)
theorem qPZ {a b : Hp} (h : Dj a b) : Le b (U [a, b]) := qGI (qAS.2 (by simpa using h)) (.tail _ (.head _))
def qAm.chg (x : qAm) : Chg := ⟨x.k, x.v⟩
def kvC (l : List Sm.PR) (cl : List Chg) : List Sm.PR := cl.foldl (fun l x => Sm.putP l x.k x.v) l
theorem qOZ (l : List Sm.PR) (cl : List Chg) (x : Chg) : kvC l (cl ++ [x]) = Sm.putP (kvC l cl) x.k x.v := by unfold kvC; rw [List.foldl_append]; rfl
theorem qDs {α : Type} (l : List α) (i : Nat) (no : α) (h : i < l.length) : l.take (i + 1) = l.take i ++ [l.getD i no] := by
 rw [List.take_succ_eq_append_getElem h, List.getD_eq_getElem?_getD, List.getElem?_eq_getElem h]; rfl
theorem qJ0 {l : List Sm.PR} {cl : List Chg} {i : Nat} (h : i < cl.length) : kvC l (cl.take (i + 1)) = Sm.putP (kvC l (cl.take i)) (cl.getD i qAc).k (cl.getD i qAc).v := by
 rw [qDs cl i qAc h, qOZ]
theorem qQ0 (l : List Sm.PR) (cl : List Chg) : (kvC l cl).length ≤ l.length + cl.length := by
 induction cl generalizing l with
 | nil => exact Nat.le_refl _
 | cons x r ih =>
  have h1 := ih (Sm.putP l x.k x.v)
  have h2 := Sm.putP_len l x.k x.v
  show (kvC (Sm.putP l x.k x.v) r).length ≤ l.length + (r.length + 1)
  omega
structure qJN (b d : Nat) (cl : List Chg) : Prop where
 len : cl.length ≤ 256
 k16 : ∀ x ∈ cl, x.k.length = 16
 bnd : ∀ x ∈ cl, qDC x.k d = b
 val : ∀ x ∈ cl, x.v.length ≤ 1000000
theorem qJN.at {b d : Nat} {cl : List Chg} (h : qJN b d cl) {i : Nat} (hi : i < cl.length) : (cl.getD i qAc).k.length = 16 ∧ qDC (cl.getD i qAc).k d = b ∧ (cl.getD i qAc).v.length ≤ 1000000 := by
 rw [List.getD_eq_getElem?_getD, List.getElem?_eq_getElem hi]
 exact ⟨h.k16 _ (List.getElem_mem hi), h.bnd _ (List.getElem_mem hi), h.val _ (List.getElem_mem hi)⟩
theorem qOa {l : List Sm.PR} {cl : List Chg} (hf : qCj l) (h16 : ∀ x ∈ cl, x.k.length = 16) (hv : ∀ x ∈ cl, x.v.length ≤ 1000000) (hn : l.length + cl.length ≤ 100000) : qCj (kvC l cl) := by
 induction cl generalizing l with
 | nil => exact hf
 | cons x r ih =>
  rw [List.length_cons] at hn
  refine ih (l := Sm.putP l x.k x.v) (hf.put (h16 x (.head _)) (hv x (.head _)) (by omega)) (fun y hy => h16 y (.tail _ hy)) (fun y hy => hv y (.tail _ hy)) ?_
  have h2 := Sm.putP_len l x.k x.v
  omega
theorem qJN.fine {b d : Nat} {cl : List Chg} (h : qJN b d cl) {l : List Sm.PR} (hf : qCj l) (hn : l.length ≤ 90000) (i : Nat) : qCj (kvC l (cl.take i)) :=
 qOa hf (fun x hx => h.k16 x (List.mem_of_mem_take hx)) (fun x hx => h.val x (List.mem_of_mem_take hx)) (by rw [List.length_take]; have := h.len; omega)
theorem qJr {l : List Sm.PR} (hl : ∀ p ∈ l, p.1.length = 16) {k : List UInt8} {b d : Nat} (hk : k.length = 16) (hd : d ≤ 4) (hb : qDC k d = b) : Sm.ndB l k d = Sm.ndB l (kF b d) d := by
 have hlt : b < 2 ^ d := hb ▸ qHI k d
 unfold Sm.ndB Sm.bel
 congr 1
 refine List.filter_congr fun p hp => ?_
 rw [Bool.eq_iff_iff, Sm.belowB_kv (hl p hp) hk (by omega), Sm.belowB_kv (hl p hp) (qEf b d) (by omega), qSN (by omega) hlt, ← qKH hk (by omega), hb]
structure qIW (l : List Sm.PR) (d : Nat) (x : qAm) : Prop where
 good : qNQ x.bs x.th x.pk x.pv x.k d
 pv : x.pv.length ≤ 1000000
 val : x.v.length ≤ 1000000
 node : qFN x.bs x.th x.pk x.pv x.k d = Sm.ndB l x.k d
 after : qEk x.bs x.th x.pk x.pv x.k x.v d = Sm.ndB (Sm.putP l x.k x.v) x.k d
theorem qIW.of {l : List Sm.PR} (hf : qCj l) (hn : l.length ≤ 100000) {k v : List UInt8} (hk : k.length = 16) (hv : v.length ≤ 1000000) {d s : Nat} (h : qLK l k d s) (A : Option Addr) (c : Nat) :
    qIW l d ⟨k, v, A, c, bsd l k d (s - d), qBD l k s, qDz l k s, qEE l k s⟩ :=
  ⟨qKh hf hk h, qKm hf k s, hv, qKg hf hk h, qIo hf hk hv hn h⟩
def qBy (l : List Sm.PR) (d : Nat) (L : List qAm) : Prop := ∀ i, i < L.length → qIW (kvC l ((L.map qAm.chg).take i)) d (L.getD i qAF)
theorem qBy.nil (l : List Sm.PR) (d : Nat) : qBy l d [] := fun i h => absurd h (Nat.not_lt_zero i)
theorem qBy.snoc {l : List Sm.PR} {d : Nat} {L : List qAm} {x : qAm} (h : qBy l d L) (hx : qIW (kvC l (L.map qAm.chg)) d x) : qBy l d (L ++ [x]) := fun i hi => by
  rw [List.length_append, List.length_singleton] at hi
  rw [List.map_append]
  by_cases hlt : i < L.length
  · rw [List.take_append_of_le_length (by rw [List.length_map]; omega), List.getD_eq_getElem?_getD, List.getElem?_append_left hlt, ← List.getD_eq_getElem?_getD]
    exact h i hlt
  · obtain rfl : i = L.length := by omega
    have e : (L.map qAm.chg ++ [x].map qAm.chg).take L.length = L.map qAm.chg := List.take_left' (List.length_map qAm.chg)
    rw [e, List.getD_eq_getElem?_getD, List.getElem?_append_right (Nat.le_refl _), Nat.sub_self]
    exact hx
def qK8 (M : Hp) (L : List qAm) : Prop := ∀ i, i < L.length → Sl M 1 (L.getD i qAF).bsA (L.getD i qAF).bs.length (L.getD i qAF).bsc (qAI (L.getD i qAF).bs)
theorem qK8.nil (M : Hp) : qK8 M [] := fun i h => absurd h (Nat.not_lt_zero i)
theorem qK8.mono {M M' : Hp} {L : List qAm} (h : qK8 M L) (hl : Le M M') : qK8 M' L := fun i hi => (h i hi).mono hl
theorem qK8.snoc {M : Hp} {L : List qAm} {x : qAm} (h : qK8 M L) (hx : Sl M 1 x.bsA x.bs.length x.bsc (qAI x.bs)) : qK8 M (L ++ [x]) := fun i hi => by
  rw [List.length_append, List.length_singleton] at hi
  rw [List.getD_eq_getElem?_getD]
  by_cases hlt : i < L.length
  · rw [List.getElem?_append_left hlt, ← List.getD_eq_getElem?_getD]; exact h i hlt
  · obtain rfl : i = L.length := by omega
    rw [List.getElem?_append_right (Nat.le_refl _), Nat.sub_self]; exact hx
def inB (b d : Nat) (k : List UInt8) : Prop := k.length = 16 ∧ qDC k d = b
instance (b d : Nat) (k : List UInt8) : Decidable (inB b d k) := by unfold inB; infer_instance
def qIz (b z : Int) (ks : List (List UInt8)) : Nat := if cnt z = 0 then 1 else if 256 < ks.length then 22 else if b < 0 ∨ ((cnt z : Nat) : Int) ≤ b then 10 else if ∀ k ∈ ks, inB b.toNat z.toNat k then 0 else 10
theorem qEc {b z : Int} {ks : List (List UInt8)} (h : cnt z = 0) : qIz b z ks = 1 := if_pos h
theorem qDi {b z : Int} {ks : List (List UInt8)} (h : ¬ cnt z = 0) (h2 : 256 < ks.length) : qIz b z ks = 22 := by unfold qIz; rw [if_neg h, if_pos h2]
theorem qDj {b z : Int} {ks : List (List UInt8)} (h : ¬ cnt z = 0) (h2 : ¬ 256 < ks.length) (h3 : b < 0 ∨ ((cnt z : Nat) : Int) ≤ b) : qIz b z ks = 10 := by unfold qIz; rw [if_neg h, if_neg h2, if_pos h3]
theorem qC8 {b z : Int} {ks : List (List UInt8)} (h : ¬ cnt z = 0) (h2 : ¬ 256 < ks.length) (h3 : ¬ (b < 0 ∨ ((cnt z : Nat) : Int) ≤ b)) {k : List UInt8} (hk : k ∈ ks) (hn : ¬ inB b.toNat z.toNat k) : qIz b z ks = 10 := by unfold qIz; rw [if_neg h, if_neg h2, if_neg h3, if_neg (fun e => hn (e k hk))]
theorem qEd {b z : Int} {ks : List (List UInt8)} (h : ¬ cnt z = 0) (h2 : ¬ 256 < ks.length) (h3 : ¬ (b < 0 ∨ ((cnt z : Nat) : Int) ≤ b)) (hk : ∀ k ∈ ks, inB b.toNat z.toNat k) : qIz b z ks = 0 := by unfold qIz; rw [if_neg h, if_neg h2, if_neg h3, if_pos hk]
theorem qJN.may {b d : Nat} {cl : List Chg} (h : qJN b d cl) (hd : d ≤ 4) (hb : b < 2 ^ d) : qIz b d (cl.map Chg.k) = 0 := by
 refine qEd (by rw [qCP hd]; have := pow4 hd; omega) (by rw [List.length_map]; have := h.len; omega) (by rw [qCP hd]; omega) fun k hk => ?_
 obtain ⟨x, hx, rfl⟩ := List.mem_map.1 hk
 exact ⟨h.k16 x hx, by rw [Int.toNat_natCast, Int.toNat_natCast]; exact h.bnd x hx⟩
theorem qMo (cl : List Chg) {i : Nat} (h : i < cl.length) : (cl.take (i + 1)).map Chg.k = (cl.take i).map Chg.k ++ [(cl.getD i qAc).k] := by rw [qDs cl i qAc h, List.map_append]; rfl
theorem qKb (L : List qAm) {i : Nat} (h : i < L.length) : (L.take (i + 1)).map qAm.k = (L.take i).map qAm.k ++ [(L.getD i qAF).k] := by rw [qDs L i qAF h, List.map_append]; rfl
theorem qO0 {p : List UInt8 → Prop} {ks : List (List UInt8)} {i : Nat} (hi : i < ks.length) (h : ∀ k ∈ ks.take i, p k) (hk : p (ks.getD i [])) : ∀ k ∈ ks.take (i + 1), p k := by
 rw [qDs ks i [] hi]
 intro k hm
 rcases List.mem_append.1 hm with hm | hm
 · exact h k hm
 · rw [List.mem_singleton.1 hm]; exact hk
theorem qJ7 {ks : List (List UInt8)} {i : Nat} (hi : i < ks.length) : ks.getD i [] ∈ ks := by
 rw [List.getD_eq_getElem?_getD, List.getElem?_eq_getElem hi]; exact List.getElem_mem hi
theorem qOt {cl : List Chg} {L : List qAm} {i : Nat} (hi : i < cl.length) (h : L.map qAm.chg = cl.take i) {x : qAm} (hk : x.k = (cl.getD i qAc).k) (hv : x.v = (cl.getD i qAc).v) : (L ++ [x]).map qAm.chg = cl.take (i + 1) := by
 rw [qDs cl i qAc hi, List.map_append, h]
 congr 1
 show [(⟨x.k, x.v⟩ : Chg)] = _
 rw [hk, hv]
theorem qJN.smallK {b d : Nat} {cl : List Chg} (h : qJN b d cl) (j : Nat) : ((cl.map Chg.k).getD j []).length ≤ 1000000 := by
  rw [List.getD_eq_getElem?_getD, List.getElem?_map]
  by_cases hj : j < cl.length
  · rw [List.getElem?_eq_getElem hj]
    have := h.k16 _ (List.getElem_mem hj)
    show (cl[j].k).length ≤ 1000000
    rw [this]; decide
  · rw [List.getElem?_eq_none (by omega)]; decide
def qFY (cl : List Chg) (i : Nat) : List (List UInt8) := (cl.take i).map Chg.k
theorem qGM {cl : List Chg} {i : Nat} (h : i < cl.length) : qFY cl (i + 1) = qFY cl i ++ [(cl.getD i qAc).k] := qMo cl h
theorem qMp {cl : List Chg} {i : Nat} (h : i ≤ cl.length) : (qFY cl i).length = i := by unfold qFY; rw [List.length_map, List.length_take]; omega
theorem qMq (cl : List Chg) : qFY cl cl.length = cl.map Chg.k := by unfold qFY; rw [List.take_length]
def qDQ (L : List qAm) (i : Nat) : List (List UInt8) := (L.take i).map qAm.k
theorem qDK {L : List qAm} {i : Nat} (h : i < L.length) : qDQ L (i + 1) = qDQ L i ++ [(L.getD i qAF).k] := qKb L h
theorem qH1 {L : List qAm} {i : Nat} (h : i ≤ L.length) : (qDQ L i).length = i := by unfold qDQ; rw [List.length_map, List.length_take]; omega
theorem qH2 (L : List qAm) : qDQ L L.length = L.map qAm.k := by unfold qDQ; rw [List.take_length]
theorem qSO {b : Int} {d : Nat} {k : List UInt8} (h0 : 0 ≤ b) : inB b.toNat d k ↔ ofE k = 0 ∧ ((ofV k d : Nat) : Int) = b := by
  unfold inB ofE ofV
  split
  · rename_i h
    constructor
    · intro h2; exact ⟨rfl, by omega⟩
    · intro h2; exact ⟨h, by omega⟩
  · rename_i h
    constructor
    · intro h2; exact absurd h2.1 h
    · intro h2; exact absurd h2.1 (by decide)
structure MkR where
 A : Option Addr
 c : Nat
 ms : Hp
 g : Nat
 mt : Hp
 M : Hp
 L : List qAm
structure MkP (l : List Sm.PR) (d : Nat) (cl : List Chg) (r : MkR) : Prop where
 chg : r.L.map qAm.chg = cl
 ok : qBy l d r.L
 row : Row r.ms 229 6 r.A r.L.length r.c (qDb r.L)
 tree : qIV r.mt r.g (kvC l cl)
 bs : qK8 r.M r.L
theorem qOj {l : List Sm.PR} (hf : qCj l) {ep : Nat} (he : ep ≤ 4294967295) {par : List UInt8} (hp : par.length = 16) {d : Nat} (hd : d ≤ 4) {a : Nat} (ha : a ≤ 64) : (⟨ep, par, d, a, qAL l d⟩ : Hd).err = 0 := by
  refine qQ7 ?_ ?_ fun s hs => ?_
  · unfold Hd.out
    dsimp only
    rw [qCP hd]
    have := pow4 hd
    omega
  · show ¬ (qAL l d).length ≠ cnt (d : Int)
    rw [qBG, qCP hd]; exact fun h => h rfl
  · unfold qAL qCG at hs
    obtain ⟨j, _, rfl⟩ := List.mem_map.1 hs
    rcases qG2 (Sm.bel_wf hf.once hf.k16 (qEf j d) (d := d) (by omega)) with h | ⟨h1, h2⟩
    · exact .inl h
    · exact .inr ⟨h1, h2.imp (fun h => UInt8.toNat_inj.1 h) (fun h => UInt8.toNat_inj.1 h)⟩
theorem qSU {x : Hd} (h : x.err = 0) : x.dig ≠ [] := fun e => by have := qBh h; rw [e] at this; cases this
def qCJ (b i : UInt8) : List UInt8 := [b, i, 0, 0, 0, 0, 0, 0, 0, 0, 0, 0, 0, 0, 0, 0]
theorem qCD (b i : UInt8) : (qCJ b i).length = 16 := rfl
theorem qGk (b i : UInt8) : Sm.bit (qCJ b i) 0 = b.toNat / 128 % 2 := by
 unfold Sm.bit
 rw [if_pos (by rw [qCD]; decide)]; rfl
theorem qQN (i : UInt8) : qDC (qCJ 0 i) 1 = 0 := by
 show 0 * 2 ^ 1 ||| Sm.bit (qCJ 0 i) 0 = 0
 rw [qGk]; decide
theorem qL0 (i : UInt8) : qDC (qCJ 128 i) 1 = 1 := by
 show 0 * 2 ^ 1 ||| Sm.bit (qCJ 128 i) 0 = 1
 rw [qGk]; decide
theorem rbel (b i : UInt8) (n : Nat) : Sm.belowB (qCJ b i) (kF n 1) 1 = decide (b.toNat / 128 % 2 = Sm.bit (kF n 1) 0) := by
 rw [Sm.belowB_succ, qGk]; rfl
theorem bel01 (i : UInt8) : Sm.belowB (qCJ 0 i) (kF 1 1) 1 = false := by rw [rbel]; decide
theorem bel10 (i : UInt8) : Sm.belowB (qCJ 128 i) (kF 0 1) 1 = false := by rw [rbel]; decide
theorem bel11 (i : UInt8) : Sm.belowB (qCJ 128 i) (kF 1 1) 1 = true := by rw [rbel]; decide
def qOL : List UInt8 := [111, 108, 100]
def qQo : List UInt8 := [110, 101, 119]
def rv0 : List Sm.PR := [(qCJ 128 0, qOL)]
def qNW (i : UInt8) : List Sm.PR := Sm.putP rv0 (qCJ 0 i) qQo
def qBA (i : UInt8) : List Sm.PR := Sm.putP (qNW i) (qCJ 128 i) qQo
theorem qDv : qCj rv0 := qOo (qCJ 128 0) qOL rfl (by decide)
theorem qGj (i : UInt8) : (qNW i).length ≤ 2 := Sm.putP_len _ _ _
theorem qEu (i : UInt8) : qCj (qNW i) := qDv.put (qCD 0 i) (by decide) (by decide)
theorem qB4 (i : UInt8) : qCj (qBA i) := (qEu i).put (qCD 128 i) (by decide) (by have := qGj i; omega)
theorem qQH (i : UInt8) : (qBA i).length ≤ 3 := Nat.le_trans (Sm.putP_len _ _ _) (by have := qGj i; omega)
def pH : Hd := ⟨0, qAb, 1, 0, qAL rv0 1⟩
def hH (i : UInt8) : Hd := ⟨1, pH.dig, 1, 0, qAL (qBA i) 1⟩
theorem qD0 : pH.err = 0 := qOj qDv (ep := 0) (by decide) (par := qAb) rfl (d := 1) (by decide) (a := 0) (by decide)
theorem qEg (i : UInt8) : (hH i).err = 0 := qOj (qB4 i) (ep := 1) (by decide) (qBh qD0) (d := 1) (by decide) (a := 0) (by decide)
theorem qMc {y : Hd} (h : y.err = 0) (h1 : y.ep = 1) (h2 : y.par = pH.dig) (h3 : y.dep = 1) (h4 : y.aud = 0) : pH.next y = 0 := by
 refine qPV (by omega) ?_ ?_ ?_
 · show ¬ (y.ep = 0 ∨ y.ep - 1 ≠ 0); omega
 · exact fun e => e.elim (qSU qD0) (fun e => e h2)
 · show ¬ (y.dep ≠ 1 ∨ y.aud < 0); omega
theorem qFa (i : UInt8) : pH.next (hH i) = 0 := qMc (qEg i) rfl rfl rfl rfl
def rvA (i : UInt8) (b : Nat) : List Sm.PR := if b = 0 then rv0 else qNW i
def rvB (i : UInt8) (b : Nat) : List Sm.PR := if b = 0 then qNW i else qBA i
def rvO (i : UInt8) (b : Nat) : List UInt8 := Sm.ndB (rvA i b) (kF b 1) 1
def rvN (i : UInt8) (b : Nat) : List UInt8 := Sm.ndB (rvB i b) (kF b 1) 1
def rvC (i : UInt8) (b : Nat) : Chg := ⟨qCJ (UInt8.ofNat (128 * b)) i, qQo⟩
theorem qKd (i : UInt8) : Sm.ndB (qNW i) (kF 1 1) 1 = Sm.ndB rv0 (kF 1 1) 1 := qEO qDv (qCD 0 i) (qEf 1 1) (by decide) (bel01 i) (by decide) (by decide)
theorem qKc (i : UInt8) : Sm.ndB (qBA i) (kF 0 1) 1 = Sm.ndB (qNW i) (kF 0 1) 1 := qEO (qEu i) (qCD 128 i) (qEf 0 1) (by decide) (bel10 i) (by decide) (by have := qGj i; omega)
theorem qRk (i : UInt8) {b : Nat} (hb : b < 2) : rvO i b = pH.nodes.getD b [] := by
 unfold rvO rvA
 match b, hb with
 | 0, _ => rfl
 | 1, _ => exact qKd i
theorem qPI (i : UInt8) {b : Nat} (hb : b < 2) : rvN i b = (hH i).nodes.getD b [] := by
 unfold rvN rvB
 match b, hb with
 | 0, _ => exact (qKc i).symm
 | 1, _ => rfl
theorem qPH (i : UInt8) : rvN i 1 ≠ [0] := by
 refine Sm.nd_ne _ (Sm.bel_wf (qB4 i).once (qB4 i).k16 (qEf 1 1) (d := 1) (by decide)) ?_
 intro e
 have h1 : (qCJ 128 i, qQo) ∈ qBA i := (qGm (qEu i).once).2 (.inr rfl)
 have h2 : (qCJ 128 i, qQo) ∈ Sm.bel (qBA i) (kF 1 1) 1 := List.mem_filter.2 ⟨h1, bel11 i⟩
 have e : Sm.bel (qBA i) (kF 1 1) 1 = [] := e
 rw [e] at h2; cases h2
theorem qRn : rvN 1 1 ≠ rvN 0 1 := by
 have e1 : Sm.bel (qBA 0) (kF 1 1) 1 = [(qCJ 128 0, qQo)] := by decide +kernel
 have e2 : (Sm.bel (qBA 1) (kF 1 1) 1).length = 2 := by decide +kernel
 have h2 := qG1 (Sm.bel_wf (qB4 1).once (qB4 1).k16 (qEf 1 1) (d := 1) (by decide)) (by rw [e2]; exact Nat.le_refl 2)
 intro e
 have e3 : rvN 0 1 = Sb.leafN (qCJ 128 0) qQo := by
  show Sm.nd _ (Sm.bel (qBA 0) (kF 1 1) 1) = _
  rw [e1, Sm.nd_one]
 have e4 : (rvN 1 1).getD 0 0 = 1 := by rw [e, e3]; rfl
 have e5 : ((rvN 1 1).getD 0 0).toNat = 2 := h2
 rw [e4] at e5
 exact absurd e5 (by decide)
theorem qQW : pH.dig ≠ qAb := by
 intro e
 have hx : pH.dig = Sha.tagged 14 [pH.bytes] := by unfold Hd.dig; rw [if_pos qD0]
 have e0 : Sm.bel rv0 (kF 0 1) 1 = [] := by decide +kernel
 have e1 : Sm.bel rv0 (kF 1 1) 1 = [(qCJ 128 0, qOL)] := by decide +kernel
 have hn : pH.nodes = [[0], Sb.leafN (qCJ 128 0) qOL] := by
  show [Sm.nd 127 (Sm.bel rv0 (kF 0 1) 1), Sm.nd 127 (Sm.bel rv0 (kF 1 1) 1)] = _
  rw [e0, e1, Sm.nd_nil, Sm.nd_one]
 have hl : (Sb.leafN (qCJ 128 0) qOL).length = 17 := by unfold Sb.leafN; rw [List.length_cons, Sha.tagged_length]
 have hb : pH.bytes = Sha.numB (UInt64.ofNat 0) 4 ++ qAb ++ [UInt8.ofNat 1] ++ [UInt8.ofNat 0] ++ (ndB [0] ++ ndB (Sb.leafN (qCJ 128 0) qOL)) := by
  show _ ++ (pH.nodes.map ndB).flatten = _
  rw [hn]
  show _ ++ (ndB [0] ++ (ndB (Sb.leafN (qCJ 128 0) qOL) ++ [])) = _
  rw [List.append_nil]; rfl
 have h1 : (Sb.leafN (qCJ 128 0) qOL).map UInt8.toNat = 1 :: SN.tagN 9 [[128, 0, 0, 0, 0, 0, 0, 0, 0, 0, 0, 0, 0, 0, 0, 0], [111, 108, 100]] := by
  unfold Sb.leafN
  rw [List.map_cons]
  exact congrArg (List.cons 1) (SN.tagN_eq 9 [qCJ 128 0, qOL] (by decide)).symm
 have h2 : pH.bytes.map UInt8.toNat = [0, 0, 0, 0] ++ List.replicate 16 0 ++ [1] ++ [0] ++ ([0, 1, 0] ++ ([0, 17] ++ (1 :: SN.tagN 9 [[128, 0, 0, 0, 0, 0, 0, 0, 0, 0, 0, 0, 0, 0, 0, 0], [111, 108, 100]]))) := by
  rw [hb]
  unfold ndB
  rw [hl]
  simp only [List.map_append, h1]
  rfl
 have h3 : (Sha.tagged 14 [pH.bytes]).map UInt8.toNat = SN.tagN 14 [pH.bytes.map UInt8.toNat] := (SN.tagN_eq 14 [pH.bytes] (by have := qIK qD0; simp only [List.flatten_cons, List.flatten_nil, List.append_nil, List.length_cons, List.length_nil]; omega)).symm
 have h4 : SN.tagN 14 [[0, 0, 0, 0] ++ List.replicate 16 0 ++ [1] ++ [0] ++ ([0, 1, 0] ++ ([0, 17] ++ (1 :: SN.tagN 9 [[128, 0, 0, 0, 0, 0, 0, 0, 0, 0, 0, 0, 0, 0, 0, 0], [111, 108, 100]])))] ≠ List.replicate 16 0 := by decide +kernel
 refine h4 ?_
 rw [← h2, ← h3, ← hx, e]
 rfl
structure RhD where
 ep : Nat
 par : List UInt8
 dep : Nat
 aud : Nat
 nsA : Option Addr
 nsc : Nat
 ns : List (List UInt8)
def RhD.cells (x : RhD) : List Value := [N64 (x.ep), Str (x.par), I ((x.dep : Nat) : Int), I ((x.aud : Nat) : Int), .slice x.nsA x.ns.length x.nsc]
def qR1 : RhD := ⟨0, [], 0, 0, none, 0, []⟩
def qPK (l : List RhD) : List (List Value) := l.map RhD.cells
theorem qL2 (a : List RhD) (x : RhD) : qPK (a ++ [x]) = qPK a ++ [x.cells] := by simp [qPK]
structure TrD where
 b : Nat
 d : Nat
 old : List UInt8
 nw : List UInt8
 stA : Option Addr
 stc : Nat
 st : List qAm
def TrD.cells (x : TrD) : List Value := [I ((x.b : Nat) : Int), I ((x.d : Nat) : Int), Str (x.old), Str (x.nw), .slice x.stA x.st.length x.stc]
def qAP : TrD := ⟨0, 0, [], [], none, 0, []⟩
def qFs (l : List TrD) : List (List Value) := l.map TrD.cells
theorem qCz {l : List TrD} {k : Nat} (h : k < l.length) : (qFs l)[k]? = some (l.getD k qAP).cells := by
 unfold qFs
 rw [List.getElem?_map, qAg qAP h]; rfl
theorem qKW (a : List TrD) (x : TrD) : qFs (a ++ [x]) = qFs a ++ [x.cells] := by simp [qFs]
structure TsD where
 lA : Option Addr
 lc : Nat
 l : List TrD
def TsD.cells (x : TsD) : List Value := [.slice x.lA x.l.length x.lc]
def qR0 : TsD := ⟨none, 0, []⟩
def qHX (l : List TsD) : List (List Value) := l.map TsD.cells
theorem qKV (a : List TsD) (x : TsD) : qHX (a ++ [x]) = qHX a ++ [x.cells] := by simp [qHX]
def rvX (i : UInt8) (b : Nat) : List Sm.PR := if b = 0 then rv0 else if b = 1 then qNW i else qBA i
theorem rvX_A (i : UInt8) {b : Nat} (hb : b < 2) : rvX i b = rvA i b := by
 match b, hb with
 | 0, _ => rfl
 | 1, _ => rfl
theorem rvX_B (i : UInt8) {b : Nat} (hb : b < 2) : rvX i (b + 1) = rvB i b := by
 match b, hb with
 | 0, _ => rfl
 | 1, _ => rfl
theorem qJZ (i : UInt8) (b : Nat) : qCj (rvX i b) := by
  unfold rvX
  split
  · exact qDv
  · split
    · exact qEu i
    · exact qB4 i
theorem qLy (i : UInt8) (b : Nat) : (rvX i b).length ≤ 90000 := by
  unfold rvX
  split
  · decide
  · split
    · have := qGj i; omega
    · have := qQH i; omega
theorem qQG (i : UInt8) {b : Nat} (hb : b < 2) : kvC (rvX i b) [rvC i b] = rvX i (b + 1) := by
 match b, hb with
 | 0, _ => rfl
 | 1, _ => rfl
theorem qPJ (i : UInt8) {b : Nat} (hb : b < 2) : qJN b 1 [rvC i b] := by
  refine ⟨Nat.le_of_ble_eq_true rfl, fun x hx => ?_, fun x hx => ?_, fun x hx => ?_⟩ <;> rw [List.mem_singleton.1 hx]
  · exact qCD _ _
  · match b, hb with
    | 0, _ => exact qQN i
    | 1, _ => exact qL0 i
  · exact Nat.le_of_ble_eq_true rfl
theorem qRl (i : UInt8) {b : Nat} (hb : b < 2) : Sm.ndB (rvX i b) (kF b 1) 1 = rvO i b := by rw [rvX_A i hb]; rfl
theorem qRm (i : UInt8) {b : Nat} (hb : b < 2) : Sm.ndB (rvX i (b + 1)) (kF b 1) 1 = rvN i b := by rw [rvX_B i hb]; rfl
structure qJK (G : Hp) (i : UInt8) (b : Nat) (x : TrD) : Prop where
 eb : x.b = b
 ed : x.d = 1
 eo : x.old = rvO i b
 en : x.nw = rvN i b
 chg : x.st.map qAm.chg = [rvC i b]
 ok : qBy (rvX i b) 1 x.st
 sl : Sl G 6 x.stA x.st.length x.stc (qDb x.st)
 bs : qK8 G x.st
theorem qJK.mono {G G' : Hp} {i : UInt8} {b : Nat} {x : TrD} (h : qJK G i b x) (hl : Le G G') : qJK G' i b x := ⟨h.eb, h.ed, h.eo, h.en, h.chg, h.ok, h.sl.mono hl, h.bs.mono hl⟩
def qIU (G : Hp) (i : UInt8) (l : List TrD) : Prop := ∀ j, j < l.length → qJK G i j (l.getD j qAP)
theorem qIU.mono {G G' : Hp} {i : UInt8} {l : List TrD} (h : qIU G i l) (hl : Le G G') : qIU G' i l := fun j hj => (h j hj).mono hl
theorem qFb {α : Type} (l : List α) (x no : α) (j : Nat) (h : j < l.length + 1) : (l ++ [x]).getD j no = if j < l.length then l.getD j no else x := by
  rw [List.getD_eq_getElem?_getD]
  by_cases hlt : j < l.length
  · rw [if_pos hlt, List.getElem?_append_left hlt, ← List.getD_eq_getElem?_getD]
  · obtain rfl : j = l.length := by omega
    rw [if_neg hlt, List.getElem?_append_right (Nat.le_refl _), Nat.sub_self]; rfl
theorem qIU.snoc {G : Hp} {i : UInt8} {l : List TrD} {x : TrD} (h : qIU G i l) (hx : qJK G i l.length x) : qIU G i (l ++ [x]) := fun j hj => by
 rw [List.length_append, List.length_singleton] at hj
 rw [qFb l x qAP j hj]
 split
 · exact h j (by omega)
 · rw [show j = l.length by omega]; exact hx
structure qLL (G : Hp) (i : UInt8) (h : RhD) (t : TsD) : Prop where
 ep : h.ep = 1
 par : h.par = pH.dig
 dep : h.dep = 1
 aud : h.aud = 0
 ns : h.ns = qAL (qBA i) 1
 nsl : Sl G 1 h.nsA h.ns.length h.nsc (qAI h.ns)
 len : t.l.length = 2
 trs : qIU G i t.l
 tsl : Sl G 5 t.lA t.l.length t.lc (qFs t.l)
theorem qLL.mono {G G' : Hp} {i : UInt8} {h : RhD} {t : TsD} (q : qLL G i h t) (hl : Le G G') : qLL G' i h t := ⟨q.ep, q.par, q.dep, q.aud, q.ns, q.nsl.mono hl, q.len, q.trs.mono hl, q.tsl.mono hl⟩
def qFl (G : Hp) (hs : List RhD) (ts : List TsD) : Prop := hs.length = ts.length ∧ ∀ j, j < hs.length → qLL G (UInt8.ofNat j) (hs.getD j qR1) (ts.getD j qR0)
theorem qFl.nil (G : Hp) : qFl G [] [] := ⟨rfl, fun j h => absurd h (Nat.not_lt_zero j)⟩
theorem qFl.mono {G G' : Hp} {hs : List RhD} {ts : List TsD} (q : qFl G hs ts) (hl : Le G G') : qFl G' hs ts := ⟨q.1, fun j hj => (q.2 j hj).mono hl⟩
theorem qFl.snoc {G : Hp} {hs : List RhD} {ts : List TsD} {h : RhD} {t : TsD} (q : qFl G hs ts) (hx : qLL G (UInt8.ofNat hs.length) h t) : qFl G (hs ++ [h]) (ts ++ [t]) := ⟨by simp [q.1], fun j hj => by
 rw [List.length_append, List.length_singleton] at hj
 rw [qFb hs h qR1 j hj, qFb ts t qR0 j (by rw [← q.1]; exact hj), ← q.1]
 split
 · exact q.2 j (by omega)
 · rw [show j = hs.length by omega]; exact hx⟩
structure RvR where
 hs : List RhD
 ts : List TsD
 An : Option Addr
 cn : Nat
 Ah : Option Addr
 ch : Nat
 mh : Hp
 Aa : Option Addr
 ca : Nat
 ma : Hp
 G : Hp
structure RvP (n : Nat) (r : RvR) : Prop where
 len : r.hs.length = n
 nod : Sl r.G 1 r.An (qAL rv0 1).length r.cn (qAI (qAL rv0 1))
 rh : Row r.mh 39 5 r.Ah n r.ch (qPK r.hs)
 ra : Row r.ma 80 1 r.Aa n r.ca (qHX r.ts)
 ok : qFl r.G r.hs r.ts
end Go.Proofs.YtfldiegfenndjaaGreatDoor
