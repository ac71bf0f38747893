/- A part of the proof. -/
import Derived.Test.YtfldiegfenndjaaGreatDoorTopAkG7
import Derived.Test.YtfldiegfenndjaaGreatDoorTopAkG10
import Derived.Test.YtfldiegfenndjaaGreatDoorTopAkG6
set_option linter.unusedSimpArgs false
set_option linter.unusedVariables false
namespace Go.Proofs.YtfldiegfenndjaaGreatDoor
open Go Go.Fw Go.Proofs.Tryz
set_option maxRecDepth 100000
set_option maxHeartbeats 1000000
theorem ent28 : qAE prog 28 := qAE.of func28 rfl (by kernel_rfl)
theorem ent51 : qAE prog 51 := qAE.of func51 rfl (by kernel_rfl)
theorem ent67 : qAE prog 67 := qAE.of func67 rfl (by kernel_rfl)
theorem ent190 : qAE prog 190 := qAE.of func190 rfl (by kernel_rfl)
theorem ent191 : qAE prog 191 := qAE.of func191 rfl (by kernel_rfl)
theorem ent221 : qAE prog 221 := qAE.of func221 rfl (by kernel_rfl)
theorem ent225 : qAE prog 225 := qAE.of func225 rfl (by kernel_rfl)
theorem el162 : qCu prog 162 [.int .i64 0, Str []] 24 := qCu.of (by kernel_rfl) rfl
abbrev Wri := Nat × List UInt8
structure Dk where
 last : List (List UInt8)
 wait : List Wri
 off : Bool
 armed : Bool
 fuse : Int
 keep : List UInt8
def qB2 (l : List Wri) : List (List Value) := l.map fun w => [I w.1, Str w.2]
theorem qLR (a b : List Wri) : qB2 (a ++ b) = qB2 a ++ qB2 b := by simp [qB2]
theorem qE8 {l : List Wri} {k : Nat} (h : k < l.length) : (qB2 l)[k]? = some [I (l.getD k (0, [])).1, Str (l.getD k (0, [])).2] := by
 unfold qB2
 rw [List.getElem?_map, qAg (0, []) h]; rfl
theorem qLQ (l : List Wri) : (qB2 l).all (fun x => x.all Value.oneCell') = true := by simp [qB2, Value.oneCell']
theorem qFF (l : List (List UInt8)) : (qAI l).length = l.length := by simp [qAI]
theorem qC1 (l : List (List UInt8)) (k : Nat) (x : List UInt8) : (qAI l).set k [Str x] = qAI (l.set k x) := by unfold qAI; rw [List.map_set]
theorem qKZ (a b : List (List UInt8)) : qAI (a ++ b) = qAI a ++ qAI b := by simp [qAI]
def Dk.cells (d : Dk) (A : Option Addr) (c : Nat) (B : Option Addr) (e : Nat) (C : Option Addr) (f : Nat) : List Value := [.slice A d.last.length c, .slice B d.wait.length e, .bool d.off, .bool d.armed, I d.fuse, .slice C d.keep.length f]
def Dsk (mm : Hp) (g : Nat) (d : Dk) (C : Option Addr) (f : Nat) : Prop := ∃ A c mL B e mW, mm = U [blk g (d.cells A c B e C f) 135, mL, mW] ∧ Djs [blk g (d.cells A c B e C f) 135, mL, mW] ∧ Row mL 9 1 A d.last.length c (qAI d.last) ∧ Row mW 162 2 B d.wait.length e (qB2 d.wait)
theorem Dsk.see {mm : Hp} {g : Nat} {d : Dk} {C : Option Addr} {f : Nat} (h : Dsk mm g d C f) : ∃ A c B e, qAQ mm ⟨g, 0, none⟩ (d.cells A c B e C f) ∧ Sl mm 1 A d.last.length c (qAI d.last) ∧ Sl mm 2 B d.wait.length e (qB2 d.wait) := by
 obtain ⟨A, c, mL, B, e, mW, rfl, hd, h1, h2⟩ := h
 exact ⟨A, c, B, e, qAQ.blk0.mono (qGI hd (.head _)), h1.sl.mono (qGI hd (.tail _ (.head _))), h2.sl.mono (qGI hd (.tail _ (.tail _ (.head _))))⟩
def Dk.ready (d : Dk) (i : Int) : Int := if d.off then 8 else if i < 0 ∨ (d.last.length : Int) ≤ i then 10 else 0
def qNV (l : List Wri) (i : Nat) : Nat → Option (List UInt8)
 | 0 => none
 | k + 1 => if (l.getD k (0, [])).1 = i then some (l.getD k (0, [])).2 else qNV l i k
theorem qLv (l : List Wri) (i : Nat) : qNV l i 0 = none := rfl
theorem qHc (l : List Wri) (i k : Nat) : qNV l i (k + 1) = if (l.getD k (0, [])).1 = i then some (l.getD k (0, [])).2 else qNV l i k := rfl
def Dk.now (d : Dk) (i : Nat) : List UInt8 := (qNV d.wait i d.wait.length).getD (d.last.getD i [])
def Dk.read (d : Dk) (i : Int) : List UInt8 := if d.ready i = 0 then d.now i.toNat else []
def qLH (old t : List UInt8) (n : Nat) : List UInt8 := t.take n ++ old.drop n
def qG4 (L : List (List UInt8)) (w : Wri) (n : Nat) : List (List UInt8) := L.set w.1 (qLH (L.getD w.1 []) w.2 n)
theorem qH0 (L : List (List UInt8)) (w : Wri) (n : Nat) : (qG4 L w n).length = L.length := by unfold qG4; rw [List.length_set]
def qCa (L : List (List UInt8)) (W : List Wri) : Nat → List (List UInt8)
 | 0 => L
 | k + 1 => qG4 (qCa L W k) (W.getD k (0, [])) 64
def qEi (L : List (List UInt8)) (W : List Wri) (K : List UInt8) : Nat → List (List UInt8)
 | 0 => L
 | k + 1 => if k < K.length then qG4 (qEi L W K k) (W.getD k (0, [])) (min (K.getD k 0).toNat 64) else qEi L W K k
theorem qA9 (L : List (List UInt8)) (W : List Wri) : ∀ k, (qCa L W k).length = L.length
 | 0 => rfl
 | k + 1 => by rw [qCa, qH0, qA9 L W k]
theorem qA6 (L : List (List UInt8)) (W : List Wri) (K : List UInt8) : ∀ k, (qEi L W K k).length = L.length
 | 0 => rfl
 | k + 1 => by
  rw [qEi]
  split
  · rw [qH0, qA6 L W K k]
  · exact qA6 L W K k
def Dk.cut (d : Dk) (K : List UInt8) : Dk := { d with last := qEi d.last d.wait K d.wait.length, wait := [], off := true, armed := false }
def Dk.burns (d : Dk) : Prop := d.armed = true ∧ d.fuse - 1 < 0
instance (d : Dk) : Decidable d.burns := by unfold Dk.burns; infer_instance
def Dk.burn (d : Dk) : Dk := if d.armed = true then (if d.fuse - 1 < 0 then { d with fuse := d.fuse - 1 }.cut d.keep else { d with fuse := d.fuse - 1 }) else d
def qHL (s : List UInt8) : List UInt8 := s ++ List.replicate (64 - s.length) 0
theorem qOm {s : List UInt8} (h : s.length ≤ 64) : (qHL s).length = 64 := by unfold qHL; rw [List.length_append, List.length_replicate]; omega
structure Dk.ok0 (d : Dk) : Prop where
 l64 : ∀ s ∈ d.last, s.length = 64
 w64 : ∀ w ∈ d.wait, w.1 < d.last.length ∧ w.2.length = 64
 n0 : 0 < d.last.length
 n1 : d.last.length ≤ 1024
structure Dk.ok (d : Dk) : Prop extends Dk.ok0 d where
 fz : d.armed = true → 0 ≤ d.fuse
 fb : -9223372036854775808 ≤ d.fuse ∧ d.fuse ≤ 9223372036854775807
theorem qNj {o t : List UInt8} {n : Nat} (ho : o.length = 64) (ht : t.length = 64) (hn : n ≤ 64) : (qLH o t n).length = 64 := by unfold qLH; rw [List.length_append, List.length_take, List.length_drop]; omega
theorem qI5 {L : List (List UInt8)} (h : ∀ s ∈ L, s.length = 64) {k : Nat} (hk : k < L.length) : (L.getD k []).length = 64 := by
 rw [List.getD_eq_getElem?_getD, List.getElem?_eq_getElem hk]; exact h _ (List.getElem_mem hk)
theorem qMx {W : List Wri} {p : Wri → Prop} (h : ∀ w ∈ W, p w) {k : Nat} (hk : k < W.length) : p (W.getD k (0, [])) := by
 rw [List.getD_eq_getElem?_getD, List.getElem?_eq_getElem hk]; exact h _ (List.getElem_mem hk)
theorem qJy {L : List (List UInt8)} (h : ∀ s ∈ L, s.length = 64) {w : Wri} (hw : w.1 < L.length ∧ w.2.length = 64) {n : Nat} (hn : n ≤ 64) : ∀ s ∈ qG4 L w n, s.length = 64 := fun s hs => by
 unfold qG4 at hs
 rcases List.mem_or_eq_of_mem_set hs with hs | rfl
 · exact h s hs
 · exact qNj (qI5 h hw.1) hw.2 hn
theorem qGg {L : List (List UInt8)} {W : List Wri} (h : ∀ s ∈ L, s.length = 64) (hw : ∀ w ∈ W, w.1 < L.length ∧ w.2.length = 64) : ∀ k, k ≤ W.length → ∀ s ∈ qCa L W k, s.length = 64
 | 0, _ => h
 | k + 1, hk => by
  rw [qCa]
  exact qJy (qGg h hw k (by omega)) (by rw [qA9]; exact qMx hw (show k < W.length by omega)) (Nat.le_refl _)
theorem qG9 {L : List (List UInt8)} {W : List Wri} {K : List UInt8} (h : ∀ s ∈ L, s.length = 64) (hw : ∀ w ∈ W, w.1 < L.length ∧ w.2.length = 64) : ∀ k, k ≤ W.length → ∀ s ∈ qEi L W K k, s.length = 64
 | 0, _ => h
 | k + 1, hk => by
  rw [qEi]
  split
  · exact qJy (qG9 h hw k (by omega)) (by rw [qA6]; exact qMx hw (show k < W.length by omega)) (Nat.min_le_right _ _)
  · exact qG9 h hw k (by omega)
theorem Dk.ok0.cut {d : Dk} (h : d.ok0) (K : List UInt8) : (d.cut K).ok0 :=
 ⟨qG9 h.l64 h.w64 _ (Nat.le_refl _), (fun w hw => nomatch hw), by show 0 < (qEi _ _ _ _).length; rw [qA6]; exact h.n0, by show (qEi _ _ _ _).length ≤ _; rw [qA6]; exact h.n1⟩
theorem Dk.ok.burn {d : Dk} (h : d.ok) : d.burn.ok := by
  unfold Dk.burn
  split
  · rename_i ha
    have h1 := h.fz ha
    have h2 := h.fb
    split
    · exact ⟨Dk.ok0.cut (d := { d with fuse := d.fuse - 1 }) ⟨h.l64, h.w64, h.n0, h.n1⟩ _, (fun e => nomatch e), by show _ ≤ d.fuse - 1 ∧ d.fuse - 1 ≤ _; omega⟩
    · exact ⟨⟨h.l64, h.w64, h.n0, h.n1⟩, fun _ => by show 0 ≤ d.fuse - 1; omega, by show _ ≤ d.fuse - 1 ∧ d.fuse - 1 ≤ _; omega⟩
  · exact h
def Dk.wErr (d : Dk) (i : Int) (s : List UInt8) : Int := if d.ready i ≠ 0 then d.ready i else if 64 < s.length then 2 else if d.burns then 8 else 0
def Dk.write (d : Dk) (i : Int) (s : List UInt8) : Dk := if d.ready i ≠ 0 then d else if 64 < s.length then d else if d.burns then d.burn else { d.burn with wait := d.burn.wait ++ [(i.toNat, qHL s)] }
def Dk.sErr (d : Dk) : Int := if d.ready 0 ≠ 0 then d.ready 0 else if d.burns then 8 else 0
def Dk.sync (d : Dk) : Dk := if d.ready 0 ≠ 0 then d else if d.burns then d.burn else { d.burn with last := qCa d.burn.last d.burn.wait d.burn.wait.length, wait := [] }
def Dk.setFuse (d : Dk) (n : Int) (K : List UInt8) : Dk := { d with armed := decide (0 ≤ n), fuse := n, keep := K }
def Dk.new (n : Nat) : Dk := ⟨List.replicate n (List.replicate 64 0), [], false, false, 0, []⟩
theorem qJd {d : Dk} {i : Int} (h : d.ready i = 0) : 0 ≤ i ∧ i < d.last.length ∧ d.off = false := by
  unfold Dk.ready at h
  split at h
  · cases h
  · rename_i h1
    split at h
    · cases h
    · exact ⟨by omega, by omega, by simpa using h1⟩
theorem qBx {d : Dk} (h : ¬ d.burns) : d.burn.last = d.last ∧ d.burn.wait = d.wait ∧ d.burn.off = d.off := by
  unfold Dk.burn
  split
  · rename_i ha
    rw [if_neg (fun e => h ⟨ha, e⟩)]; exact ⟨rfl, rfl, rfl⟩
  · exact ⟨rfl, rfl, rfl⟩
theorem Dk.ok.write {d : Dk} (h : d.ok) (i : Int) (s : List UInt8) : (d.write i s).ok := by
  unfold Dk.write
  split
  · exact h
  · rename_i h0
    split
    · exact h
    · rename_i h1
      have hb := h.burn
      split
      · exact hb
      · rename_i h2
        obtain ⟨r1, r2, _⟩ := qJd (Decidable.not_not.1 h0)
        refine ⟨⟨hb.l64, fun w hw => ?_, hb.n0, hb.n1⟩, hb.fz, hb.fb⟩
        rcases List.mem_append.1 hw with hw | hw
        · exact hb.w64 w hw
        · simp only [List.mem_singleton] at hw
          subst hw
          exact ⟨by show i.toNat < d.burn.last.length; rw [(qBx h2).1]; omega, qOm (by omega)⟩
theorem Dk.ok.sync {d : Dk} (h : d.ok) : d.sync.ok := by
  unfold Dk.sync
  split
  · exact h
  · have hb := h.burn
    split
    · exact hb
    · exact ⟨⟨qGg hb.l64 hb.w64 _ (Nat.le_refl _), (fun w hw => nomatch hw), by show 0 < (qCa _ _ _).length; rw [qA9]; exact hb.n0, by show (qCa _ _ _).length ≤ _; rw [qA9]; exact hb.n1⟩, hb.fz, hb.fb⟩
theorem Dk.ok.setFuse {d : Dk} (h : d.ok) (n : Int) (hn : -9223372036854775808 ≤ n ∧ n ≤ 9223372036854775807) (K : List UInt8) : (d.setFuse n K).ok := ⟨⟨h.l64, h.w64, h.n0, h.n1⟩, fun e => by simpa [Dk.setFuse] using e, hn⟩
theorem Dk.new_ok {n : Nat} (h : 4 ≤ n) (h2 : n ≤ 1024) : (Dk.new n).ok := ⟨⟨fun s hs => by have := List.eq_of_mem_replicate hs; rw [this, List.length_replicate], (fun w hw => nomatch hw), by show 0 < (List.replicate n _).length; rw [List.length_replicate]; omega, by show (List.replicate n _).length ≤ _; rw [List.length_replicate]; exact h2⟩, (fun e => nomatch e), ⟨by show -9223372036854775808 ≤ (0 : Int); decide, by show (0 : Int) ≤ _; decide⟩⟩
theorem qGl (F : Hp) (g : Nat) (d : Dk) (A : Option Addr) (c : Nat) (B : Option Addr) (e : Nat) (C : Option Addr) (f : Nat) (hc : qAQ F ⟨g, 0, none⟩ (d.cells A c B e C f)) (i : Int) (hn : d.last.length ≤ 1073741824) :
    Ct prog 190 [Ptr g, I i] [F] (fun _ : Unit => I (d.ready i)) (fun _ => True) (fun _ => [F]) := by
  refine Ct.walk func190 rfl ntmps190 rfl (fun w0 hw0 => ?_)
  change J _ [(0, _), (1, _)] _ _ _
  refine J.g fun K1 hK1 => J.b rfl <| J.c hK1 <| J.E 0 1 ?_
  refine J.k fun K2 hK2 => J.a1 <| J.g fun K3 hK3 => J.b rfl <| J.f ((qAu qRc rfl rfl rfl).as (v' := .bool false) rfl) rfl <| J.b rfl <| J.c hK3 <| J.H 0 1 5 ?_
  refine J.a8 ?_
  refine J.g fun K4 hK4 => J.b rfl <| J.f (qAD rfl rfl) rfl <| J.a2 2 qB7 z4_ rfl rfl rfl rfl rfl <| J.f ((qAN rfl rfl b4_ (m := F) (by simp) (hc.at (i := 2) rfl)).as (v' := .bool (decide (d.off = true))) (congrArg Value.bool (by simp))) rfl <| J.b rfl <| J.c hK4 <| J.H 0 1 8 ?_
  refine J.a5 rfl (fun h8 => ?_) (fun h8 => ?_)
  ·
    refine J.g fun K5 hK5 => J.b rfl <| J.c hK5 <| J.u 4 ?_
    exact J.D <| J.b6 <| J.a3 <| J.V hw0 rfl () (congrArg I (show (8 : Int) = d.ready i by unfold Dk.ready; rw [if_pos h8])) trivial [0] rfl (by decide)
  refine J.g fun K6 hK6 => J.b rfl <| J.f (qAW rfl rfl rfl) rfl <| J.b rfl <| J.c5 (d := 16) rfl (fun h16 => ?_) (fun h16 => ?_)
  ·
    refine J.j 9 rfl <| J.c hK6 <| J.u 13 ?_
    refine J.c6 ?_
    refine J.g fun K7 hK7 => J.b rfl <| J.c hK7 <| J.u 4 ?_
    exact J.D <| J.b6 <| J.a3 <| J.V hw0 rfl () (congrArg I (show (10 : Int) = d.ready i by unfold Dk.ready; rw [if_neg h8, if_pos (by omega)])) trivial [0] rfl (by decide)
  refine J.j 2 rfl <| J.T (qAD rfl rfl) rfl <| J.T (qAA (j := 0) rfl rfl qB7 rfl qB0 rfl) rfl <| J.T (qAN rfl rfl qCQ (m := F) (by simp) (hc.at (i := 0) rfl)) rfl <| J.T (qAa qAh rfl rfl) rfl <| J.T (qBN rfl rfl rfl) rfl <| J.j 2 rfl <| J.c hK6 <| J.u 13 ?_
  refine J.a5 rfl (fun h13 => ?_) (fun h13 => ?_)
  ·
    refine J.g fun K8 hK8 => J.b rfl <| J.c hK8 <| J.u 4 ?_
    exact J.D <| J.b6 <| J.a3 <| J.V hw0 rfl () (congrArg I (show (10 : Int) = d.ready i by unfold Dk.ready; rw [if_neg h8, if_pos (by omega)])) trivial [0] rfl (by decide)
  refine J.c7 <| J.a9 <| J.A (J.L hK2 ?_)
  refine J.c8 [] trivial <| J.g fun K9 hK9 => J.b rfl <| J.c hK9 <| J.u 4 ?_
  exact J.D <| J.V hw0 rfl () (congrArg I (show (0 : Int) = d.ready i by unfold Dk.ready; rw [if_neg h8, if_neg (by omega)])) trivial [0] rfl (by decide)
theorem qE1 (F : Hp) (g : Nat) (d : Dk) (A : Option Addr) (c : Nat) (B : Option Addr) (e : Nat) (C : Option Addr) (f : Nat) (hc : qAQ F ⟨g, 0, none⟩ (d.cells A c B e C f)) :
    Ct prog 115 [Ptr g] [F] (fun _ : Unit => I d.last.length) (fun _ => True) (fun _ => [F]) := by
  refine Ct.walk func115 rfl ntmps115 rfl (fun w0 hw0 => ?_)
  change J _ [(0, _)] _ _ _
  refine J.g fun K1 hK1 => J.b rfl <| J.c hK1 <| J.u 0 ?_
  refine J.k fun K2 hK2 => J.g fun K3 hK3 => J.b rfl <| J.f ((qAu qRc rfl rfl rfl).as (v' := .bool false) rfl) rfl <| J.c hK3 <| J.E 0 4 ?_
  refine J.a8 ?_
  refine J.W hK2 <| J.u 0 ?_
  refine J.g fun K4 hK4 => J.b rfl <| J.f (qAD rfl rfl) rfl <| J.a2 0 qB7 qB0 rfl rfl rfl rfl rfl <| J.f (qAN rfl rfl qCQ (m := F) (by simp) (hc.at (i := 0) rfl)) rfl <| J.f (qAa qAh rfl rfl) rfl <| J.b rfl <| J.c hK4 <| J.u 2 ?_
  exact J.D <| J.V hw0 rfl () rfl trivial [0] rfl (by decide)
theorem qOy (F : Hp) (B : Option Addr) (n e : Nat) : Ct prog 191 [.slice B n e] [F] (fun x : Nat => .func (.func 221) #[] #[Ptr x]) (fun _ => True) (fun x => [F, blk x [.slice B n e] 133]) := by
 refine Ct.walk func191 rfl ntmps191 rfl (fun w0 hw0 => ?_)
 change J _ [(0, _)] _ _ _
 refine J.g fun K1 hK1 => J.p (qAf rfl rfl (l := [.slice B n e]) rfl) rfl fun g1 _ => ?_
 change J _ _ _ [F, blk g1 [.slice B n e] 133] _
 refine J.b rfl <| J.c hK1 <| J.u 1 ?_
 refine J.g fun K2 hK2 => J.f (qBo rfl rfl) rfl <| J.b rfl <| J.c hK2 <| J.u 2 ?_
 exact J.D <| J.V hw0 rfl g1 rfl trivial [0, 1] rfl (by decide)
theorem qNH (Fr : Hp) (gB : Nat) (B : Option Addr) (W : List Wri) (e : Nat) (hn2 : W.length ≤ 1073741824) (ha : qAQ Fr ⟨gB, 0, none⟩ [.slice B W.length e]) (hs : Sl Fr 2 B W.length e (qB2 W)) :
    qJL prog 221 [Ptr gB] Fr (fun i => [I ((W.length - 1 - i : Nat) : Int), .agg #[I (W.getD (W.length - 1 - i) (0, [])).1, Str (W.getD (W.length - 1 - i) (0, [])).2]]) W.length := by
  refine qJL.walk func221 rfl ntmps221 rfl (fun {X} M IY S l x0 w0 hw0 h0 hY => ?_)
  change J _ [(0, _), (1, _)] _ _ _
  refine J.g fun K1 hK1 => J.f (qAN rfl rfl isAgg133 (m := Fr) (by simp) (ha)) rfl <| J.f (qAa qGe rfl rfl) rfl <| J.f ((qAp rfl rfl rfl (by omega)).as (v' := I ((W.length : Int) - 1 - ((0 : Nat) : Int))) (congrArg I (by omega))) rfl <| J.b rfl <| J.c hK1 <| J.H 0 1 3 ?_
  refine J.a1 <| J.c0 (X := Nat × X) (fun y => [(0, .func (.yield l) #[] #[]), (1, Ptr gB), (3, I ((W.length : Int) - 1 - (y.1 : Int)))]) (fun y => [Fr, M y.2]) (fun y => y.1 ≤ W.length ∧ IY y.1 y.2) (fun y => W.length - y.1) (0, x0) (⟨Nat.zero_le _, h0⟩) ⟨rfl, rfl, rfl, trivial⟩ (fun _ h => h) ?_
  rintro ⟨i, x⟩ ⟨hi, hI⟩ I0 hI0
  dsimp only at hi hI ⊢
  refine J.k fun K2 hK2 => J.g fun K3 hK3 => J.b rfl <| J.f (qBN rfl rfl rfl) rfl <| J.c hK3 <| J.M 0 1 3 8 ?_
  refine J.a5 rfl (fun h8 => ?_) (fun h8 => ?_)
  ·
    refine J.W hK2 <| J.H 0 1 3 ?_
    refine J.k fun K4 hK4 => J.a1 <| J.k fun K5 hK5 => J.g5 ?_
    refine J.d5 (qAl rfl rfl) rfl rfl rfl ?_
    refine J.d5 ((qAl rfl rfl).nat (W.length - 1 - i) (by omega)) rfl rfl rfl ?_
    refine J.d5 (qAN rfl rfl isAgg133 (m := Fr) (by simp) (ha)) rfl rfl rfl ?_
    refine J.d5 ((qAl rfl rfl).nat (W.length - 1 - i) (by omega)) rfl rfl rfl ?_
    refine J.d5 (qAH (i := W.length - 1 - i) rfl rfl rfl qGe qE6 hs (by omega)) rfl rfl rfl ?_
    refine J.d5 (qAo rfl rfl isAgg162 qE6 (m := Fr) (by simp) (vs := [I (W.getD (W.length - 1 - i) (0, [])).1, Str (W.getD (W.length - 1 - i) (0, [])).2]) (hs.elem (qE8 (by omega))) rfl) rfl rfl rfl ?_
    refine J.g6 (ex := []) rfl rfl rfl rfl rfl rfl (hY i x (by omega) hI) ?_
    rintro x' b hb1 hb2
    cases b
    ·
      have hyb := hb2 rfl
      change J _ _ _ [Fr, M x'] _
      refine J.d5 (qA1 rfl rfl) rfl rfl rfl ?_
      refine J.f5 ?_
      refine J.A (J.L hK5 ?_)
      refine J.M 0 1 3 18 ?_
      refine J.c6 ?_
      exact J.D <| J.b6 <| J.a3 <| J.a3 <| J.b6 <| J.b4 hw0 (fun _ _ h => h) (qJc rfl) (fun w hs => ⟨x', ⟨_, rfl⟩, .inr hyb, hs⟩)
    have hyb := hb1 rfl
    change J _ _ _ [Fr, M x'] _
    refine J.d5 (qA1 rfl rfl) rfl rfl rfl ?_
    refine J.f5 ?_
    refine J.A (J.L hK5 ?_)
    refine J.M 0 1 3 18 ?_
    refine J.a8 ?_
    refine J.c7 <| J.a9 <| J.A (J.L hK4 ?_)
    refine J.H 0 1 3 ?_
    exact J.G <| J.b rfl <| J.f ((qAp rfl rfl rfl (by omega)).as (v' := I ((W.length : Int) - 1 - ((i + 1 : Nat) : Int))) (congrArg I (by omega))) rfl <| J.b rfl <| J.a7 <| J.A <| J.b0 (i + 1, x') (fun y (hy : _ ∧ W.length - y.1 < W.length - i) => hI0 y hy.1 hy.2) ⟨⟨by dsimp only; omega, hyb⟩, by dsimp only; omega⟩ ⟨rfl, rfl, rfl, trivial⟩ (fun _ h => h)
  refine J.b7 <| J.a6 <| J.a6 <| J.b8 ?_
  exact J.e7 hw0 (fun _ _ h => h) (qJc rfl) (fun w hs => ⟨x, ⟨_, rfl⟩, .inl (by rw [show W.length = i by omega]; exact hI), hs⟩)
theorem qNn (F : Hp) (g : Nat) (d : Dk) (A : Option Addr) (c : Nat) (B : Option Addr) (e : Nat) (C : Option Addr) (f : Nat) (hc : qAQ F ⟨g, 0, none⟩ (d.cells A c B e C f)) (hL : Sl F 1 A d.last.length c (qAI d.last)) (hW : Sl F 2 B d.wait.length e (qB2 d.wait)) (i : Int) (hn : d.last.length ≤ 1073741824) (hn2 : d.wait.length ≤ 1073741824) :
    Ct prog 159 [Ptr g, I i] [F] (fun _ : Unit => .tuple #[Str (d.read i), I (d.ready i)]) (fun _ => True) (fun _ => [F]) := by
  refine Ct.walk func159 rfl ntmps159 rfl (fun w0 hw0 => ?_)
  change J _ [(0, _), (1, _)] _ _ _
  refine J.g fun K1 hK1 => J.p (qAf rfl rfl (l := [I i]) rfl) rfl fun g3 _ => ?_
  change J _ _ _ [F, blk g3 [I i] 3] _
  refine J.p (qAO rfl e9_ rfl) rfl fun g4 _ => ?_
  change J _ _ _ [_, _, blk g4 _ 9] _
  refine J.p (qAO rfl zeroValue30 rfl) rfl fun g5 _ => ?_
  change J _ _ _ [_, _, _, blk g5 _ 30] _
  refine J.c hK1 <| J.M 0 3 4 5 ?_
  refine J.k fun K2 hK2 => J.g fun K3 hK3 => J.b rfl <| J.d1 1 b3_ rfl rfl rfl rfl rfl <| J.p (qAB rfl rfl ent190 (Ct.use0 (fun F' hF => qGl F' g d A c B e C f (hc.mono (hF F (by simp))) i hn))) rfl fun g11 _ => J.b rfl <| J.c hK3 <| J.a0 0 3 4 5 6 ?_
  refine J.g fun K4 hK4 => J.b rfl <| J.f (qAY rfl rfl rfl) rfl <| J.c hK4 <| J.b3 0 3 4 5 6 13 ?_
  refine J.a5 rfl (fun h13 => ?_) (fun h13 => ?_)
  ·
    refine J.g fun K5 hK5 => J.b rfl <| J.b1 (qAG (l := [Str []]) (i := 2) (vs := [Str []]) rfl rfl rfl rfl rfl z9_ rfl rfl) rfl rfl fun _ _ => ?_
    change J _ _ _ [_, _, blk g4 [Str []] 9, _] _
    refine J.b1 (qAG (l := [I 0]) (i := 3) (vs := [I (d.ready i)]) rfl rfl rfl rfl rfl qIb rfl rfl) rfl rfl fun _ _ => ?_
    change J _ _ _ [_, _, _, blk g5 [I (d.ready i)] 30] _
    refine J.c hK5 <| J.E 4 5 ?_
    exact J.D <| J.a3 <| J.b4 hw0 (fun _ _ h => h) (rv2 rfl (RV.blk1 2 rfl rfl b9_) (RV.blk1 3 rfl rfl qLJ)) (qAj () (by rw [show d.read i = [] from if_neg (by omega)]) trivial [0] rfl (by decide))
  refine J.W hK2 <| J.M 0 3 4 5 ?_
  refine J.k fun K6 hK6 => J.k fun K7 hK7 => ?_
  have h0 : d.ready i = 0 := by omega
  obtain ⟨hi0, hil⟩ : 0 ≤ i ∧ i < d.last.length := by
    unfold Dk.ready at h0
    split at h0
    · cases h0
    · split at h0
      · cases h0
      · omega
  obtain ⟨iN, hiN⟩ := Int.eq_ofNat_of_zero_le hi0
  have hrd : d.read i = d.now iN := by unfold Dk.read; rw [if_pos h0, hiN]; rfl
  refine J.G <| J.b rfl <| J.f (qAD rfl rfl) rfl <| J.a2 1 qB7 qFo rfl rfl rfl rfl rfl <| J.f (qAN rfl rfl isAgg133 (m := F) (by simp) (hc.at (i := 1) rfl)) rfl <| J.p (qAB rfl rfl ent191 (Ct.use (new := fun x : Nat => [blk x [.slice B d.wait.length e] 133]) (fun F' _ => qOy F' B d.wait.length e))) rfl ?_
  rintro gB _
  change J _ _ _ [F, blk g3 [I i] 3, blk g4 _ 9, blk g5 _ 30, blk gB [.slice B d.wait.length e] 133] _
  refine J.c hK7 <| J.a0 0 3 4 5 19 ?_
  refine J.a1 <| J.c9 [2, 3, 0, 1, 4] [blk g4 [Str []] 9, blk g5 [I 0] 30, F, blk g3 [I i] 3, blk gB [.slice B d.wait.length e] 133] rfl (by decide) <| J.h5 (fun x : List UInt8 × Int => [blk g4 [Str x.1] 9, blk g5 [I x.2] 30]) [F, blk g3 [I i] 3, blk gB [.slice B d.wait.length e] 133] (fun r x => x = ([], 0) ∧ d.now iN = (qNV d.wait iN (d.wait.length - r)).getD (d.last.getD iN [])) (fun cd x => cd = .ret ∧ x = (d.now iN, 0)) ([], 0) rfl ent221 (fun Fr hF => qNH Fr gB B d.wait e hn2 (qAQ.blk0.mono (hF (blk gB [.slice B d.wait.length e] 133) (by simp))) (hW.mono (hF F (by simp)))) (fun _ _ => rfl) rfl (⟨rfl, rfl⟩) ?_ ?_ ?_
  ·
    intro r x l wa wb hi hI K8 Post8 hK8 hN8 hR8 hE8
    obtain ⟨x1, x2⟩ := x
    obtain ⟨hx, hnow⟩ := hI
    cases hx
    have hsk : qNV d.wait iN (d.wait.length - r) = if (d.wait.getD (d.wait.length - 1 - r) (0, [])).1 = iN then some (d.wait.getD (d.wait.length - 1 - r) (0, [])).2 else qNV d.wait iN (d.wait.length - (r + 1)) := by
      have := qHc d.wait iN (d.wait.length - 1 - r)
      rw [show d.wait.length - 1 - r + 1 = d.wait.length - r by omega] at this
      rw [this, show d.wait.length - (r + 1) = d.wait.length - 1 - r by omega]
    change J _ ((21, .agg #[I (d.wait.getD (d.wait.length - 1 - r) (0, [])).1, Str (d.wait.getD (d.wait.length - 1 - r) (0, [])).2]) :: (20, _) :: _) _ [blk g4 [Str []] 9, blk g5 [I 0] 30, F, blk g3 [I i] 3, blk gB [.slice B d.wait.length e] 133] _
    refine J.e8 ?_
    refine J.p (qAO rfl zeroValue162 rfl) rfl fun g8 _ => ?_
    change J _ _ _ [_, _, _, _, _, blk g8 _ 162] _
    refine J.b1 (qAG (l := [I 0, Str []]) (i := 5) (vs := [I (d.wait.getD (d.wait.length - 1 - r) (0, [])).1, Str (d.wait.getD (d.wait.length - 1 - r) (0, [])).2]) rfl rfl rfl rfl rfl qE6 rfl rfl) rfl rfl fun _ _ => ?_
    change J _ _ _ [_, _, _, _, _, blk g8 [I (d.wait.getD (d.wait.length - 1 - r) (0, [])).1, Str (d.wait.getD (d.wait.length - 1 - r) (0, [])).2] 162] _
    refine J.e9 ?_
    refine J.A (hK8 _ _ ?_)
    refine J.M 3 4 5 8 ?_
    refine J.g4 ?_
    refine J.f9 (fun K9 hK9 => ?_)
    refine J.e8 ?_
    refine J.a2 0 qKU z3_ rfl rfl rfl rfl rfl <| J.d1 5 b3_ rfl rfl rfl rfl rfl <| J.d1 3 b3_ rfl rfl rfl rfl rfl <| J.f ((qAV rfl rfl rfl).as (v' := .bool (decide ((d.wait.getD (d.wait.length - 1 - r) (0, [])).1 = iN))) (congrArg Value.bool (decide_eq_decide.2 (by omega)))) rfl <| J.e9 ?_
    refine J.A (J.L hK9 ?_)
    refine J.M 4 5 8 25 ?_
    refine J.h4 rfl (fun h25 => ?_) (fun h25 => ?_)
    ·
      refine J.f9 (fun K10 hK10 => ?_)
      refine J.e8 ?_
      refine J.a2 1 qKU z9_ rfl rfl rfl rfl rfl <| J.d1 5 b9_ rfl rfl rfl rfl rfl <| J.b1 (qAG (l := [Str []]) (i := 0) (vs := [Str (d.wait.getD (d.wait.length - 1 - r) (0, [])).2]) rfl rfl rfl rfl rfl z9_ rfl rfl) rfl rfl fun _ _ => ?_
      change J _ _ _ [blk g4 [Str (d.wait.getD (d.wait.length - 1 - r) (0, [])).2] 9, _, _, _, _, _] _
      refine J.b1 (qAG (l := [I 0]) (i := 1) (vs := [I 0]) rfl rfl rfl rfl rfl qIb rfl rfl) rfl rfl fun _ _ => ?_
      change J _ _ _ [_, _, _, _, _, _] _
      refine J.e9 ?_
      refine J.A (J.L hK10 ?_)
      refine J.c8 [] trivial <| J.i2 ?_
      refine J.b6 <| J.c9 [0, 1, 2, 3, 4] [blk g4 [Str (d.wait.getD (d.wait.length - 1 - r) (0, [])).2] 9, blk g5 [I 0] 30, F, blk g3 [I i] 3, blk gB [.slice B d.wait.length e] 133] rfl (by decide) ?_
      exact hR8 _ ((d.wait.getD (d.wait.length - 1 - r) (0, [])).2, 0) ⟨rfl, by rw [hnow, hsk, if_pos h25]; rfl⟩
    refine J.i1 ?_
    refine J.a9 <| J.c9 [0, 1, 2, 3, 4] [blk g4 [Str []] 9, blk g5 [I 0] 30, F, blk g3 [I i] 3, blk gB [.slice B d.wait.length e] 133] rfl (by decide) ?_
    exact hN8 _ ([], 0) ⟨rfl, by rw [hnow, hsk, if_neg h25]⟩
  ·
    intro w8 x hx8 hI
    obtain ⟨x1, x2⟩ := x
    obtain ⟨hx, hnow⟩ := hI
    cases hx
    rw [Nat.sub_self, qLv] at hnow
    change J _ _ _ [blk g4 [Str []] 9, blk g5 [I 0] 30, F, blk g3 [I i] 3, blk gB [.slice B d.wait.length e] 133] _
    refine J.a9 <| J.A (J.L hK6 ?_)
    refine J.M 0 3 4 5 ?_
    refine J.k fun K11 hK11 => J.c1 [blk g4 [Str []] 9, blk g5 [I 0] 30, F, blk g3 [I i] 3, blk gB [.slice B d.wait.length e] 133] [7, 8] (.y 0 (.y 1 (.y 2 (.y 3 (.y 4 (.y 5 (.y 6 (.e 7 (.e 8 .nil))))))))) Tryz.wide (by decide +kernel) (by simp) ?_
    refine J.O ?_
    refine J.q rfl (qAD rfl rfl) rfl rfl <| J.q rfl (qAA (j := 0) rfl rfl qB7 rfl qB0 rfl) rfl rfl <| J.q rfl (qAN rfl rfl qCQ (m := F) (by simp) (hc.at (i := 0) rfl)) rfl rfl <| J.q rfl (qAC 3 rfl rfl rfl b3_ rfl) rfl rfl <| J.q rfl (qAH (i := iN) rfl rfl (by show some (I i) = _; rw [hiN]) qAh z9_ hL (by omega)) rfl rfl <| J.q rfl (qAN rfl rfl b9_ (m := F) (by simp) (hL.elem (qAZ (qAg [] (show iN < d.last.length by omega))))) rfl rfl <| J.d7 rfl (qAG (l := [Str []]) (i := 0) (vs := [Str (d.last.getD iN [])]) rfl rfl rfl rfl rfl z9_ rfl rfl) rfl rfl rfl fun _ _ => ?_
    change J _ _ _ [blk g4 [Str (d.last.getD iN [])] 9, _, _, _, _] _
    refine J.d7 rfl (qAG (l := [I 0]) (i := 1) (vs := [I 0]) rfl rfl rfl rfl rfl qIb rfl rfl) rfl rfl rfl fun _ _ => ?_
    change J _ _ _ [_, _, _, _, _] _
    refine J.b5 <| J.A (J.L hK11 ?_)
    refine J.E 4 5 ?_
    exact J.D <| J.g0 hw0 hx8 (fun _ _ h => h) (rv2 rfl (RV.blk1 0 rfl rfl b9_) (RV.blk1 1 rfl rfl qLJ)) (qAj () (by rw [hrd, h0, hnow]; rfl) trivial [2] rfl (by decide))
  intro w8 x c hx8 hS
  obtain ⟨rfl, rfl⟩ := hS
  change J _ _ _ [blk g4 [Str (d.now iN)] 9, blk g5 [I 0] 30, F, blk g3 [I i] 3, blk gB [.slice B d.wait.length e] 133] _
  exact J.D <| J.b6 <| J.a3 <| J.g0 hw0 hx8 (fun _ _ h => h) (rv2 rfl (RV.blk1 0 rfl rfl b9_) (RV.blk1 1 rfl rfl qLJ)) (qAj () (by rw [hrd, h0]) trivial [2] rfl (by decide))
theorem qM6 (g i : Nat) : qFe (some ⟨g, 0, none⟩) i 1 = ⟨g, i, none⟩ := by rw [qIB]; simp
theorem qMm (F mL : Hp) (g gL c n : Nat) (d : Dk) (B : Option Addr) (e : Nat) (C : Option Addr) (f : Nat) (L : List (List UInt8)) (hc : qAQ F ⟨g, 0, none⟩ [.slice (some ⟨gL, 0, none⟩) L.length c, .slice B d.wait.length e, .bool d.off, .bool d.armed, I d.fuse, .slice C d.keep.length f])
    (hr : Row mL 9 1 (some ⟨gL, 0, none⟩) L.length c (qAI L)) (at_ : Nat) (t : List UInt8) (hat : at_ < L.length) (ht : n ≤ t.length) (ho : n ≤ (L.getD at_ []).length) (hs : t.length ≤ 1048576) (hs2 : (L.getD at_ []).length ≤ 1048576) (hn3 : L.length ≤ 1073741824) :
    Ct prog 67 [Ptr g, .agg #[I at_, Str t], I n] [mL, F] (fun _ : Hp => .tuple #[]) (fun m => Row m 9 1 (some ⟨gL, 0, none⟩) L.length c (qAI (qG4 L (at_, t) n))) (fun m => [m, F]) := by
  refine Ct.walk func67 rfl ntmps67 rfl (fun w0 hw0 => ?_)
  change J _ [(0, _), (1, _), (2, _)] _ _ _
  refine J.g fun K1 hK1 => J.p (qAf rfl rfl (l := [I at_, Str t]) rfl) rfl fun g4 _ => ?_
  change J _ _ _ [mL, F, blk g4 [I at_, Str t] 162] _
  refine J.c hK1 <| J.H 0 2 4 ?_
  refine J.c1 [mL, F, blk g4 [I at_, Str t] 162] [22] (.y 0 (.y 1 (.y 2 (.y 3 (.y 4 (.y 5 (.y 6 (.y 7 (.y 8 (.y 9 (.y 10 (.y 11 (.y 12 (.y 13 (.y 14 (.y 15 (.y 16 (.y 17 (.y 18 (.y 19 (.y 20 (.y 21 (.e 22 .nil))))))))))))))))))))))) Tryz.wide (by decide +kernel) (by simp) ?_
  refine J.O ?_
  refine J.q rfl (qAD rfl rfl) rfl rfl <| J.q rfl (qAA (j := 0) rfl rfl qB7 rfl qB0 rfl) rfl rfl <| J.q rfl (qAN rfl rfl qCQ (m := F) (by simp) (hc.at (i := 0) rfl)) rfl rfl <| J.q rfl (qAA (j := 0) rfl rfl qKU rfl z3_ rfl) rfl rfl <| J.q rfl (qAC 2 rfl rfl rfl b3_ rfl) rfl rfl <| J.q rfl (qAA (j := 1) rfl rfl qKU rfl z9_ rfl) rfl rfl <| J.q rfl (qAC 2 rfl rfl rfl b9_ rfl) rfl rfl <| J.O ?_
  refine J.q rfl ((qAz (l := 0) (h := n) u9_ rfl rfl rfl rfl ⟨by omega, by omega⟩).as (v' := Str (t.take n)) (congrArg Str List.drop_zero)) rfl rfl <| J.O ?_
  refine J.q rfl (qAD rfl rfl) rfl rfl <| J.q rfl (qAA (j := 0) rfl rfl qB7 rfl qB0 rfl) rfl rfl <| J.q rfl (qAN rfl rfl qCQ (m := F) (by simp) (hc.at (i := 0) rfl)) rfl rfl <| J.q rfl (qAA (j := 0) rfl rfl qKU rfl z3_ rfl) rfl rfl <| J.q rfl (qAC 2 rfl rfl rfl b3_ rfl) rfl rfl <| J.q rfl (qAH (i := at_) rfl rfl rfl qAh z9_ hr.sl (by omega)) rfl rfl <| J.q rfl (qAN rfl rfl b9_ (m := mL) (by simp) (v := Str (L.getD at_ [])) (hr.sl.elem (qAZ (qAg [] hat)))) rfl rfl <| J.O ?_
  refine J.q rfl ((qAz (l := n) (h := (L.getD at_ []).length) u9_ rfl rfl rfl rfl ⟨by omega, by omega⟩).as (v' := Str ((L.getD at_ []).drop n)) (by rw [List.take_length])) rfl rfl <| J.q rfl ((qBK rfl rfl rfl (by simp only [List.length_take, List.length_drop]; omega)).as (v' := Str (qLH (L.getD at_ []) t n)) rfl) rfl rfl <| J.q rfl (qAH (i := at_) rfl rfl rfl qAh z9_ hr.sl (by omega)) rfl rfl <| J.d7 rfl (qBX (i := 0) (k := at_) (off := 0) (b := [Str (qLH (L.getD at_ []) t n)]) rfl (by show some _ = some _; rw [qM6]) rfl rfl hr (vs := [Str (qLH (L.getD at_ []) t n)]) rfl z9_ rfl (by omega) (qAZ (qAg [] hat)) rfl (by show _ + 1 ≤ 1; decide)) rfl rfl rfl ?_
  rintro m9 h9
  change J _ _ _ [m9, _, _] _
  exact J.b5 <| J.e7 hw0 (fun _ _ h => h) (qJc rfl) (qAj m9 rfl (by rw [qC1] at h9; exact h9) [0, 1] rfl (by decide))
theorem qRA (F mL mW : Hp) (g : Nat) (d : Dk) (hok : d.ok0) (hn2 : d.wait.length ≤ 1073741824) (gL : Nat) (c : Nat) (B : Option Addr) (e : Nat) (C : Option Addr) (f : Nat) (hL : Row mL 9 1 (some ⟨gL, 0, none⟩) d.last.length c (qAI d.last)) (hW : Row mW 162 2 B d.wait.length e (qB2 d.wait)) (K : List UInt8) (E : Option Addr) (q : Nat) (hK : Sl F 1 E K.length q (qAX K)) (hKn : K.length ≤ 9223372036854775807) :
    Ct prog 28 [Ptr g, .slice E K.length q] [blk g [.slice (some ⟨gL, 0, none⟩) d.last.length c, .slice B d.wait.length e, .bool d.off, .bool d.armed, I d.fuse, .slice C d.keep.length f] 135, mL, mW, F] (fun _ : Hp => .tuple #[]) (fun m => Row m 9 1 (some ⟨gL, 0, none⟩) d.last.length c (qAI (qEi d.last d.wait K d.wait.length))) (fun m => [blk g [.slice (some ⟨gL, 0, none⟩) d.last.length c, .slice none 0 0, .bool true, .bool false, I d.fuse, .slice C d.keep.length f] 135, m, F]) := by
  refine Ct.walk func28 rfl ntmps28 rfl (fun w0 hw0 => ?_)
  change J _ [(0, _), (1, _)] _ _ _
  refine J.k fun K1 hK1 => J.g fun K2 hK2 => J.b rfl <| J.f ((qAu qRc rfl rfl rfl).as (v' := .bool false) rfl) rfl <| J.c hK2 <| J.H 0 1 7 ?_
  refine J.a8 ?_
  refine J.W hK1 <| J.E 0 1 ?_
  refine J.k fun K3 hK3 => J.g fun K4 hK4 => J.b rfl <| J.f (qAD rfl rfl) rfl <| J.a2 1 qB7 qFo rfl rfl rfl rfl rfl <| J.d1 0 isAgg133 rfl rfl rfl rfl rfl <| J.f (qAa qGe rfl rfl) rfl <| J.b rfl <| J.c hK4 <| J.a0 0 1 11 12 13 ?_
  refine J.a1 <| J.c0 (X := Nat × Hp) (fun x => [(0, Ptr g), (1, .slice E K.length q), (11, .slice B d.wait.length e), (12, I d.wait.length), (13, I x.1)]) (fun x => [blk g [.slice (some ⟨gL, 0, none⟩) d.last.length c, .slice B d.wait.length e, .bool d.off, .bool d.armed, I d.fuse, .slice C d.keep.length f] 135, x.2, mW, F]) (fun x => x.1 ≤ d.wait.length ∧ Row x.2 9 1 (some ⟨gL, 0, none⟩) d.last.length c (qAI (qEi d.last d.wait K x.1))) (fun x => d.wait.length - x.1) (0, mL) (⟨Nat.zero_le _, hL⟩) ⟨rfl, rfl, rfl, rfl, rfl, trivial⟩ (fun _ h => h) ?_
  rintro ⟨k, m⟩ ⟨hk, hr⟩ I0 hI0
  dsimp only at hk hr ⊢
  refine J.g fun K5 hK5 => J.f (qAW rfl rfl rfl) rfl <| J.c hK5 <| J.b3 0 1 11 12 13 14 ?_
  refine J.k fun K6 hK6 => J.a5 rfl (fun h14 => ?_) (fun h14 => ?_)
  ·
    refine J.W hK6 <| J.a0 0 1 11 12 13 ?_
    refine J.k fun K7 hK7 => J.a1 <| J.g fun K8 hK8 => J.b rfl <| J.f (qAH (i := k) rfl rfl rfl qGe qE6 hW.sl (by omega)) rfl <| J.f (qAo rfl rfl isAgg162 qE6 (m := mW) (by simp) (vs := [I (d.wait.getD k (0, [])).1, Str (d.wait.getD k (0, [])).2]) (hW.sl.elem (qE8 (by omega))) rfl) rfl <| J.p (qAO rfl zeroValue162 rfl) rfl fun g5 _ => ?_
    change J _ _ _ [blk g [.slice (some ⟨gL, 0, none⟩) d.last.length c, .slice B d.wait.length e, .bool d.off, .bool d.armed, I d.fuse, .slice C d.keep.length f] 135, m, mW, F, blk g5 _ 162] _
    refine J.b rfl <| J.b1 (qAG (l := [I 0, Str []]) (i := 4) (vs := [I (d.wait.getD k (0, [])).1, Str (d.wait.getD k (0, [])).2]) rfl rfl rfl rfl rfl qE6 rfl rfl) rfl rfl fun _ _ => ?_
    change J _ _ _ [_, _, _, _, blk g5 [I (d.wait.getD k (0, [])).1, Str (d.wait.getD k (0, [])).2] 162] _
    refine J.c hK8 <| J.c2 0 1 4 5 11 12 13 ?_
    refine J.g fun K9 hK9 => J.j 2 rfl <| J.f (qAa qBl rfl rfl) rfl <| J.f (qAW rfl rfl rfl) rfl <| J.c hK9 <| J.d3 0 1 4 5 11 12 13 21 ?_
    refine J.a5 rfl (fun h21 => ?_) (fun h21 => ?_)
    ·
      have ⟨hw1, hw2⟩ := qMx hok.w64 (show k < d.wait.length by omega)
      have h64 := qI5 (qG9 hok.l64 hok.w64 (K := K) k hk) (show (d.wait.getD k (0, [])).1 < (qEi d.last d.wait K k).length by rw [qA6]; exact hw1)
      obtain ⟨nk, hnk⟩ : ∃ nk, nk = min (K.getD k 0).toNat 64 := ⟨_, rfl⟩
      refine J.c1 [blk g5 [I (d.wait.getD k (0, [])).1, Str (d.wait.getD k (0, [])).2] 162, F] [] (.y 0 (.y 1 (.y 2 (.y 3 (.y 4 (.y 5 (.y 6 (.y 7 (.e 8 .nil))))))))) Tryz.wide (by decide +kernel) (by simp) ?_
      refine J.O ?_
      refine J.q rfl (qAi 0 rfl rfl rfl isAgg162 qE6 rfl) rfl rfl <| J.O ?_
      refine J.O ?_
      refine J.q rfl (qAH (i := k) rfl rfl rfl qBl z5_ hK (by omega)) rfl rfl <| J.q rfl (qAN rfl rfl isAgg5 (m := F) (by simp) (v := B8 (K.getD k 0)) (hK.elem (qBQ (qAg 0 (by omega))))) rfl rfl <| J.q rfl (qBw rfl rfl u5_ u3_) rfl rfl <| J.q rfl ((qDX rfl rfl rfl).nat (nk) (by omega)) rfl rfl <| J.b2 rfl (qAB rfl rfl ent67 (Ct.use1 1 (m' := fun x : Hp => x) (new := fun _ => []) rfl (fun F' hF => by have := qMm F' m g gL c nk d B e C f (qEi d.last d.wait K k) (by rw [qA6]; exact qAQ.blk0.mono (hF (blk g [.slice (some ⟨gL, 0, none⟩) d.last.length c, .slice B d.wait.length e, .bool d.off, .bool d.armed, I d.fuse, .slice C d.keep.length f] 135) (by simp))) (by rw [qA6]; exact hr) (d.wait.getD k (0, [])).1 (d.wait.getD k (0, [])).2 (by rw [qA6]; exact hw1) (by omega) (by omega) (by omega) (by omega) (by rw [qA6]; have := hok.n1; omega); rw [qA6] at this; exact this))) rfl (by simp) ?_
      rintro m30 h30
      change J _ _ _ [_, m30, _, _, _] _
      refine J.c9 [0, 1, 2, 3] [blk g [.slice (some ⟨gL, 0, none⟩) d.last.length c, .slice B d.wait.length e, .bool d.off, .bool d.armed, I d.fuse, .slice C d.keep.length f] 135, m30, mW, F] rfl (by decide) <| J.b5 <| J.a9 <| J.A (J.L hK7 ?_)
      refine J.a0 0 1 11 12 13 ?_
      exact J.G <| J.f ((qAR rfl rfl rfl (by omega)).nat (k + 1) (by omega)) rfl <| J.b rfl <| J.a7 <| J.A <| J.b0 (k + 1, m30) (fun x (hx : _ ∧ d.wait.length - x.1 < d.wait.length - k) => hI0 x hx.1 hx.2) ⟨⟨by dsimp only; omega, by dsimp only; rw [qEi, if_pos (by omega), ← hnk]; exact h30⟩, by dsimp only; omega⟩ ⟨rfl, rfl, rfl, rfl, rfl, trivial⟩ (fun _ h => h)
    refine J.c7 <| J.a9 <| J.A (J.L hK7 ?_)
    refine J.a0 0 1 11 12 13 ?_
    exact J.G <| J.f ((qAR rfl rfl rfl (by omega)).nat (k + 1) (by omega)) rfl <| J.b rfl <| J.a7 <| J.A <| J.c9 [0, 1, 2, 3] [blk g [.slice (some ⟨gL, 0, none⟩) d.last.length c, .slice B d.wait.length e, .bool d.off, .bool d.armed, I d.fuse, .slice C d.keep.length f] 135, m, mW, F] rfl (by decide) <| J.b0 (k + 1, m) (fun x (hx : _ ∧ d.wait.length - x.1 < d.wait.length - k) => hI0 x hx.1 hx.2) ⟨⟨by dsimp only; omega, by dsimp only; rw [qEi, if_neg (by omega)]; exact hr⟩, by dsimp only; omega⟩ ⟨rfl, rfl, rfl, rfl, rfl, trivial⟩ (fun _ h => h)
  refine J.b7 <| J.a6 <| J.a6 <| J.b8 ?_
  refine J.A (J.L hK3 ?_)
  refine J.u 0 ?_
  have hkn : k = d.wait.length := by omega
  subst hkn
  refine J.G <| J.j 3 rfl <| J.f (qAD rfl rfl) rfl <| J.a2 1 qB7 qFo rfl rfl rfl rfl rfl <| J.b1 (qAT (i := 0) (vs := [.slice none 0 0]) rfl rfl rfl rfl rfl qFo rfl (by simp)) rfl rfl fun _ _ => ?_
  change J _ _ _ [blk g [.slice (some ⟨gL, 0, none⟩) d.last.length c, .slice none 0 0, .bool d.off, .bool d.armed, I d.fuse, .slice C d.keep.length f] 135, m, mW, F] _
  refine J.f (qAD rfl rfl) rfl <| J.a2 2 qB7 z4_ rfl rfl rfl rfl rfl <| J.b1 (qAT (i := 0) (vs := [.bool true]) rfl rfl rfl rfl rfl z4_ rfl (by simp)) rfl rfl fun _ _ => ?_
  change J _ _ _ [blk g [.slice (some ⟨gL, 0, none⟩) d.last.length c, .slice none 0 0, .bool true, .bool d.armed, I d.fuse, .slice C d.keep.length f] 135, _, _, _] _
  refine J.f (qAD rfl rfl) rfl <| J.a2 3 qB7 z4_ rfl rfl rfl rfl rfl <| J.b1 (qAT (i := 0) (vs := [.bool false]) rfl rfl rfl rfl rfl z4_ rfl (by simp)) rfl rfl fun _ _ => ?_
  change J _ _ _ [blk g [.slice (some ⟨gL, 0, none⟩) d.last.length c, .slice none 0 0, .bool true, .bool false, I d.fuse, .slice C d.keep.length f] 135, _, _, _] _
  exact J.a7 <| J.e7 hw0 (fun _ _ h => h) (qJc rfl) (qAj m rfl hr [0, 1, 3] rfl (by decide))
theorem Dsk.open {mm : Hp} {g : Nat} {d : Dk} {C : Option Addr} {f : Nat} (h : Dsk mm g d C f) (h0 : 0 < d.last.length) : ∃ gL c mL B e mW, mm = U [blk g (d.cells (some ⟨gL, 0, none⟩) c B e C f) 135, mL, mW] ∧ Djs [blk g (d.cells (some ⟨gL, 0, none⟩) c B e C f) 135, mL, mW] ∧ Row mL 9 1 (some ⟨gL, 0, none⟩) d.last.length c (qAI d.last) ∧ Row mW 162 2 B d.wait.length e (qB2 d.wait) := by
 obtain ⟨A, c, mL, B, e, mW, h1, h2, h3, h4⟩ := h
 obtain ⟨gL, rfl⟩ := h3.at h0
 exact ⟨gL, c, mL, B, e, mW, h1, h2, h3, h4⟩
theorem qIa {a b : Hp} (h : Djs [a, b]) : Djs [a, b, fun _ => none] := by
 rw [qAS] at h ⊢
 simp only [List.pairwise_cons, List.mem_cons, List.not_mem_nil, or_false] at h ⊢
 refine ⟨?_, fun _ _ _ => .inr (by rename_i h _; rw [h]), fun _ hm => hm.elim, .nil⟩
 rintro m (rfl | rfl)
 · exact h.1 m rfl
 · exact fun _ => .inr rfl
theorem qQ9 {g : Nat} (d : Dk) (gL c : Nat) (C : Option Addr) (f : Nat) (m : Hp) (K : List UInt8) (hm : Row m 9 1 (some ⟨gL, 0, none⟩) d.last.length c (qAI (qEi d.last d.wait K d.wait.length))) (hj : Djs [blk g [.slice (some ⟨gL, 0, none⟩) d.last.length c, .slice none 0 0, .bool true, .bool false, I d.fuse, .slice C d.keep.length f] 135, m]) :
    Dsk (U [blk g [.slice (some ⟨gL, 0, none⟩) d.last.length c, .slice none 0 0, .bool true, .bool false, I d.fuse, .slice C d.keep.length f] 135, m]) g (d.cut K) C f := by
  refine ⟨some ⟨gL, 0, none⟩, c, m, none, 0, fun _ => none, ?_, ?_, ?_, qBa.nil⟩
  · show U [blk g [.slice (some ⟨gL, 0, none⟩) d.last.length c, .slice none 0 0, .bool true, .bool false, I d.fuse, .slice C d.keep.length f] 135, m] = U [blk g [.slice (some ⟨gL, 0, none⟩) (qEi d.last d.wait K d.wait.length).length c, .slice none 0 0, .bool true, .bool false, I d.fuse, .slice C d.keep.length f] 135, m, fun _ => none]
    rw [qA6]; rfl
  · show Djs [blk g [.slice (some ⟨gL, 0, none⟩) (qEi d.last d.wait K d.wait.length).length c, .slice none 0 0, .bool true, .bool false, I d.fuse, .slice C d.keep.length f] 135, m, fun _ => none]
    rw [qA6]; exact qIa hj
  · show Row m 9 1 (some ⟨gL, 0, none⟩) (qEi d.last d.wait K d.wait.length).length c _
    rw [qA6]; exact hm
theorem qND (F mm : Hp) (g : Nat) (d : Dk) (C : Option Addr) (f : Nat) (hb : Dsk mm g d C f) (hok : d.ok) (hn2 : d.wait.length ≤ 1073741824) (hKp : Sl F 1 C d.keep.length f (qAX d.keep)) (hn3 : d.keep.length ≤ 9223372036854775807) :
    Ct prog 225 [Ptr g] [mm, F] (fun _ : Hp => .bool (decide d.burns)) (fun m => Dsk m g d.burn C f) (fun m => [m, F]) := by
  obtain ⟨gL, c, mL, B, e, mW, rfl, hd, hL, hW⟩ := hb.open hok.n0
  unfold Dk.cells at hd ⊢
  refine Ct.walk func225 rfl ntmps225 rfl (fun w0 hw0 => ?_)
  change J _ [(0, _)] _ _ _
  refine J.g7 hd ?_
  change J _ _ _ [blk g [.slice (some ⟨gL, 0, none⟩) d.last.length c, .slice B d.wait.length e, .bool d.off, .bool d.armed, I d.fuse, .slice C d.keep.length f] 135, mL, mW, F] _
  refine J.g fun K1 hK1 => J.b rfl <| J.c hK1 <| J.u 0 ?_
  refine J.k fun K2 hK2 => J.g fun K3 hK3 => J.b rfl <| J.f (qAD rfl rfl) rfl <| J.a2 3 qB7 z4_ rfl rfl rfl rfl rfl <| J.f (qAC (v := .bool d.armed) 0 rfl rfl rfl b4_ rfl) rfl <| J.f ((qA1 rfl rfl).as (v' := .bool (decide (¬ d.armed = true))) (congrArg Value.bool (by simp))) rfl <| J.c hK3 <| J.E 0 7 ?_
  refine J.a5 rfl (fun h7 => ?_) (fun h7 => ?_)
  ·
    refine J.g fun K4 hK4 => J.b rfl <| J.c hK4 <| J.u 2 ?_
    exact J.D <| J.a3 <| J.b4 hw0 (fun _ _ h => h) (qIc rfl rfl) (qEL [blk g [.slice (some ⟨gL, 0, none⟩) d.last.length c, .slice B d.wait.length e, .bool d.off, .bool d.armed, I d.fuse, .slice C d.keep.length f] 135, mL, mW] [F] (U [blk g [.slice (some ⟨gL, 0, none⟩) d.last.length c, .slice B d.wait.length e, .bool d.off, .bool d.armed, I d.fuse, .slice C d.keep.length f] 135, mL, mW]) (congrArg Value.bool (decide_eq_false (fun h => h7 h.1)).symm) (fun hd => by rw [show d.burn = d from if_neg h7]; exact ⟨_, c, mL, B, e, mW, rfl, hd, hL, hW⟩) [0, 1, 2, 3] rfl rfl (by decide))
  refine J.W hK2 <| J.u 0 ?_
  refine J.k fun K5 hK5 => ?_
  have ha : d.armed = true := by simpa using h7
  refine J.G <| J.b rfl <| J.f (qAD rfl rfl) rfl <| J.a2 4 qB7 z3_ rfl rfl rfl rfl rfl <| J.d1 0 b3_ rfl rfl rfl rfl rfl <| J.f (qAp rfl rfl rfl (by have := hok.fb; have := hok.fz ha; omega)) rfl <| J.f (qAD rfl rfl) rfl <| J.a2 4 qB7 z3_ rfl rfl rfl rfl rfl <| J.b1 (qAT (i := 0) (vs := [I (d.fuse - 1)]) rfl rfl rfl rfl rfl z3_ rfl (by simp)) rfl rfl fun _ _ => ?_
  change J _ _ _ [blk g [.slice (some ⟨gL, 0, none⟩) d.last.length c, .slice B d.wait.length e, .bool d.off, .bool d.armed, I (d.fuse - 1), .slice C d.keep.length f] 135, mL, mW, F] _
  refine J.c hK5 <| J.u 0 ?_
  refine J.k fun K6 hK6 => J.g fun K7 hK7 => J.b rfl <| J.f (qAD rfl rfl) rfl <| J.a2 4 qB7 z3_ rfl rfl rfl rfl rfl <| J.d1 0 b3_ rfl rfl rfl rfl rfl <| J.f (qBN rfl rfl rfl) rfl <| J.c hK7 <| J.E 0 19 ?_
  refine J.a5 rfl (fun h19 => ?_) (fun h19 => ?_)
  ·
    refine J.g fun K8 hK8 => J.b rfl <| J.c hK8 <| J.u 2 ?_
    exact J.D <| J.a3 <| J.b4 hw0 (fun _ _ h => h) (qIc rfl rfl) (qEL [blk g [.slice (some ⟨gL, 0, none⟩) d.last.length c, .slice B d.wait.length e, .bool d.off, .bool d.armed, I (d.fuse - 1), .slice C d.keep.length f] 135, mL, mW] [F] (U [blk g [.slice (some ⟨gL, 0, none⟩) d.last.length c, .slice B d.wait.length e, .bool d.off, .bool d.armed, I (d.fuse - 1), .slice C d.keep.length f] 135, mL, mW]) (congrArg Value.bool (decide_eq_false (fun h => by have := h.2; omega)).symm) (fun hd => by rw [show d.burn = { d with fuse := d.fuse - 1 } from by unfold Dk.burn; rw [if_pos ha, if_neg (by omega)]]; exact ⟨_, c, mL, B, e, mW, rfl, hd, hL, hW⟩) [0, 1, 2, 3] rfl rfl (by decide))
  refine J.W hK6 <| J.u 0 ?_
  refine J.g fun K9 hK9 => J.j 2 rfl <| J.f (qAD rfl rfl) rfl <| J.a2 5 qB7 qHO rfl rfl rfl rfl rfl <| J.d1 0 qNJ rfl rfl rfl rfl rfl <| J.p (qAB rfl rfl ent28 ((qRA F mL mW g { d with fuse := d.fuse - 1 } ⟨hok.l64, hok.w64, hok.n0, hok.n1⟩ hn2 gL c B e C f hL hW d.keep C f hKp hn3))) rfl ?_
  rintro m25 h25
  change J _ _ _ [blk g [.slice (some ⟨gL, 0, none⟩) d.last.length c, .slice none 0 0, .bool true, .bool false, I (d.fuse - 1), .slice C d.keep.length f] 135, m25, F] _
  refine J.c hK9 <| J.c8 [] trivial <| J.g fun K10 hK10 => J.b rfl <| J.c hK10 <| J.u 2 ?_
  exact J.D <| J.b4 hw0 (fun _ _ h => h) (qIc rfl rfl) (qEL [blk g [.slice (some ⟨gL, 0, none⟩) d.last.length c, .slice none 0 0, .bool true, .bool false, I (d.fuse - 1), .slice C d.keep.length f] 135, m25] [F] (U [blk g [.slice (some ⟨gL, 0, none⟩) d.last.length c, .slice none 0 0, .bool true, .bool false, I (d.fuse - 1), .slice C d.keep.length f] 135, m25]) (congrArg Value.bool (decide_eq_true (show d.burns from ⟨ha, by omega⟩)).symm) (fun hj => by rw [show d.burn = { d with fuse := d.fuse - 1 }.cut d.keep from by unfold Dk.burn; rw [if_pos ha, if_pos (by omega)]]; exact qQ9 { d with fuse := d.fuse - 1 } gL c C f m25 d.keep h25 hj) [0, 1, 2] rfl rfl (by decide))
theorem qIF (F : Hp) (K : List (List UInt8)) (E : Option Addr) (q : Nat) (hK : Sl F 1 E K.length q (qAI K)) (hn : K.length ≤ 1073741824) :
    Ct prog 98 [.slice E K.length q] [F] (fun x : Option Addr × Nat × Hp => .slice x.1 K.length x.2.1) (fun x => Row x.2.2 9 1 x.1 K.length x.2.1 (qAI K)) (fun x => [F, x.2.2]) := by
  refine Ct.walk func98 rfl ntmps98 rfl (fun w0 hw0 => ?_)
  change J _ [(0, _)] _ _ _
  refine J.g fun K1 hK1 => J.b rfl <| J.c hK1 <| J.u 0 ?_
  refine J.k fun K2 hK2 => J.g fun K3 hK3 => J.b rfl <| J.f ((qJh qAh rfl rfl rfl).as (v' := .bool (decide (E.isNone = true))) (congrArg Value.bool (by cases E <;> rfl))) rfl <| J.c hK3 <| J.E 0 4 ?_
  refine J.a5 rfl (fun h4 => ?_) (fun h4 => ?_)
  ·
    refine J.k fun K4 hK4 => ?_
    have hnil : K = [] := by
      cases K with
      | nil => rfl
      | cons a r =>
        obtain ⟨_, ad, hA, _⟩ := hK.2.2 0 _ rfl
        rw [hA] at h4; cases h4
    refine J.d9 [0, 1] [F, fun _ => none] rfl (by decide) <| J.G <| J.b rfl <| J.c hK4 <| J.u 2 ?_
    exact J.D <| J.a3 <| J.V hw0 rfl (none, 0, fun _ => none) (by rw [hnil]; rfl) (by rw [hnil]; exact qBa.nil) [0, 1] rfl (by decide)
  refine J.W hK2 <| J.u 0 ?_
  refine J.g fun K5 hK5 => J.p (qDY rfl qAh el9) rfl fun g5 _ => ?_
  change J _ _ _ [F, blk g5 [] 9] _
  refine J.b rfl <| J.p (qAd (i := 1) (m2 := F) (xs := []) (ys := qAI K) rfl rfl rfl qAh qAh el9 rfl (qAv (q := True) (xs := []) rfl (by simp)) (by simp) hK (by simp [qAI, Value.oneCell']) (by omega) (by omega)) rfl ?_
  rintro ⟨A7, c7, m7⟩ h7
  try dsimp only at h7
  change J _ ((7, .slice A7 (0 + K.length) c7) :: _) _ [_, m7] _
  refine J.b rfl <| J.c hK5 <| J.u 2 ?_
  exact J.D <| J.V hw0 rfl (A7, c7, m7) (by rw [Nat.zero_add]) (by rw [Nat.zero_add] at h7; exact h7) [0, 1] rfl (by decide)
theorem qNd (F mm : Hp) (g : Nat) (d : Dk) (C : Option Addr) (f : Nat) (hb : Dsk mm g d C f) (hok : d.ok) (hn2 : d.wait.length ≤ 1073741824) (hKp : Sl F 1 C d.keep.length f (qAX d.keep)) (hn3 : d.keep.length ≤ 9223372036854775807) (i : Int) (s : List UInt8) (hs : s.length ≤ 1048576) :
    Ct prog 198 [Ptr g, I i, Str s] [mm, F] (fun _ : Hp => I (d.wErr i s)) (fun m => Dsk m g (d.write i s) C f) (fun m => [m, F]) := by
  obtain ⟨A0, c0, B0, e0, hc, hsL, hsW⟩ := hb.see
  have hn1 := hok.n1
  refine Ct.walk func198 rfl ntmps198 rfl (fun w0 hw0 => ?_)
  change J _ [(0, _), (1, _), (2, _)] _ _ _
  refine J.g fun K1 hK1 => J.b rfl <| J.c hK1 <| J.H 0 1 2 ?_
  refine J.g fun K2 hK2 => J.j 2 rfl <| J.p (qAB rfl rfl ent190 (Ct.use0 (fun F' hF => qGl F' g d A0 c0 B0 e0 C f (hc.mono (hF mm (by simp))) i (by omega)))) rfl fun g10 _ => J.b rfl <| J.c hK2 <| J.M 0 1 2 7 ?_
  refine J.k fun K3 hK3 => J.a1 <| J.g fun K4 hK4 => J.b rfl <| J.f (qAY rfl rfl rfl) rfl <| J.b rfl <| J.c hK4 <| J.a0 0 1 2 7 11 ?_
  refine J.a5 rfl (fun h11 => ?_) (fun h11 => ?_)
  ·
    refine J.g fun K5 hK5 => J.j 2 rfl <| J.c hK5 <| J.u 6 ?_
    exact J.D <| J.b6 <| J.a3 <| J.V hw0 rfl mm (congrArg I (by unfold Dk.wErr; rw [if_pos (by omega)])) (by rw [show d.write i s = d from if_pos (by omega)]; exact hb) [0, 1] rfl (by decide)
  refine J.g fun K6 hK6 => J.b rfl <| J.f (qAk u9_ rfl rfl) rfl <| J.f (qAx rfl rfl rfl) rfl <| J.b rfl <| J.c hK6 <| J.M 0 1 2 15 ?_
  refine J.a5 rfl (fun h15 => ?_) (fun h15 => ?_)
  ·
    refine J.g fun K7 hK7 => J.b rfl <| J.c hK7 <| J.u 6 ?_
    exact J.D <| J.b6 <| J.a3 <| J.V hw0 rfl mm (congrArg I (by unfold Dk.wErr; rw [if_neg (by omega), if_pos (by omega)])) (by rw [show d.write i s = d from by unfold Dk.write; rw [if_neg (by omega), if_pos (by omega)]]; exact hb) [0, 1] rfl (by decide)
  refine J.g fun K8 hK8 => J.b rfl <| J.p (qAB rfl rfl ent225 (Ct.use1 0 (m' := fun x : Hp => x) (new := fun _ => []) rfl (fun F' hF => qND F' mm g d C f hb hok hn2 (hKp.mono (hF F (by simp))) hn3))) rfl ?_
  rintro m21 h21
  change J _ _ _ [m21, F] _
  refine J.b rfl <| J.c hK8 <| J.M 0 1 2 19 ?_
  refine J.a5 rfl (fun h19 => ?_) (fun h19 => ?_)
  ·
    refine J.g fun K9 hK9 => J.b rfl <| J.c hK9 <| J.u 6 ?_
    exact J.D <| J.b6 <| J.a3 <| J.V hw0 rfl m21 (congrArg I (by unfold Dk.wErr; rw [if_neg (by omega), if_neg (by omega), if_pos h19])) (by rw [show d.write i s = d.burn from by unfold Dk.write; rw [if_neg (by omega), if_neg (by omega), if_pos h19]]; exact h21) [0, 1] rfl (by decide)
  refine J.c7 <| J.a9 <| J.A (J.L hK3 ?_)
  refine J.H 0 1 2 ?_
  refine J.k fun K10 hK10 => ?_
  have h0 : d.ready i = 0 := by omega
  obtain ⟨hi0, hil, _⟩ := qJd h0
  obtain ⟨iN, hiN⟩ := Int.eq_ofNat_of_zero_le hi0
  have hnb : ¬ d.burns := h19
  obtain ⟨x, hx⟩ : ∃ x, x = d.burn := ⟨_, rfl⟩
  rw [← hx] at h21
  have hxo : x.ok := hx ▸ hok.burn
  have hxw : x.wait = d.wait := hx ▸ (qBx hnb).2.1
  have hxl : x.last = d.last := hx ▸ (qBx hnb).1
  obtain ⟨gL, c, mL, B, e, mW, rfl, hd, hL, hW⟩ := h21.open hxo.n0
  unfold Dk.cells at hd ⊢
  refine J.g7 hd ?_
  change J _ _ _ [blk g [.slice (some ⟨gL, 0, none⟩) x.last.length c, .slice B x.wait.length e, .bool x.off, .bool x.armed, I x.fuse, .slice C x.keep.length f] 135, mL, mW, F] _
  refine J.c1 [blk g [.slice (some ⟨gL, 0, none⟩) x.last.length c, .slice B x.wait.length e, .bool x.off, .bool x.armed, I x.fuse, .slice C x.keep.length f] 135] [17] (.y 0 (.y 1 (.y 2 (.y 3 (.y 4 (.y 5 (.y 6 (.y 7 (.y 8 (.y 9 (.e 10 (.y 11 (.y 12 (.e 13 (.e 14 (.y 15 (.y 16 (.e 17 .nil)))))))))))))))))) Tryz.wide (by decide +kernel) (by simp) ?_
  refine J.O ?_
  refine J.O ?_
  refine J.q rfl (qAD rfl rfl) rfl rfl <| J.q rfl (qAA (j := 1) rfl rfl qB7 rfl qFo rfl) rfl rfl <| J.q rfl (qAC 0 rfl rfl rfl isAgg133 rfl) rfl rfl <| J.q rfl ((qAl rfl rfl).as (v' := I (iN : Int)) (congrArg I hiN)) rfl rfl <| J.O ?_
  refine J.O ?_
  refine J.q rfl (qAk u9_ rfl rfl) rfl rfl <| J.q rfl ((qAp rfl rfl rfl (by omega)).nat (64 - s.length) (by omega)) rfl rfl <| J.b2 rfl (qAB rfl rfl ent51 (Ct.use0 (fun F' hF => qEM F' (64 - s.length) (by omega)))) rfl (by simp) fun g32 _ => J.q rfl ((qBK rfl rfl rfl (by simp only [List.length_replicate]; omega)).as (v' := Str (qHL s)) rfl) rfl rfl <| J.q rfl (qAM (l := [(0, .tmp 27), (1, .tmp 33)]) (vs := [I (iN : Int), Str (qHL s)]) (places := [(0, 1), (1, 1)]) (r := [I (iN : Int), Str (qHL s)]) rfl rfl rfl qKU zeroValue162 (fun _ => by kernel_rfl) rfl) rfl rfl <| J.b2 rfl (qAJ (l := [.tmp 34]) (xs := [[I (iN : Int), Str (qHL s)]]) rfl rfl rfl rfl qGe el162 rfl (by decide) (by decide) (by simp)) rfl (by simp) fun g35 _ => ?_
  change J _ _ _ [_, _, _, _, blk g35 [I (iN : Int), Str (qHL s)] 162] _
  refine J.b2 rfl (qAd (i := 2) (m2 := blk g35 [I (iN : Int), Str (qHL s)] 162) (ys := qB2 [(iN, qHL s)]) rfl rfl rfl qGe qGe el162 rfl hW (by simp) ((qAv (q := True) (xs := qB2 [(iN, qHL s)]) rfl (by simp [qB2])).sl) (qLQ _) (by rw [hxw]; omega) (by rw [hxw]; omega)) rfl (by simp) ?_
  rintro ⟨A36, c36, m36⟩ h36
  try dsimp only at h36
  change J _ ((36, .slice A36 (x.wait.length + 1) c36) :: _) _ [_, _, m36, _, _] _
  refine J.q rfl (qAD rfl rfl) rfl rfl <| J.q rfl (qAA (j := 1) rfl rfl qB7 rfl qFo rfl) rfl rfl <| J.d7 rfl (qAT (i := 0) (vs := [.slice A36 (x.wait.length + 1) c36]) rfl rfl rfl rfl rfl qFo rfl (by simp)) rfl rfl rfl fun _ _ => ?_
  change J _ _ _ [blk g [.slice (some ⟨gL, 0, none⟩) x.last.length c, .slice A36 (x.wait.length + 1) c36, .bool x.off, .bool x.armed, I x.fuse, .slice C x.keep.length f] 135, _, _, _, _] _
  refine J.b5 <| J.A (J.L hK10 ?_)
  refine J.c8 [] trivial <| J.g fun K11 hK11 => J.b rfl <| J.c hK11 <| J.u 6 ?_
  exact J.D <| J.b4 hw0 (fun _ _ h => h) (qIc rfl rfl) (qEL [blk g [.slice (some ⟨gL, 0, none⟩) x.last.length c, .slice A36 (x.wait.length + 1) c36, .bool x.off, .bool x.armed, I x.fuse, .slice C x.keep.length f] 135, mL, m36] [F] (U [blk g [.slice (some ⟨gL, 0, none⟩) x.last.length c, .slice A36 (x.wait.length + 1) c36, .bool x.off, .bool x.armed, I x.fuse, .slice C x.keep.length f] 135, mL, m36]) (congrArg I (by unfold Dk.wErr; rw [if_neg (by omega), if_neg (by omega), if_neg hnb])) (fun hd => by rw [show d.write i s = { x with wait := x.wait ++ [(iN, qHL s)] } from by unfold Dk.write; rw [if_neg (by omega), if_neg (by omega), if_neg hnb, ← hx, hiN]; rfl]; refine ⟨_, c, mL, A36, c36, m36, ?_, ?_, hL, ?_⟩ <;> (try unfold Dk.cells) <;> rw [List.length_append] <;> first | rfl | exact hd | (rw [qLR]; exact h36)) [0, 1, 2, 3] rfl rfl (by decide))
theorem qNl {g : Nat} (x : Dk) (gL c : Nat) (C : Option Addr) (f : Nat) (m : Hp) (hm : Row m 9 1 (some ⟨gL, 0, none⟩) x.last.length c (qAI (qCa x.last x.wait x.wait.length))) (hj : Djs [blk g [.slice (some ⟨gL, 0, none⟩) x.last.length c, .slice none 0 0, .bool x.off, .bool x.armed, I x.fuse, .slice C x.keep.length f] 135, m]) :
    Dsk (U [blk g [.slice (some ⟨gL, 0, none⟩) x.last.length c, .slice none 0 0, .bool x.off, .bool x.armed, I x.fuse, .slice C x.keep.length f] 135, m]) g { x with last := qCa x.last x.wait x.wait.length, wait := [] } C f := by
  refine ⟨some ⟨gL, 0, none⟩, c, m, none, 0, fun _ => none, ?_, ?_, ?_, qBa.nil⟩
  · show U [blk g [.slice (some ⟨gL, 0, none⟩) x.last.length c, .slice none 0 0, .bool x.off, .bool x.armed, I x.fuse, .slice C x.keep.length f] 135, m] = U [blk g [.slice (some ⟨gL, 0, none⟩) (qCa x.last x.wait x.wait.length).length c, .slice none 0 0, .bool x.off, .bool x.armed, I x.fuse, .slice C x.keep.length f] 135, m, fun _ => none]
    rw [qA9]; rfl
  · show Djs [blk g [.slice (some ⟨gL, 0, none⟩) (qCa x.last x.wait x.wait.length).length c, .slice none 0 0, .bool x.off, .bool x.armed, I x.fuse, .slice C x.keep.length f] 135, m, fun _ => none]
    rw [qA9]; exact qIa hj
  · show Row m 9 1 (some ⟨gL, 0, none⟩) (qCa x.last x.wait x.wait.length).length c _
    rw [qA9]; exact hm
theorem qP4 (F mm : Hp) (g : Nat) (d : Dk) (C : Option Addr) (f : Nat) (hb : Dsk mm g d C f) (hok : d.ok) (hn2 : d.wait.length ≤ 1073741824) (hKp : Sl F 1 C d.keep.length f (qAX d.keep)) (hn3 : d.keep.length ≤ 9223372036854775807) :
    Ct prog 200 [Ptr g] [mm, F] (fun _ : Hp => I d.sErr) (fun m => Dsk m g d.sync C f) (fun m => [m, F]) := by
  obtain ⟨A0, c0, B0, e0, hc, hsL, hsW⟩ := hb.see
  have hn1 := hok.n1
  refine Ct.walk func200 rfl ntmps200 rfl (fun w0 hw0 => ?_)
  change J _ [(0, _)] _ _ _
  refine J.g fun K1 hK1 => J.b rfl <| J.c hK1 <| J.u 0 ?_
  refine J.k fun K2 hK2 => J.g fun K3 hK3 => J.b rfl <| J.p (qAB rfl rfl ent190 (Ct.use0 (fun F' hF => qGl F' g d A0 c0 B0 e0 C f (hc.mono (hF mm (by simp))) 0 (by omega)))) rfl fun g7 _ => J.b rfl <| J.c hK3 <| J.E 0 3 ?_
  refine J.g fun K4 hK4 => J.b rfl <| J.f (qAY rfl rfl rfl) rfl <| J.c hK4 <| J.H 0 3 9 ?_
  refine J.a5 rfl (fun h9 => ?_) (fun h9 => ?_)
  ·
    refine J.g fun K5 hK5 => J.j 2 rfl <| J.c hK5 <| J.u 2 ?_
    exact J.D <| J.a3 <| J.V hw0 rfl mm (congrArg I (by unfold Dk.sErr; rw [if_pos (by omega)])) (by rw [show d.sync = d from if_pos (by omega)]; exact hb) [0, 1] rfl (by decide)
  refine J.W hK2 <| J.u 0 ?_
  refine J.k fun K6 hK6 => J.g fun K7 hK7 => J.b rfl <| J.p (qAB rfl rfl ent225 (Ct.use1 0 (m' := fun x : Hp => x) (new := fun _ => []) rfl (fun F' hF => qND F' mm g d C f hb hok hn2 (hKp.mono (hF F (by simp))) hn3))) rfl ?_
  rintro m12 h12
  change J _ _ _ [m12, F] _
  refine J.c hK7 <| J.E 0 12 ?_
  refine J.a5 rfl (fun h12c => ?_) (fun h12c => ?_)
  ·
    refine J.g fun K8 hK8 => J.b rfl <| J.c hK8 <| J.u 2 ?_
    exact J.D <| J.a3 <| J.V hw0 rfl m12 (congrArg I (by unfold Dk.sErr; rw [if_neg (by omega), if_pos h12c])) (by rw [show d.sync = d.burn from by unfold Dk.sync; rw [if_neg (by omega), if_pos h12c]]; exact h12) [0, 1] rfl (by decide)
  refine J.W hK6 <| J.u 0 ?_
  refine J.k fun K9 hK9 => J.k fun K10 hK10 => ?_
  have h0 : d.ready 0 = 0 := by omega
  have hnb : ¬ d.burns := h12c
  obtain ⟨x, hx⟩ : ∃ x, x = d.burn := ⟨_, rfl⟩
  rw [← hx] at h12
  have hxo : x.ok := hx ▸ hok.burn
  have hxw : x.wait = d.wait := hx ▸ (qBx hnb).2.1
  have hxl : x.last = d.last := hx ▸ (qBx hnb).1
  obtain ⟨gL, c, mL, B, e, mW, rfl, hd, hL, hW⟩ := h12.open hxo.n0
  unfold Dk.cells at hd ⊢
  refine J.g7 hd ?_
  change J _ _ _ [blk g [.slice (some ⟨gL, 0, none⟩) x.last.length c, .slice B x.wait.length e, .bool x.off, .bool x.armed, I x.fuse, .slice C x.keep.length f] 135, mL, mW, F] _
  have hxn : x.wait.length ≤ 1073741824 := by rw [hxw]; exact hn2
  refine J.G <| J.b rfl <| J.f (qAD rfl rfl) rfl <| J.a2 1 qB7 qFo rfl rfl rfl rfl rfl <| J.d1 0 isAgg133 rfl rfl rfl rfl rfl <| J.f (qAa qGe rfl rfl) rfl <| J.b rfl <| J.c hK10 <| J.M 0 16 17 18 ?_
  refine J.a1 <| J.c0 (X := Nat × Hp) (fun y => [(0, Ptr g), (16, .slice B x.wait.length e), (17, I x.wait.length), (18, I y.1)]) (fun y => [blk g [.slice (some ⟨gL, 0, none⟩) x.last.length c, .slice B x.wait.length e, .bool x.off, .bool x.armed, I x.fuse, .slice C x.keep.length f] 135, y.2, mW, F]) (fun y => y.1 ≤ x.wait.length ∧ Row y.2 9 1 (some ⟨gL, 0, none⟩) x.last.length c (qAI (qCa x.last x.wait y.1))) (fun y => x.wait.length - y.1) (0, mL) (⟨Nat.zero_le _, hL⟩) ⟨rfl, rfl, rfl, rfl, trivial⟩ (fun _ h => h) ?_
  rintro ⟨k, m⟩ ⟨hk, hr⟩ I0 hI0
  dsimp only at hk hr ⊢
  refine J.g fun K11 hK11 => J.f (qAW rfl rfl rfl) rfl <| J.c hK11 <| J.a0 0 16 17 18 19 ?_
  refine J.k fun K12 hK12 => J.a5 rfl (fun h19 => ?_) (fun h19 => ?_)
  ·
    refine J.W hK12 <| J.M 0 16 17 18 ?_
    refine J.k fun K13 hK13 => J.a1 <| J.g fun K14 hK14 => J.f (qAH (i := k) rfl rfl rfl qGe qE6 hW.sl (by omega)) rfl <| J.f (qAo rfl rfl isAgg162 qE6 (m := mW) (by simp) (vs := [I (x.wait.getD k (0, [])).1, Str (x.wait.getD k (0, [])).2]) (hW.sl.elem (qE8 (by omega))) rfl) rfl <| J.p (qAO rfl zeroValue162 rfl) rfl fun g5 _ => ?_
    change J _ _ _ [blk g [.slice (some ⟨gL, 0, none⟩) x.last.length c, .slice B x.wait.length e, .bool x.off, .bool x.armed, I x.fuse, .slice C x.keep.length f] 135, m, mW, F, blk g5 _ 162] _
    refine J.b1 (qAG (l := [I 0, Str []]) (i := 4) (vs := [I (x.wait.getD k (0, [])).1, Str (x.wait.getD k (0, [])).2]) rfl rfl rfl rfl rfl qE6 rfl rfl) rfl rfl fun _ _ => ?_
    change J _ _ _ [_, _, _, _, blk g5 [I (x.wait.getD k (0, [])).1, Str (x.wait.getD k (0, [])).2] 162] _
    refine J.c hK14 <| J.a0 0 5 16 17 18 ?_
    have ⟨hw1, hw2⟩ := qMx hxo.w64 (show k < x.wait.length by omega)
    have h64 := qI5 (qGg hxo.l64 hxo.w64 k hk) (show (x.wait.getD k (0, [])).1 < (qCa x.last x.wait k).length by rw [qA9]; exact hw1)
    refine J.G <| J.b rfl <| J.c4 4 isAgg162 qE6 rfl rfl rfl rfl rfl <| J.p (qAB rfl rfl ent67 (Ct.use1 1 (m' := fun x : Hp => x) (new := fun _ => []) rfl (fun F' hF => by have := qMm F' m g gL c 64 x B e C f (qCa x.last x.wait k) (by rw [qA9]; exact qAQ.blk0.mono (hF (blk g [.slice (some ⟨gL, 0, none⟩) x.last.length c, .slice B x.wait.length e, .bool x.off, .bool x.armed, I x.fuse, .slice C x.keep.length f] 135) (by simp))) (by rw [qA9]; exact hr) (x.wait.getD k (0, [])).1 (x.wait.getD k (0, [])).2 (by rw [qA9]; exact hw1) (by omega) (by omega) (by omega) (by omega) (by rw [qA9]; have := hxo.n1; omega); rw [qA9] at this; exact this))) rfl ?_
    rintro m24 h24
    change J _ _ _ [_, m24, _, _, _] _
    refine J.c9 [0, 1, 2, 3] [blk g [.slice (some ⟨gL, 0, none⟩) x.last.length c, .slice B x.wait.length e, .bool x.off, .bool x.armed, I x.fuse, .slice C x.keep.length f] 135, m24, mW, F] rfl (by decide) <| J.a7 <| J.a9 <| J.A (J.L hK13 ?_)
    refine J.M 0 16 17 18 ?_
    exact J.G <| J.f ((qAR rfl rfl rfl (by omega)).nat (k + 1) (by omega)) rfl <| J.b rfl <| J.a7 <| J.A <| J.b0 (k + 1, m24) (fun y (hy : _ ∧ x.wait.length - y.1 < x.wait.length - k) => hI0 y hy.1 hy.2) ⟨⟨by dsimp only; omega, h24⟩, by dsimp only; omega⟩ ⟨rfl, rfl, rfl, rfl, trivial⟩ (fun _ h => h)
  refine J.b7 <| J.a6 <| J.a6 <| J.b8 ?_
  refine J.A (J.L hK9 ?_)
  refine J.u 0 ?_
  refine J.k fun K15 hK15 => ?_
  have hkn : k = x.wait.length := by omega
  subst hkn
  refine J.G <| J.b rfl <| J.f (qAD rfl rfl) rfl <| J.a2 1 qB7 qFo rfl rfl rfl rfl rfl <| J.b1 (qAT (i := 0) (vs := [.slice none 0 0]) rfl rfl rfl rfl rfl qFo rfl (by simp)) rfl rfl fun _ _ => ?_
  change J _ _ _ [blk g [.slice (some ⟨gL, 0, none⟩) x.last.length c, .slice none 0 0, .bool x.off, .bool x.armed, I x.fuse, .slice C x.keep.length f] 135, m, mW, F] _
  refine J.c hK15 <| J.c8 [] trivial <| J.g fun K16 hK16 => J.b rfl <| J.c hK16 <| J.u 2 ?_
  exact J.D <| J.b4 hw0 (fun _ _ h => h) (qIc rfl rfl) (qEL [blk g [.slice (some ⟨gL, 0, none⟩) x.last.length c, .slice none 0 0, .bool x.off, .bool x.armed, I x.fuse, .slice C x.keep.length f] 135, m] [F] (U [blk g [.slice (some ⟨gL, 0, none⟩) x.last.length c, .slice none 0 0, .bool x.off, .bool x.armed, I x.fuse, .slice C x.keep.length f] 135, m]) (congrArg I (by unfold Dk.sErr; rw [if_neg (by omega), if_neg hnb])) (fun hj => by rw [show d.sync = { x with last := qCa x.last x.wait x.wait.length, wait := [] } from by unfold Dk.sync; rw [if_neg (by omega), if_neg hnb, ← hx]]; exact qNl x gL c C f m hr hj) [0, 1, 3] rfl rfl (by decide))
theorem qKX (n : Nat) : List.replicate n [Str []] = qAI (List.replicate n []) := by simp [qAI]
theorem qQP {n k : Nat} (a b : List UInt8) (h : k < n) : (List.replicate k a ++ List.replicate (n - k) b).set k a = List.replicate (k + 1) a ++ List.replicate (n - (k + 1)) b := by
 rw [List.set_append_right _ _ (by rw [List.length_replicate]; exact Nat.le_refl _), List.length_replicate, Nat.sub_self, show n - k = (n - (k + 1)) + 1 by omega, List.replicate_succ, List.set_cons_zero, List.replicate_succ', List.append_assoc]; rfl
theorem qQQ {n k : Nat} (a b : List UInt8) (h : k ≤ n) : (List.replicate k a ++ List.replicate (n - k) b).length = n := by rw [List.length_append, List.length_replicate, List.length_replicate]; omega
theorem qQn (k g g13 : Nat) (m : Hp) (hr : Row m 9 1 (some ⟨g13, 0, none⟩) k k (qAI (List.replicate k (List.replicate 64 (0 : UInt8))))) (hj : Djs [blk g [.slice (some ⟨g13, 0, none⟩) k k, .slice none 0 0, .bool false, .bool false, I 0, .slice none 0 0] 135, m, fun _ => none]) : Dsk (U [blk g [.slice (some ⟨g13, 0, none⟩) k k, .slice none 0 0, .bool false, .bool false, I 0, .slice none 0 0] 135, m, fun _ => none]) g (Dk.new k) none 0 := by
 have hl : (Dk.new k).last.length = k := List.length_replicate
 refine ⟨some ⟨g13, 0, none⟩, k, m, none, 0, fun _ => none, ?_, ?_, ?_, qBa.nil⟩
 · unfold Dk.cells; rw [hl]; rfl
 · unfold Dk.cells; rw [hl]; exact hj
 · rw [hl]; exact hr
theorem qR4 (F : Hp) (i : Int) : Ct prog 16 [I i] [F] (fun x : Option (Nat × Hp) => match x with | none => .tuple #[.pointer none, I 1] | some y => .tuple #[Ptr y.1, I 0]) (fun x => match x with | none => i < 4 ∨ 1024 < i | some y => (4 ≤ i ∧ i ≤ 1024) ∧ Dsk y.2 y.1 (Dk.new i.toNat) none 0) (fun x => match x with | none => [F] | some y => [y.2, F]) := by
 refine Ct.walk func16 rfl ntmps16 rfl (fun w0 hw0 => ?_)
 change J _ [(0, _)] _ _ _
 refine J.g fun K1 hK1 => J.j 2 rfl <| J.c hK1 <| J.u 0 ?_
 refine J.k fun K2 hK2 => J.g fun K3 hK3 => J.b rfl <| J.f (qAW rfl rfl rfl) rfl <| J.b rfl <| J.c5 (d := 8) rfl (fun h8 => ?_) (fun h8 => ?_)
 ·
  refine J.j 3 rfl <| J.c hK3 <| J.E 0 11 ?_
  refine J.c6 ?_
  refine J.g fun K4 hK4 => J.j 2 rfl <| J.c hK4 <| J.E 2 3 ?_
  exact J.D <| J.a3 <| J.b4 hw0 (fun _ _ h => h) (qCq rfl rfl rfl) (qAj none rfl (by show i < 4 ∨ 1024 < i; omega) [0] rfl (by decide))
 refine J.b rfl <| J.T (qAx rfl rfl rfl) rfl <| J.b rfl <| J.c hK3 <| J.E 0 11 ?_
 refine J.a5 rfl (fun h11 => ?_) (fun h11 => ?_)
 ·
  refine J.g fun K5 hK5 => J.j 2 rfl <| J.c hK5 <| J.E 2 3 ?_
  exact J.D <| J.a3 <| J.b4 hw0 (fun _ _ h => h) (qCq rfl rfl rfl) (qAj none rfl (by show i < 4 ∨ 1024 < i; omega) [0] rfl (by decide))
 refine J.W hK2 <| J.u 0 ?_
 refine J.k fun K6 hK6 => ?_
 obtain ⟨n, hn⟩ := Int.eq_ofNat_of_zero_le (show 0 ≤ i by omega)
 refine J.G <| J.b rfl <| J.p (qC6 (n' := n) rfl (by show some (I i) = _; rw [hn]) qAh el9 (by omega) (by omega)) rfl fun g13 _ => ?_
 change J _ _ _ [F, blk g13 (List.replicate n [Str []]).flatten 9] _
 refine J.f (qAM (l := [(0, .tmp 13)]) (vs := [.slice (some ⟨g13, 0, none⟩) n n]) (places := [(0, 1), (1, 1), (2, 1), (3, 1), (4, 1), (5, 1)]) (r := [.slice (some ⟨g13, 0, none⟩) n n, .slice none 0 0, .bool false, .bool false, I 0, .slice none 0 0]) rfl rfl rfl qB7 zeroValue135 (fun _ => by kernel_rfl) rfl) rfl <| J.p (qAf rfl rfl (l := [.slice (some ⟨g13, 0, none⟩) n n, .slice none 0 0, .bool false, .bool false, I 0, .slice none 0 0]) rfl) rfl ?_
 rintro g15 _
 change J _ _ _ [_, _, blk g15 [.slice (some ⟨g13, 0, none⟩) n n, .slice none 0 0, .bool false, .bool false, I 0, .slice none 0 0] 135] _
 refine J.b rfl <| J.c hK6 <| J.u 4 ?_
 refine J.k fun K7 hK7 => J.g fun K8 hK8 => J.b rfl <| J.f (qAD rfl rfl) rfl <| J.a2 0 qB7 qB0 rfl rfl rfl rfl rfl <| J.d1 2 qCQ rfl rfl rfl rfl rfl <| J.f (qAa qAh rfl rfl) rfl <| J.b rfl <| J.c hK8 <| J.H 4 20 21 ?_
 refine J.a1 <| J.c0 (X := Nat × Hp) (fun x => [(4, Ptr g15), (20, I n), (21, I x.1)]) (fun x => [F, x.2, blk g15 [.slice (some ⟨g13, 0, none⟩) n n, .slice none 0 0, .bool false, .bool false, I 0, .slice none 0 0] 135]) (fun x => x.1 ≤ n ∧ Row x.2 9 1 (some ⟨g13, 0, none⟩) n n (qAI (List.replicate x.1 (List.replicate 64 (0 : UInt8)) ++ List.replicate (n - x.1) []))) (fun x => n - x.1) (0, blk g13 (List.replicate n [Str []]).flatten 9) (⟨Nat.zero_le _, by dsimp only; rw [List.replicate_zero, List.nil_append, Nat.sub_zero, ← qKX]; exact qNv⟩) ⟨rfl, rfl, rfl, trivial⟩ (fun _ h => h) ?_
 rintro ⟨k, m⟩ ⟨hk, hr⟩ I0 hI0
 dsimp only at hk hr ⊢
 refine J.g fun K9 hK9 => J.f (qAW rfl rfl rfl) rfl <| J.c hK9 <| J.M 4 20 21 22 ?_
 refine J.k fun K10 hK10 => J.a5 rfl (fun h22 => ?_) (fun h22 => ?_)
 ·
  refine J.W hK10 <| J.H 4 20 21 ?_
  refine J.k fun K11 hK11 => J.a1 <| J.g fun K12 hK12 => J.j 2 rfl <| J.c hK12 <| J.M 4 5 20 21 ?_
  refine J.c1 [blk g15 [.slice (some ⟨g13, 0, none⟩) n n, .slice none 0 0, .bool false, .bool false, I 0, .slice none 0 0] 135] [7] (.y 0 (.y 1 (.y 2 (.y 3 (.y 4 (.e 5 (.y 6 (.e 7 .nil)))))))) Tryz.wide (by decide +kernel) (by simp) ?_
  refine J.O ?_
  refine J.q rfl (qAD rfl rfl) rfl rfl <| J.q rfl (qAA (j := 0) rfl rfl qB7 rfl qB0 rfl) rfl rfl <| J.q rfl (qAC 0 rfl rfl rfl qCQ rfl) rfl rfl <| J.O ?_
  refine J.b2 rfl (qAB rfl rfl ent51 (Ct.use0 (fun F' hF => qEM F' 64 (by decide)))) rfl (by simp) fun g29 _ => J.q rfl (qAH (i := k) rfl rfl rfl qAh z9_ hr.sl (by omega)) rfl rfl <| J.d7 rfl (qBX (i := 1) (k := k) (off := 0) (b := [Str (List.replicate 64 (0 : UInt8))]) rfl (by show some _ = some _; rw [qM6]) rfl rfl hr (vs := [Str (List.replicate 64 (0 : UInt8))]) rfl z9_ rfl (by omega) (qAZ (qAg [] (by rw [qQQ _ _ hk]; omega))) rfl (by show _ + 1 ≤ 1; decide)) rfl rfl rfl ?_
  rintro m9 h9
  change J _ _ _ [F, m9, blk g15 [.slice (some ⟨g13, 0, none⟩) n n, .slice none 0 0, .bool false, .bool false, I 0, .slice none 0 0] 135] _
  refine J.b5 <| J.a9 <| J.A (J.L hK11 ?_)
  refine J.H 4 20 21 ?_
  exact J.G <| J.f ((qAR rfl rfl rfl (by omega)).nat (k + 1) (by omega)) rfl <| J.b rfl <| J.a7 <| J.A <| J.b0 (k + 1, m9) (fun y (hy : _ ∧ n - y.1 < n - k) => hI0 y hy.1 hy.2) ⟨⟨by dsimp only; omega, by dsimp only; rw [qC1, qQP _ _ (by omega)] at h9; exact h9⟩, by dsimp only; omega⟩ ⟨rfl, rfl, rfl, trivial⟩ (fun _ h => h)
 refine J.b7 <| J.a6 <| J.a6 <| J.b8 ?_
 refine J.A (J.L hK7 ?_)
 refine J.u 4 ?_
 refine J.k fun K13 hK13 => ?_
 have hkn : k = n := by omega
 subst hkn
 rw [Nat.sub_self, List.replicate_zero, List.append_nil] at hr
 refine J.G <| J.j 3 rfl <| J.c hK13 <| J.E 2 3 ?_
 exact J.D <| J.d9 [0, 1, 2, 3] [F, m, blk g15 [.slice (some ⟨g13, 0, none⟩) k k, .slice none 0 0, .bool false, .bool false, I 0, .slice none 0 0] 135, fun _ => none] rfl (by decide) <| J.b4 hw0 (fun _ _ h => h) (qCq rfl rfl rfl) (qEL [blk g15 [.slice (some ⟨g13, 0, none⟩) k k, .slice none 0 0, .bool false, .bool false, I 0, .slice none 0 0] 135, m, fun _ => none] [F] (some (g15, U [blk g15 [.slice (some ⟨g13, 0, none⟩) k k, .slice none 0 0, .bool false, .bool false, I 0, .slice none 0 0] 135, m, fun _ => none])) rfl (fun hj => ⟨by omega, by rw [show i.toNat = k by omega]; exact qQn k g15 g13 m hr hj⟩) [2, 1, 3, 0] rfl rfl (by decide))
theorem qHw (F : Hp) (n : Nat) (h4 : 4 ≤ n) (hm : n ≤ 1024) : Ct prog 16 [I n] [F] (fun x : Nat × Hp => .tuple #[Ptr x.1, I 0]) (fun x => Dsk x.2 x.1 (Dk.new n) none 0) (fun x => F :: [x.2]) := fun w0 w hs =>
 (qR4 F n w0 w hs).mono fun e w' ⟨x, he, hx, hs'⟩ => by
  cases x with
  | none => exact absurd hx (by show ¬ ((n : Int) < 4 ∨ 1024 < (n : Int)); omega)
  | some y => exact ⟨y, he, by have := hx.2; rwa [Int.toNat_natCast] at this, hs'.pick [1, 0] (by decide)⟩
theorem qGb {d : Dk} {i : Int} {s : List UInt8} (h : d.ready i = 0) (h1 : s.length ≤ 64) (h2 : ¬ d.burns) : d.write i s = { d.burn with wait := d.burn.wait ++ [(i.toNat, qHL s)] } ∧ d.wErr i s = 0 := by
 unfold Dk.write Dk.wErr
 rw [if_neg (by omega), if_neg (by omega), if_neg h2, if_neg (by omega), if_neg (by omega), if_neg h2]
 exact ⟨rfl, rfl⟩
theorem qQS {d : Dk} {i : Int} (h : d.ready i = 0) : d.read i = d.now i.toNat := if_pos h
theorem ent112 : qAE prog 112 := qAE.of func112 rfl (by kernel_rfl)
theorem ent113 : qAE prog 113 := qAE.of func113 rfl (by kernel_rfl)
theorem ent115 : qAE prog 115 := qAE.of func115 rfl (by kernel_rfl)
theorem ent116 : qAE prog 116 := qAE.of func116 rfl (by kernel_rfl)
theorem ent117 : qAE prog 117 := qAE.of func117 rfl (by kernel_rfl)
theorem ent159 : qAE prog 159 := qAE.of func159 rfl (by kernel_rfl)
theorem ent160 : qAE prog 160 := qAE.of func160 rfl (by kernel_rfl)
theorem ent164 : qAE prog 164 := qAE.of func164 rfl (by kernel_rfl)
theorem ent166 : qAE prog 166 := qAE.of func166 rfl (by kernel_rfl)
theorem ent192 : qAE prog 192 := qAE.of func192 rfl (by kernel_rfl)
theorem ent193 : qAE prog 193 := qAE.of func193 rfl (by kernel_rfl)
theorem ent199 : qAE prog 199 := qAE.of func199 rfl (by kernel_rfl)
theorem ent222 : qAE prog 222 := qAE.of func222 rfl (by kernel_rfl)
theorem ent223 : qAE prog 223 := qAE.of func223 rfl (by kernel_rfl)
theorem el303 : qCu prog 303 [.int .u64 0, .int .u64 0, .int .i64 0, .int .i64 0, Str [], Str []] 64 := qCu.of (by kernel_rfl) rfl
theorem qNc (g : Nat) : Wtr (blk g [.pointer none, .slice none 0 0, I 0] 188) g [] 0 :=
 ⟨[.pointer none, .slice none 0 0, I 0], fun _ => none, none, 0, none, by funext k; simp only [U]; cases blk g [.pointer none, .slice none 0 0, I 0] 188 k <;> rfl, fun _ => .inr rfl, rfl, ⟨rfl, .inl rfl, rfl, qBa.nil, .inl rfl⟩, rfl⟩
theorem qLU {n : UInt64} {size : Nat} (h : n.toNat < 2 ^ (8 * size)) (bs : List UInt8) : qPA n size bs 0 = bs ++ Sha.numB n size ∧ qDl (okN n size) 10 0 = 0 := by
 have e : okN n size = true := decide_eq_true h
 have f : qDl (okN n size) 10 0 = 0 := by unfold qDl; rw [e, if_neg (by simp)]
 exact ⟨by unfold qPA; rw [if_pos f], f⟩
def qHM (s : List UInt8) : List UInt8 := (Sha.tagged 8 [s]).take 8
def qCX (turn num : UInt64) (s : List UInt8) : List UInt8 := (Sha.tagged 7 [Sha.numB turn 4, Sha.numB num 2, s]).take 8
theorem qCB (F : Hp) (n : UInt64) (size : Nat) (h1 : 1 ≤ size) (h8 : size < 8) (hn : n.toNat < 2 ^ (8 * size)) :
    Ct prog 223 [W64 n, I size] [F] (fun _ : Unit => Str (Sha.numB n size)) (fun _ => True) (fun _ => [F]) := by
  refine Ct.walk func223 rfl ntmps223 rfl (fun w0 hw0 => ?_)
  change J _ [(0, _), (1, _)] _ _ _
  refine J.g fun K1 hK1 => J.b rfl <| J.c hK1 <| J.E 0 1 ?_
  refine J.g fun K2 hK2 => J.p (qAO rfl zeroValue188 rfl) rfl fun g5 _ => ?_
  change J _ _ _ [F, blk g5 _ 188] _
  refine J.c hK2 <| J.H 0 1 5 ?_
  refine J.g fun K3 hK3 => J.j 2 rfl <| J.p (qAB rfl rfl ent83 (Ct.use1 1 (m' := fun x : Hp => x) (new := fun _ => []) rfl (fun F' _ => qEa F' (blk g5 [.pointer none, .slice none 0 0, I 0] 188) g5 [] 0 (qNc g5) (by decide) n size h1 h8))) rfl ?_
  rintro m11 hw11
  change J _ _ _ [_, m11] _
  rw [(qLU hn []).1, (qLU hn []).2, List.nil_append] at hw11
  refine J.p (qAB rfl rfl ent86 (Ct.use1 1 (m' := fun x : Hp => x) (new := fun _ => []) rfl (fun F' _ => qE4 F' m11 g5 (Sha.numB n size) 0 hw11 (by rw [Sha.numB_length]; omega)))) rfl ?_
  rintro m12 _
  change J _ _ _ [_, m12] _
  refine J.j 5 rfl <| J.c hK3 <| J.u 6 ?_
  refine J.g fun K4 hK4 => J.j 2 rfl <| J.c hK4 <| J.u 4 ?_
  exact J.D <| J.V hw0 rfl () rfl trivial [0] rfl (by decide)
theorem qNE (F : Hp) (hK : KF F) (s : List UInt8) (hs : s.length ≤ 1048576) : Ct prog 222 [Str s] [F] (fun _ : Unit => Str (qHM s)) (fun _ => True) (fun _ => [F]) := by
 refine Ct.walk func222 rfl ntmps222 rfl (fun w0 hw0 => ?_)
 change J _ [(0, _)] _ _ _
 refine J.g fun K1 hK1 => J.b rfl <| J.c hK1 <| J.u 0 ?_
 refine J.g fun K2 hK2 => J.b rfl <| J.p (qAJ (l := [.tmp 3]) (xs := [[Str (s)]]) rfl rfl rfl rfl qAh el9 rfl (by decide) (by decide) (by simp)) rfl fun g4 _ => ?_
 change J _ _ _ [F, blk g4 [Str (s)] 9] _
 refine J.p (qAB rfl rfl ent44 (Ct.use0 (fun F' hF => qA3 F' (hK.mono (hF _ (by simp))) 8 (some ⟨g4, 0, none⟩) 1 1 [s] ((slS [s] rfl).mono (hF (blk g4 (([s] : List (List UInt8)).map fun s => Str s) 9) (by simp))) (by simp; omega) (by decide)))) rfl fun g5 _ => J.f ((qAz (l := 0) (h := 8) u9_ rfl rfl rfl rfl (by rw [Sha.tagged_length]; decide)).as (v' := Str (qHM s)) (congrArg Str List.drop_zero)) rfl <| J.b rfl <| J.c hK2 <| J.u 2 ?_
 exact J.D <| J.V hw0 rfl () rfl trivial [0] rfl (by decide)
theorem qKD (F : Hp) (hK : KF F) (turn num : UInt64) (s : List UInt8) (ht : turn.toNat < 2 ^ (8 * 4)) (hn : num.toNat < 2 ^ (8 * 2)) (hs : s.length ≤ 1048576) : Ct prog 193 [W64 turn, W64 num, Str s] [F] (fun _ : Unit => Str (qCX turn num s)) (fun _ => True) (fun _ => [F]) := by
 refine Ct.walk func193 rfl ntmps193 rfl (fun w0 hw0 => ?_)
 change J _ [(0, _), (1, _), (2, _)] _ _ _
 refine J.g fun K1 hK1 => J.b rfl <| J.c hK1 <| J.H 0 1 2 ?_
 refine J.g fun K2 hK2 => J.b rfl <| J.p (qAB rfl rfl ent223 (Ct.use0 (fun F' hF => qCB F' turn 4 (by decide) (by decide) ht))) rfl fun g8 _ => J.b rfl <| J.p (qAB rfl rfl ent223 (Ct.use0 (fun F' hF => qCB F' num 2 (by decide) (by decide) hn))) rfl fun g10 _ => J.b rfl <| J.p (qAJ (l := [.tmp 8, .tmp 10, .tmp 11]) (xs := [[Str (Sha.numB turn 4)], [Str (Sha.numB num 2)], [Str (s)]]) rfl rfl rfl rfl qAh el9 rfl (by decide) (by decide) (by simp)) rfl fun g12 _ => ?_
 change J _ _ _ [F, blk g12 [Str (Sha.numB turn 4), Str (Sha.numB num 2), Str (s)] 9] _
 refine J.p (qAB rfl rfl ent44 (Ct.use0 (fun F' hF => qA3 F' (hK.mono (hF _ (by simp))) 7 (some ⟨g12, 0, none⟩) 3 3 [Sha.numB turn 4, Sha.numB num 2, s] ((slS [Sha.numB turn 4, Sha.numB num 2, s] rfl).mono (hF (blk g12 (([Sha.numB turn 4, Sha.numB num 2, s] : List (List UInt8)).map fun s => Str s) 9) (by simp))) (by simp only [List.flatten_cons, List.flatten_nil, List.append_nil, List.length_append, Sha.numB_length]; omega) (by decide)))) rfl fun g13 _ => J.f ((qAz (l := 0) (h := 8) u9_ rfl rfl rfl rfl (by rw [Sha.tagged_length]; decide)).as (v' := Str (qCX turn num s)) (congrArg Str List.drop_zero)) rfl <| J.b rfl <| J.c hK2 <| J.u 6 ?_
 exact J.D <| J.V hw0 rfl () rfl trivial [0] rfl (by decide)
def qBR (n : Nat) : Nat := if n < 1 then 1 else (n - 1) / 39 + 1
theorem qFL (F : Hp) (n : Nat) (hn : n ≤ 1048576) : Ct prog 166 [I n] [F] (fun _ : Unit => I (qBR n : Nat)) (fun _ => True) (fun _ => [F]) := by
 refine Ct.walk func166 rfl ntmps166 rfl (fun w0 hw0 => ?_)
 change J _ [(0, _)] _ _ _
 refine J.g fun K1 hK1 => J.b rfl <| J.c hK1 <| J.u 0 ?_
 refine J.k fun K2 hK2 => J.g fun K3 hK3 => J.b rfl <| J.f (qAW rfl rfl rfl) rfl <| J.c hK3 <| J.E 0 4 ?_
 refine J.a5 rfl (fun h4 => ?_) (fun h4 => ?_)
 ·
  refine J.g fun K4 hK4 => J.b rfl <| J.c hK4 <| J.u 2 ?_
  exact J.D <| J.a3 <| J.V hw0 rfl () (by unfold qBR; rw [if_pos (by omega)]; rfl) trivial [0] rfl (by decide)
 refine J.W hK2 <| J.u 0 ?_
 refine J.g fun K5 hK5 => J.b rfl <| J.f ((qAp rfl rfl rfl (by omega)).nat (n - 1) (by omega)) rfl <| J.f ((qGC (a := ((n - 1 : Nat) : Int)) (b := ((39 : Nat) : Int)) rfl rfl rfl (by omega)).as (v' := I (((n - 1) / 39 : Nat) : Int)) (congrArg I (Int.ofNat_tdiv _ _).symm)) rfl <| J.f (qAR rfl rfl rfl (by omega)) rfl <| J.b rfl <| J.c hK5 <| J.u 2 ?_
 exact J.D <| J.V hw0 rfl () (by unfold qBR; rw [if_neg (by omega)]; rfl) trivial [0] rfl (by decide)
structure Prt where
 turn : UInt64
 num : UInt64
 at_ : Nat
 all : Nat
 name : List UInt8
 con : List UInt8
def Prt.cells (p : Prt) : List Value := [W64 p.turn, W64 p.num, I p.at_, I p.all, Str p.name, Str p.con]
structure Prt.ok (p : Prt) : Prop where
 t : p.turn.toNat < 2 ^ (8 * 4)
 n : p.num.toNat < 2 ^ (8 * 2)
 a : p.at_ < 256
 l : p.all < 256
 m : p.name.length ≤ 8
 c : p.con.length ≤ 39
def Prt.b1 (p : Prt) : List UInt8 := Sha.numB p.turn 4 ++ Sha.numB p.num 2
def Prt.b2 (p : Prt) : List UInt8 := p.b1 ++ Sha.numB (UInt64.ofNat p.at_) 1
def Prt.b3 (p : Prt) : List UInt8 := p.b2 ++ Sha.numB (UInt64.ofNat p.all) 1
def Prt.b4 (p : Prt) : List UInt8 := p.b3 ++ Sha.numB (UInt64.ofNat p.con.length) 1
def Prt.b5 (p : Prt) : List UInt8 := p.b4 ++ p.name
def Prt.body (p : Prt) : List UInt8 := p.b5 ++ p.con
def Prt.pad (p : Prt) : List UInt8 := p.body ++ List.replicate (56 - p.body.length) 0
def Prt.text (p : Prt) : List UInt8 := p.pad ++ qHM p.pad
theorem qHF (s : List UInt8) : (qHM s).length = 8 := by unfold qHM; rw [List.length_take, Sha.tagged_length]; rfl
theorem qCW (t n : UInt64) (s : List UInt8) : (qCX t n s).length = 8 := by unfold qCX; rw [List.length_take, Sha.tagged_length]; rfl
theorem Prt.b4_len (p : Prt) : p.b4.length = 9 := by unfold Prt.b4 Prt.b3 Prt.b2 Prt.b1; simp only [List.length_append, Sha.numB_length]
theorem Prt.body_len (p : Prt) : p.body.length = 9 + p.name.length + p.con.length := by unfold Prt.body Prt.b5; rw [List.length_append, List.length_append, p.b4_len]
theorem Prt.pad_len {p : Prt} (h : p.ok) : p.pad.length = 56 := by
 have := p.body_len
 have := h.m
 have := h.c
 unfold Prt.pad; rw [List.length_append, List.length_replicate]; omega
theorem Prt.text_len {p : Prt} (h : p.ok) : p.text.length = 64 := by unfold Prt.text; rw [List.length_append, p.pad_len h, qHF]
theorem n1ok {n : Nat} (h : n < 256) : (UInt64.ofNat n).toNat < 2 ^ (8 * 1) := by rw [qAt (by omega)]; exact h
theorem qJf (F : Hp) (hK : KF F) (p : Prt) (hp : p.ok) : Ct prog 199 [.agg p.cells.toArray] [F] (fun _ : Unit => Str p.text) (fun _ => True) (fun _ => [F]) := by
 obtain ⟨h1, h2, h3, h4, h5, h6⟩ := hp
 have hbl := p.body_len
 have hpl := Prt.pad_len ⟨h1, h2, h3, h4, h5, h6⟩
 refine Ct.walk func199 rfl ntmps199 rfl (fun w0 hw0 => ?_)
 change J _ [(0, _)] _ _ _
 refine J.g fun K1 hK1 => J.p (qAf rfl rfl (l := p.cells) rfl) rfl fun g1 _ => ?_
 change J _ _ _ [F, blk g1 p.cells 303] _
 refine J.b rfl <| J.c hK1 <| J.u 1 ?_
 refine J.k fun K2 hK2 => J.c1 [blk g1 p.cells 303] [] (.y 0 (.y 1 (.y 3 (.y 4 (.y 7 (.y 8 (.y 9 (.y 12 (.y 13 (.y 14 (.y 17 (.y 18 (.y 19 (.y 20 (.y 23 (.y 24 (.y 26 (.y 27 (.e 2 (.e 5 (.y 6 (.e 10 (.y 11 (.e 15 (.y 16 (.e 21 (.y 22 (.y 25 (.y 28 (.y 29 .nil)))))))))))))))))))))))))))))) Tryz.wide (by decide +kernel) (by simp) ?_
 refine J.q rfl (qAA (j := 0) rfl rfl qBO rfl qCm rfl) rfl rfl <| J.q rfl (qAC 0 rfl rfl rfl qDN rfl) rfl rfl <| J.q rfl (qAA (j := 1) rfl rfl qBO rfl qCm rfl) rfl rfl <| J.q rfl (qAC 0 rfl rfl rfl qDN rfl) rfl rfl <| J.q rfl (qAA (j := 2) rfl rfl qBO rfl z3_ rfl) rfl rfl <| J.q rfl (qAC 0 rfl rfl rfl b3_ rfl) rfl rfl <| J.q rfl (qAr rfl rfl u3_ qEm (m := p.at_) (by omega)) rfl rfl <| J.q rfl (qAA (j := 3) rfl rfl qBO rfl z3_ rfl) rfl rfl <| J.q rfl (qAC 0 rfl rfl rfl b3_ rfl) rfl rfl <| J.q rfl (qAr rfl rfl u3_ qEm (m := p.all) (by omega)) rfl rfl <| J.q rfl (qAA (j := 5) rfl rfl qBO rfl z9_ rfl) rfl rfl <| J.q rfl (qAC 0 rfl rfl rfl b9_ rfl) rfl rfl <| J.q rfl (qAk u9_ rfl rfl) rfl rfl <| J.q rfl (qAr rfl rfl u3_ qEm (m := p.con.length) (by omega)) rfl rfl <| J.q rfl (qAA (j := 4) rfl rfl qBO rfl z9_ rfl) rfl rfl <| J.q rfl (qAC 0 rfl rfl rfl b9_ rfl) rfl rfl <| J.q rfl (qAA (j := 5) rfl rfl qBO rfl z9_ rfl) rfl rfl <| J.q rfl (qAC 0 rfl rfl rfl b9_ rfl) rfl rfl <| J.b2 rfl (qAB rfl rfl ent223 (Ct.use0 (fun F' hF => qCB F' p.turn 4 (by decide) (by decide) h1))) rfl (by simp) fun g6 _ => J.b2 rfl (qAB rfl rfl ent223 (Ct.use0 (fun F' hF => qCB F' p.num 2 (by decide) (by decide) h2))) rfl (by simp) fun g9 _ => J.q rfl ((qBK rfl rfl rfl (by first | (have hb4 := p.b4_len; have hbl := p.body_len; simp only [List.length_append, List.length_replicate, Prt.b4, Prt.b3, Prt.b2, Prt.b1, Prt.b5, Prt.body, Sha.numB_length] at hb4 hbl ⊢; omega) | omega)).as (v' := Str (p.b1)) rfl) rfl rfl <| J.b2 rfl (qAB rfl rfl ent223 (Ct.use0 (fun F' hF => qCB F' (UInt64.ofNat p.at_) 1 (by decide) (by decide) (n1ok h3)))) rfl (by simp) fun g14 _ => J.q rfl ((qBK rfl rfl rfl (by first | (have hb4 := p.b4_len; have hbl := p.body_len; simp only [List.length_append, List.length_replicate, Prt.b4, Prt.b3, Prt.b2, Prt.b1, Prt.b5, Prt.body, Sha.numB_length] at hb4 hbl ⊢; omega) | omega)).as (v' := Str (p.b2)) rfl) rfl rfl <| J.b2 rfl (qAB rfl rfl ent223 (Ct.use0 (fun F' hF => qCB F' (UInt64.ofNat p.all) 1 (by decide) (by decide) (n1ok h4)))) rfl (by simp) fun g19 _ => J.q rfl ((qBK rfl rfl rfl (by first | (have hb4 := p.b4_len; have hbl := p.body_len; simp only [List.length_append, List.length_replicate, Prt.b4, Prt.b3, Prt.b2, Prt.b1, Prt.b5, Prt.body, Sha.numB_length] at hb4 hbl ⊢; omega) | omega)).as (v' := Str (p.b3)) rfl) rfl rfl <| J.b2 rfl (qAB rfl rfl ent223 (Ct.use0 (fun F' hF => qCB F' (UInt64.ofNat p.con.length) 1 (by decide) (by decide) (n1ok (by omega))))) rfl (by simp) fun g25 _ => ?_
 refine J.q rfl ((qBK rfl rfl rfl (by first | (have hb4 := p.b4_len; have hbl := p.body_len; simp only [List.length_append, List.length_replicate, Prt.b4, Prt.b3, Prt.b2, Prt.b1, Prt.b5, Prt.body, Sha.numB_length] at hb4 hbl ⊢; omega) | omega)).as (v' := Str (p.b4)) rfl) rfl rfl <| J.q rfl ((qBK rfl rfl rfl (by first | (have hb4 := p.b4_len; have hbl := p.body_len; simp only [List.length_append, List.length_replicate, Prt.b4, Prt.b3, Prt.b2, Prt.b1, Prt.b5, Prt.body, Sha.numB_length] at hb4 hbl ⊢; omega) | omega)).as (v' := Str (p.b5)) rfl) rfl rfl <| J.q rfl ((qBK rfl rfl rfl (by first | (have hb4 := p.b4_len; have hbl := p.body_len; simp only [List.length_append, List.length_replicate, Prt.b4, Prt.b3, Prt.b2, Prt.b1, Prt.b5, Prt.body, Sha.numB_length] at hb4 hbl ⊢; omega) | omega)).as (v' := Str (p.body)) rfl) rfl rfl <| J.b9 ?_
 refine J.b5 <| J.A (J.L hK2 ?_)
 refine J.u 3 ?_
 refine J.g fun K3 hK3 => J.j 2 rfl <| J.f (qAk u9_ rfl rfl) rfl <| J.f ((qAp rfl rfl rfl (by omega)).nat (56 - p.body.length) (by omega)) rfl <| J.p (qAB rfl rfl ent51 (Ct.use0 (fun F' hF => qEM F' (56 - p.body.length) (by omega)))) rfl fun g37 _ => J.f ((qBK rfl rfl rfl (by rw [List.length_replicate]; omega)).as (v' := Str p.pad) rfl) rfl <| J.b rfl <| J.c hK3 <| J.u 3 ?_
 refine J.g fun K4 hK4 => J.j 2 rfl <| J.p (qAB rfl rfl ent222 (Ct.use0 (fun F' hF => qNE F' (hK.mono (hF _ (by simp))) p.pad (by omega)))) rfl fun g41 _ => J.f ((qBK rfl rfl rfl (by rw [qHF]; omega)).as (v' := Str p.text) rfl) rfl <| J.b rfl <| J.c hK4 <| J.u 2 ?_
 exact J.D <| J.V hw0 rfl () rfl trivial [0] rfl (by decide)
def R0 (s : List UInt8) : RS := ⟨s.take 56, 0⟩
def R1 (s : List UInt8) : RS := (R0 s).take 4
def R2 (s : List UInt8) : RS := (R1 s).take 2
def R3 (s : List UInt8) : RS := (R2 s).take 1
def R4 (s : List UInt8) : RS := (R3 s).take 1
def R5 (s : List UInt8) : RS := (R4 s).take 1
def R6 (s : List UInt8) : RS := (R5 s).take 8
def qPk (s : List UInt8) : Nat := min (qCN ((R4 s).out 1)) 39
def rdp (s : List UInt8) : Prt := ⟨UInt64.ofNat (qCN ((R0 s).out 4)), UInt64.ofNat (qCN ((R1 s).out 2)), qCN ((R2 s).out 1), qCN ((R3 s).out 1), (R5 s).out 8, (R6 s).out (qPk s)⟩
def qKw : Prt := ⟨0, 0, 0, 0, [], []⟩
theorem qB5 (st : RS) (n k : Nat) (h : 256 ^ n ≤ k) : qCN (st.out n) < k :=
 Nat.lt_of_lt_of_le (qG3 _) (Nat.le_trans (Nat.pow_le_pow_right (by decide) (st.out_len n)) h)
theorem qPN (s : List UInt8) : (rdp s).ok := by
  have h4 := qB5 (R0 s) 4 4294967296 (by decide)
  have h2 := qB5 (R1 s) 2 65536 (by decide)
  refine ⟨?_, ?_, qB5 _ 1 256 (by decide), qB5 _ 1 256 (by decide), RS.out_len _ _, Nat.le_trans (RS.out_len _ _) (Nat.min_le_right _ _)⟩
  · show (UInt64.ofNat (qCN ((R0 s).out 4))).toNat < _
    rw [qAt (by omega)]; exact h4
  · show (UInt64.ofNat (qCN ((R1 s).out 2))).toNat < _
    rw [qAt (by omega)]; exact h2
def qA4 (s : List UInt8) : Prt × Bool := if qHM (s.take 56) = s.drop 56 then (rdp s, decide ((rdp s).text = s)) else (qKw, false)
theorem qJg (F : Hp) (hK : KF F) (s : List UInt8) (hs : s.length = 64) : Ct prog 192 [Str s] [F] (fun _ : Unit => .tuple #[.agg (qA4 s).1.cells.toArray, .bool (qA4 s).2]) (fun _ => True) (fun _ => [F]) := by
 have hn4 := qB5 (R4 s) 1 256 (by decide)
 refine Ct.walk func192 rfl ntmps192 rfl (fun w0 hw0 => ?_)
 change J _ [(0, _)] _ _ _
 refine J.g fun K1 hK1 => J.p (qAO rfl qJA rfl) rfl fun g2 _ => ?_
 change J _ _ _ [F, blk g2 _ 303] _
 refine J.b rfl <| J.c hK1 <| J.E 0 2 ?_
 refine J.k fun K2 hK2 => J.k fun K3 hK3 => J.c1 [F] [] (.y 0 (.y 1 (.y 3 (.y 4 (.e 2 (.y 5 .nil)))))) Tryz.wide (by decide +kernel) (by simp) ?_
 refine J.O ?_
 refine J.q rfl ((qAz (l := 0) (h := 56) u9_ rfl rfl rfl rfl ⟨by omega, by omega⟩).as (v' := Str (s.take 56)) (congrArg Str List.drop_zero)) rfl rfl <| J.O ?_
 refine J.q rfl ((qAz (l := 56) (h := s.length) u9_ rfl rfl rfl rfl ⟨by omega, by omega⟩).as (v' := Str (s.drop 56)) (by rw [List.take_length])) rfl rfl <| J.b2 rfl (qAB rfl rfl ent222 (Ct.use0 (fun F' hF => qNE F' (hK.mono (hF _ (by simp))) (s.take 56) (by rw [List.length_take]; omega)))) rfl (by simp) fun g9 _ => J.q rfl (qC5 rfl rfl rfl) rfl rfl <| J.b5 <| J.A (J.L hK3 ?_)
 refine J.H 0 2 12 ?_
 refine J.a5 rfl (fun h12 => ?_) (fun h12 => ?_)
 ·
  refine J.g fun K4 hK4 => J.f (qAM (l := []) (vs := []) (places := [(0, 1), (1, 1), (2, 1), (3, 1), (4, 1), (5, 1)]) (r := [W64 0, W64 0, I 0, I 0, Str [], Str []]) rfl rfl rfl qBO qJA (fun _ => by kernel_rfl) rfl) rfl <| J.b1 (qAG (l := qKw.cells) (i := 1) (vs := qKw.cells) rfl rfl rfl rfl rfl qE5 rfl rfl) rfl rfl fun _ _ => ?_
  change J _ _ _ [_, blk g2 qKw.cells 303] _
  refine J.b rfl <| J.c hK4 <| J.E 2 3 ?_
  exact J.D <| J.a3 <| J.b4 hw0 (fun _ _ h => h) (rv2 rfl (RV.blkA 1 rfl rfl isAgg303 qE5) rfl) (qAj () (by unfold qA4; rw [if_neg (show ¬ qHM (s.take 56) = s.drop 56 from h12)]) trivial [0] rfl (by decide))
 refine J.W hK2 <| J.E 0 2 ?_
 refine J.g fun K5 hK5 => J.b rfl <| J.f ((qAz (l := 0) (h := 56) u9_ rfl rfl rfl rfl ⟨by omega, by omega⟩).as (v' := Str (s.take 56)) (congrArg Str List.drop_zero)) rfl <| J.p (qAB rfl rfl ent112 (Ct.use (new := fun g => [RSb g (R0 s)]) (fun F' _ => (qL6 F' (s.take 56)).mono (φ2 := fun _ => True) (val2 := Ptr) (ms2 := fun g => F' :: [RSb g (R0 s)]) id (fun _ _ => rfl) (fun _ h => h) (fun x w0 w _ h => h.pick [1, 0] (by decide))))) rfl ?_
 rintro g16 _
 change J _ _ _ [F, blk g2 _ 303, RSb g16 (R0 s)] _
 refine J.b rfl <| J.c hK5 <| J.H 0 2 4 ?_
 refine J.g fun K6 hK6 => J.b rfl <| J.p (qAB rfl rfl ent113 (Ct.use1 2 (m' := fun _ : Unit => RSb g16 (R1 s)) (new := fun _ => []) rfl (fun F' _ => qEK F' g16 (R0 s) 4 (by omega) (by omega)))) rfl fun g18 _ => ?_
 change J _ _ _ [_, _, RSb g16 (R1 s)] _
 rw [N_W (show qCN ((R0 s).out 4) < 18446744073709551616 from Nat.lt_of_lt_of_le (qB5 _ 4 (256 ^ 4) (Nat.le_refl _)) (by decide))]
 refine J.b rfl <| J.p (qAB rfl rfl ent113 (Ct.use1 2 (m' := fun _ : Unit => RSb g16 (R2 s)) (new := fun _ => []) rfl (fun F' _ => qEK F' g16 (R1 s) 2 (by omega) (by omega)))) rfl fun g20 _ => ?_
 change J _ _ _ [_, _, RSb g16 (R2 s)] _
 rw [N_W (show qCN ((R1 s).out 2) < 18446744073709551616 from Nat.lt_of_lt_of_le (qB5 _ 2 (256 ^ 2) (Nat.le_refl _)) (by decide))]
 refine J.b rfl <| J.p (qAB rfl rfl ent113 (Ct.use1 2 (m' := fun _ : Unit => RSb g16 (R3 s)) (new := fun _ => []) rfl (fun F' _ => qEK F' g16 (R2 s) 1 (by omega) (by omega)))) rfl fun g22 _ => ?_
 change J _ _ _ [_, _, RSb g16 (R3 s)] _
 refine J.f (qCU rfl rfl qEm u3_ (by have := qB5 (R2 s) 1 256 (by decide); omega)) rfl <| J.b rfl <| J.p (qAB rfl rfl ent113 (Ct.use1 2 (m' := fun _ : Unit => RSb g16 (R4 s)) (new := fun _ => []) rfl (fun F' _ => qEK F' g16 (R3 s) 1 (by omega) (by omega)))) rfl fun g25 _ => ?_
 change J _ _ _ [_, _, RSb g16 (R4 s)] _
 refine J.f (qCU rfl rfl qEm u3_ (by have := qB5 (R3 s) 1 256 (by decide); omega)) rfl <| J.f (qAM (l := [(0, .tmp 18), (1, .tmp 20), (2, .tmp 23), (3, .tmp 26)]) (vs := [W64 (rdp s).turn, W64 (rdp s).num, I (rdp s).at_, I (rdp s).all]) (places := [(0, 1), (1, 1), (2, 1), (3, 1), (4, 1), (5, 1)]) (r := [W64 (rdp s).turn, W64 (rdp s).num, I (rdp s).at_, I (rdp s).all, Str [], Str []]) rfl rfl rfl qBO qJA (fun _ => by kernel_rfl) rfl) rfl <| J.p (qAO rfl qJA rfl) rfl fun g5 _ => ?_
 change J _ _ _ [_, _, _, blk g5 _ 303] _
 refine J.b1 (qAG (l := qKw.cells) (i := 3) (vs := [W64 (rdp s).turn, W64 (rdp s).num, I (rdp s).at_, I (rdp s).all, Str [], Str []]) rfl rfl rfl rfl rfl qE5 rfl rfl) rfl rfl fun _ _ => ?_
 change J _ _ _ [_, _, _, blk g5 [W64 (rdp s).turn, W64 (rdp s).num, I (rdp s).at_, I (rdp s).all, Str [], Str []] 303] _
 refine J.c hK6 <| J.M 0 2 4 5 ?_
 refine J.g fun K7 hK7 => J.b rfl <| J.p (qAB rfl rfl ent113 (Ct.use1 2 (m' := fun _ : Unit => RSb g16 (R5 s)) (new := fun _ => []) rfl (fun F' _ => qEK F' g16 (R4 s) 1 (by omega) (by omega)))) rfl fun g29 _ => ?_
 change J _ _ _ [_, _, RSb g16 (R5 s), _] _
 refine J.f (qCU rfl rfl qEm u3_ (by omega)) rfl <| J.b rfl <| J.c hK7 <| J.a0 0 2 4 5 6 ?_
 refine J.g fun K8 hK8 => J.b rfl <| J.p (qAB rfl rfl ent117 (Ct.use1 2 (m' := fun _ : Unit => RSb g16 (R6 s)) (new := fun _ => []) rfl (fun F' _ => qHg F' g16 (R5 s) 8))) rfl fun g32 _ => ?_
 change J _ _ _ [_, _, RSb g16 (R6 s), _] _
 refine J.a2 4 qBO z9_ rfl rfl rfl rfl rfl <| J.b1 (qAT (i := 3) (vs := [Str (rdp s).name]) rfl rfl rfl rfl rfl z9_ rfl (by simp)) rfl rfl fun _ _ => ?_
 change J _ _ _ [_, _, _, blk g5 [W64 (rdp s).turn, W64 (rdp s).num, I (rdp s).at_, I (rdp s).all, Str (rdp s).name, Str []] 303] _
 refine J.c hK8 <| J.a0 0 2 4 5 6 ?_
 refine J.g fun K9 hK9 => J.j 2 rfl <| J.f ((qDX rfl rfl rfl).as (v' := I (qPk s : Nat)) (congrArg I (by unfold qPk; omega))) rfl <| J.p (qAB rfl rfl ent117 (Ct.use1 2 (m' := fun _ : Unit => RSb g16 ((R6 s).take (qPk s))) (new := fun _ => []) rfl (fun F' _ => qHg F' g16 (R6 s) (qPk s)))) rfl fun g37 _ => ?_
 change J _ _ _ [_, _, RSb g16 ((R6 s).take (qPk s)), _] _
 refine J.a2 5 qBO z9_ rfl rfl rfl rfl rfl <| J.b1 (qAT (i := 3) (vs := [Str (rdp s).con]) rfl rfl rfl rfl rfl z9_ rfl (by simp)) rfl rfl fun _ _ => ?_
 change J _ _ _ [_, _, _, blk g5 (rdp s).cells 303] _
 refine J.c hK9 <| J.H 0 2 5 ?_
 refine J.k fun K10 hK10 => J.c1 [F, blk g5 (rdp s).cells 303] [5, 6, 100003, 100004] (.y 0 (.y 1 (.y 3 (.e 2 (.y 4 (.e 5 (.e 6 .nil))))))) Tryz.wide (by decide +kernel) (by simp) ?_
 refine J.q rfl (qAi 1 rfl rfl rfl isAgg303 qE5 rfl) rfl rfl <| J.q rfl (qAi 1 rfl rfl rfl isAgg303 qE5 rfl) rfl rfl <| J.h1 rfl (qAl rfl rfl) rfl rfl rfl ?_
 refine J.b2 rfl (qAB rfl rfl ent199 (Ct.use0 (fun F' hF => qJf F' (hK.mono (hF _ (by simp))) (rdp s) (qPN s)))) rfl (by simp) fun g41 _ => J.h1 rfl (qBL rfl rfl rfl) rfl rfl rfl ?_
 refine J.d7 rfl (qAG (l := qKw.cells) (i := 1) (vs := (rdp s).cells) rfl rfl rfl rfl rfl qE5 rfl rfl) rfl rfl rfl fun _ _ => ?_
 change J _ _ _ [_, blk g2 (rdp s).cells 303, _, _] _
 refine J.h3 rfl (YOp.eop (qD3 rfl rfl)) rfl rfl rfl rfl ?_
 intro _ _
 refine J.b5 <| J.A (J.L hK10 ?_)
 refine J.E 2 3 ?_
 exact J.D <| J.b4 hw0 (fun _ _ h => h) (rv2 rfl (RV.blkA 1 rfl rfl isAgg303 qE5) rfl) (qAj () (by unfold qA4; rw [if_pos (show qHM (s.take 56) = s.drop 56 from Decidable.not_not.1 h12)]) trivial [0] rfl (by decide))
theorem qLM : (qA4 (List.replicate 64 0)).2 = false ∨ (qA4 (List.replicate 64 0)).1.turn = 0 := by
  unfold qA4
  split
  · right
    show UInt64.ofNat (qCN ((R0 (List.replicate 64 0)).out 4)) = 0
    decide
  · exact .inl rfl
def zS : List UInt8 := List.replicate 64 0
theorem qPp : (qA4 zS).2 = false ∨ (qA4 zS).1.turn = 0 := qLM
theorem qKo (F : Hp) (gd : Nat) (d : Dk) (A : Option Addr) (c : Nat) (B : Option Addr) (e : Nat) (C : Option Addr) (f : Nat) (hc : qAQ F ⟨gd, 0, none⟩ (d.cells A c B e C f)) (first count : Int) (hf : -9223372036854775808 ≤ first ∧ first ≤ 9223372036854775807) (hcn : -9223372036854775808 ≤ count ∧ count ≤ 9223372036854775807) (hn1 : d.last.length ≤ 1024) (hno : ¬ (8 ≤ count ∧ 0 ≤ first ∧ count ≤ d.last.length ∧ first ≤ d.last.length - count)) :
    Ct prog 53 [Ptr gd, I first, I count] [F] (fun _ : Unit => .tuple #[.pointer none, I 1]) (fun _ => True) (fun _ => [F]) := by
  refine Ct.walk func53 rfl ntmps53 rfl (fun w0 hw0 => ?_)
  change J _ [(0, _), (1, _), (2, _)] _ _ _
  refine J.g fun K1 hK1 => J.j 2 rfl <| J.c hK1 <| J.H 0 1 2 ?_
  refine J.k fun K2 hK2 => J.g fun K3 hK3 => J.b rfl <| J.f ((qAu qRc rfl rfl rfl).as (v' := .bool false) rfl) rfl <| J.j 2 rfl <| J.T (qAW rfl rfl rfl) rfl <| J.j 2 rfl <| J.c5 (d := 18) rfl (fun h18 => ?_) (fun h18 => ?_)
  ·
    refine J.j 17 rfl <| J.c hK3 <| J.M 0 1 2 35 ?_
    refine J.c6 ?_
    refine J.g fun K4 hK4 => J.j 2 rfl <| J.c hK4 <| J.E 6 7 ?_
    exact J.D <| J.a3 <| J.b4 hw0 (fun _ _ h => h) (qCq rfl rfl rfl) (qAj () rfl trivial [0] rfl (by decide))
  refine J.b rfl <| J.T (qAW rfl rfl rfl) rfl <| J.j 2 rfl <| J.c5 (d := 22) rfl (fun h22 => ?_) (fun h22 => ?_)
  ·
    refine J.j 13 rfl <| J.c hK3 <| J.M 0 1 2 35 ?_
    refine J.c6 ?_
    refine J.g fun K5 hK5 => J.j 2 rfl <| J.c hK5 <| J.E 6 7 ?_
    exact J.D <| J.a3 <| J.b4 hw0 (fun _ _ h => h) (qCq rfl rfl rfl) (qAj () rfl trivial [0] rfl (by decide))
  refine J.j 2 rfl <| J.d6 (qAB rfl rfl ent115 (Ct.use0 (fun F' hF => qE1 F' gd d A c B e C f (hc.mono (hF F (by simp)))))) rfl fun g25 _ => J.T (qAx rfl rfl rfl) rfl <| J.j 2 rfl <| J.c5 (d := 28) rfl (fun h28 => ?_) (fun h28 => ?_)
  ·
    refine J.j 7 rfl <| J.c hK3 <| J.M 0 1 2 35 ?_
    refine J.c6 ?_
    refine J.g fun K6 hK6 => J.j 2 rfl <| J.c hK6 <| J.E 6 7 ?_
    exact J.D <| J.a3 <| J.b4 hw0 (fun _ _ h => h) (qCq rfl rfl rfl) (qAj () rfl trivial [0] rfl (by decide))
  refine J.j 2 rfl <| J.d6 (qAB rfl rfl ent115 (Ct.use0 (fun F' hF => qE1 F' gd d A c B e C f (hc.mono (hF F (by simp)))))) rfl fun g31 _ => J.b rfl <| J.T (qAp rfl rfl rfl (by omega)) rfl <| J.T ((qAx rfl rfl rfl).yes (by omega)) rfl <| J.b rfl <| J.c hK3 <| J.M 0 1 2 35 ?_
  refine J.c6 ?_
  refine J.g fun K7 hK7 => J.j 2 rfl <| J.c hK7 <| J.E 6 7 ?_
  exact J.D <| J.a3 <| J.b4 hw0 (fun _ _ h => h) (qCq rfl rfl rfl) (qAj () rfl trivial [0] rfl (by decide))
theorem qR6 (F : Hp) (gb gd : Nat) (first : Int) (size : Nat) (hat : Int) (hturn : UInt64) (hend : Int) (Ar : Option Addr) (nr cr : Nat) (bad : Bool) (hB : qAQ F ⟨gb, 0, none⟩ [Ptr gd, I first, I (size : Nat), I hat, W64 hturn, I hend, .slice Ar nr cr, .bool bad]) (s : List UInt8) :
    Ct prog 164 [Ptr gb, Str s] [F] (fun _ : Unit => I (if 900 < s.length then 2 else if bad = true then 21 else 0)) (fun _ => True) (fun _ => [F]) := by
  refine Ct.walk func164 rfl ntmps164 rfl (fun w0 hw0 => ?_)
  change J _ [(0, _), (1, _)] _ _ _
  refine J.g fun K1 hK1 => J.b rfl <| J.c hK1 <| J.E 0 1 ?_
  refine J.k fun K2 hK2 => J.a1 <| J.g fun K3 hK3 => J.b rfl <| J.f ((qAu underlying140 rfl rfl rfl).as (v' := .bool false) rfl) rfl <| J.b rfl <| J.c hK3 <| J.H 0 1 5 ?_
  refine J.a8 ?_
  refine J.g fun K4 hK4 => J.b rfl <| J.f (qAk u9_ rfl rfl) rfl <| J.f (qAx rfl rfl rfl) rfl <| J.b rfl <| J.c hK4 <| J.E 0 8 ?_
  refine J.a5 rfl (fun h8 => ?_) (fun h8 => ?_)
  ·
    refine J.g fun K5 hK5 => J.b rfl <| J.c hK5 <| J.u 4 ?_
    exact J.D <| J.b6 <| J.a3 <| J.V hw0 rfl () (congrArg I (by rw [if_pos (by omega)])) trivial [0] rfl (by decide)
  refine J.g fun K6 hK6 => J.b rfl <| J.f (qAD rfl rfl) rfl <| J.a2 7 qCx z4_ rfl rfl rfl rfl rfl <| J.f ((qAN rfl rfl b4_ (m := F) (by simp) (hB.at (i := 7) rfl)).as (v' := .bool (decide (bad = true))) (by rw [Bool.decide_eq_true])) rfl <| J.b rfl <| J.c hK6 <| J.u 12 ?_
  refine J.a5 rfl (fun h12 => ?_) (fun h12 => ?_)
  ·
    refine J.g fun K7 hK7 => J.b rfl <| J.c hK7 <| J.u 4 ?_
    exact J.D <| J.b6 <| J.a3 <| J.V hw0 rfl () (congrArg I (by rw [if_neg (by omega), if_pos (by assumption)])) trivial [0] rfl (by decide)
  refine J.c7 <| J.a9 <| J.A (J.L hK2 ?_)
  refine J.c8 [] trivial <| J.g fun K8 hK8 => J.b rfl <| J.c hK8 <| J.u 4 ?_
  exact J.D <| J.V hw0 rfl () (congrArg I (by rw [if_neg (by omega), if_neg (by assumption)])) trivial [0] rfl (by decide)
theorem qQz (F : Hp) (gb gd : Nat) (first : Int) (size : Nat) (hat : Int) (hturn : UInt64) (hend : Int) (Ar : Option Addr) (nr cr : Nat) (bad : Bool) (hB : qAQ F ⟨gb, 0, none⟩ [Ptr gd, I first, I (size : Nat), I hat, W64 hturn, I hend, .slice Ar nr cr, .bool bad]) (hs : size ≤ 1048576) (he : 0 ≤ hend ∧ hend ≤ 1048576) :
    Ct prog 165 [Ptr gb] [F] (fun _ : Unit => I ((size : Int) - hend)) (fun _ => True) (fun _ => [F]) := by
  refine Ct.walk func165 rfl ntmps165 rfl (fun w0 hw0 => ?_)
  change J _ [(0, _)] _ _ _
  refine J.g fun K1 hK1 => J.b rfl <| J.c hK1 <| J.u 0 ?_
  refine J.k fun K2 hK2 => J.g fun K3 hK3 => J.b rfl <| J.f ((qAu underlying140 rfl rfl rfl).as (v' := .bool false) rfl) rfl <| J.c hK3 <| J.E 0 4 ?_
  refine J.a8 ?_
  refine J.W hK2 <| J.u 0 ?_
  refine J.k fun K4 hK4 => J.c1 [F] [] (.y 0 (.y 1 (.y 2 (.y 3 (.y 4 (.y 5 (.y 6 (.y 7 (.y 8 (.y 9 (.y 10 .nil))))))))))) Tryz.wide (by decide +kernel) (by simp) ?_
  refine J.O ?_
  refine J.q rfl (qAD rfl rfl) rfl rfl <| J.q rfl (qAA (j := 2) rfl rfl qCx rfl z3_ rfl) rfl rfl <| J.q rfl (qAN rfl rfl b3_ (m := F) (by simp) (hB.at (i := 2) rfl)) rfl rfl <| J.O ?_
  refine J.q rfl (qAD rfl rfl) rfl rfl <| J.q rfl (qAA (j := 3) rfl rfl qCx rfl qBj rfl) rfl rfl <| J.q rfl (qAA (j := 5) rfl rfl qBu rfl z3_ rfl) rfl rfl <| J.q rfl (qAN rfl rfl b3_ (m := F) (by simp) (hB.at (i := 5) rfl)) rfl rfl <| J.q rfl (qAp rfl rfl rfl (by omega)) rfl rfl <| J.b9 ?_
  refine J.b5 <| J.A (J.L hK4 ?_)
  refine J.u 2 ?_
  exact J.D <| J.V hw0 rfl () rfl trivial [0] rfl (by decide)
theorem qEN (F : Hp) (gb gd : Nat) (first : Int) (size : Nat) (hat : Int) (hturn : UInt64) (hend : Int) (Ar : Option Addr) (nr cr : Nat) (bad : Bool) (hB : qAQ F ⟨gb, 0, none⟩ [Ptr gd, I first, I (size : Nat), I hat, W64 hturn, I hend, .slice Ar nr cr, .bool bad]) (L : List (List UInt8)) (hLn : L.length = nr) (hL : Sl F 1 Ar nr cr (qAI L)) (hn : nr ≤ 1073741824) :
    Ct prog 55 [Ptr gb] [F] (fun x : Option Addr × Nat × Hp => .slice x.1 L.length x.2.1) (fun x => Row x.2.2 9 1 x.1 L.length x.2.1 (qAI L)) (fun x => [F, x.2.2]) := by
  subst hLn
  refine Ct.walk func55 rfl ntmps55 rfl (fun w0 hw0 => ?_)
  change J _ [(0, _)] _ _ _
  refine J.g fun K1 hK1 => J.b rfl <| J.c hK1 <| J.u 0 ?_
  refine J.k fun K2 hK2 => J.g fun K3 hK3 => J.b rfl <| J.f ((qAu underlying140 rfl rfl rfl).as (v' := .bool false) rfl) rfl <| J.c hK3 <| J.E 0 4 ?_
  refine J.a8 ?_
  refine J.W hK2 <| J.u 0 ?_
  refine J.g fun K4 hK4 => J.b rfl <| J.f (qAD rfl rfl) rfl <| J.a2 3 qCx qBj rfl rfl rfl rfl rfl <| J.a2 6 qBu qB0 rfl rfl rfl rfl rfl <| J.f (qAN rfl rfl qCQ (m := F) (by simp) (hB.at (i := 6) rfl)) rfl <| J.p (qAB rfl rfl ent98 (Ct.use (new := fun x : Option Addr × Nat × Hp => [x.2.2]) (fun F' hF => qIF F' L Ar cr (hL.mono (hF F (by simp))) hn))) rfl ?_
  rintro ⟨A10, c10, m10⟩ h10
  try dsimp only at h10
  change J _ _ _ [F, m10] _
  refine J.b rfl <| J.c hK4 <| J.u 2 ?_
  exact J.D <| J.V hw0 rfl (A10, c10, m10) rfl h10 [0, 1] rfl (by decide)
theorem qIX (s : List UInt8) (n : Nat) : (s.take (min s.length n)).drop 0 = s.take n := by
 rw [List.drop_zero]
 by_cases h : s.length ≤ n
 · rw [Nat.min_eq_left h, List.take_of_length_le (Nat.le_refl _), List.take_of_length_le h]
 · rw [Nat.min_eq_right (by omega)]
theorem qOq (s : List UInt8) (n : Nat) : s.drop (min s.length n) = s.drop n := by
 by_cases h : s.length ≤ n
 · rw [Nat.min_eq_left h, List.drop_of_length_le (Nat.le_refl _), List.drop_of_length_le h]
 · rw [Nat.min_eq_right (by omega)]
def qEP (l : List Prt) : List (List Value) := l.map Prt.cells
theorem qMC (a b : List Prt) : qEP (a ++ b) = qEP a ++ qEP b := by simp [qEP]
def prt (turn num : UInt64) (s : List UInt8) (n i : Nat) : Prt := ⟨turn, num, i, n, qCX turn num s, (s.drop (39 * i)).take 39⟩
def qPO (turn num : UInt64) (s : List UInt8) (n k : Nat) : List Prt := (List.range k).map (prt turn num s n)
theorem qMA (turn num : UInt64) (s : List UInt8) (n k : Nat) : qPO turn num s n (k + 1) = qPO turn num s n k ++ [prt turn num s n k] := by unfold qPO; rw [List.range_succ, List.map_append]; rfl
theorem qMB {turn num : UInt64} {s : List UInt8} {n k i : Nat} (h : i < k) : (qEP (qPO turn num s n k))[i]? = some (prt turn num s n i).cells := by
 unfold qEP qPO
 rw [List.map_map, List.getElem?_map, List.getElem?_range h]; rfl
theorem qF9 (n : Nat) : 1 ≤ qBR n := by unfold qBR; split <;> omega
theorem qHm {n : Nat} (h : n ≤ 900) : qBR n ≤ 24 := by unfold qBR; split <;> omega
theorem qOA (F : Hp) (hK : KF F) (turn num : UInt64) (s : List UInt8) (ht : turn.toNat < 2 ^ (8 * 4)) (hnm : num.toNat < 2 ^ (8 * 2)) (hs : s.length ≤ 900) (n : Nat) (hn : n = qBR s.length) :
    Ct prog 197 [W64 turn, W64 num, Str s] [F] (fun x : Option Addr × Nat × Hp => .slice x.1 n x.2.1) (fun x => Row x.2.2 303 6 x.1 n x.2.1 (qEP (qPO turn num s n n))) (fun x => [F, x.2.2]) := by
  have hn24 : n ≤ 24 := hn ▸ qHm hs
  refine Ct.walk func197 rfl ntmps197 rfl (fun w0 hw0 => ?_)
  change J _ [(0, _), (1, _), (2, _)] _ _ _
  refine J.g fun K1 hK1 => J.b rfl <| J.c hK1 <| J.H 0 1 2 ?_
  refine J.g fun K2 hK2 => J.b rfl <| J.f (qAk u9_ rfl rfl) rfl <| J.p (qAB rfl rfl ent166 (Ct.use0 (fun F' hF => by have := qFL F' s.length (by omega); rw [← hn] at this; exact this))) rfl fun g13 _ => J.j 3 rfl <| J.p (qAB rfl rfl ent193 (Ct.use0 (fun F' hF => qKD F' (hK.mono (hF _ (by simp))) turn num s ht hnm (by omega)))) rfl fun g17 _ => J.j 2 rfl <| J.c hK2 <| J.a0 0 1 2 7 8 ?_
  refine J.g fun K3 hK3 => J.b rfl <| J.c hK3 <| J.b3 0 1 2 7 8 9 ?_
  refine J.k fun K4 hK4 => J.k fun K5 hK5 => J.d9 [0, 1] [F, (fun _ => none)] rfl (by decide) <| J.G <| J.j 2 rfl <| J.c hK5 <| J.d3 0 1 2 7 8 9 18 19 ?_
  refine J.a1 <| J.c0 (X := Nat × Hp × Option Addr × Nat) (fun x => [(0, W64 turn), (1, W64 num), (2, Str (s.drop (39 * x.1))), (7, I n), (8, Str (qCX turn num s)), (9, .slice x.2.2.1 x.1 x.2.2.2), (18, I n), (19, I x.1)]) (fun x => [F, x.2.1]) (fun x => x.1 ≤ n ∧ Row x.2.1 303 6 x.2.2.1 x.1 x.2.2.2 (qEP (qPO turn num s n x.1))) (fun x => n - x.1) (0, (fun _ => none), none, 0) (⟨Nat.zero_le _, qBa.nil⟩) ⟨rfl, rfl, rfl, rfl, rfl, rfl, rfl, rfl, trivial⟩ (fun _ h => h) ?_
  rintro ⟨k, m, A7, c7⟩ ⟨hk, hr⟩ I0 hI0
  dsimp only at hk hr ⊢
  refine J.g fun K6 hK6 => J.f (qAW rfl rfl rfl) rfl <| J.c hK6 <| J.d8 0 1 2 7 8 9 18 19 20 ?_
  refine J.k fun K7 hK7 => J.a5 rfl (fun h20 => ?_) (fun h20 => ?_)
  ·
    refine J.W hK7 <| J.d3 0 1 2 7 8 9 18 19 ?_
    refine J.k fun K8 hK8 => J.a1 <| J.g fun K9 hK9 => J.j 2 rfl <| J.c hK9 <| J.d8 0 1 2 7 8 9 10 18 19 ?_
    refine J.g fun K10 hK10 => J.j 8 rfl <| J.f (qAk u9_ rfl rfl) rfl <| J.f ((qDX rfl rfl rfl).as (v' := I ((min (s.drop (39 * k)).length 39 : Nat) : Int)) (congrArg I (by omega))) rfl <| J.f ((qAz (l := 0) (h := min (s.drop (39 * k)).length 39) u9_ rfl rfl rfl rfl ⟨by omega, by omega⟩).as (v' := Str ((s.drop (39 * k)).take 39)) (congrArg Str (qIX _ _))) rfl <| J.f (qAM (l := [(0, .tmp 23), (1, .tmp 24), (2, .tmp 25), (3, .tmp 26), (4, .tmp 27), (5, .tmp 32)]) (vs := [W64 turn, W64 num, I k, I n, Str (qCX turn num s), Str ((s.drop (39 * k)).take 39)]) (places := [(0, 1), (1, 1), (2, 1), (3, 1), (4, 1), (5, 1)]) (r := [W64 turn, W64 num, I k, I n, Str (qCX turn num s), Str ((s.drop (39 * k)).take 39)]) rfl rfl rfl qBO qJA (fun _ => by kernel_rfl) rfl) rfl <| J.p (qAJ (l := [.tmp 33]) (xs := [(prt turn num s n k).cells]) rfl rfl rfl rfl qKS el303 rfl (by decide) (by decide) (by simp [Prt.cells, prt])) rfl fun g34 _ => ?_
    change J _ _ _ [F, m, blk g34 (prt turn num s n k).cells 303] _
    refine J.p (qAd (i := 1) (m2 := blk g34 (prt turn num s n k).cells 303) (xs := qEP (qPO turn num s n k)) (ys := qEP [(prt turn num s n k)]) rfl rfl rfl qKS qKS el303 rfl hr (by simp) ((qAv (q := True) (xs := qEP [(prt turn num s n k)]) rfl (by simp [qEP, Prt.cells])).sl) (by simp [qEP, Prt.cells, Value.oneCell']) (by omega) (by omega)) rfl ?_
    rintro ⟨A8, c8, m8⟩ h8
    try dsimp only at h8
    change J _ ((35, .slice A8 (k + 1) c8) :: _) _ [_, m8, _] _
    rw [← qMC, ← qMA] at h8
    refine J.b rfl <| J.c hK10 <| J.d3 0 1 2 7 8 9 18 19 ?_
    refine J.G <| J.j 2 rfl <| J.f (qAk u9_ rfl rfl) rfl <| J.f ((qDX rfl rfl rfl).as (v' := I ((min (s.drop (39 * k)).length 39 : Nat) : Int)) (congrArg I (by omega))) rfl <| J.f ((qAz (l := min (s.drop (39 * k)).length 39) (h := (s.drop (39 * k)).length) u9_ rfl rfl rfl rfl ⟨by omega, by omega⟩).as (v' := Str (s.drop (39 * (k + 1)))) (congrArg Str (by rw [List.take_length, qOq, List.drop_drop, Nat.mul_add, Nat.mul_one]))) rfl <| J.b rfl <| J.a7 <| J.a9 <| J.A (J.L hK8 ?_)
    refine J.d3 0 1 2 7 8 9 18 19 ?_
    exact J.G <| J.f ((qAR rfl rfl rfl (by omega)).nat (k + 1) (by omega)) rfl <| J.b rfl <| J.a7 <| J.A <| J.b0 (k + 1, m8, A8, c8) (fun y (hy : _ ∧ n - y.1 < n - k) => hI0 y hy.1 hy.2) ⟨⟨by dsimp only; omega, h8⟩, by dsimp only; omega⟩ ⟨rfl, rfl, rfl, rfl, rfl, rfl, rfl, rfl, trivial⟩ (fun _ h => h.pick [0, 1] (by decide))
  refine J.b7 <| J.a6 <| J.a6 <| J.b8 ?_
  refine J.A (J.L hK4 ?_)
  refine J.u 9 ?_
  refine J.k fun K11 hK11 => ?_
  have hkn : k = n := by omega
  subst hkn
  refine J.G <| J.j 2 rfl <| J.c hK11 <| J.u 6 ?_
  exact J.D <| J.V hw0 rfl (A7, c7, m) rfl hr [0, 1] rfl (by decide)
theorem ent165 : qAE prog 165 := qAE.of func165 rfl (by kernel_rfl)
theorem ent167 : qAE prog 167 := qAE.of func167 rfl (by kernel_rfl)
theorem ent197 : qAE prog 197 := qAE.of func197 rfl (by kernel_rfl)
theorem ent198 : qAE prog 198 := qAE.of func198 rfl (by kernel_rfl)
theorem ent200 : qAE prog 200 := qAE.of func200 rfl (by kernel_rfl)
def qCp (d : Dk) (p : Nat) (t : Nat → List UInt8) : Nat → Dk × Int
 | 0 => (d, 0)
 | k + 1 => if (qCp d p t k).2 = 0 then ((qCp d p t k).1.write ((p + k : Nat) : Int) (t k), (qCp d p t k).1.wErr ((p + k : Nat) : Int) (t k)) else qCp d p t k
theorem qCS {d : Dk} {p : Nat} {t : Nat → List UInt8} {k : Nat} (h : (qCp d p t k).2 = 0) : qCp d p t (k + 1) = ((qCp d p t k).1.write ((p + k : Nat) : Int) (t k), (qCp d p t k).1.wErr ((p + k : Nat) : Int) (t k)) := if_pos h
theorem qE7 {d : Dk} {p : Nat} {t : Nat → List UInt8} {k : Nat} (h : ¬ (qCp d p t k).2 = 0) : ∀ n, qCp d p t (k + n) = qCp d p t k
 | 0 => rfl
 | n + 1 => by
  have e := qE7 h n
  show (if (qCp d p t (k + n)).2 = 0 then _ else qCp d p t (k + n)) = _
  rw [e, if_neg h]
def qBt (d : Dk) (p : Nat) (t : Nat → List UInt8) (n : Nat) : Dk × Int := if (qCp d p t n).2 = 0 then ((qCp d p t n).1.sync, (qCp d p t n).1.sErr) else qCp d p t n
theorem qFh (d : Dk) : d.burn.keep = d.keep ∧ d.burn.wait.length ≤ d.wait.length := by
  unfold Dk.burn Dk.cut
  split
  · split
    · exact ⟨rfl, Nat.zero_le _⟩
    · exact ⟨rfl, Nat.le_refl _⟩
  · exact ⟨rfl, Nat.le_refl _⟩
theorem qKR (d : Dk) (i : Int) (s : List UInt8) : (d.write i s).keep = d.keep ∧ (d.write i s).wait.length ≤ d.wait.length + 1 := by
  have hb := qFh d
  unfold Dk.write
  split
  · exact ⟨rfl, Nat.le_succ _⟩
  · split
    · exact ⟨rfl, Nat.le_succ _⟩
    · split
      · exact ⟨hb.1, Nat.le_succ_of_le hb.2⟩
      · refine ⟨hb.1, ?_⟩
        show (d.burn.wait ++ [_]).length ≤ _
        rw [List.length_append]; exact Nat.succ_le_succ hb.2
theorem qGa {d : Dk} (h : d.ok) (p : Nat) (t : Nat → List UInt8) : ∀ k, (qCp d p t k).1.ok ∧ (qCp d p t k).1.wait.length ≤ d.wait.length + k ∧ (qCp d p t k).1.keep = d.keep
  | 0 => ⟨h, Nat.le_refl _, rfl⟩
  | k + 1 => by
    obtain ⟨h1, h2, h3⟩ := qGa h p t k
    by_cases he : (qCp d p t k).2 = 0
    · rw [qCS he]
      have hw := qKR (qCp d p t k).1 ((p + k : Nat) : Int) (t k)
      exact ⟨h1.write _ _, Nat.le_trans hw.2 (by omega), hw.1.trans h3⟩
    · rw [show k + 1 = k + 1 from rfl, qE7 he 1]
      exact ⟨h1, by omega, h3⟩
theorem qMD {turn num : UInt64} {s : List UInt8} {n i : Nat} (ht : turn.toNat < 2 ^ (8 * 4)) (hn : num.toNat < 2 ^ (8 * 2)) (h : n ≤ 24) (hi : i < n) : (prt turn num s n i).ok :=
 ⟨ht, hn, by show i < 256; omega, by show n < 256; omega, by show (qCX _ _ _).length ≤ 8; rw [qCW]; exact Nat.le_refl _, by show ((s.drop _).take 39).length ≤ 39; rw [List.length_take]; exact Nat.min_le_left _ _⟩
theorem qFv (F mm : Hp) (hK : KF F) (gb gd : Nat) (first size hat0 : Int) (ht0 : UInt64) (he0 : Int) (Ar0 : Option Addr) (nr0 cr0 : Nat) (bad : Bool) (d : Dk) (C : Option Addr) (f : Nat) (hb : Dsk mm gd d C f) (hok : d.ok) (hn2 : d.wait.length ≤ 1048576) (hKp : Sl F 1 C d.keep.length f (qAX d.keep)) (hn3 : d.keep.length ≤ 9223372036854775807) (hat : Nat) (hturn : UInt64) (hend : Nat) (Ar : Option Addr) (nr cr : Nat) (R : List (List UInt8)) (hR : R.length = nr) (hRs : Sl F 1 Ar nr cr (qAI R)) (s : List UInt8) (hs : s.length ≤ 900) (n : Nat) (hn : n = qBR s.length) (ht : hturn.toNat < 2 ^ (8 * 4)) (hnr : nr < 65536) (hp : hat + hend ≤ 1048576) (he : (qBt d (hat + hend) (fun i => (prt hturn (UInt64.ofNat nr) s n i).text) n).2 = 0) :
    Ct prog 167 [Ptr gb, .agg #[I hat, W64 hturn, I hend, .slice Ar nr cr], Str s] [blk gb [Ptr gd, I first, I size, I hat0, W64 ht0, I he0, .slice Ar0 nr0 cr0, .bool bad] 223, mm, F] (fun _ : Hp × Option Addr × Nat × Hp => I 0) (fun x => Dsk x.1 gd (qBt d (hat + hend) (fun i => (prt hturn (UInt64.ofNat nr) s n i).text) n).1 C f ∧ Row x.2.2.2 9 1 x.2.1 (nr + 1) x.2.2.1 (qAI (R ++ [s]))) (fun x => [blk gb [Ptr gd, I first, I size, I hat, W64 hturn, I ((hend + n : Nat) : Int), .slice x.2.1 (nr + 1) x.2.2.1, .bool bad] 223, x.1, F, x.2.2.2]) := by
  have hn24 : n ≤ 24 := hn ▸ qHm hs
  have hnum : (UInt64.ofNat nr).toNat < 2 ^ (8 * 2) := by rw [qAt (by omega)]; exact hnr
  refine Ct.walk func167 rfl ntmps167 rfl (fun w0 hw0 => ?_)
  change J _ [(0, _), (1, _), (2, _)] _ _ _
  refine J.g fun K1 hK1 => J.p (qAf (l := [I hat, W64 hturn, I hend, .slice Ar nr cr]) rfl rfl rfl) rfl ?_
  rintro g4 _
  change J _ _ _ [blk gb [Ptr gd, I first, I size, I hat0, W64 ht0, I he0, .slice Ar0 nr0 cr0, .bool bad] 223, mm, F, blk g4 [I hat, W64 hturn, I hend, .slice Ar nr cr] 221] _
  refine J.b rfl <| J.c hK1 <| J.H 0 2 4 ?_
  refine J.g fun K2 hK2 => J.a2 1 qBu qCm rfl rfl rfl rfl rfl <| J.d1 3 qDN rfl rfl rfl rfl rfl <| J.a2 3 qBu qB0 rfl rfl rfl rfl rfl <| J.d1 3 qCQ rfl rfl rfl rfl rfl <| J.f (qAa qAh rfl rfl) rfl <| J.f (qAr rfl rfl u3_ qEm (m := nr) (by omega)) rfl <| J.b rfl <| J.p (qAB rfl rfl ent197 (Ct.use (new := fun x : Option Addr × Nat × Hp => [x.2.2]) (fun F' hF => qOA F' (hK.mo hF) hturn (UInt64.ofNat nr) s ht hnum hs n hn))) rfl ?_
  rintro ⟨Ap, cp, mp⟩ hr
  try dsimp only at hr
  change J _ _ _ [_, _, _, _, mp] _
  refine J.b rfl <| J.c hK2 <| J.M 0 2 4 7 ?_
  refine J.g fun K3 hK3 => J.b rfl <| J.c hK3 <| J.a0 0 2 4 7 8 ?_
  refine J.e4 (fun x : Hp => [(0, Ptr gb), (2, Str s), (4, Ptr g4), (7, .slice Ap n cp), (8, I (qCp d (hat + hend) (fun i => (prt hturn (UInt64.ofNat nr) s n i).text) n).2)]) (fun x => [blk gb [Ptr gd, I first, I size, I hat0, W64 ht0, I he0, .slice Ar0 nr0 cr0, .bool bad] 223, x, F, blk g4 [I hat, W64 hturn, I hend, .slice Ar nr cr] 221, mp]) (fun x => Dsk x gd (qCp d (hat + hend) (fun i => (prt hturn (UInt64.ofNat nr) s n i).text) n).1 C f) (fun K4 hK4 => ?_) ?_
  ·
    refine J.g fun K5 hK5 => J.b rfl <| J.c hK5 <| J.b3 0 2 4 7 8 9 ?_
    refine J.a1 <| J.c0 (X := Nat × Hp) (fun x => [(0, Ptr gb), (2, Str s), (4, Ptr g4), (7, .slice Ap n cp), (8, I (qCp d (hat + hend) (fun i => (prt hturn (UInt64.ofNat nr) s n i).text) x.1).2), (9, I x.1)]) (fun x => [blk gb [Ptr gd, I first, I size, I hat0, W64 ht0, I he0, .slice Ar0 nr0 cr0, .bool bad] 223, x.2, F, blk g4 [I hat, W64 hturn, I hend, .slice Ar nr cr] 221, mp]) (fun x => x.1 ≤ n ∧ Dsk x.2 gd (qCp d (hat + hend) (fun i => (prt hturn (UInt64.ofNat nr) s n i).text) x.1).1 C f) (fun x => n - x.1) (0, mm) (⟨Nat.zero_le _, hb⟩) ⟨rfl, rfl, rfl, rfl, rfl, rfl, trivial⟩ (fun _ h => h) ?_
    rintro ⟨k, m⟩ ⟨hk, hd⟩ I0 hI0
    dsimp only at hk hd ⊢
    refine J.k fun K6 hK6 => J.g fun K7 hK7 => J.j 2 rfl <| J.f (qAa qKS rfl rfl) rfl <| J.f (qAW rfl rfl rfl) rfl <| J.b rfl <| J.c5 (d := 22) rfl (fun h22 => ?_) (fun h22 => ?_)
    ·
      refine J.b rfl <| J.T (qAV rfl rfl rfl) rfl <| J.b rfl <| J.c hK7 <| J.c2 0 2 4 7 8 9 25 ?_
      refine J.a5 rfl (fun h25 => ?_) (fun h25 => ?_)
      ·
        refine J.W hK6 <| J.a0 0 2 4 7 9 ?_
        refine J.k fun K8 hK8 => J.a1 ?_
        have hkn : k < n := by omega
        have hw := qGa hok (hat + hend) (fun i => (prt hturn (UInt64.ofNat nr) s n i).text) k
        refine J.c1 [blk gb [Ptr gd, I first, I size, I hat0, W64 ht0, I he0, .slice Ar0 nr0 cr0, .bool bad] 223, blk g4 [I hat, W64 hturn, I hend, .slice Ar nr cr] 221, F, mp] [] (.y 0 (.y 1 (.y 2 (.y 3 (.y 4 (.y 5 (.y 6 (.y 7 (.y 8 (.y 9 (.y 10 (.y 11 (.y 12 (.y 13 (.y 14 (.e 15 (.e 16 (.y 17 .nil)))))))))))))))))) Tryz.wide (by decide +kernel) (by simp) ?_
        refine J.O ?_
        refine J.q rfl (qAD rfl rfl) rfl rfl <| J.q rfl (qAA (j := 0) rfl rfl qCx rfl sizeOf67 rfl) rfl rfl <| J.q rfl (qAC 0 rfl rfl rfl isAgg67 rfl) rfl rfl <| J.q rfl (qAA (j := 0) rfl rfl qBu rfl z3_ rfl) rfl rfl <| J.q rfl (qAC 1 rfl rfl rfl b3_ rfl) rfl rfl <| J.q rfl (qAA (j := 2) rfl rfl qBu rfl z3_ rfl) rfl rfl <| J.q rfl (qAC 1 rfl rfl rfl b3_ rfl) rfl rfl <| J.q rfl ((qAR rfl rfl rfl (by omega)).nat (hat + hend) (by omega)) rfl rfl <| J.O ?_
        refine J.q rfl ((qAR rfl rfl rfl (by omega)).nat (hat + hend + k) (by omega)) rfl rfl <| J.O ?_
        refine J.O ?_
        refine J.q rfl (qAH (i := k) rfl rfl rfl qKS qE5 hr.sl (by omega)) rfl rfl <| J.q rfl (qAo rfl rfl isAgg303 qE5 (m := mp) (by simp) (vs := (prt hturn (UInt64.ofNat nr) s n k).cells) (hr.sl.elem (qMB hkn)) rfl) rfl rfl <| J.b2 rfl (qAB rfl rfl ent199 (Ct.use0 (fun F' hF => qJf F' (hK.mo hF) (prt hturn (UInt64.ofNat nr) s n k) (qMD ht hnum hn24 hkn)))) rfl (by simp) fun g43 _ => J.b2 rfl (qAB rfl rfl ent198 (Ct.use1 1 (m' := fun x : Hp => x) (new := fun _ => []) rfl (fun F' hF => qNd F' m gd (qCp d (hat + hend) (fun i => (prt hturn (UInt64.ofNat nr) s n i).text) k).1 C f hd hw.1 (by have := hw.2.1; omega) (by rw [hw.2.2]; exact hKp.mono (hF F (by simp))) (by rw [hw.2.2]; exact hn3) ((hat + hend + k : Nat) : Int) (prt hturn (UInt64.ofNat nr) s n k).text (by rw [Prt.text_len (qMD ht hnum hn24 hkn)]; decide)))) rfl (by simp) ?_
        rintro m44 hd44
        change J _ _ _ [blk gb [Ptr gd, I first, I size, I hat0, W64 ht0, I he0, .slice Ar0 nr0 cr0, .bool bad] 223, m44, F, blk g4 [I hat, W64 hturn, I hend, .slice Ar nr cr] 221, mp] _
        refine J.b9 ?_
        refine J.b5 <| J.a9 <| J.A (J.L hK8 ?_)
        refine J.b3 0 2 4 7 8 9 ?_
        refine J.G <| J.b rfl <| J.f ((qAR rfl rfl rfl (by omega)).nat (k + 1) (by omega)) rfl <| J.b rfl <| J.a7 <| J.A ?_
        have hsu := qCS (show (qCp d (hat + hend) (fun i => (prt hturn (UInt64.ofNat nr) s n i).text) k).2 = 0 from by omega)
        exact J.b0 (k + 1, m44) (fun y (hy : _ ∧ n - y.1 < n - k) => hI0 y hy.1 hy.2) ⟨⟨by dsimp only; omega, by dsimp only; rw [hsu]; exact hd44⟩, by dsimp only; omega⟩ ⟨rfl, rfl, rfl, rfl, by dsimp only; rw [hsu]; rfl, rfl, trivial⟩ (fun _ h => h)
      refine J.b7 <| J.a6 <| J.a6 <| J.b8 ?_
      refine J.A ?_
      have hst := qE7 (d := d) (p := hat + hend) (t := (fun i => (prt hturn (UInt64.ofNat nr) s n i).text)) (k := k) (by omega) (n - k)
      rw [show k + (n - k) = n by omega] at hst
      exact J.b0 m hK4 (by rw [hst]; exact hd) ⟨rfl, rfl, rfl, rfl, by rw [hst]; rfl, trivial⟩ (fun _ h => h)
    refine J.j 3 rfl <| J.c hK7 <| J.c2 0 2 4 7 8 9 25 ?_
    refine J.a8 ?_
    refine J.b7 <| J.a6 <| J.a6 <| J.b8 ?_
    refine J.A ?_
    have hkk : k = n := by omega
    subst hkk
    exact J.b0 m hK4 hd ⟨rfl, rfl, rfl, rfl, rfl, trivial⟩ (fun _ h => h)
  intro m hd
  refine J.e4 (fun x : Hp => [(0, Ptr gb), (2, Str s), (4, Ptr g4), (7, .slice Ap n cp), (8, I (qBt d (hat + hend) (fun i => (prt hturn (UInt64.ofNat nr) s n i).text) n).2)]) (fun x => [blk gb [Ptr gd, I first, I size, I hat0, W64 ht0, I he0, .slice Ar0 nr0 cr0, .bool bad] 223, x, F, blk g4 [I hat, W64 hturn, I hend, .slice Ar nr cr] 221, mp]) (fun x => Dsk x gd (qBt d (hat + hend) (fun i => (prt hturn (UInt64.ofNat nr) s n i).text) n).1 C f) (fun K9 hK9 => ?_) ?_
  ·
    refine J.k fun K10 hK10 => ?_
    have hw := qGa hok (hat + hend) (fun i => (prt hturn (UInt64.ofNat nr) s n i).text) n
    refine J.G <| J.b rfl <| J.f (qAV rfl rfl rfl) rfl <| J.c hK10 <| J.b3 0 2 4 7 8 46 ?_
    refine J.a5 rfl (fun h46 => ?_) (fun h46 => ?_)
    ·
      refine J.G <| J.b rfl <| J.f (qAD rfl rfl) rfl <| J.a2 0 qCx sizeOf67 rfl rfl rfl rfl rfl <| J.d1 0 isAgg67 rfl rfl rfl rfl rfl <| J.p (qAB rfl rfl ent200 (Ct.use1 1 (m' := fun x : Hp => x) (new := fun _ => []) rfl (fun F' hF => qP4 F' m gd (qCp d (hat + hend) (fun i => (prt hturn (UInt64.ofNat nr) s n i).text) n).1 C f hd hw.1 (by have := hw.2.1; omega) (by rw [hw.2.2]; exact hKp.mono (hF F (by simp))) (by rw [hw.2.2]; exact hn3)))) rfl ?_
      rintro m51 hd51
      change J _ _ _ [blk gb [Ptr gd, I first, I size, I hat0, W64 ht0, I he0, .slice Ar0 nr0 cr0, .bool bad] 223, m51, F, blk g4 [I hat, W64 hturn, I hend, .slice Ar nr cr] 221, mp] _
      refine J.b rfl <| J.a7 <| J.A ?_
      have hst : (qBt d (hat + hend) (fun i => (prt hturn (UInt64.ofNat nr) s n i).text) n) = ((qCp d (hat + hend) (fun i => (prt hturn (UInt64.ofNat nr) s n i).text) n).1.sync, (qCp d (hat + hend) (fun i => (prt hturn (UInt64.ofNat nr) s n i).text) n).1.sErr) := if_pos (by omega)
      exact J.b0 m51 hK9 (by rw [hst]; exact hd51) ⟨rfl, rfl, rfl, rfl, by rw [hst]; rfl, trivial⟩ (fun _ h => h)
    refine J.c7 <| J.A ?_
    have hst : (qBt d (hat + hend) (fun i => (prt hturn (UInt64.ofNat nr) s n i).text) n) = (qCp d (hat + hend) (fun i => (prt hturn (UInt64.ofNat nr) s n i).text) n) := if_neg (by omega)
    exact J.b0 m hK9 (by rw [hst]; exact hd) ⟨rfl, rfl, rfl, rfl, by rw [hst]; rfl, trivial⟩ (fun _ h => h)
  intro m hd
  refine J.k fun K11 hK11 => J.g fun K12 hK12 => J.b rfl <| J.f ((qAY rfl rfl rfl).no (by omega)) rfl <| J.c hK12 <| J.b3 0 2 4 7 8 53 ?_
  refine J.a8 ?_
  refine J.W hK11 <| J.M 0 2 4 7 ?_
  refine J.g fun K13 hK13 => J.a2 2 qBu z3_ rfl rfl rfl rfl rfl <| J.d1 3 b3_ rfl rfl rfl rfl rfl <| J.b rfl <| J.f (qAa qKS rfl rfl) rfl <| J.f ((qAR rfl rfl rfl (by omega)).nat (hend + n) (by omega)) rfl <| J.a2 2 qBu z3_ rfl rfl rfl rfl rfl <| J.b1 (qAT (i := 3) (vs := [I ((hend + n : Nat) : Int)]) rfl rfl rfl rfl rfl z3_ rfl (by simp)) rfl rfl fun _ _ => ?_
  change J _ _ _ [blk gb [Ptr gd, I first, I size, I hat0, W64 ht0, I he0, .slice Ar0 nr0 cr0, .bool bad] 223, m, F, blk g4 [I hat, W64 hturn, I ((hend + n : Nat) : Int), .slice Ar nr cr] 221, mp] _
  refine J.c hK13 <| J.H 0 2 4 ?_
  refine J.g fun K14 hK14 => J.a2 3 qBu qB0 rfl rfl rfl rfl rfl <| J.d1 3 qCQ rfl rfl rfl rfl rfl <| J.p (qAB rfl rfl ent98 (Ct.use (new := fun x : Option Addr × Nat × Hp => [x.2.2]) (fun F' hF => by have := qIF F' R Ar cr (by rw [hR]; exact hRs.mono (hF F (by simp))) (by omega); rw [hR] at this; exact this))) rfl ?_
  rintro ⟨A6, c6, m6⟩ h6
  try dsimp only at h6
  change J _ _ _ [_, _, _, _, _, m6] _
  refine J.b rfl <| J.p (qAJ (l := [.tmp 67]) (xs := [[Str s]]) rfl rfl rfl rfl qAh el9 rfl (by decide) (by decide) (by simp)) rfl fun g68 _ => ?_
  change J _ _ _ [_, _, _, _, _, _, blk g68 [Str s] 9] _
  refine J.p (qAd (i := 5) (m2 := blk g68 [Str s] 9) (xs := qAI R) (ys := qAI [s]) rfl rfl rfl qAh qAh el9 rfl h6 (by simp) ((qAv (q := True) (xs := qAI [s]) rfl (by simp [qAI])).sl) (by simp [qAI, Value.oneCell']) (by omega) (by omega)) rfl ?_
  rintro ⟨A8, c8, m8⟩ h8
  try dsimp only at h8
  change J _ ((69, .slice A8 (nr + 1) c8) :: _) _ [_, _, _, _, _, m8, _] _
  rw [← qKZ] at h8
  refine J.a2 3 qBu qB0 rfl rfl rfl rfl rfl <| J.b1 (qAT (i := 3) (vs := [.slice A8 (nr + 1) c8]) rfl rfl rfl rfl rfl qB0 rfl (by simp)) rfl rfl fun _ _ => ?_
  change J _ _ _ [_, _, _, blk g4 [I hat, W64 hturn, I ((hend + n : Nat) : Int), .slice A8 (nr + 1) c8] 221, _, _, _] _
  refine J.c hK14 <| J.E 0 4 ?_
  refine J.g fun K15 hK15 => J.b rfl <| J.c4 3 isAgg221 qBj rfl rfl rfl rfl rfl <| J.f (qAD rfl rfl) rfl <| J.a2 3 qCx qBj rfl rfl rfl rfl rfl <| J.b1 (qAT (i := 0) (vs := [I hat, W64 hturn, I ((hend + n : Nat) : Int), .slice A8 (nr + 1) c8]) rfl rfl rfl rfl rfl qBj rfl (by simp)) rfl rfl fun _ _ => ?_
  change J _ _ _ [blk gb [Ptr gd, I first, I size, I hat, W64 hturn, I ((hend + n : Nat) : Int), .slice A8 (nr + 1) c8, .bool bad] 223, _, _, _, _, _, _] _
  refine J.c hK15 <| J.c8 [] trivial <| J.g fun K16 hK16 => J.b rfl <| J.c hK16 <| J.u 6 ?_
  exact J.D <| J.V hw0 rfl (m, A8, c8, m8) rfl ⟨hd, h8⟩ [0, 1, 2, 5] rfl (by decide)
theorem qNA {m : Hp} {g k : Nat} {l vs : List Value} (h : qAQ m ⟨g, 0, none⟩ l) (hs : ∀ j u, vs[j]? = some u → l[k + j]? = some u) : qAQ m ⟨g, k, none⟩ vs := by
 obtain ⟨h1, cs, e, fz, h2, h3⟩ := h
 refine ⟨rfl, cs, e, fz, h2, fun j u hj => ?_⟩
 have := h3 _ _ (hs j u hj)
 rwa [Nat.zero_add] at this
theorem qIO (F mm : Hp) (hK : KF F) (gb gd : Nat) (first : Int) (size hat : Nat) (hturn : UInt64) (hend : Nat) (Ar : Option Addr) (nr cr : Nat) (d : Dk) (C : Option Addr) (f : Nat) (hb : Dsk mm gd d C f) (hok : d.ok) (hn2 : d.wait.length ≤ 1048576) (hKp : Sl F 1 C d.keep.length f (qAX d.keep)) (hn3 : d.keep.length ≤ 9223372036854775807) (R : List (List UInt8)) (hR : R.length = nr) (hRs : Sl F 1 Ar nr cr (qAI R)) (s : List UInt8) (hs : s.length ≤ 900) (n : Nat) (hn : n = qBR s.length) (t' : UInt64) (ht' : (t'.toNat : Int) = max (hturn.toNat : Int) 1) (ht : t'.toNat < 2 ^ (8 * 4)) (hnr : nr < 65536) (hp : hat + size ≤ 1048576) (hfit : hend + n ≤ size) (he : (qBt d (hat + hend) (fun i => (prt t' (UInt64.ofNat nr) s n i).text) n).2 = 0) :
    Ct prog 121 [Ptr gb, Str s] [blk gb [Ptr gd, I first, I (size : Nat), I (hat : Nat), W64 hturn, I (hend : Nat), .slice Ar nr cr, .bool false] 223, mm, F] (fun _ : Hp × Option Addr × Nat × Hp => I 0) (fun x => Dsk x.1 gd (qBt d (hat + hend) (fun i => (prt t' (UInt64.ofNat nr) s n i).text) n).1 C f ∧ Row x.2.2.2 9 1 x.2.1 (nr + 1) x.2.2.1 (qAI (R ++ [s]))) (fun x => [blk gb [Ptr gd, I first, I (size : Nat), I (hat : Nat), W64 t', I ((hend + n : Nat) : Int), .slice x.2.1 (nr + 1) x.2.2.1, .bool false] 223, x.1, F, x.2.2.2]) := by
  have hn1 := qF9 s.length
  refine Ct.walk func121 rfl ntmps121 rfl (fun w0 hw0 => ?_)
  change J _ [(0, _), (1, _)] _ _ _
  refine J.g fun K1 hK1 => J.b rfl <| J.c hK1 <| J.E 0 1 ?_
  refine J.k fun K2 hK2 => J.g fun K3 hK3 => J.j 2 rfl <| J.p ((qAB rfl rfl ent164 (Ct.use0 (fun F' hF => qR6 F' gb gd first size hat hturn hend Ar nr cr false (qAQ.blk0.mono (hF (blk gb [Ptr gd, I first, I (size : Nat), I (hat : Nat), W64 hturn, I (hend : Nat), .slice Ar nr cr, .bool false] 223) (by simp))) s)))) rfl fun g9 _ => J.b rfl <| J.c hK3 <| J.H 0 1 5 ?_
  refine J.g fun K4 hK4 => J.b rfl <| J.f ((qAY rfl rfl rfl).no (fun h => h (by rw [if_neg (by omega), if_neg (by decide)]))) rfl <| J.c hK4 <| J.M 0 1 5 11 ?_
  refine J.a8 ?_
  refine J.W hK2 <| J.E 0 1 ?_
  refine J.g fun K5 hK5 => J.b rfl <| J.f (qAD rfl rfl) rfl <| J.a2 3 qCx qBj rfl rfl rfl rfl rfl <| J.f (qAo rfl rfl isAgg221 qBj (m := blk gb [Ptr gd, I first, I (size : Nat), I (hat : Nat), W64 hturn, I (hend : Nat), .slice Ar nr cr, .bool false] 223) (by simp) (vs := [I (hat : Nat), W64 hturn, I (hend : Nat), .slice Ar nr cr]) (qNA qAQ.blk0 (fun j u hj => by match j, hj with | 0, hj => exact hj | 1, hj => exact hj | 2, hj => exact hj | 3, hj => exact hj)) rfl) rfl <| J.p (qAO rfl zeroValue221 rfl) rfl fun g6 _ => ?_
  change J _ _ _ [blk gb [Ptr gd, I first, I (size : Nat), I (hat : Nat), W64 hturn, I (hend : Nat), .slice Ar nr cr, .bool false] 223, mm, F, blk g6 _ 221] _
  refine J.b1 (qAG (l := [I 0, W64 0, I 0, .slice none 0 0]) (i := 3) (vs := [I (hat : Nat), W64 hturn, I (hend : Nat), .slice Ar nr cr]) rfl rfl rfl rfl rfl qBj rfl rfl) rfl rfl fun _ _ => ?_
  change J _ _ _ [_, _, _, blk g6 [I (hat : Nat), W64 hturn, I (hend : Nat), .slice Ar nr cr] 221] _
  refine J.c hK5 <| J.H 0 1 6 ?_
  refine J.k fun K6 hK6 => J.g fun K7 hK7 => J.b rfl <| J.p (qAB rfl rfl ent165 (Ct.use0 (fun F' hF => qQz F' gb gd first size hat hturn hend Ar nr cr false (qAQ.blk0.mono (hF (blk gb [Ptr gd, I first, I (size : Nat), I (hat : Nat), W64 hturn, I (hend : Nat), .slice Ar nr cr, .bool false] 223) (by simp))) (by omega) (by omega)))) rfl fun g18 _ => J.b rfl <| J.f (qAk u9_ rfl rfl) rfl <| J.p (qAB rfl rfl ent166 (Ct.use0 (fun F' hF => by have := qFL F' s.length (by omega); rw [← hn] at this; exact this))) rfl fun g21 _ => J.f ((qAW rfl rfl rfl).no (by omega)) rfl <| J.b rfl <| J.T (qAA (j := 3) rfl rfl qBu rfl qB0 rfl) rfl <| J.T (qAC 3 rfl rfl rfl qCQ rfl) rfl <| J.T (qAa qAh rfl rfl) rfl <| J.T ((qBN rfl rfl rfl).no (by omega)) rfl <| J.b rfl <| J.c hK7 <| J.M 0 1 6 28 ?_
  refine J.a8 ?_
  refine J.W hK6 <| J.H 0 1 6 ?_
  refine J.g fun K8 hK8 => J.a2 1 qBu qCm rfl rfl rfl rfl rfl <| J.d1 3 qDN rfl rfl rfl rfl rfl <| J.f ((qHp rfl rfl rfl).as (v' := W64 t') (congrArg (Value.int .u64) ht'.symm)) rfl <| J.a2 1 qBu qCm rfl rfl rfl rfl rfl <| J.b1 (qAT (i := 3) (vs := [W64 t']) rfl rfl rfl rfl rfl qCm rfl (by simp)) rfl rfl fun _ _ => ?_
  change J _ _ _ [_, _, _, blk g6 [I (hat : Nat), W64 t', I (hend : Nat), .slice Ar nr cr] 221] _
  refine J.c hK8 <| J.H 0 1 6 ?_
  refine J.g fun K9 hK9 => J.b rfl <| J.c4 3 isAgg221 qBj rfl rfl rfl rfl rfl <| J.b rfl <| J.p (qAB rfl rfl ent167 (Ct.useA [blk gb [Ptr gd, I first, I (size : Nat), I (hat : Nat), W64 hturn, I (hend : Nat), .slice Ar nr cr, .bool false] 223, mm] [F, blk g6 [I (hat : Nat), W64 t', I (hend : Nat), .slice Ar nr cr] 221] (A' := fun x : Hp × Option Addr × Nat × Hp => [blk gb [Ptr gd, I first, I (size : Nat), I (hat : Nat), W64 t', I ((hend + n : Nat) : Int), .slice x.2.1 (nr + 1) x.2.2.1, .bool false] 223, x.1]) (new := fun x => [x.2.2.2]) (fun F' hF => qFv F' mm (hK.mo hF) gb gd first size hat hturn hend Ar nr cr false d C f hb hok hn2 (hKp.mono (hF F (by simp))) hn3 hat t' hend Ar nr cr R hR (hRs.mono (hF F (by simp))) s hs n hn ht hnr (by omega) he))) rfl ?_
  rintro ⟨m36, A36, c36, m37⟩ ⟨hd36, h36⟩
  change J _ _ _ [blk gb [Ptr gd, I first, I (size : Nat), I (hat : Nat), W64 t', I ((hend + n : Nat) : Int), .slice A36 (nr + 1) c36, .bool false] 223, m36, _, _, m37] _
  refine J.b rfl <| J.c hK9 <| J.u 4 ?_
  exact J.D <| J.V hw0 rfl (m36, A36, c36, m37) rfl ⟨hd36, h36⟩ [0, 1, 2, 4] rfl (by decide)
theorem qFg {d : Dk} (h : d.armed = false) : d.burn = d ∧ ¬ d.burns := ⟨by unfold Dk.burn; rw [if_neg (by rw [h]; decide)], fun e => by have := e.1; rw [h] at this; exact absurd this (by decide)⟩
theorem qBZ {d : Dk} (h : d.off = false) {i : Nat} (hi : i < d.last.length) : d.ready (i : Int) = 0 := by unfold Dk.ready; rw [h, if_neg (by decide), if_neg (by omega)]
theorem qFJ (a b : List UInt8) {n : Nat} (h : a.length = n) : (⟨a ++ b, 0⟩ : RS).out n = a ∧ (⟨a ++ b, 0⟩ : RS).take n = ⟨b, 0⟩ := by
 subst h
 exact ⟨by rw [qPP (by rw [List.length_append]; omega), List.take_left' rfl], by rw [qLj (by rw [List.length_append]; omega), List.drop_left' rfl]⟩
theorem qPX (x : UInt64) (t : Nat) (ht : t ≤ 8) (h : x.toNat < 256 ^ t) : qCN (Sha.numB x t) = x.toNat := by
 have := qHz x.toNat x.toNat_lt t ht
 rw [UInt64.ofNat_toNat, Nat.mod_eq_of_lt h] at this
 exact this
theorem qJs (x t : Nat) (ht : t ≤ 8) (h : x < 256 ^ t) : qCN (Sha.numB (UInt64.ofNat x) t) = x := by
 have h2 : x < 18446744073709551616 := Nat.lt_of_lt_of_le h (Nat.le_trans (Nat.pow_le_pow_right (by decide) ht) (by decide))
 rw [qHz x h2 t ht, Nat.mod_eq_of_lt h]
theorem Prt.pad_eq (p : Prt) : p.pad = Sha.numB p.turn 4 ++ (Sha.numB p.num 2 ++ (Sha.numB (UInt64.ofNat p.at_) 1 ++ (Sha.numB (UInt64.ofNat p.all) 1 ++ (Sha.numB (UInt64.ofNat p.con.length) 1 ++ (p.name ++ (p.con ++ List.replicate (56 - p.body.length) 0)))))) := by
 have e : p.body = Sha.numB p.turn 4 ++ (Sha.numB p.num 2 ++ (Sha.numB (UInt64.ofNat p.at_) 1 ++ (Sha.numB (UInt64.ofNat p.all) 1 ++ (Sha.numB (UInt64.ofNat p.con.length) 1 ++ (p.name ++ p.con))))) := by
  unfold Prt.body Prt.b5 Prt.b4 Prt.b3 Prt.b2 Prt.b1; simp only [List.append_assoc]
 unfold Prt.pad
 generalize List.replicate (56 - p.body.length) (0 : UInt8) = Z
 rw [e]
 simp only [List.append_assoc]
theorem qN2 {p : Prt} (h : p.ok) (h8 : p.name.length = 8) {s : List UInt8} (hs : s.take 56 = p.pad) : rdp s = p := by
 have hN : ∀ (x : UInt64) (n : Nat), (Sha.numB x n).length = n := Sha.numB_length
 have t0 : R0 s = ⟨p.pad, 0⟩ := by unfold R0; rw [hs]
 rw [p.pad_eq] at t0
 have a0 := qFJ (Sha.numB p.turn 4) (Sha.numB p.num 2 ++ (Sha.numB (UInt64.ofNat p.at_) 1 ++ (Sha.numB (UInt64.ofNat p.all) 1 ++ (Sha.numB (UInt64.ofNat p.con.length) 1 ++ (p.name ++ (p.con ++ List.replicate (56 - p.body.length) 0)))))) (hN _ 4)
 have t1 := a0.2
 rw [← t0] at t1
 change R1 s = _ at t1
 have a1 := qFJ (Sha.numB p.num 2) (Sha.numB (UInt64.ofNat p.at_) 1 ++ (Sha.numB (UInt64.ofNat p.all) 1 ++ (Sha.numB (UInt64.ofNat p.con.length) 1 ++ (p.name ++ (p.con ++ List.replicate (56 - p.body.length) 0))))) (hN _ 2)
 have t2 := a1.2
 rw [← t1] at t2
 change R2 s = _ at t2
 have a2 := qFJ (Sha.numB (UInt64.ofNat p.at_) 1) (Sha.numB (UInt64.ofNat p.all) 1 ++ (Sha.numB (UInt64.ofNat p.con.length) 1 ++ (p.name ++ (p.con ++ List.replicate (56 - p.body.length) 0)))) (hN _ 1)
 have t3 := a2.2
 rw [← t2] at t3
 change R3 s = _ at t3
 have a3 := qFJ (Sha.numB (UInt64.ofNat p.all) 1) (Sha.numB (UInt64.ofNat p.con.length) 1 ++ (p.name ++ (p.con ++ List.replicate (56 - p.body.length) 0))) (hN _ 1)
 have t4 := a3.2
 rw [← t3] at t4
 change R4 s = _ at t4
 have a4 := qFJ (Sha.numB (UInt64.ofNat p.con.length) 1) (p.name ++ (p.con ++ List.replicate (56 - p.body.length) 0)) (hN _ 1)
 have t5 := a4.2
 rw [← t4] at t5
 change R5 s = _ at t5
 have a5 := qFJ p.name (p.con ++ List.replicate (56 - p.body.length) 0) h8
 have t6 := a5.2
 rw [← t5] at t6
 change R6 s = _ at t6
 have hc := h.c
 have hcn : qPk s = p.con.length := by
  unfold qPk
  rw [t4, a4.1, qJs _ 1 (by decide) (by omega)]; omega
 unfold rdp
 rw [hcn, t0, t1, t2, t3, t5, t6, a0.1, a1.1, a2.1, a3.1, a5.1, (qFJ p.con _ rfl).1, qPX _ 4 (by decide) h.t, qPX _ 2 (by decide) h.n, qJs _ 1 (by decide) h.a, qJs _ 1 (by decide) h.l, UInt64.ofNat_toNat, UInt64.ofNat_toNat]
theorem qKl {p : Prt} (h : p.ok) (h8 : p.name.length = 8) : qA4 p.text = (p, true) := by
 have e1 : p.text.take 56 = p.pad := by unfold Prt.text; rw [List.take_left' (Prt.pad_len h)]
 have e2 : p.text.drop 56 = qHM p.pad := by unfold Prt.text; rw [List.drop_left' (Prt.pad_len h)]
 unfold qA4
 rw [e1, e2, if_pos rfl, qN2 h h8 e1, decide_eq_true rfl]
theorem qDy (s : List UInt8) : (qA4 s).1.ok := by
 unfold qA4
 split
 · exact qPN s
 · exact ⟨by decide, by decide, by decide, by decide, by decide, by decide⟩
def qPM (p : Prt) (i : Nat) (y : Prt × Bool) : Prop := y.2 = true ∧ y.1.at_ = i ∧ y.1.turn.toNat = p.turn.toNat ∧ y.1.num.toNat = p.num.toNat ∧ y.1.all = p.all ∧ y.1.name = p.name
instance (p : Prt) (i : Nat) (y : Prt × Bool) : Decidable (qPM p i y) := by unfold qPM; infer_instance
def qQR (turn : UInt64) (nr n : Nat) (y : Prt × Bool) : Prop := y.2 = true ∧ y.1.at_ = 0 ∧ y.1.turn.toNat ≠ 0 ∧ y.1.num.toNat = nr ∧ y.1.all ≤ n ∧ (0 < nr → y.1.turn.toNat = turn.toNat)
instance (turn : UInt64) (nr n : Nat) (y : Prt × Bool) : Decidable (qQR turn nr n y) := by unfold qQR; infer_instance
def qE3 (l : List (List UInt8)) : Nat → List UInt8
 | 0 => []
 | k + 1 => qE3 l k ++ (qA4 (l.getD k [])).1.con
theorem qE2 (l : List (List UInt8)) : ∀ k, (qE3 l k).length ≤ 39 * k
 | 0 => Nat.le_refl _
 | k + 1 => by
  have h1 := qE2 l k
  have h2 := (qDy (l.getD k [])).c
  rw [qE3, List.length_append]; omega
structure RecR where
 turn : UInt64
 text : List UInt8
 n : Nat
 ok : Bool
def qKv : RecR := ⟨0, [], 0, false⟩
def qBi (turn : UInt64) (nr : Nat) (l : List (List UInt8)) : RecR :=
 if qQR turn nr l.length (qA4 (l.getD 0 [])) ∧ (∀ i < (qA4 (l.getD 0 [])).1.all, qPM (qA4 (l.getD 0 [])).1 i (qA4 (l.getD i []))) then
  ⟨(qA4 (l.getD 0 [])).1.turn, qE3 l (qA4 (l.getD 0 [])).1.all, (qA4 (l.getD 0 [])).1.all, decide ((qA4 (l.getD 0 [])).1.all = qBR (qE3 l (qA4 (l.getD 0 [])).1.all).length ∧ (qA4 (l.getD 0 [])).1.name = qCX (qA4 (l.getD 0 [])).1.turn (qA4 (l.getD 0 [])).1.num (qE3 l (qA4 (l.getD 0 [])).1.all))⟩
 else qKv
theorem qF8 {turn : UInt64} {nr : Nat} {l : List (List UInt8)} {p : Prt} {ok : Bool} (hp : qA4 (l.getD 0 []) = (p, ok)) (h : ¬ qQR turn nr l.length (p, ok)) : qBi turn nr l = qKv := by
 unfold qBi
 rw [hp, if_neg (fun e => h e.1)]
theorem qF7 {turn : UInt64} {nr : Nat} {l : List (List UInt8)} {p q : Prt} {ok ok2 : Bool} (hp : qA4 (l.getD 0 []) = (p, ok)) {i : Nat} (hi : i < p.all) (hq : qA4 (l.getD i []) = (q, ok2)) (h : ¬ qPM p i (q, ok2)) : qBi turn nr l = qKv := by
 unfold qBi
 rw [hp, if_neg (fun e => h (by have := e.2 i hi; rwa [hq] at this))]
theorem qPL {turn : UInt64} {nr : Nat} {l : List (List UInt8)} {p : Prt} {ok : Bool} (hp : qA4 (l.getD 0 []) = (p, ok)) (hf : qQR turn nr l.length (p, ok)) (hq : ∀ i < p.all, qPM p i (qA4 (l.getD i []))) :
    qBi turn nr l = ⟨p.turn, qE3 l p.all, p.all, decide (p.all = qBR (qE3 l p.all).length ∧ p.name = qCX p.turn p.num (qE3 l p.all))⟩ := by
  unfold qBi
  rw [hp, if_pos ⟨hf, hq⟩]
def RecR.val (r : RecR) : Value := .tuple #[W64 r.turn, Str r.text, I ((r.n : Nat) : Int), .bool r.ok]
theorem qL5 {turn : UInt64} {nr : Nat} {l : List (List UInt8)} (h : (qBi turn nr l).ok = true) : 1 ≤ (qBi turn nr l).n ∧ (qBi turn nr l).n ≤ l.length ∧ (qBi turn nr l).n ≤ 255 ∧ (qBi turn nr l).text.length ≤ 9945 := by
  unfold qBi at h ⊢
  split at h
  · rename_i hc
    rw [if_pos hc]
    dsimp only at h ⊢
    have h1 := of_decide_eq_true h
    have h2 := qF9 (qE3 l (qA4 (l.getD 0 [])).1.all).length
    have h3 := hc.1.2.2.2.2.1
    have h4 := (qDy (l.getD 0 [])).l
    have h5 := qE2 l (qA4 (l.getD 0 [])).1.all
    exact ⟨by rw [h1.1]; exact h2, h3, by omega, by omega⟩
  · cases h
end Go.Proofs.YtfldiegfenndjaaGreatDoor
