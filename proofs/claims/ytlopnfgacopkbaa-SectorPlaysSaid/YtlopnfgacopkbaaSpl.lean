/- A part of the proof: contracts of functions of the program, each for every state of the heaps that it names. -/
import Derived.Test.YtlopnfgacopkbaaSck
import Derived.SizedLaws
set_option linter.unusedSimpArgs false
set_option linter.unusedVariables false
namespace Go.Proofs.Ytlopnfgacopkbaa
open Go Go.Fw
set_option maxRecDepth 100000
set_option maxHeartbeats 1000000
theorem ent14 : Enters Try.prog 14 := Enters.of Try.func14 rfl (by kernel_rfl)
theorem ent15 : Enters Try.prog 15 := Enters.of Try.func15 rfl (by kernel_rfl)
theorem ent16 : Enters Try.prog 16 := Enters.of Try.func16 rfl (by kernel_rfl)
theorem ent17 : Enters Try.prog 17 := Enters.of Try.func17 rfl (by kernel_rfl)
theorem el3 : Elem Try.prog 3 [.int .i64 0] 8 := Elem.of (by kernel_rfl) rfl

def ords (W : List Wri) : List Int := W.map fun w => ((w.1 : Nat) : Int)
def txs (W : List Wri) : List (List UInt8) := W.map (·.2)
theorem ords_get {W : List Wri} {k : Nat} (h : k < W.length) : (intsV (ords W))[k]? = some [I (W.getD k (0, [])).1] := by
  unfold intsV ords
  rw [List.map_map, List.getElem?_map, getSome (0, []) h]; rfl
theorem txs_get {W : List Wri} {k : Nat} (h : k < W.length) : (strsV (txs W))[k]? = some [Str (W.getD k (0, [])).2] := by
  unfold strsV txs
  rw [List.map_map, List.getElem?_map, getSome (0, []) h]; rfl
theorem ords_snoc (W : List Wri) (j : Nat) (s : List UInt8) : intsV (ords (W ++ [(j, s)])) = intsV (ords W) ++ intsV [(j : Int)] := by simp [intsV, ords]
theorem txs_snoc (W : List Wri) (j : Nat) (s : List UInt8) : strsV (txs (W ++ [(j, s)])) = strsV (txs W) ++ strsV [s] := by simp [strsV, txs]
theorem tmod_bounds9 (i : Int) {n : Nat} (h : 0 < n) : -(n : Int) < i.tmod n ∧ i.tmod n < n := ⟨Int.lt_tmod_of_pos _ (by omega), Int.tmod_lt_of_pos _ (by omega)⟩
/-- what the disk says now of each of its six sectors -/
def held (d : Dk) : List (List UInt8) := (List.range 6).map d.now
theorem held_len (d : Dk) : (held d).length = 6 := by unfold held; rw [List.length_map, List.length_range]
theorem held_getD (d : Dk) {j : Nat} (h : j < 6) : (held d).getD j [] = d.now j := by
  unfold held
  rw [List.getD_eq_getElem?_getD, List.getElem?_map, List.getElem?_range h]; rfl
theorem held_ext {d : Dk} {l : List (List UInt8)} (hl : l.length = 6) (h : ∀ j, j < 6 → l.getD j [] = d.now j) : l = held d := by
  apply List.ext_getElem?
  intro j
  by_cases hj : j < 6
  · rw [getSome [] (show j < l.length by omega), getSome [] (show j < (held d).length by rw [held_len]; exact hj), h j hj, held_getD d hj]
  · rw [List.getElem?_eq_none (by omega), List.getElem?_eq_none (by rw [held_len]; omega)]
theorem held_nil {d : Dk} (h6 : d.last.length = 6) (h : d.wait = []) : d.last = held d := held_ext h6 fun j hj => by
  unfold Dk.now
  rw [h]
  show _ = (seek [] j 0).getD _
  rw [seek_zero]; rfl
def fz (d : Dk) : Int := if d.armed = true then d.fuse else -1
def bf (d : Dk) : Int := if d.armed = true then d.fuse - 1 else d.fuse
def dead (d : Dk) : Dk := ⟨cutL d.last d.wait d.keep d.wait.length, [], true, false, d.fuse - 1, d.keep⟩
def dsy (d : Dk) : Dk := ⟨held d, [], d.off, d.armed, bf d, d.keep⟩
def dwr (d : Dk) (j : Nat) (u : List UInt8) : Dk := ⟨d.last, d.wait ++ [(j, full u)], d.off, d.armed, bf d, d.keep⟩
theorem fz_ge {d : Dk} (h : d.ok) : -1 ≤ fz d ∧ fz d ≤ 9223372036854775807 := by
  unfold fz
  split
  · exact ⟨by have := h.fz (by assumption); omega, h.fb.2⟩
  · omega
theorem fz_burns {d : Dk} (h : d.ok) : d.burns ↔ fz d = 0 := by
  unfold Dk.burns fz
  by_cases ha : d.armed = true
  · rw [if_pos ha]
    have := h.fz ha
    exact ⟨fun e => by have := e.2; omega, fun e => ⟨ha, by omega⟩⟩
  · rw [if_neg ha]
    exact ⟨fun e => absurd e.1 ha, fun e => by omega⟩
theorem burn_dead {d : Dk} (h : d.burns) : d.burn = dead d := by
  unfold Dk.burn
  rw [if_pos h.1, if_pos h.2]; rfl
theorem burn_bf {d : Dk} (h : ¬ d.burns) : d.burn = ⟨d.last, d.wait, d.off, d.armed, bf d, d.keep⟩ := by
  unfold Dk.burn bf
  by_cases ha : d.armed = true
  · rw [if_pos ha, if_neg (fun e => h ⟨ha, e⟩), if_pos ha]
  · rw [if_neg ha, if_neg ha]
theorem fz_bf {d : Dk} (h : d.ok) (hn : fz d ≠ 0) (x : Dk) (hx : x.armed = d.armed) (hf : x.fuse = bf d) : fz x = max (fz d - 1) (-1) := by
  unfold fz at hn ⊢
  rw [hx, hf]
  unfold bf
  by_cases ha : d.armed = true
  · rw [if_pos ha] at hn
    rw [if_pos ha, if_pos ha, if_pos ha]
    have := h.fz ha
    omega
  · rw [if_neg ha, if_neg ha]; decide
theorem rdy_off {d : Dk} (h : d.off = true) (i : Int) : d.ready i = 8 := by unfold Dk.ready; rw [if_pos h]
theorem rdy_out {d : Dk} (h6 : d.last.length = 6) (h : ¬ d.off = true) {i : Int} (hi : ¬ (0 ≤ i ∧ i < 6)) : d.ready i = 10 := by unfold Dk.ready; rw [if_neg h, h6, if_pos (by omega)]
theorem rdy_in {d : Dk} (h6 : d.last.length = 6) (h : ¬ d.off = true) {i : Int} (hi : 0 ≤ i ∧ i < 6) : d.ready i = 0 := by unfold Dk.ready; rw [if_neg h, h6, if_neg (by omega)]
theorem rdy_zero {d : Dk} (h6 : d.last.length = 6) {i : Int} (h : d.ready i = 0) : 0 ≤ i ∧ i < 6 := by
  have := ready_in h
  rw [h6] at this
  omega
theorem read_no {d : Dk} {i : Int} (h : ¬ d.ready i = 0) : d.read i = [] := if_neg h
theorem wr_rdy {d : Dk} {i : Int} {s : List UInt8} (h : d.ready i ≠ 0) : d.write i s = d ∧ d.wErr i s = d.ready i := by
  unfold Dk.write Dk.wErr
  rw [if_pos h, if_pos h]; exact ⟨rfl, rfl⟩
theorem wr_off {d : Dk} (h : d.off = true) (i : Int) (s : List UInt8) : d.write i s = d ∧ d.wErr i s = 8 := by
  have := wr_rdy (d := d) (i := i) (s := s) (by rw [rdy_off h]; decide)
  rw [rdy_off h] at this; exact this
theorem wr_out {d : Dk} (h6 : d.last.length = 6) (h : ¬ d.off = true) {i : Int} (hi : ¬ (0 ≤ i ∧ i < 6)) (s : List UInt8) : d.write i s = d ∧ d.wErr i s = 10 := by
  have := wr_rdy (d := d) (i := i) (s := s) (by rw [rdy_out h6 h hi]; decide)
  rw [rdy_out h6 h hi] at this; exact this
theorem wr_long {d : Dk} (h6 : d.last.length = 6) (h : ¬ d.off = true) {i : Int} (hi : 0 ≤ i ∧ i < 6) {s : List UInt8} (hs : 64 < s.length) : d.write i s = d ∧ d.wErr i s = 2 := by
  have h0 := rdy_in h6 h hi
  unfold Dk.write Dk.wErr
  rw [if_neg (by omega), if_pos hs, if_neg (by omega), if_pos hs]; exact ⟨rfl, rfl⟩
theorem wr_dead {d : Dk} (h6 : d.last.length = 6) (hok : d.ok) (h : ¬ d.off = true) {i : Int} (hi : 0 ≤ i ∧ i < 6) {s : List UInt8} (hs : ¬ 64 < s.length) (hz : fz d = 0) : d.write i s = dead d ∧ d.wErr i s = 8 := by
  have h0 := rdy_in h6 h hi
  have hb := (fz_burns hok).2 hz
  unfold Dk.write Dk.wErr
  rw [if_neg (by omega), if_neg hs, if_pos hb, if_neg (by omega), if_neg hs, if_pos hb]; exact ⟨burn_dead hb, rfl⟩
theorem wr_ok {d : Dk} (h6 : d.last.length = 6) (hok : d.ok) (h : ¬ d.off = true) {j : Nat} (hj : j < 6) {s : List UInt8} (hs : ¬ 64 < s.length) (hz : ¬ fz d = 0) : d.write (j : Int) s = dwr d j s ∧ d.wErr (j : Int) s = 0 := by
  have hb : ¬ d.burns := fun e => hz ((fz_burns hok).1 e)
  have := write_in (s := s) (rdy_in h6 h (i := (j : Int)) (by omega)) (by omega) hb
  rw [burn_bf hb] at this
  exact this
theorem held_wr {d : Dk} {j : Nat} (hj : j < 6) (s : List UInt8) : (held d).set j (full s) = held (dwr d j s) := held_ext (by rw [List.length_set, held_len]) fun i hi => by
  show _ = (seek (d.wait ++ [(j, full s)]) i (d.wait ++ [(j, full s)]).length).getD (d.last.getD i [])
  rw [seek_snoc]
  by_cases hij : j = i
  · subst hij
    rw [if_pos rfl, List.getD_eq_getElem?_getD, List.getElem?_set_self (by rw [held_len]; exact hj)]; rfl
  · rw [if_neg hij, List.getD_eq_getElem?_getD, List.getElem?_set_ne hij, ← List.getD_eq_getElem?_getD, held_getD d hi]; rfl
theorem sync_seek {L : List (List UInt8)} (hL : ∀ s ∈ L, s.length = 64) (W : List Wri) (hW : ∀ w ∈ W, w.1 < L.length ∧ w.2.length = 64) (j : Nat) (hj : j < L.length) : ∀ k, k ≤ W.length → (syncL L W k).getD j [] = (seek W j k).getD (L.getD j []) ∧ ∀ s ∈ syncL L W k, s.length = 64
  | 0, _ => ⟨by rw [seek_zero]; rfl, hL⟩
  | k + 1, hk => by
    obtain ⟨h1, h2⟩ := sync_seek hL W hW j hj k (by omega)
    have hw := getW hW (show k < W.length by omega)
    have hl := syncL_len L W k
    rw [syncL, seek_succ]
    refine ⟨?_, lastW_64 h2 (by rw [hl]; exact hw) (Nat.le_refl _)⟩
    unfold lastW
    by_cases he : (W.getD k (0, [])).1 = j
    · rw [if_pos he, he, List.getD_eq_getElem?_getD, List.getElem?_set_self (by rw [hl]; exact hj)]
      exact tear_all (get64 h2 (by rw [hl]; exact hj)) hw.2
    · rw [if_neg he, List.getD_eq_getElem?_getD, List.getElem?_set_ne he, ← List.getD_eq_getElem?_getD, h1]
theorem sync_held {d : Dk} (h6 : d.last.length = 6) (hok : d.ok) : syncL d.last d.wait d.wait.length = held d := held_ext (by rw [syncL_len]; exact h6) fun j hj =>
  (sync_seek hok.l64 d.wait hok.w64 j (by omega) _ (Nat.le_refl _)).1
theorem sy_off {d : Dk} (h : d.off = true) : d.sync = d ∧ d.sErr = 8 := by
  have h0 : d.ready 0 ≠ 0 := by rw [rdy_off h]; decide
  unfold Dk.sync Dk.sErr
  rw [if_pos h0, if_pos h0, rdy_off h]; exact ⟨rfl, rfl⟩
theorem sy_dead {d : Dk} (h6 : d.last.length = 6) (hok : d.ok) (h : ¬ d.off = true) (hz : fz d = 0) : d.sync = dead d ∧ d.sErr = 8 := by
  have h0 := rdy_in h6 h (i := 0) (by omega)
  have hb := (fz_burns hok).2 hz
  unfold Dk.sync Dk.sErr
  rw [if_neg (by omega), if_pos hb, if_neg (by omega), if_pos hb]; exact ⟨burn_dead hb, rfl⟩
theorem sy_ok {d : Dk} (h6 : d.last.length = 6) (hok : d.ok) (h : ¬ d.off = true) (hz : ¬ fz d = 0) : d.sync = dsy d ∧ d.sErr = 0 := by
  have h0 := rdy_in h6 h (i := 0) (by omega)
  have hb : ¬ d.burns := fun e => hz ((fz_burns hok).1 e)
  unfold Dk.sync Dk.sErr
  rw [if_neg (by omega), if_neg hb, if_neg (by omega), if_neg hb, burn_bf hb]
  refine ⟨?_, rfl⟩
  show (⟨syncL d.last d.wait d.wait.length, [], d.off, d.armed, bf d, d.keep⟩ : Dk) = dsy d
  rw [sync_held h6 hok]; rfl
theorem held_sy (d : Dk) : held d = held (dsy d) := held_nil (d := dsy d) (held_len d) rfl
structure P9 where
  d : Dk
  g : Nat
  m : Hp
  C : Option Addr
  f : Nat
  mK : Hp
  mO : Hp
  AO : Option Addr
  cO : Nat
  mT : Hp
  AT : Option Addr
  cT : Nat
  E : Option Addr
  q : Nat
  K : List UInt8
structure Inv9 (F : Hp) (k : Nat) (x : P9) : Prop where
  dk : Dsk x.m x.g x.d x.C x.f
  ok : x.d.ok
  l6 : x.d.last.length = 6
  wk : x.d.wait.length ≤ k
  sK : Sl x.mK 1 x.C x.d.keep.length x.f (bytesV x.d.keep)
  nK : x.d.keep.length ≤ 9223372036854775807
  rO : Row x.mO 3 1 x.AO x.d.wait.length x.cO (intsV (ords x.d.wait))
  rT : Row x.mT 9 1 x.AT x.d.wait.length x.cT (strsV (txs x.d.wait))
  sE : Sl F 1 x.E x.K.length x.q (bytesV x.K)
  nE : x.K.length ≤ 9223372036854775807
  kK : x.d.armed = true → x.d.keep = x.K
theorem Inv9.same {F : Hp} {k : Nat} {x : P9} (h : Inv9 F k x) {d : Dk} (hd : d = x.d) {g : Nat} {m : Hp} (hm : Dsk m g d x.C x.f) : Inv9 F (k + 1) { x with g := g, m := m } := by
  subst hd
  exact ⟨hm, h.ok, h.l6, Nat.le_succ_of_le h.wk, h.sK, h.nK, h.rO, h.rT, h.sE, h.nE, h.kK⟩
def P9.gone (x : P9) (d : Dk) (m : Hp) : P9 := { x with d := d, m := m, mO := fun _ => none, AO := none, cO := 0, mT := fun _ => none, AT := none, cT := 0 }
theorem Inv9.gone {F : Hp} {k : Nat} {x : P9} (h : Inv9 F k x) {d d' : Dk} (hd : d' = d) {m : Hp} (hm : Dsk m x.g d' x.C x.f) (hok : d'.ok) (h6 : d.last.length = 6) (hw : d.wait = []) (hk : d.keep = x.d.keep) (ha : d.armed = true → x.d.armed = true) : Inv9 F (k + 1) (x.gone d m) := by
  subst hd
  refine ⟨hm, hok, h6, by show d'.wait.length ≤ _; rw [hw]; exact Nat.zero_le _, by show Sl x.mK 1 x.C d'.keep.length x.f (bytesV d'.keep); rw [hk]; exact h.sK, by show d'.keep.length ≤ _; rw [hk]; exact h.nK, ?_, ?_, h.sE, h.nE, fun e => hk.trans (h.kK (ha e))⟩
  · show Row (fun _ => none) 3 1 none d'.wait.length 0 (intsV (ords d'.wait))
    rw [hw]; exact RowQ.nil
  · show Row (fun _ => none) 9 1 none d'.wait.length 0 (strsV (txs d'.wait))
    rw [hw]; exact RowQ.nil
theorem dead_ok {d : Dk} (h : d.ok) (hb : d.burns) : (dead d).ok := burn_dead hb ▸ h.burn
theorem dead_l6 {d : Dk} (h6 : d.last.length = 6) : (dead d).last.length = 6 := by show (cutL _ _ _ _).length = 6; rw [cutL_len9]; exact h6
theorem Inv9.wrote {F : Hp} {k : Nat} {x : P9} (h : Inv9 F k x) {d : Dk} {j : Nat} {u : List UInt8} (hd : d = dwr x.d j u) {m : Hp} (hm : Dsk m x.g d x.C x.f) (hok : d.ok) {mO mT : Hp} {AO AT : Option Addr} {cO cT : Nat}
    (hO : Row mO 3 1 AO (x.d.wait.length + 1) cO (intsV (ords x.d.wait) ++ intsV [(j : Int)])) (hT : Row mT 9 1 AT (x.d.wait.length + 1) cT (strsV (txs x.d.wait) ++ strsV [full u])) :
    Inv9 F (k + 1) { x with d := dwr x.d j u, m := m, mO := mO, AO := AO, cO := cO, mT := mT, AT := AT, cT := cT } := by
  subst hd
  have e : (dwr x.d j u).wait.length = x.d.wait.length + 1 := by show (x.d.wait ++ [_]).length = _; rw [List.length_append]; rfl
  refine ⟨hm, hok, h.l6, by show (dwr x.d j u).wait.length ≤ _; rw [e]; exact Nat.succ_le_succ h.wk, h.sK, h.nK, ?_, ?_, h.sE, h.nE, h.kK⟩
  · show Row mO 3 1 AO (dwr x.d j u).wait.length cO (intsV (ords (x.d.wait ++ [(j, full u)])))
    rw [e, ords_snoc]; exact hO
  · show Row mT 9 1 AT (dwr x.d j u).wait.length cT (strsV (txs (x.d.wait ++ [(j, full u)])))
    rw [e, txs_snoc]; exact hT
theorem Inv9.fused {F : Hp} {k : Nat} {x : P9} (h : Inv9 F k x) {n : Int} (hn : -9223372036854775808 ≤ n ∧ n ≤ 9223372036854775807) {K : List UInt8} {E : Option Addr} {q : Nat} (hE : Sl F 1 E K.length q (bytesV K)) (hK : K.length ≤ 140737488351232) {m mK : Hp} {C : Option Addr} {f : Nat} (hm : Dsk m x.g (x.d.setFuse n K) C f) (hr : Row mK 5 1 C K.length f (bytesV K)) :
    Inv9 F (k + 1) { x with d := x.d.setFuse n K, m := m, C := C, f := f, mK := mK, E := E, q := q, K := K } :=
  ⟨hm, h.ok.setFuse n hn K, h.l6, Nat.le_succ_of_le h.wk, hr.sl, Nat.le_trans hK (by decide), h.rO, h.rT, hE, Nat.le_trans hK (by decide), fun _ => rfl⟩
theorem Inv9.started {F : Hp} {k : Nat} {x : P9} (h : Inv9 F k x) {m : Hp} (hm : Dsk m x.g x.d.start x.C x.f) : Inv9 F (k + 1) { x with d := x.d.start, m := m } :=
  ⟨hm, h.ok.start, h.l6, Nat.le_succ_of_le h.wk, h.sK, h.nK, h.rO, h.rT, h.sE, h.nE, h.kK⟩
theorem Inv9.up {F : Hp} {k : Nat} {x : P9} (h : Inv9 F k x) : Inv9 F (k + 1) x := ⟨h.dk, h.ok, h.l6, Nat.le_succ_of_le h.wk, h.sK, h.nK, h.rO, h.rT, h.sE, h.nE, h.kK⟩
theorem rep_get9 {n k : Nat} (a b c : List UInt8) : (List.replicate (k + 1) a ++ List.replicate (n - (k + 1)) b).getD k c = a := by
  rw [List.getD_eq_getElem?_getD, List.getElem?_append_left (by rw [List.length_replicate]; omega), List.getElem?_replicate, if_pos (by omega)]; rfl
theorem held_new : List.replicate 6 (full []) ++ List.replicate (6 - 6) [] = held (Dk.new 6) := by decide +kernel
theorem last_new : List.replicate 6 (full []) ++ List.replicate (6 - 6) [] = (Dk.new 6).last := by decide +kernel

theorem cut_done (L : List (List UInt8)) (W : List Wri) (K : List UInt8) {k : Nat} (hK : K.length ≤ k) : ∀ n, k ≤ n → cutL L W K n = cutL L W K k
  | 0, h => by rw [show k = 0 by omega]
  | n + 1, h => by
    by_cases e : k = n + 1
    · rw [e]
    · rw [cutL, if_neg (by omega)]; exact cut_done L W K hK n (by omega)
theorem held_cut {d : Dk} (h6 : d.last.length = 6) (K : List UInt8) : held (d.cut K) = (d.cut K).last := (held_nil (d := d.cut K) (by show (cutL _ _ _ _).length = 6; rw [cutL_len9]; exact h6) rfl).symm
theorem held_dead {d : Dk} (h6 : d.last.length = 6) : held (dead d) = (dead d).last := (held_nil (d := dead d) (dead_l6 h6) rfl).symm

theorem cutc_ct (F : Hp) (g8 g6 g9 g5 g10 g11 : Nat) (L : List (List UInt8)) (hL6 : L.length = 6) (hL : ∀ s ∈ L, s.length = 64) (W : List Wri) (hW : ∀ w ∈ W, w.1 < L.length ∧ w.2.length = 64) (hWn : W.length ≤ 1000) (AO : Option Addr) (cO : Nat) (AT : Option Addr) (cT : Nat) (hO : Sl F 1 AO W.length cO (intsV (ords W))) (hT : Sl F 1 AT W.length cT (strsV (txs W))) (H : List (List UInt8)) (hH : H.length = 6) (o : Bool) (z : Int) (E : Option Addr) (q : Nat) (K : List UInt8) (hK : Sl F 1 E K.length q (bytesV K)) (hKn : K.length ≤ 9223372036854775807) (L' H' : List (List UInt8)) (hL' : L' = cutL L W K W.length) (hH' : H' = L') :
    Ct Try.prog 14 [.slice E K.length q, Ptr g8, Ptr g6, Ptr g9, Ptr g5, Ptr g10, Ptr g11] [blk g8 [.slice AO W.length cO] 42, blk g6 (L.map Str) 41, blk g9 [.slice AT W.length cT] 35, blk g5 (H.map Str) 41, blk g10 [.bool o] 4, blk g11 [I z] 3, F] (fun _ : Unit => .tuple #[]) (fun _ => True) (fun _ => [blk g8 [.slice none 0 0] 42, blk g6 (L'.map Str) 41, blk g9 [.slice none 0 0] 35, blk g5 (H'.map Str) 41, blk g10 [.bool true] 4, blk g11 [I (-1)] 3, F]) := by
  refine Ct.walk Try.func14 rfl Try.ntmps14 rfl (fun w0 hw0 => ?_)
  change J _ [(0, _), (1, _), (2, _), (3, _), (4, _), (5, _), (6, _)] _ _ _
  refine J.cut (fun _ : Unit => [(1, Ptr g8), (2, Ptr g6), (3, Ptr g9), (4, Ptr g5), (5, Ptr g10), (6, Ptr g11)]) (fun _ => [blk g8 [.slice AO W.length cO] 42, blk g6 (L'.map Str) 41, blk g9 [.slice AT W.length cT] 35, blk g5 (H.map Str) 41, blk g10 [.bool o] 4, blk g11 [I z] 3, F]) (fun _ => True) (fun K1 hK1 => ?_) ?_
  ·
    refine J.seq (fun K2 hK2 => ?_)
    refine J.region ?_
    refine J.y (op_assign rfl rfl) rfl rfl rfl ?_
    refine J.nil ?_
    refine J.then_n (J.k hK2 ?_)
    refine J.keepE [(0, _), (1, _), (2, _), (3, _), (4, _), (5, _), (6, _), (8, _)] ⟨rfl, rfl, rfl, rfl, rfl, rfl, rfl, rfl, trivial⟩ ?_
    refine J.block ?_
    refine J.loop (X := Nat) (fun k => [(0, .slice E K.length q), (1, Ptr g8), (2, Ptr g6), (3, Ptr g9), (4, Ptr g5), (5, Ptr g10), (6, Ptr g11), (8, I k)]) (fun k => [blk g8 [.slice AO W.length cO] 42, blk g6 ((cutL L W K k).map Str) 41, blk g9 [.slice AT W.length cT] 35, blk g5 (H.map Str) 41, blk g10 [.bool o] 4, blk g11 [I z] 3, F]) (fun k => k ≤ W.length ∧ k ≤ K.length) (fun k => W.length - k) 0 (⟨Nat.zero_le _, Nat.zero_le _⟩) ⟨rfl, rfl, rfl, rfl, rfl, rfl, rfl, rfl, trivial⟩ (fun _ h => h) ?_
    rintro k ⟨hk1, hk2⟩ I0 hI0
    refine J.seq (fun K3 hK3 => ?_)
    refine J.seq (fun K4 hK4 => ?_)
    refine J.region ?_
    refine J.y (op_move rfl rfl) rfl rfl rfl ?_
    refine J.y (op_loadB 0 rfl rfl rfl Try.isAgg42 rfl) rfl rfl rfl ?_
    refine J.y (op_len Try.underlying42 rfl rfl) rfl rfl rfl ?_
    refine J.y (op_lss rfl rfl rfl) rfl rfl rfl ?_
    refine J.y (op_move rfl rfl) rfl rfl rfl ?_
    refine J.split (d := 13) rfl (fun h13 => ?_) (fun h13 => ?_)
    ·
      refine J.yg (Wan.is rfl rfl rfl rfl rfl) (op_move rfl rfl) rfl rfl ?_
      refine J.yg (Wan.is rfl rfl rfl rfl rfl) (op_move rfl rfl) rfl rfl ?_
      refine J.yg (Wan.is rfl rfl rfl rfl rfl) (op_len Try.underlying23 rfl rfl) rfl rfl ?_
      refine J.yg (Wan.is rfl rfl rfl rfl rfl) (op_lss rfl rfl rfl) rfl rfl ?_
      refine J.y (op_pickT rfl rfl rfl) rfl rfl rfl ?_
      refine J.nil ?_
      refine J.then_n (J.k hK4 ?_)
      refine J.keepE [(0, _), (1, _), (2, _), (3, _), (4, _), (5, _), (6, _), (8, _), (18, _)] ⟨rfl, rfl, rfl, rfl, rfl, rfl, rfl, rfl, rfl, trivial⟩ ?_
      refine J.ite rfl (fun h18 => ?_) (fun h18 => ?_)
      ·
        refine J.skip ?_
        refine J.then_n (J.k hK3 ?_)
        refine J.keepE [(0, _), (1, _), (2, _), (3, _), (4, _), (5, _), (6, _), (8, _)] ⟨rfl, rfl, rfl, rfl, rfl, rfl, rfl, rfl, trivial⟩ ?_
        refine J.seq (fun K5 hK5 => ?_)
        refine J.block ?_
        have hkW : k < W.length := by omega
        have hkK : k < K.length := by omega
        have hw := getW hW hkW
        rw [hL6] at hw
        refine J.draw [blk g8 [.slice AO W.length cO] 42, blk g6 ((cutL L W K k).map Str) 41, blk g9 [.slice AT W.length cT] 35, blk g5 (H.map Str) 41, blk g10 [.bool o] 4, blk g11 [I z] 3, F] [21] (.y 0 (.y 1 (.y 2 (.y 3 (.y 4 (.y 5 (.y 6 (.y 7 (.y 8 (.y 9 (.y 10 (.y 11 (.y 12 (.y 13 (.y 14 (.y 15 (.y 16 (.y 17 (.y 18 (.e 19 (.y 20 (.e 21 .nil)))))))))))))))))))))) Try.wide (by decide +kernel) (by simp) ?_
        refine J.dy rfl (op_loadB 0 rfl rfl rfl Try.isAgg42 rfl) rfl rfl rfl rfl ?_
        refine J.dy rfl (op_move rfl rfl) rfl rfl rfl rfl ?_
        refine J.dy rfl (op_indexAddr (i := k) rfl rfl rfl Try.underlying42 Try.sizeOf3 hO (by omega)) rfl rfl rfl rfl ?_
        refine J.dy rfl (op_load rfl rfl Try.isAgg3 (m := F) (by simp) (hO.elem (ords_get hkW))) rfl rfl rfl rfl ?_
        refine J.dy rfl (op_loadB 0 rfl rfl rfl Try.isAgg42 rfl) rfl rfl rfl rfl ?_
        refine J.dy rfl (op_move rfl rfl) rfl rfl rfl rfl ?_
        refine J.dy rfl (op_indexAddr (i := k) rfl rfl rfl Try.underlying42 Try.sizeOf3 hO (by omega)) rfl rfl rfl rfl ?_
        refine J.dy rfl (op_load rfl rfl Try.isAgg3 (m := F) (by simp) (hO.elem (ords_get hkW))) rfl rfl rfl rfl ?_
        refine J.dy rfl (op_indexAddrJ (i := (W.getD k (0, [])).1) (j := (W.getD k (0, [])).1) rfl rfl rfl Try.underlying41 Try.sizeOf9 hw.1 (by omega)) rfl rfl rfl rfl ?_
        refine J.dy rfl (op_loadB 1 rfl rfl rfl Try.isAgg9 (getMap (f := Str) [] (show (W.getD k (0, [])).1 < (cutL L W K k).length by rw [cutL_len9, hL6]; exact hw.1))) rfl rfl rfl rfl ?_
        refine J.dy rfl (op_loadB 2 rfl rfl rfl Try.isAgg35 rfl) rfl rfl rfl rfl ?_
        refine J.dy rfl (op_move rfl rfl) rfl rfl rfl rfl ?_
        refine J.dy rfl (op_indexAddr (i := k) rfl rfl rfl Try.underlying35 Try.sizeOf9 hT (by omega)) rfl rfl rfl rfl ?_
        refine J.dy rfl (op_load rfl rfl Try.isAgg9 (m := F) (by simp) (hT.elem (txs_get hkW))) rfl rfl rfl rfl ?_
        refine J.dy rfl (op_move rfl rfl) rfl rfl rfl rfl ?_
        refine J.dy rfl (op_move rfl rfl) rfl rfl rfl rfl ?_
        refine J.dy rfl (op_indexAddr (i := k) rfl rfl rfl Try.underlying23 Try.sizeOf5 hK (by omega)) rfl rfl rfl rfl ?_
        refine J.dy rfl (op_load rfl rfl Try.isAgg5 (m := F) (by simp) (hK.elem (bytesV_get (getSome 0 hkK)))) rfl rfl rfl rfl ?_
        refine J.dy rfl (op_cv_u8_i64 rfl rfl Try.underlying5 Try.underlying3) rfl rfl rfl rfl ?_
        refine J.de rfl (op_call rfl rfl ent15 (Ct.use0 (fun F' hF => torn_ct F' _ _ _ (get64 (cutL_64 hL hW k (Nat.le_of_lt hkW)) (by rw [cutL_len9, hL6]; exact hw.1)) hw.2))) rfl rfl rfl (by simp) ?_
        intro g40 _
        refine J.dy rfl (op_indexAddrJ (i := (W.getD k (0, [])).1) (j := (W.getD k (0, [])).1) rfl rfl rfl Try.underlying41 Try.sizeOf9 hw.1 (by omega)) rfl rfl rfl rfl ?_
        refine J.ds rfl (op_store (i := 1) (vs := [Str (tear (((cutL L W K k)).getD (W.getD k (0, [])).1 []) (W.getD k (0, [])).2 (min (K.getD k 0).toNat 64))]) rfl rfl rfl rfl rfl Try.sizeOf9 rfl (by rw [List.length_map, cutL_len9, hL6]; exact hw.1)) rfl rfl rfl (fun _ _ => ?_)
        change J _ _ _ [blk g8 [.slice AO W.length cO] 42, blk g6 (setAt ((cutL L W K k).map Str) (W.getD k (0, [])).1 [Str (tear (((cutL L W K k)).getD (W.getD k (0, [])).1 []) (W.getD k (0, [])).2 (min (K.getD k 0).toNat 64))]) 41, blk g9 [.slice AT W.length cT] 35, blk g5 (H.map Str) 41, blk g10 [.bool o] 4, blk g11 [I z] 3, F] _
        refine J.dnil ?_
        refine J.blk_n ?_
        refine J.then_n (J.k hK5 ?_)
        refine J.keepE [(0, _), (1, _), (2, _), (3, _), (4, _), (5, _), (6, _), (8, _)] ⟨rfl, rfl, rfl, rfl, rfl, rfl, rfl, rfl, trivial⟩ ?_
        refine J.region ?_
        refine J.y (op_move rfl rfl) rfl rfl rfl ?_
        refine J.y ((op_add rfl rfl rfl (by first | omega | (refine ⟨?_, ?_⟩ <;> omega))).as (v' := I ((k + 1 : Nat) : Int)) (congrArg I (by omega))) rfl rfl rfl ?_
        refine J.y (op_assign rfl rfl) rfl rfl rfl ?_
        refine J.nil ?_
        refine J.then_n ?_
        exact J.kk (k + 1) (fun y (hy : (_ ∧ _) ∧ W.length - y < W.length - k) => hI0 y hy.1 hy.2) ⟨⟨by omega, by omega⟩, by omega⟩ ⟨rfl, rfl, rfl, rfl, rfl, rfl, rfl, rfl, trivial⟩ (fun _ h => by rw [setAt_map Str _ _ _ (by rw [cutL_len9, hL6]; exact hw.1)] at h; rw [show cutL L W K (k + 1) = (cutL L W K k).set (W.getD k (0, [])).1 (tear (((cutL L W K k)).getD (W.getD k (0, [])).1 []) (W.getD k (0, [])).2 (min (K.getD k 0).toNat 64)) from by rw [cutL, if_pos hkK]; rfl]; exact h)
      ·
        refine J.exit ?_
        refine J.then_x ?_
        refine J.then_x ?_
        refine J.blk_eq ?_
        refine J.then_n ?_
        exact J.kk () hK1 trivial ⟨rfl, rfl, rfl, rfl, rfl, rfl, trivial⟩ (fun _ h => by rw [show (cutL L W K k) = L' from by rw [hL', cut_done L W K (k := k) (by omega) W.length (by omega)]] at h; exact h)
    ·
      refine J.no (Wan.is rfl rfl rfl rfl rfl) rfl rfl ?_
      refine J.no (Wan.is rfl rfl rfl rfl rfl) rfl rfl ?_
      refine J.no (Wan.is rfl rfl rfl rfl rfl) rfl rfl ?_
      refine J.no (Wan.is rfl rfl rfl rfl rfl) rfl rfl ?_
      refine J.y (op_pickF rfl rfl rfl) rfl rfl rfl ?_
      refine J.nil ?_
      refine J.then_n (J.k hK4 ?_)
      refine J.keepE [(0, _), (1, _), (2, _), (3, _), (4, _), (5, _), (6, _), (8, _), (18, _)] ⟨rfl, rfl, rfl, rfl, rfl, rfl, rfl, rfl, rfl, trivial⟩ ?_
      refine J.condF rfl rfl ?_
      refine J.exit ?_
      refine J.then_x ?_
      refine J.then_x ?_
      refine J.blk_eq ?_
      refine J.then_n ?_
      exact J.kk () hK1 trivial ⟨rfl, rfl, rfl, rfl, rfl, rfl, trivial⟩ (fun _ h => by rw [show (cutL L W K k) = L' from by rw [hL', show k = W.length by omega]] at h; exact h)
  rintro _ _
  refine J.region ?_
  refine J.y ((op_loadBA 1 rfl rfl rfl Try.isAgg41 Try.sizeOf41 (by rw [List.length_map, hL', cutL_len9, hL6])).as (v' := .agg (H'.map Str).toArray) (by rw [hH'])) rfl rfl rfl ?_
  refine J.s (op_storeAll (l := H.map Str) (i := 3) (vs := H'.map Str) rfl rfl rfl rfl rfl (fun w => by rw [List.length_map, hH', hL', cutL_len9, hL6]; exact Try.sizeOf41 w) (by simp [Value.oneCell']) (by rw [List.length_map, hH', hL', cutL_len9, hL6, List.length_map, hH])) rfl rfl (fun _ _ => ?_)
  change J _ _ _ [blk g8 [.slice AO W.length cO] 42, blk g6 (L'.map Str) 41, blk g9 [.slice AT W.length cT] 35, blk g5 (H'.map Str) 41, blk g10 [.bool o] 4, blk g11 [I z] 3, F] _
  refine J.s (op_store (i := 0) (vs := [.slice none 0 0]) rfl rfl rfl rfl rfl Try.sizeOf42 rfl (by simp)) rfl rfl (fun _ _ => ?_)
  change J _ _ _ [blk g8 [.slice none 0 0] 42, blk g6 (L'.map Str) 41, blk g9 [.slice AT W.length cT] 35, blk g5 (H'.map Str) 41, blk g10 [.bool o] 4, blk g11 [I z] 3, F] _
  refine J.s (op_store (i := 2) (vs := [.slice none 0 0]) rfl rfl rfl rfl rfl Try.sizeOf35 rfl (by simp)) rfl rfl (fun _ _ => ?_)
  change J _ _ _ [blk g8 [.slice none 0 0] 42, blk g6 (L'.map Str) 41, blk g9 [.slice none 0 0] 35, blk g5 (H'.map Str) 41, blk g10 [.bool o] 4, blk g11 [I z] 3, F] _
  refine J.s (op_store (i := 4) (vs := [.bool true]) rfl rfl rfl rfl rfl Try.sizeOf4 rfl (by simp)) rfl rfl (fun _ _ => ?_)
  change J _ _ _ [blk g8 [.slice none 0 0] 42, blk g6 (L'.map Str) 41, blk g9 [.slice none 0 0] 35, blk g5 (H'.map Str) 41, blk g10 [.bool true] 4, blk g11 [I z] 3, F] _
  refine J.s (op_store (i := 5) (vs := [I (-1)]) rfl rfl rfl rfl rfl Try.sizeOf3 rfl (by simp)) rfl rfl (fun _ _ => ?_)
  change J _ _ _ [blk g8 [.slice none 0 0] 42, blk g6 (L'.map Str) 41, blk g9 [.slice none 0 0] 35, blk g5 (H'.map Str) 41, blk g10 [.bool true] 4, blk g11 [I (-1)] 3, F] _
  refine J.nil ?_
  exact J.fin hw0 (fun _ _ h => h) (res0 rfl) (retOk () rfl trivial [0, 1, 2, 3, 4, 5, 6] rfl (by decide))

theorem not_not9 {p : Prop} (h : ¬ ¬ p) : p := Classical.not_not.1 h
theorem fz_set (d : Dk) (n : Int) (K : List UInt8) : max n (-1) = fz (d.setFuse n K) := by
  unfold fz Dk.setFuse
  by_cases h : 0 ≤ n
  · rw [if_pos (decide_eq_true h)]; show max n (-1) = n; omega
  · rw [if_neg (by simpa using h)]; omega
theorem st6_ready {d : Dk} (h6 : d.last.length = 6) {i : Nat} (hi : i < 6) : d.start.ready (i : Int) = 0 := rdy_in (d := d.start) h6 (by show ¬ false = true; decide) ⟨by omega, by omega⟩
theorem st6_read {d : Dk} (h6 : d.last.length = 6) {i : Nat} (hi : i < 6) : d.start.read (i : Int) = d.now i := read_in (st6_ready h6 hi)

theorem sectorPlays_ct (F : Hp) (A : Option Addr) (c : Nat) (l : List Act9) (hl : Sl F 5 A l.length c (actsV l)) (hok : ∀ a ∈ l, (-9223372036854775808 ≤ a.what ∧ a.what ≤ 9223372036854775807) ∧ (-9223372036854775808 ≤ a.at_ ∧ a.at_ ≤ 9223372036854775807) ∧ (-9223372036854775808 ≤ a.n ∧ a.n ≤ 9223372036854775807) ∧ Sl F 1 a.kE a.keep.length a.kq (bytesV a.keep) ∧ a.keep.length ≤ 140737488351232) (hn0 : l.length ≤ 9223372036854775807) :
    Ct Try.prog 4 [.slice A l.length c] [F] (fun _ : Unit => .bool true) (fun _ => True) (fun _ => [F]) := by
  refine Ct.walk Try.func4 rfl Try.ntmps4 rfl (fun w0 hw0 => ?_)
  change J _ [(0, _)] _ _ _
  refine J.seq (fun K1 hK1 => ?_)
  refine J.region ?_
  refine J.y (op_assign rfl rfl) rfl rfl rfl ?_
  refine J.nil ?_
  refine J.then_n (J.k hK1 ?_)
  refine J.keepE [(0, _)] ⟨rfl, trivial⟩ ?_
  refine J.seq (fun K2 hK2 => ?_)
  refine J.seq (fun K3 hK3 => ?_)
  refine J.region ?_
  refine J.e (op_call rfl rfl ent6 (Ct.use0 (fun F' hF => speaks09_ct F'))) rfl rfl rfl ?_
  intro g25 _
  refine J.y ((op_not rfl rfl).as (v' := .bool false) rfl) rfl rfl rfl ?_
  refine J.nil ?_
  refine J.then_n (J.k hK3 ?_)
  refine J.keepE [(0, _), (26, _)] ⟨rfl, rfl, trivial⟩ ?_
  refine J.condF rfl rfl ?_
  refine J.skip ?_
  refine J.then_n (J.k hK2 ?_)
  refine J.keepE [(0, _)] ⟨rfl, trivial⟩ ?_
  refine J.seq (fun K4 hK4 => ?_)
  refine J.region ?_
  refine J.e (op_call rfl rfl ent7 (Ct.use (new := fun x : Nat × Hp => [x.2]) (fun F' _ => new_ok_ct F' 6 (by decide) (by decide)))) rfl rfl rfl ?_
  rintro ⟨g28, m28⟩ hb28
  try dsimp only at hb28
  change J _ _ _ [F, m28] _
  refine J.y (op_move rfl rfl) rfl rfl rfl ?_
  refine J.y (op_extract (v := Ptr g28) rfl rfl rfl) rfl rfl rfl ?_
  refine J.y (op_extract (v := I 0) rfl rfl rfl) rfl rfl rfl ?_
  refine J.y (op_assign rfl rfl) rfl rfl rfl ?_
  refine J.y (op_assign rfl rfl) rfl rfl rfl ?_
  refine J.nil ?_
  refine J.then_n (J.k hK4 ?_)
  refine J.keepE [(0, _), (3, _), (4, _)] ⟨rfl, rfl, rfl, trivial⟩ ?_
  refine J.seq (fun K5 hK5 => ?_)
  refine J.seq (fun K6 hK6 => ?_)
  refine J.region ?_
  refine J.y (op_move rfl rfl) rfl rfl rfl ?_
  refine J.y ((op_neq rfl rfl rfl).as (v' := .bool false) (congrArg Value.bool (decide_eq_false (by decide)))) rfl rfl rfl ?_
  refine J.nil ?_
  refine J.then_n (J.k hK6 ?_)
  refine J.keepE [(0, _), (3, _), (32, _)] ⟨rfl, rfl, rfl, trivial⟩ ?_
  refine J.condF rfl rfl ?_
  refine J.skip ?_
  refine J.then_n (J.k hK5 ?_)
  refine J.keepE [(0, _), (3, _)] ⟨rfl, rfl, trivial⟩ ?_
  refine J.seq (fun K7 hK7 => ?_)
  refine J.region ?_
  refine J.e (op_alloc rfl Try.zeroValue41 rfl) rfl rfl rfl ?_
  intro g5 _
  change J _ _ _ [F, m28, blk g5 _ 41] _
  refine J.e (op_alloc rfl Try.zeroValue41 rfl) rfl rfl rfl ?_
  intro g6 _
  change J _ _ _ [F, m28, blk g5 _ 41, blk g6 _ 41] _
  refine J.nil ?_
  refine J.then_n (J.k hK7 ?_)
  refine J.keepE [(0, _), (3, _), (5, _), (6, _)] ⟨rfl, rfl, rfl, rfl, trivial⟩ ?_
  refine J.seq (fun K8 hK8 => ?_)
  refine J.seq (fun K9 hK9 => ?_)
  refine J.region ?_
  refine J.y (op_assign rfl rfl) rfl rfl rfl ?_
  refine J.nil ?_
  refine J.then_n (J.k hK9 ?_)
  refine J.keepE [(0, _), (3, _), (5, _), (6, _), (7, _)] ⟨rfl, rfl, rfl, rfl, rfl, trivial⟩ ?_
  refine J.block ?_
  refine J.loop (X := Nat) (fun k => [(0, .slice A l.length c), (3, Ptr g28), (5, Ptr g5), (6, Ptr g6), (7, I k)]) (fun k => [F, m28, blk g5 ((List.replicate k (full []) ++ List.replicate (6 - k) []).map Str) 41, blk g6 ((List.replicate k (full []) ++ List.replicate (6 - k) []).map Str) 41]) (fun k => k ≤ 6) (fun k => 6 - k) 0 (Nat.zero_le _) ⟨rfl, rfl, rfl, rfl, rfl, trivial⟩ (fun _ h => h) ?_
  intro k hk I0 hI0
  refine J.seq (fun K10 hK10 => ?_)
  refine J.seq (fun K11 hK11 => ?_)
  refine J.region ?_
  refine J.y (op_move rfl rfl) rfl rfl rfl ?_
  refine J.y (op_lss rfl rfl rfl) rfl rfl rfl ?_
  refine J.nil ?_
  refine J.then_n (J.k hK11 ?_)
  refine J.keepE [(0, _), (3, _), (5, _), (6, _), (7, _), (34, _)] ⟨rfl, rfl, rfl, rfl, rfl, rfl, trivial⟩ ?_
  refine J.ite rfl (fun h34 => ?_) (fun h34 => ?_)
  ·
    refine J.skip ?_
    refine J.then_n (J.k hK10 ?_)
    refine J.keepE [(0, _), (3, _), (5, _), (6, _), (7, _)] ⟨rfl, rfl, rfl, rfl, rfl, trivial⟩ ?_
    refine J.seq (fun K12 hK12 => ?_)
    refine J.block ?_
    refine J.seq (fun K13 hK13 => ?_)
    refine J.region ?_
    refine J.y (op_move rfl rfl) rfl rfl rfl ?_
    refine J.e (op_call rfl rfl ent8 (Ct.use0 (fun F' hF => full_ct F' [] (by decide)))) rfl rfl rfl ?_
    intro g38 _
    refine J.y (op_indexAddrJ (i := k) (j := k) rfl rfl rfl Try.underlying41 Try.sizeOf9 (by omega) (by omega)) rfl rfl rfl ?_
    refine J.s (op_store (i := 2) (vs := [Str (full [])]) rfl rfl rfl rfl rfl Try.sizeOf9 rfl (by rw [List.length_map, rep_len _ _ (by omega)]; show k + 1 ≤ 6; omega)) rfl rfl (fun _ _ => ?_)
    change J _ _ _ [F, m28, blk g5 (setAt ((List.replicate k (full []) ++ List.replicate (6 - k) []).map Str) k [Str (full [])]) 41, blk g6 ((List.replicate k (full []) ++ List.replicate (6 - k) []).map Str) 41] _
    rw [setAt_map Str _ _ _ (by rw [rep_len _ _ hk]; omega), rep_set _ _ (by omega)]
    refine J.nil ?_
    refine J.then_n (J.k hK13 ?_)
    refine J.keepE [(0, _), (3, _), (5, _), (6, _), (7, _)] ⟨rfl, rfl, rfl, rfl, rfl, trivial⟩ ?_
    refine J.region ?_
    refine J.y (op_move rfl rfl) rfl rfl rfl ?_
    refine J.y (op_move rfl rfl) rfl rfl rfl ?_
    refine J.y (op_indexAddrJ (i := k) (j := k) rfl rfl rfl Try.underlying41 Try.sizeOf9 (by omega) (by omega)) rfl rfl rfl ?_
    refine J.y ((op_loadB 2 rfl rfl rfl Try.isAgg9 (getMap (f := Str) [] (show k < (List.replicate (k + 1) (full []) ++ List.replicate (6 - (k + 1)) []).length by rw [rep_len _ _ (by omega)]; omega))).as (v' := Str (full [])) (by rw [rep_get9])) rfl rfl rfl ?_
    refine J.y (op_indexAddrJ (i := k) (j := k) rfl rfl rfl Try.underlying41 Try.sizeOf9 (by omega) (by omega)) rfl rfl rfl ?_
    refine J.s (op_store (i := 3) (vs := [Str (full [])]) rfl rfl rfl rfl rfl Try.sizeOf9 rfl (by rw [List.length_map, rep_len _ _ (by omega)]; show k + 1 ≤ 6; omega)) rfl rfl (fun _ _ => ?_)
    change J _ _ _ [F, m28, blk g5 ((List.replicate (k + 1) (full []) ++ List.replicate (6 - (k + 1)) []).map Str) 41, blk g6 (setAt ((List.replicate k (full []) ++ List.replicate (6 - k) []).map Str) k [Str (full [])]) 41] _
    refine J.nil ?_
    refine J.blk_n ?_
    refine J.then_n (J.k hK12 ?_)
    refine J.keepE [(0, _), (3, _), (5, _), (6, _), (7, _)] ⟨rfl, rfl, rfl, rfl, rfl, trivial⟩ ?_
    refine J.region ?_
    refine J.y (op_move rfl rfl) rfl rfl rfl ?_
    refine J.y ((op_add rfl rfl rfl (by first | omega | (refine ⟨?_, ?_⟩ <;> omega))).as (v' := I ((k + 1 : Nat) : Int)) (congrArg I (by omega))) rfl rfl rfl ?_
    refine J.y (op_assign rfl rfl) rfl rfl rfl ?_
    refine J.nil ?_
    refine J.then_n ?_
    exact J.kk (k + 1) (fun y (hy : _ ∧ 6 - y < 6 - k) => hI0 y hy.1 hy.2) ⟨by omega, by omega⟩ ⟨rfl, rfl, rfl, rfl, rfl, trivial⟩ (fun _ h => by rw [setAt_map Str _ _ _ (by rw [rep_len _ _ hk]; omega), rep_set _ _ (by omega)] at h; exact h)
  ·
    refine J.exit ?_
    refine J.then_x ?_
    refine J.then_x ?_
    refine J.blk_eq ?_
    refine J.then_n (J.k hK8 ?_)
    refine J.keepE [(0, _), (3, _), (5, _), (6, _)] ⟨rfl, rfl, rfl, rfl, trivial⟩ ?_
    refine J.seq (fun K14 hK14 => ?_)
    have hk6 : k = 6 := by omega
    subst hk6
    refine J.region ?_
    refine J.e (op_alloc rfl Try.zeroValue42 rfl) rfl rfl rfl ?_
    intro g8 _
    change J _ _ _ [F, m28, blk g5 ((List.replicate 6 (full []) ++ List.replicate (6 - 6) []).map Str) 41, blk g6 ((List.replicate 6 (full []) ++ List.replicate (6 - 6) []).map Str) 41, blk g8 _ 42] _
    refine J.nil ?_
    refine J.then_n (J.k hK14 ?_)
    refine J.keepE [(0, _), (3, _), (5, _), (6, _), (8, _)] ⟨rfl, rfl, rfl, rfl, rfl, trivial⟩ ?_
    refine J.seq (fun K15 hK15 => ?_)
    refine J.region ?_
    refine J.e (op_alloc rfl Try.zeroValue35 rfl) rfl rfl rfl ?_
    intro g9 _
    change J _ _ _ [F, m28, blk g5 ((List.replicate 6 (full []) ++ List.replicate (6 - 6) []).map Str) 41, blk g6 ((List.replicate 6 (full []) ++ List.replicate (6 - 6) []).map Str) 41, blk g8 _ 42, blk g9 _ 35] _
    refine J.nil ?_
    refine J.then_n (J.k hK15 ?_)
    refine J.keepE [(0, _), (3, _), (5, _), (6, _), (8, _), (9, _)] ⟨rfl, rfl, rfl, rfl, rfl, rfl, trivial⟩ ?_
    refine J.seq (fun K16 hK16 => ?_)
    refine J.region ?_
    refine J.e (op_alloc rfl Try.zeroValue4 rfl) rfl rfl rfl ?_
    intro g10 _
    change J _ _ _ [F, m28, blk g5 ((List.replicate 6 (full []) ++ List.replicate (6 - 6) []).map Str) 41, blk g6 ((List.replicate 6 (full []) ++ List.replicate (6 - 6) []).map Str) 41, blk g8 _ 42, blk g9 _ 35, blk g10 _ 4] _
    refine J.e (op_alloc rfl Try.zeroValue3 rfl) rfl rfl rfl ?_
    intro g11 _
    change J _ _ _ [F, m28, blk g5 ((List.replicate 6 (full []) ++ List.replicate (6 - 6) []).map Str) 41, blk g6 ((List.replicate 6 (full []) ++ List.replicate (6 - 6) []).map Str) 41, blk g8 _ 42, blk g9 _ 35, blk g10 _ 4, blk g11 _ 3] _
    refine J.s (op_store (i := 6) rfl rfl rfl rfl rfl Try.sizeOf4 rfl (by first | decide | exact Nat.le_refl _ | (simp only [List.length_cons, List.length_nil]; omega))) rfl rfl (fun _ _ => ?_)
    change J _ _ _ [F, m28, blk g5 ((List.replicate 6 (full []) ++ List.replicate (6 - 6) []).map Str) 41, blk g6 ((List.replicate 6 (full []) ++ List.replicate (6 - 6) []).map Str) 41, blk g8 _ 42, blk g9 _ 35, blk g10 _ 4, blk g11 _ 3] _
    refine J.s (op_store (i := 7) rfl rfl rfl rfl rfl Try.sizeOf3 rfl (by first | decide | exact Nat.le_refl _ | (simp only [List.length_cons, List.length_nil]; omega))) rfl rfl (fun _ _ => ?_)
    change J _ _ _ [F, m28, blk g5 ((List.replicate 6 (full []) ++ List.replicate (6 - 6) []).map Str) 41, blk g6 ((List.replicate 6 (full []) ++ List.replicate (6 - 6) []).map Str) 41, blk g8 _ 42, blk g9 _ 35, blk g10 _ 4, blk g11 _ 3] _
    refine J.nil ?_
    refine J.then_n (J.k hK16 ?_)
    refine J.keepE [(0, _), (3, _), (5, _), (6, _), (8, _), (9, _), (10, _), (11, _)] ⟨rfl, rfl, rfl, rfl, rfl, rfl, rfl, rfl, trivial⟩ ?_
    refine J.seq (fun K17 hK17 => ?_)
    rw [held_new]
    refine J.region ?_
    refine J.y (op_assign rfl rfl) rfl rfl rfl ?_
    refine J.nil ?_
    refine J.then_n (J.k hK17 ?_)
    refine J.keepE [(0, _), (3, _), (5, _), (6, _), (8, _), (9, _), (10, _), (11, _), (12, _)] ⟨rfl, rfl, rfl, rfl, rfl, rfl, rfl, rfl, rfl, trivial⟩ ?_
    refine J.seq (fun K18 hK18 => ?_)
    refine J.region ?_
    refine J.y (op_makeFunc rfl rfl) rfl rfl rfl ?_
    refine J.y (op_assign rfl rfl) rfl rfl rfl ?_
    refine J.nil ?_
    refine J.then_n (J.k hK18 ?_)
    refine J.keepE [(0, _), (3, _), (5, _), (6, _), (8, _), (9, _), (10, _), (11, _), (12, _), (13, _)] ⟨rfl, rfl, rfl, rfl, rfl, rfl, rfl, rfl, rfl, rfl, trivial⟩ ?_
    refine J.cut (fun x : P9 => [(3, Ptr x.g), (5, Ptr g5)]) (fun x => [blk g8 [.slice x.AO x.d.wait.length x.cO] 42, blk g6 (x.d.last.map Str) 41, blk g9 [.slice x.AT x.d.wait.length x.cT] 35, blk g5 ((held x.d).map Str) 41, blk g10 [.bool x.d.off] 4, blk g11 [I (fz x.d)] 3, x.m, F, x.mK, x.mO, x.mT]) (fun x => Inv9 F 70 x) (fun K19 hK19 => ?_) ?_
    ·
      refine J.seq (fun K20 hK20 => ?_)
      refine J.addEmpty [4, 3, 5, 2, 6, 7, 1, 0, 8] [blk g8 [.slice none 0 0] 42, blk g6 ((held (Dk.new 6)).map Str) 41, blk g9 [.slice none 0 0] 35, blk g5 ((held (Dk.new 6)).map Str) 41, blk g10 [.bool false] 4, blk g11 [I (-1)] 3, m28, F, (fun _ => none)] rfl (by decide) ?_
      refine J.addEmpty [0, 1, 2, 3, 4, 5, 6, 7, 8, 9] [blk g8 [.slice none 0 0] 42, blk g6 ((held (Dk.new 6)).map Str) 41, blk g9 [.slice none 0 0] 35, blk g5 ((held (Dk.new 6)).map Str) 41, blk g10 [.bool false] 4, blk g11 [I (-1)] 3, m28, F, (fun _ => none), (fun _ => none)] rfl (by decide) ?_
      refine J.addEmpty [0, 1, 2, 3, 4, 5, 6, 7, 8, 9, 10] [blk g8 [.slice none 0 0] 42, blk g6 ((held (Dk.new 6)).map Str) 41, blk g9 [.slice none 0 0] 35, blk g5 ((held (Dk.new 6)).map Str) 41, blk g10 [.bool false] 4, blk g11 [I (-1)] 3, m28, F, (fun _ => none), (fun _ => none), (fun _ => none)] rfl (by decide) ?_
      refine J.region ?_
      refine J.y (op_assign rfl rfl) rfl rfl rfl ?_
      refine J.nil ?_
      refine J.then_n (J.k hK20 ?_)
      refine J.keepE [(0, _), (3, _), (5, _), (6, _), (8, _), (9, _), (10, _), (11, _), (12, _), (13, _), (14, _)] ⟨rfl, rfl, rfl, rfl, rfl, rfl, rfl, rfl, rfl, rfl, rfl, trivial⟩ ?_
      refine J.block ?_
      refine J.loop (X := Nat × P9) (fun x => [(0, .slice A l.length c), (3, Ptr x.2.g), (5, Ptr g5), (6, Ptr g6), (8, Ptr g8), (9, Ptr g9), (10, Ptr g10), (11, Ptr g11), (12, .slice x.2.E x.2.K.length x.2.q), (13, .func (.func 14) #[] #[Ptr g8, Ptr g6, Ptr g9, Ptr g5, Ptr g10, Ptr g11]), (14, I x.1)]) (fun x => [blk g8 [.slice x.2.AO x.2.d.wait.length x.2.cO] 42, blk g6 (x.2.d.last.map Str) 41, blk g9 [.slice x.2.AT x.2.d.wait.length x.2.cT] 35, blk g5 ((held x.2.d).map Str) 41, blk g10 [.bool x.2.d.off] 4, blk g11 [I (fz x.2.d)] 3, x.2.m, F, x.2.mK, x.2.mO, x.2.mT]) (fun x => x.1 ≤ 70 ∧ Inv9 F x.1 x.2) (fun x => 70 - x.1) (0, ⟨Dk.new 6, g28, m28, none, 0, fun _ => none, fun _ => none, none, 0, fun _ => none, none, 0, none, 0, []⟩) (⟨Nat.zero_le _, ⟨hb28, Dk.new_ok (by decide) (by decide), rfl, Nat.le_refl _, Sl.nil, Nat.zero_le _, RowQ.nil, RowQ.nil, Sl.nil, Nat.zero_le _, (fun e => nomatch e)⟩⟩) ⟨rfl, rfl, rfl, rfl, rfl, rfl, rfl, rfl, rfl, rfl, rfl, trivial⟩ (fun _ h => by show St _ [blk g8 [.slice none 0 0] 42, blk g6 ((Dk.new 6).last.map Str) 41, blk g9 [.slice none 0 0] 35, blk g5 ((held (Dk.new 6)).map Str) 41, blk g10 [.bool false] 4, blk g11 [I (-1)] 3, m28, F, (fun _ => none), (fun _ => none), (fun _ => none)] _; rw [show (Dk.new 6).last = held (Dk.new 6) from held_nil rfl rfl]; exact h) ?_
      rintro ⟨k, x⟩ ⟨hk, hI⟩ I2 hI2
      dsimp only at hk hI ⊢
      refine J.seq (fun K21 hK21 => ?_)
      refine J.seq (fun K22 hK22 => ?_)
      refine J.region ?_
      refine J.y (op_move rfl rfl) rfl rfl rfl ?_
      refine J.y (op_move rfl rfl) rfl rfl rfl ?_
      refine J.y (op_len Try.underlying22 rfl rfl) rfl rfl rfl ?_
      refine J.y (op_lss rfl rfl rfl) rfl rfl rfl ?_
      refine J.y (op_move rfl rfl) rfl rfl rfl ?_
      refine J.split (d := 50) rfl (fun h50 => ?_) (fun h50 => ?_)
      ·
        refine J.yg (Wan.is rfl rfl rfl rfl rfl) (op_move rfl rfl) rfl rfl ?_
        refine J.yg (Wan.is rfl rfl rfl rfl rfl) (op_lss rfl rfl rfl) rfl rfl ?_
        refine J.y (op_pickT rfl rfl rfl) rfl rfl rfl ?_
        refine J.nil ?_
        refine J.then_n (J.k hK22 ?_)
        refine J.keepE [(0, _), (3, _), (5, _), (6, _), (8, _), (9, _), (10, _), (11, _), (12, _), (13, _), (14, _), (53, _)] ⟨rfl, rfl, rfl, rfl, rfl, rfl, rfl, rfl, rfl, rfl, rfl, rfl, trivial⟩ ?_
        refine J.ite rfl (fun h53 => ?_) (fun h53 => ?_)
        ·
          refine J.skip ?_
          refine J.then_n (J.k hK21 ?_)
          refine J.keepE [(0, _), (3, _), (5, _), (6, _), (8, _), (9, _), (10, _), (11, _), (12, _), (13, _), (14, _)] ⟨rfl, rfl, rfl, rfl, rfl, rfl, rfl, rfl, rfl, rfl, rfl, trivial⟩ ?_
          refine J.seq (fun K23 hK23 => ?_)
          refine J.block ?_
          refine J.seq (fun K24 hK24 => ?_)
          have hkl : k < l.length := by omega
          have hXc := hl.elem (actsV_get hkl)
          have hX := hok _ (List.mem_of_getElem? (getSome noA hkl))
          obtain ⟨X, hXe⟩ : ∃ X, X = l.getD k noA := ⟨_, rfl⟩
          rw [← hXe] at hXc hX
          have hXa := hX.2.1
          have hXn := hX.2.2.1
          have hXw := hX.1
          have htb : -8 < X.what.tmod 8 ∧ X.what.tmod 8 < 8 := tmod_bounds9 X.what (n := 8) (by decide)
          have hwk := hI.wk
          refine J.region ?_
          refine J.y (op_move rfl rfl) rfl rfl rfl ?_
          refine J.y (op_move rfl rfl) rfl rfl rfl ?_
          refine J.y (op_indexAddr (i := k) rfl rfl rfl Try.underlying22 Try.sizeOf32 hl (by omega)) rfl rfl rfl ?_
          refine J.y (op_loadA rfl rfl Try.isAgg32 Try.sizeOf32 (m := F) (by simp) (vs := X.cells) hXc rfl) rfl rfl rfl ?_
          refine J.e (op_alloc rfl Try.zeroValue32 rfl) rfl rfl rfl ?_
          intro g15 _
          change J _ _ _ [blk g8 [.slice x.AO x.d.wait.length x.cO] 42, blk g6 (x.d.last.map Str) 41, blk g9 [.slice x.AT x.d.wait.length x.cT] 35, blk g5 ((held x.d).map Str) 41, blk g10 [.bool x.d.off] 4, blk g11 [I (fz x.d)] 3, x.m, F, x.mK, x.mO, x.mT, blk g15 _ 32] _
          refine J.s (op_storeAll (l := [I 0, I 0, I 0, Str [], .slice none 0 0]) (i := 11) (vs := X.cells) rfl rfl rfl rfl rfl Try.sizeOf32 rfl rfl) rfl rfl (fun _ _ => ?_)
          change J _ _ _ [blk g8 [.slice x.AO x.d.wait.length x.cO] 42, blk g6 (x.d.last.map Str) 41, blk g9 [.slice x.AT x.d.wait.length x.cT] 35, blk g5 ((held x.d).map Str) 41, blk g10 [.bool x.d.off] 4, blk g11 [I (fz x.d)] 3, x.m, F, x.mK, x.mO, x.mT, blk g15 X.cells 32] _
          refine J.nil ?_
          refine J.then_n (J.k hK24 ?_)
          refine J.keepE [(0, _), (3, _), (5, _), (6, _), (8, _), (9, _), (10, _), (11, _), (12, _), (13, _), (14, _), (15, _)] ⟨rfl, rfl, rfl, rfl, rfl, rfl, rfl, rfl, rfl, rfl, rfl, rfl, trivial⟩ ?_
          refine J.seq (fun K25 hK25 => ?_)
          obtain ⟨u, hu⟩ : ∃ u, u = X.text.take 70 := ⟨_, rfl⟩
          have hul : u.length ≤ 70 := by rw [hu, List.length_take]; omega
          refine J.region ?_
          refine J.y (op_fieldAddr (j := 3) rfl rfl Try.underlying32 rfl Try.sizeOf9 rfl) rfl rfl rfl ?_
          refine J.y (op_loadB 11 rfl rfl rfl Try.isAgg9 rfl) rfl rfl rfl ?_
          refine J.y (op_fieldAddr (j := 3) rfl rfl Try.underlying32 rfl Try.sizeOf9 rfl) rfl rfl rfl ?_
          refine J.y (op_loadB 11 rfl rfl rfl Try.isAgg9 rfl) rfl rfl rfl ?_
          refine J.y (op_slen Try.underlying9 rfl rfl) rfl rfl rfl ?_
          refine J.y ((op_min rfl rfl rfl).as (v' := I ((min X.text.length 70 : Nat) : Int)) (congrArg I (by omega))) rfl rfl rfl ?_
          refine J.y ((op_sslice (l := 0) (h := min X.text.length 70) Try.underlying9 rfl rfl rfl rfl ⟨by omega, by omega⟩).as (v' := Str u) (congrArg Str ((Sha.take_min' _ _).trans hu.symm))) rfl rfl rfl ?_
          refine J.y (op_assign rfl rfl) rfl rfl rfl ?_
          refine J.nil ?_
          refine J.then_n (J.k hK25 ?_)
          refine J.keepE [(0, _), (3, _), (5, _), (6, _), (8, _), (9, _), (10, _), (11, _), (12, _), (13, _), (14, _), (15, _), (16, _)] ⟨rfl, rfl, rfl, rfl, rfl, rfl, rfl, rfl, rfl, rfl, rfl, rfl, rfl, trivial⟩ ?_
          refine J.cut (fun _ : Unit => [(0, .slice A l.length c), (3, Ptr x.g), (5, Ptr g5), (6, Ptr g6), (8, Ptr g8), (9, Ptr g9), (10, Ptr g10), (11, Ptr g11), (12, .slice x.E x.K.length x.q), (13, .func (.func 14) #[] #[Ptr g8, Ptr g6, Ptr g9, Ptr g5, Ptr g10, Ptr g11]), (14, I k), (15, Ptr g15), (16, Str u), (17, .bool (decide (0 ≤ X.at_ ∧ X.at_ < 6)))]) (fun _ => [blk g8 [.slice x.AO x.d.wait.length x.cO] 42, blk g6 (x.d.last.map Str) 41, blk g9 [.slice x.AT x.d.wait.length x.cT] 35, blk g5 ((held x.d).map Str) 41, blk g10 [.bool x.d.off] 4, blk g11 [I (fz x.d)] 3, x.m, F, x.mK, x.mO, x.mT, blk g15 X.cells 32]) (fun _ => True) (fun K26 hK26 => ?_) ?_
          ·
            refine J.region ?_
            refine J.y (op_fieldAddr (j := 1) rfl rfl Try.underlying32 rfl Try.sizeOf3 rfl) rfl rfl rfl ?_
            refine J.y (op_loadB 11 rfl rfl rfl Try.isAgg3 rfl) rfl rfl rfl ?_
            refine J.y (op_geq rfl rfl rfl) rfl rfl rfl ?_
            refine J.y (op_move rfl rfl) rfl rfl rfl ?_
            refine J.split (d := 70) rfl (fun h70 => ?_) (fun h70 => ?_)
            ·
              refine J.yg (Wan.is rfl rfl rfl rfl rfl) (op_fieldAddr (j := 1) rfl rfl Try.underlying32 rfl Try.sizeOf3 rfl) rfl rfl ?_
              refine J.yg (Wan.is rfl rfl rfl rfl rfl) (op_loadB 11 rfl rfl rfl Try.isAgg3 rfl) rfl rfl ?_
              refine J.yg (Wan.is rfl rfl rfl rfl rfl) (op_lss rfl rfl rfl) rfl rfl ?_
              refine J.y (op_pickT rfl rfl rfl) rfl rfl rfl ?_
              refine J.y (op_assign rfl rfl) rfl rfl rfl ?_
              refine J.nil ?_
              refine J.then_n ?_
              exact J.kk () hK26 trivial ⟨rfl, rfl, rfl, rfl, rfl, rfl, rfl, rfl, rfl, rfl, rfl, rfl, rfl, congrArg (fun b => some (Value.bool b)) (decide_eq_decide.2 ⟨fun h => ⟨h70, h⟩, fun h => h.2⟩), trivial⟩ (fun _ h => h)
            ·
              refine J.no (Wan.is rfl rfl rfl rfl rfl) rfl rfl ?_
              refine J.no (Wan.is rfl rfl rfl rfl rfl) rfl rfl ?_
              refine J.no (Wan.is rfl rfl rfl rfl rfl) rfl rfl ?_
              refine J.y (op_pickF rfl rfl rfl) rfl rfl rfl ?_
              refine J.y (op_assign rfl rfl) rfl rfl rfl ?_
              refine J.nil ?_
              refine J.then_n ?_
              exact J.kk () hK26 trivial ⟨rfl, rfl, rfl, rfl, rfl, rfl, rfl, rfl, rfl, rfl, rfl, rfl, rfl, congrArg (fun b => some (Value.bool b)) (decide_eq_false (fun h => h70 h.1)).symm, trivial⟩ (fun _ h => h)
          rintro _ _
          refine J.seq (fun K27 hK27 => ?_)
          refine J.region ?_
          refine J.y (op_assign rfl rfl) rfl rfl rfl ?_
          refine J.y (op_assign rfl rfl) rfl rfl rfl ?_
          refine J.nil ?_
          refine J.then_n (J.k hK27 ?_)
          refine J.keepE [(0, _), (3, _), (5, _), (6, _), (8, _), (9, _), (10, _), (11, _), (12, _), (13, _), (14, _), (15, _), (16, _), (17, _), (18, _), (19, _)] ⟨rfl, rfl, rfl, rfl, rfl, rfl, rfl, rfl, rfl, rfl, rfl, rfl, rfl, rfl, rfl, rfl, trivial⟩ ?_
          refine J.cut (fun z : P9 × Int => [(0, .slice A l.length c), (3, Ptr z.1.g), (5, Ptr g5), (6, Ptr g6), (8, Ptr g8), (9, Ptr g9), (10, Ptr g10), (11, Ptr g11), (12, .slice z.1.E z.1.K.length z.1.q), (13, .func (.func 14) #[] #[Ptr g8, Ptr g6, Ptr g9, Ptr g5, Ptr g10, Ptr g11]), (14, I k), (18, I z.2), (19, I z.2)]) (fun z => [blk g8 [.slice z.1.AO z.1.d.wait.length z.1.cO] 42, blk g6 (z.1.d.last.map Str) 41, blk g9 [.slice z.1.AT z.1.d.wait.length z.1.cT] 35, blk g5 ((held z.1.d).map Str) 41, blk g10 [.bool z.1.d.off] 4, blk g11 [I (fz z.1.d)] 3, z.1.m, F, z.1.mK, z.1.mO, z.1.mT]) (fun z => Inv9 F (k + 1) z.1) (fun K28 hK28 => ?_) ?_
          ·
            refine J.seq (fun K29 hK29 => ?_)
            refine J.region ?_
            refine J.y (op_fieldAddr (j := 0) rfl rfl Try.underlying32 rfl Try.sizeOf3 rfl) rfl rfl rfl ?_
            refine J.y (op_loadB 11 rfl rfl rfl Try.isAgg3 rfl) rfl rfl rfl ?_
            refine J.y (op_remT rfl rfl rfl (by decide)) rfl rfl rfl ?_
            refine J.y (op_add rfl rfl rfl (by omega)) rfl rfl rfl ?_
            refine J.y (op_remT rfl rfl rfl (by decide)) rfl rfl rfl ?_
            refine J.nil ?_
            refine J.then_n (J.k hK29 ?_)
            refine J.keepE [(0, _), (3, _), (5, _), (6, _), (8, _), (9, _), (10, _), (11, _), (12, _), (13, _), (14, _), (15, _), (16, _), (17, _), (18, _), (19, _), (79, _)] ⟨rfl, rfl, rfl, rfl, rfl, rfl, rfl, rfl, rfl, rfl, rfl, rfl, rfl, rfl, rfl, rfl, rfl, trivial⟩ ?_
            refine J.block ?_
            refine J.seq (fun K30 hK30 => ?_)
            refine J.region ?_
            refine J.y (op_eql rfl rfl rfl) rfl rfl rfl ?_
            refine J.y (op_assign rfl rfl) rfl rfl rfl ?_
            refine J.nil ?_
            refine J.then_n (J.k hK30 ?_)
            refine J.keepE [(0, _), (3, _), (5, _), (6, _), (8, _), (9, _), (10, _), (11, _), (12, _), (13, _), (14, _), (15, _), (16, _), (17, _), (18, _), (19, _), (79, _), (114, _)] ⟨rfl, rfl, rfl, rfl, rfl, rfl, rfl, rfl, rfl, rfl, rfl, rfl, rfl, rfl, rfl, rfl, rfl, rfl, trivial⟩ ?_
            refine J.ite rfl (fun h114 => ?_) (fun h114 => ?_)
            ·
              refine J.seq (fun K31 hK31 => ?_)
              obtain ⟨A2, c2, B2, e2, hc2, hsL2, hsW2⟩ := hI.dk.see
              refine J.region ?_
              refine J.y (op_move rfl rfl) rfl rfl rfl ?_
              refine J.y (op_fieldAddr (j := 1) rfl rfl Try.underlying32 rfl Try.sizeOf3 rfl) rfl rfl rfl ?_
              refine J.y (op_loadB 11 rfl rfl rfl Try.isAgg3 rfl) rfl rfl rfl ?_
              refine J.e (op_call rfl rfl ent13 (Ct.use0 (fun F' hF => read_ct F' x.g x.d A2 c2 B2 e2 x.C x.f (hc2.mono (hF x.m (by simp))) (hsL2.mono (hF x.m (by simp))) (hsW2.mono (hF x.m (by simp))) X.at_ (by rw [hI.l6]; decide) (by have := hI.wk; omega)))) rfl rfl rfl ?_
              intro g120 _
              refine J.y (op_move rfl rfl) rfl rfl rfl ?_
              refine J.y (op_extract (v := Str (x.d.read X.at_)) rfl rfl rfl) rfl rfl rfl ?_
              refine J.y (op_extract (v := I (x.d.ready X.at_)) rfl rfl rfl) rfl rfl rfl ?_
              refine J.y (op_assign rfl rfl) rfl rfl rfl ?_
              refine J.y (op_assign rfl rfl) rfl rfl rfl ?_
              refine J.nil ?_
              refine J.then_n (J.k hK31 ?_)
              refine J.keepE [(0, _), (3, _), (5, _), (6, _), (8, _), (9, _), (10, _), (11, _), (12, _), (13, _), (14, _), (15, _), (17, _), (18, _), (20, _), (21, _)] ⟨rfl, rfl, rfl, rfl, rfl, rfl, rfl, rfl, rfl, rfl, rfl, rfl, rfl, rfl, rfl, rfl, trivial⟩ ?_
              refine J.seq (fun K32 hK32 => ?_)
              refine J.region ?_
              refine J.y (op_move rfl rfl) rfl rfl rfl ?_
              refine J.y (op_assign rfl rfl) rfl rfl rfl ?_
              refine J.nil ?_
              refine J.then_n (J.k hK32 ?_)
              refine J.keepE [(0, _), (3, _), (5, _), (6, _), (8, _), (9, _), (10, _), (11, _), (12, _), (13, _), (14, _), (15, _), (17, _), (18, _), (19, _), (20, _), (21, _)] ⟨rfl, rfl, rfl, rfl, rfl, rfl, rfl, rfl, rfl, rfl, rfl, rfl, rfl, rfl, rfl, rfl, rfl, trivial⟩ ?_
              refine J.cut (fun _ : Unit => [(0, .slice A l.length c), (3, Ptr x.g), (5, Ptr g5), (6, Ptr g6), (8, Ptr g8), (9, Ptr g9), (10, Ptr g10), (11, Ptr g11), (12, .slice x.E x.K.length x.q), (13, .func (.func 14) #[] #[Ptr g8, Ptr g6, Ptr g9, Ptr g5, Ptr g10, Ptr g11]), (14, I k), (15, Ptr g15), (18, I (x.d.ready X.at_)), (19, I (x.d.ready X.at_)), (20, Str (x.d.read X.at_)), (21, I (x.d.ready X.at_))]) (fun _ => [blk g8 [.slice x.AO x.d.wait.length x.cO] 42, blk g6 (x.d.last.map Str) 41, blk g9 [.slice x.AT x.d.wait.length x.cT] 35, blk g5 ((held x.d).map Str) 41, blk g10 [.bool x.d.off] 4, blk g11 [I (fz x.d)] 3, x.m, F, x.mK, x.mO, x.mT, blk g15 X.cells 32]) (fun _ => True) (fun K33 hK33 => ?_) ?_
              ·
                refine J.seq (fun K34 hK34 => ?_)
                refine J.region ?_
                refine J.y ((op_loadB 4 rfl rfl rfl Try.isAgg4 rfl).as (v' := .bool (decide (x.d.off = true))) (by rw [Bool.decide_eq_true])) rfl rfl rfl ?_
                refine J.nil ?_
                refine J.then_n (J.k hK34 ?_)
                refine J.keepE [(0, _), (3, _), (5, _), (6, _), (8, _), (9, _), (10, _), (11, _), (12, _), (13, _), (14, _), (15, _), (17, _), (18, _), (19, _), (20, _), (21, _), (124, _)] ⟨rfl, rfl, rfl, rfl, rfl, rfl, rfl, rfl, rfl, rfl, rfl, rfl, rfl, rfl, rfl, rfl, rfl, rfl, trivial⟩ ?_
                refine J.ite rfl (fun h124 => ?_) (fun h124 => ?_)
                ·
                  refine J.region ?_
                  refine J.y (op_assign rfl rfl) rfl rfl rfl ?_
                  refine J.nil ?_
                  refine J.then_n ?_
                  exact J.kk () hK33 trivial ⟨rfl, rfl, rfl, rfl, rfl, rfl, rfl, rfl, rfl, rfl, rfl, rfl, by rw [rdy_off h124]; rfl, rfl, rfl, rfl, trivial⟩ (fun _ h => h)
                ·
                  refine J.seq (fun K35 hK35 => ?_)
                  refine J.region ?_
                  refine J.y (op_move rfl rfl) rfl rfl rfl ?_
                  refine J.y (op_notD rfl rfl) rfl rfl rfl ?_
                  refine J.nil ?_
                  refine J.then_n (J.k hK35 ?_)
                  refine J.keepE [(0, _), (3, _), (5, _), (6, _), (8, _), (9, _), (10, _), (11, _), (12, _), (13, _), (14, _), (15, _), (18, _), (19, _), (20, _), (21, _), (126, _)] ⟨rfl, rfl, rfl, rfl, rfl, rfl, rfl, rfl, rfl, rfl, rfl, rfl, rfl, rfl, rfl, rfl, rfl, trivial⟩ ?_
                  refine J.ite rfl (fun h126 => ?_) (fun h126 => ?_)
                  ·
                    refine J.region ?_
                    refine J.y (op_assign rfl rfl) rfl rfl rfl ?_
                    refine J.nil ?_
                    refine J.then_n ?_
                    exact J.kk () hK33 trivial ⟨rfl, rfl, rfl, rfl, rfl, rfl, rfl, rfl, rfl, rfl, rfl, rfl, by rw [rdy_out hI.l6 h124 h126]; rfl, rfl, rfl, rfl, trivial⟩ (fun _ h => h)
                  ·
                    refine J.skip ?_
                    refine J.then_n ?_
                    exact J.kk () hK33 trivial ⟨rfl, rfl, rfl, rfl, rfl, rfl, rfl, rfl, rfl, rfl, rfl, rfl, by rw [rdy_in hI.l6 h124 (not_not9 h126)]; rfl, rfl, rfl, rfl, trivial⟩ (fun _ h => h)
              rintro _ _
              refine J.seq (fun K36 hK36 => ?_)
              refine J.region ?_
              refine J.y (op_move rfl rfl) rfl rfl rfl ?_
              refine J.y (op_eql rfl rfl rfl) rfl rfl rfl ?_
              refine J.y (op_move rfl rfl) rfl rfl rfl ?_
              refine J.split (d := 129) rfl (fun h129 => ?_) (fun h129 => ?_)
              ·
                have h06 := rdy_zero hI.l6 h129
                obtain ⟨j, hj⟩ := Int.eq_ofNat_of_zero_le h06.1
                refine J.yg (Wan.is rfl rfl rfl rfl rfl) (op_move rfl rfl) rfl rfl ?_
                refine J.yg (Wan.is rfl rfl rfl rfl rfl) (op_fieldAddr (j := 1) rfl rfl Try.underlying32 rfl Try.sizeOf3 rfl) rfl rfl ?_
                refine J.yg (Wan.is rfl rfl rfl rfl rfl) ((op_loadB 11 rfl rfl rfl Try.isAgg3 rfl).as (v' := I (j : Nat)) (by rw [hj])) rfl rfl ?_
                refine J.yg (Wan.is rfl rfl rfl rfl rfl) (op_indexAddrJ (i := j) (j := j) rfl rfl rfl Try.underlying41 Try.sizeOf9 (by omega) (by omega)) rfl rfl ?_
                refine J.yg (Wan.is rfl rfl rfl rfl rfl) (op_loadB 3 rfl rfl rfl Try.isAgg9 (getMap (f := Str) [] (show j < (held x.d).length by rw [held_len]; omega))) rfl rfl ?_
                refine J.yg (Wan.is rfl rfl rfl rfl rfl) ((op_sne rfl rfl rfl).as (v' := .bool false) (congrArg Value.bool (decide_eq_false (fun h => h (by rw [held_getD _ (show j < 6 by omega), read_in h129, hj]; rfl))))) rfl rfl ?_
                refine J.y (op_pickT rfl rfl rfl) rfl rfl rfl ?_
                refine J.y (op_move rfl rfl) rfl rfl rfl ?_
                refine J.yg (Wan.is rfl rfl rfl rfl rfl) (op_move rfl rfl) rfl rfl ?_
                refine J.yg (Wan.is rfl rfl rfl rfl rfl) (op_neq rfl rfl rfl) rfl rfl ?_
                refine J.yg (Wan.is rfl rfl rfl rfl rfl) (op_move rfl rfl) rfl rfl ?_
                refine J.split (d := 140) rfl (fun h140 => ?_) (fun h140 => ?_)
                ·
                  refine J.yg (Wan.is rfl rfl rfl rfl rfl) (op_move rfl rfl) rfl rfl ?_
                  refine J.yg (Wan.is rfl rfl rfl rfl rfl) ((op_sne rfl rfl rfl).as (v' := .bool false) (congrArg Value.bool (decide_eq_false (fun h => h (read_no h140))))) rfl rfl ?_
                  refine J.yg (Wan.is rfl rfl rfl rfl rfl) (op_pickT rfl rfl rfl) rfl rfl ?_
                  refine J.y (op_pickF rfl rfl rfl) rfl rfl rfl ?_
                  refine J.nil ?_
                  refine J.then_n (J.k hK36 ?_)
                  refine J.keepE [(0, _), (3, _), (5, _), (6, _), (8, _), (9, _), (10, _), (11, _), (12, _), (13, _), (14, _), (18, _), (19, _), (144, _)] ⟨rfl, rfl, rfl, rfl, rfl, rfl, rfl, rfl, rfl, rfl, rfl, rfl, rfl, rfl, trivial⟩ ?_
                  refine J.condF rfl rfl ?_
                  refine J.skip ?_
                  refine J.blk_n ?_
                  refine J.then_n ?_
                  exact J.kk (x, x.d.ready X.at_) hK28 (hI.up) ⟨rfl, rfl, rfl, rfl, rfl, rfl, rfl, rfl, rfl, rfl, rfl, rfl, rfl, trivial⟩ (fun _ h => h.pick [0, 1, 2, 3, 4, 5, 6, 7, 8, 9, 10] (by decide))
                ·
                  refine J.no (Wan.is rfl rfl rfl rfl rfl) rfl rfl ?_
                  refine J.no (Wan.is rfl rfl rfl rfl rfl) rfl rfl ?_
                  refine J.yg (Wan.is rfl rfl rfl rfl rfl) (op_pickF rfl rfl rfl) rfl rfl ?_
                  refine J.y (op_pickF rfl rfl rfl) rfl rfl rfl ?_
                  refine J.nil ?_
                  refine J.then_n (J.k hK36 ?_)
                  refine J.keepE [(0, _), (3, _), (5, _), (6, _), (8, _), (9, _), (10, _), (11, _), (12, _), (13, _), (14, _), (18, _), (19, _), (144, _)] ⟨rfl, rfl, rfl, rfl, rfl, rfl, rfl, rfl, rfl, rfl, rfl, rfl, rfl, rfl, trivial⟩ ?_
                  refine J.condF rfl rfl ?_
                  refine J.skip ?_
                  refine J.blk_n ?_
                  refine J.then_n ?_
                  exact J.kk (x, x.d.ready X.at_) hK28 (hI.up) ⟨rfl, rfl, rfl, rfl, rfl, rfl, rfl, rfl, rfl, rfl, rfl, rfl, rfl, trivial⟩ (fun _ h => h.pick [0, 1, 2, 3, 4, 5, 6, 7, 8, 9, 10] (by decide))
              ·
                refine J.no (Wan.is rfl rfl rfl rfl rfl) rfl rfl ?_
                refine J.no (Wan.is rfl rfl rfl rfl rfl) rfl rfl ?_
                refine J.no (Wan.is rfl rfl rfl rfl rfl) rfl rfl ?_
                refine J.no (Wan.is rfl rfl rfl rfl rfl) rfl rfl ?_
                refine J.no (Wan.is rfl rfl rfl rfl rfl) rfl rfl ?_
                refine J.no (Wan.is rfl rfl rfl rfl rfl) rfl rfl ?_
                refine J.y (op_pickF rfl rfl rfl) rfl rfl rfl ?_
                refine J.y (op_move rfl rfl) rfl rfl rfl ?_
                refine J.yg (Wan.is rfl rfl rfl rfl rfl) (op_move rfl rfl) rfl rfl ?_
                refine J.yg (Wan.is rfl rfl rfl rfl rfl) (op_neq rfl rfl rfl) rfl rfl ?_
                refine J.yg (Wan.is rfl rfl rfl rfl rfl) (op_move rfl rfl) rfl rfl ?_
                refine J.split (d := 140) rfl (fun h140 => ?_) (fun h140 => ?_)
                ·
                  refine J.yg (Wan.is rfl rfl rfl rfl rfl) (op_move rfl rfl) rfl rfl ?_
                  refine J.yg (Wan.is rfl rfl rfl rfl rfl) ((op_sne rfl rfl rfl).as (v' := .bool false) (congrArg Value.bool (decide_eq_false (fun h => h (read_no h140))))) rfl rfl ?_
                  refine J.yg (Wan.is rfl rfl rfl rfl rfl) (op_pickT rfl rfl rfl) rfl rfl ?_
                  refine J.y (op_pickF rfl rfl rfl) rfl rfl rfl ?_
                  refine J.nil ?_
                  refine J.then_n (J.k hK36 ?_)
                  refine J.keepE [(0, _), (3, _), (5, _), (6, _), (8, _), (9, _), (10, _), (11, _), (12, _), (13, _), (14, _), (18, _), (19, _), (144, _)] ⟨rfl, rfl, rfl, rfl, rfl, rfl, rfl, rfl, rfl, rfl, rfl, rfl, rfl, rfl, trivial⟩ ?_
                  refine J.condF rfl rfl ?_
                  refine J.skip ?_
                  refine J.blk_n ?_
                  refine J.then_n ?_
                  exact J.kk (x, x.d.ready X.at_) hK28 (hI.up) ⟨rfl, rfl, rfl, rfl, rfl, rfl, rfl, rfl, rfl, rfl, rfl, rfl, rfl, trivial⟩ (fun _ h => h.pick [0, 1, 2, 3, 4, 5, 6, 7, 8, 9, 10] (by decide))
                ·
                  refine J.no (Wan.is rfl rfl rfl rfl rfl) rfl rfl ?_
                  refine J.no (Wan.is rfl rfl rfl rfl rfl) rfl rfl ?_
                  refine J.yg (Wan.is rfl rfl rfl rfl rfl) (op_pickF rfl rfl rfl) rfl rfl ?_
                  refine J.y (op_pickF rfl rfl rfl) rfl rfl rfl ?_
                  refine J.nil ?_
                  refine J.then_n (J.k hK36 ?_)
                  refine J.keepE [(0, _), (3, _), (5, _), (6, _), (8, _), (9, _), (10, _), (11, _), (12, _), (13, _), (14, _), (18, _), (19, _), (144, _)] ⟨rfl, rfl, rfl, rfl, rfl, rfl, rfl, rfl, rfl, rfl, rfl, rfl, rfl, rfl, trivial⟩ ?_
                  refine J.condF rfl rfl ?_
                  refine J.skip ?_
                  refine J.blk_n ?_
                  refine J.then_n ?_
                  exact J.kk (x, x.d.ready X.at_) hK28 (hI.up) ⟨rfl, rfl, rfl, rfl, rfl, rfl, rfl, rfl, rfl, rfl, rfl, rfl, rfl, trivial⟩ (fun _ h => h.pick [0, 1, 2, 3, 4, 5, 6, 7, 8, 9, 10] (by decide))
            ·
              refine J.seq (fun K37 hK37 => ?_)
              refine J.region ?_
              refine J.y (op_eql rfl rfl rfl) rfl rfl rfl ?_
              refine J.y (op_assign rfl rfl) rfl rfl rfl ?_
              refine J.nil ?_
              refine J.then_n (J.k hK37 ?_)
              refine J.keepE [(0, _), (3, _), (5, _), (6, _), (8, _), (9, _), (10, _), (11, _), (12, _), (13, _), (14, _), (15, _), (16, _), (17, _), (18, _), (19, _), (79, _), (145, _)] ⟨rfl, rfl, rfl, rfl, rfl, rfl, rfl, rfl, rfl, rfl, rfl, rfl, rfl, rfl, rfl, rfl, rfl, rfl, trivial⟩ ?_
              refine J.ite rfl (fun h145 => ?_) (fun h145 => ?_)
              ·
                refine J.seq (fun K38 hK38 => ?_)
                refine J.region ?_
                refine J.y (op_move rfl rfl) rfl rfl rfl ?_
                refine J.e (op_call rfl rfl ent10 (Ct.use1 6 (m' := fun y : Hp => y) (new := fun _ => []) rfl (fun F' hF => sync_ct F' x.m x.g x.d x.C x.f hI.dk hI.ok (by have := hI.wk; omega) (hI.sK.mono (hF x.mK (by simp))) hI.nK))) rfl rfl rfl ?_
                rintro m148 hb148
                change J _ _ _ [blk g8 [.slice x.AO x.d.wait.length x.cO] 42, blk g6 (x.d.last.map Str) 41, blk g9 [.slice x.AT x.d.wait.length x.cT] 35, blk g5 ((held x.d).map Str) 41, blk g10 [.bool x.d.off] 4, blk g11 [I (fz x.d)] 3, m148, F, x.mK, x.mO, x.mT, blk g15 X.cells 32] _
                refine J.y (op_assign rfl rfl) rfl rfl rfl ?_
                refine J.nil ?_
                refine J.then_n (J.k hK38 ?_)
                refine J.keepE [(0, _), (3, _), (5, _), (6, _), (8, _), (9, _), (10, _), (11, _), (12, _), (13, _), (14, _), (18, _), (19, _)] ⟨rfl, rfl, rfl, rfl, rfl, rfl, rfl, rfl, rfl, rfl, rfl, rfl, rfl, trivial⟩ ?_
                refine J.seq (fun K39 hK39 => ?_)
                refine J.region ?_
                refine J.y ((op_loadB 4 rfl rfl rfl Try.isAgg4 rfl).as (v' := .bool (decide (x.d.off = true))) (by rw [Bool.decide_eq_true])) rfl rfl rfl ?_
                refine J.nil ?_
                refine J.then_n (J.k hK39 ?_)
                refine J.keepE [(0, _), (3, _), (5, _), (6, _), (8, _), (9, _), (10, _), (11, _), (12, _), (13, _), (14, _), (18, _), (19, _), (149, _)] ⟨rfl, rfl, rfl, rfl, rfl, rfl, rfl, rfl, rfl, rfl, rfl, rfl, rfl, rfl, trivial⟩ ?_
                refine J.ite rfl (fun h149 => ?_) (fun h149 => ?_)
                ·
                  refine J.region ?_
                  refine J.y (op_assign rfl rfl) rfl rfl rfl ?_
                  refine J.nil ?_
                  refine J.blk_n ?_
                  refine J.then_n ?_
                  exact J.kk (({ x with m := m148 } : P9), 8) hK28 (hI.same (sy_off h149).1 hb148) ⟨rfl, rfl, rfl, rfl, rfl, rfl, rfl, rfl, rfl, rfl, rfl, rfl, by rw [(sy_off h149).2]; rfl, trivial⟩ (fun _ h => h.pick [0, 1, 2, 3, 4, 5, 6, 7, 8, 9, 10] (by decide))
                ·
                  refine J.seq (fun K40 hK40 => ?_)
                  refine J.region ?_
                  refine J.y (op_loadB 5 rfl rfl rfl Try.isAgg3 rfl) rfl rfl rfl ?_
                  refine J.y (op_eql rfl rfl rfl) rfl rfl rfl ?_
                  refine J.nil ?_
                  refine J.then_n (J.k hK40 ?_)
                  refine J.keepE [(0, _), (3, _), (5, _), (6, _), (8, _), (9, _), (10, _), (11, _), (12, _), (13, _), (14, _), (18, _), (19, _), (151, _)] ⟨rfl, rfl, rfl, rfl, rfl, rfl, rfl, rfl, rfl, rfl, rfl, rfl, rfl, rfl, trivial⟩ ?_
                  refine J.ite rfl (fun h151 => ?_) (fun h151 => ?_)
                  ·
                    refine J.seq (fun K41 hK41 => ?_)
                    refine J.region ?_
                    refine J.y (op_assign rfl rfl) rfl rfl rfl ?_
                    refine J.nil ?_
                    refine J.then_n (J.k hK41 ?_)
                    refine J.keepE [(0, _), (3, _), (5, _), (6, _), (8, _), (9, _), (10, _), (11, _), (12, _), (13, _), (14, _), (18, _), (19, _)] ⟨rfl, rfl, rfl, rfl, rfl, rfl, rfl, rfl, rfl, rfl, rfl, rfl, rfl, trivial⟩ ?_
                    refine J.region ?_
                    refine J.y (op_move rfl rfl) rfl rfl rfl ?_
                    refine J.y (op_move rfl rfl) rfl rfl rfl ?_
                    refine J.e (op_callV rfl rfl rfl ent14 (Ct.useA [blk g8 [.slice x.AO x.d.wait.length x.cO] 42, blk g6 (x.d.last.map Str) 41, blk g9 [.slice x.AT x.d.wait.length x.cT] 35, blk g5 ((held x.d).map Str) 41, blk g10 [.bool x.d.off] 4, blk g11 [I (fz x.d)] 3] [m148, F, x.mK, x.mO, x.mT, blk g15 X.cells 32] (A' := fun _ : Unit => [blk g8 [.slice none 0 0] 42, blk g6 ((dead x.d).last.map Str) 41, blk g9 [.slice none 0 0] 35, blk g5 ((held (dead x.d)).map Str) 41, blk g10 [.bool true] 4, blk g11 [I (-1)] 3]) (new := fun _ => []) (fun F' hF => cutc_ct F' g8 g6 g9 g5 g10 g11 x.d.last hI.l6 hI.ok.l64 x.d.wait hI.ok.w64 (by have := hI.wk; omega) x.AO x.cO x.AT x.cT (hI.rO.sl.mono (hF x.mO (by simp))) (hI.rT.sl.mono (hF x.mT (by simp))) (held x.d) (held_len _) x.d.off (fz x.d) x.E x.q x.K (hI.sE.mono (hF F (by simp))) hI.nE (dead x.d).last (held (dead x.d)) (by rw [← hI.kK (((fz_burns hI.ok).2 h151).1)]; rfl) (held_dead hI.l6)))) rfl rfl rfl ?_
                    rintro _ _
                    change J _ ((154, .tuple #[]) :: _) _ [blk g8 [.slice none 0 0] 42, blk g6 ((dead x.d).last.map Str) 41, blk g9 [.slice none 0 0] 35, blk g5 ((held (dead x.d)).map Str) 41, blk g10 [.bool true] 4, blk g11 [I (-1)] 3, m148, F, x.mK, x.mO, x.mT, blk g15 X.cells 32] _
                    refine J.addEmpty [0, 1, 2, 3, 4, 5, 6, 7, 8, 12] [blk g8 [.slice none 0 0] 42, blk g6 ((dead x.d).last.map Str) 41, blk g9 [.slice none 0 0] 35, blk g5 ((held (dead x.d)).map Str) 41, blk g10 [.bool true] 4, blk g11 [I (-1)] 3, m148, F, x.mK, (fun _ => none)] rfl (by decide) ?_
                    refine J.addEmpty [0, 1, 2, 3, 4, 5, 6, 7, 8, 9, 10] [blk g8 [.slice none 0 0] 42, blk g6 ((dead x.d).last.map Str) 41, blk g9 [.slice none 0 0] 35, blk g5 ((held (dead x.d)).map Str) 41, blk g10 [.bool true] 4, blk g11 [I (-1)] 3, m148, F, x.mK, (fun _ => none), (fun _ => none)] rfl (by decide) ?_
                    refine J.nil ?_
                    refine J.blk_n ?_
                    refine J.then_n ?_
                    exact J.kk (x.gone (dead x.d) m148, 8) hK28 (hI.gone (sy_dead hI.l6 hI.ok h149 h151).1 hb148 ((sy_dead hI.l6 hI.ok h149 h151).1 ▸ hI.ok.sync) (dead_l6 hI.l6) rfl rfl (fun e => nomatch e)) ⟨rfl, rfl, rfl, rfl, rfl, rfl, rfl, rfl, rfl, rfl, rfl, rfl, by rw [(sy_dead hI.l6 hI.ok h149 h151).2]; rfl, trivial⟩ (fun _ h => h.pick [0, 1, 2, 3, 4, 5, 6, 7, 8, 9, 10] (by decide))
                  ·
                    refine J.seq (fun K42 hK42 => ?_)
                    refine J.region ?_
                    refine J.y (op_loadB 5 rfl rfl rfl Try.isAgg3 rfl) rfl rfl rfl ?_
                    refine J.y (op_sub rfl rfl rfl (by have := fz_ge hI.ok; omega)) rfl rfl rfl ?_
                    refine J.y ((op_max rfl rfl rfl).as (v' := I (fz (dsy x.d))) (congrArg I (fz_bf hI.ok h151 (dsy x.d) rfl rfl).symm)) rfl rfl rfl ?_
                    refine J.s (op_store (i := 5) (vs := [I (fz (dsy x.d))]) rfl rfl rfl rfl rfl Try.sizeOf3 rfl (by simp)) rfl rfl (fun _ _ => ?_)
                    change J _ _ _ [blk g8 [.slice x.AO x.d.wait.length x.cO] 42, blk g6 (x.d.last.map Str) 41, blk g9 [.slice x.AT x.d.wait.length x.cT] 35, blk g5 ((held x.d).map Str) 41, blk g10 [.bool x.d.off] 4, blk g11 [I (fz (dsy x.d))] 3, m148, F, x.mK, x.mO, x.mT, blk g15 X.cells 32] _
                    refine J.nil ?_
                    refine J.then_n (J.k hK42 ?_)
                    refine J.keepE [(0, _), (3, _), (5, _), (6, _), (8, _), (9, _), (10, _), (11, _), (12, _), (13, _), (14, _), (18, _), (19, _)] ⟨rfl, rfl, rfl, rfl, rfl, rfl, rfl, rfl, rfl, rfl, rfl, rfl, rfl, trivial⟩ ?_
                    refine J.region ?_
                    refine J.y ((op_loadBA 3 rfl rfl rfl Try.isAgg41 Try.sizeOf41 (by rw [List.length_map]; exact held_len x.d)).as (v' := .agg ((dsy x.d).last.map Str).toArray) rfl) rfl rfl rfl ?_
                    refine J.s (op_storeAll (l := x.d.last.map Str) (i := 1) (vs := (dsy x.d).last.map Str) rfl rfl rfl rfl rfl (fun w => by rw [List.length_map, show (dsy x.d).last.length = 6 from held_len x.d]; exact Try.sizeOf41 w) (by simp [Value.oneCell']) (by rw [List.length_map, show (dsy x.d).last.length = 6 from held_len x.d, List.length_map, hI.l6])) rfl rfl (fun _ _ => ?_)
                    change J _ _ _ [blk g8 [.slice x.AO x.d.wait.length x.cO] 42, blk g6 ((dsy x.d).last.map Str) 41, blk g9 [.slice x.AT x.d.wait.length x.cT] 35, blk g5 ((held x.d).map Str) 41, blk g10 [.bool x.d.off] 4, blk g11 [I (fz (dsy x.d))] 3, m148, F, x.mK, x.mO, x.mT, blk g15 X.cells 32] _
                    refine J.s (op_store (i := 0) (vs := [.slice none 0 0]) rfl rfl rfl rfl rfl Try.sizeOf42 rfl (by simp)) rfl rfl (fun _ _ => ?_)
                    change J _ _ _ [blk g8 [.slice none 0 0] 42, blk g6 ((dsy x.d).last.map Str) 41, blk g9 [.slice x.AT x.d.wait.length x.cT] 35, blk g5 ((held x.d).map Str) 41, blk g10 [.bool x.d.off] 4, blk g11 [I (fz (dsy x.d))] 3, m148, F, x.mK, x.mO, x.mT, blk g15 X.cells 32] _
                    refine J.s (op_store (i := 2) (vs := [.slice none 0 0]) rfl rfl rfl rfl rfl Try.sizeOf35 rfl (by simp)) rfl rfl (fun _ _ => ?_)
                    change J _ _ _ [blk g8 [.slice none 0 0] 42, blk g6 ((dsy x.d).last.map Str) 41, blk g9 [.slice none 0 0] 35, blk g5 ((held x.d).map Str) 41, blk g10 [.bool x.d.off] 4, blk g11 [I (fz (dsy x.d))] 3, m148, F, x.mK, x.mO, x.mT, blk g15 X.cells 32] _
                    refine J.addEmpty [0, 1, 2, 3, 4, 5, 6, 7, 8, 12] [blk g8 [.slice none 0 0] 42, blk g6 ((dsy x.d).last.map Str) 41, blk g9 [.slice none 0 0] 35, blk g5 ((held x.d).map Str) 41, blk g10 [.bool x.d.off] 4, blk g11 [I (fz (dsy x.d))] 3, m148, F, x.mK, (fun _ => none)] rfl (by decide) ?_
                    refine J.addEmpty [0, 1, 2, 3, 4, 5, 6, 7, 8, 9, 10] [blk g8 [.slice none 0 0] 42, blk g6 ((dsy x.d).last.map Str) 41, blk g9 [.slice none 0 0] 35, blk g5 ((held x.d).map Str) 41, blk g10 [.bool x.d.off] 4, blk g11 [I (fz (dsy x.d))] 3, m148, F, x.mK, (fun _ => none), (fun _ => none)] rfl (by decide) ?_
                    refine J.nil ?_
                    refine J.blk_n ?_
                    refine J.then_n ?_
                    exact J.kk (x.gone (dsy x.d) m148, 0) hK28 (hI.gone (sy_ok hI.l6 hI.ok h149 h151).1 hb148 ((sy_ok hI.l6 hI.ok h149 h151).1 ▸ hI.ok.sync) (held_len _) rfl rfl (fun e => e)) ⟨rfl, rfl, rfl, rfl, rfl, rfl, rfl, rfl, rfl, rfl, rfl, rfl, by rw [(sy_ok hI.l6 hI.ok h149 h151).2]; rfl, trivial⟩ (fun _ h => by rw [held_sy x.d] at h; exact h.pick [0, 1, 2, 3, 4, 5, 6, 7, 8, 9, 10] (by decide))
              ·
                refine J.seq (fun K43 hK43 => ?_)
                refine J.region ?_
                refine J.y (op_eql rfl rfl rfl) rfl rfl rfl ?_
                refine J.y (op_assign rfl rfl) rfl rfl rfl ?_
                refine J.nil ?_
                refine J.then_n (J.k hK43 ?_)
                refine J.keepE [(0, _), (3, _), (5, _), (6, _), (8, _), (9, _), (10, _), (11, _), (12, _), (13, _), (14, _), (15, _), (16, _), (17, _), (18, _), (19, _), (79, _), (159, _)] ⟨rfl, rfl, rfl, rfl, rfl, rfl, rfl, rfl, rfl, rfl, rfl, rfl, rfl, rfl, rfl, rfl, rfl, rfl, trivial⟩ ?_
                refine J.ite rfl (fun h159 => ?_) (fun h159 => ?_)
                ·
                  refine J.seq (fun K44 hK44 => ?_)
                  refine J.region ?_
                  refine J.y (op_move rfl rfl) rfl rfl rfl ?_
                  refine J.y (op_fieldAddr (j := 2) rfl rfl Try.underlying32 rfl Try.sizeOf3 rfl) rfl rfl rfl ?_
                  refine J.y (op_loadB 11 rfl rfl rfl Try.isAgg3 rfl) rfl rfl rfl ?_
                  refine J.y (op_fieldAddr (j := 4) rfl rfl Try.underlying32 rfl Try.sizeOf23 rfl) rfl rfl rfl ?_
                  refine J.y (op_loadB 11 rfl rfl rfl Try.isAgg23 rfl) rfl rfl rfl ?_
                  refine J.e (op_call rfl rfl ent16 (Ct.use1 6 (m' := fun y : Hp × Option Addr × Nat × Hp => y.1) (new := fun y => [y.2.2.2]) rfl (fun F' hF => fuse_ct F' x.m x.g x.d x.C x.f hI.dk hI.ok X.n X.keep X.kE X.kq (hX.2.2.2.1.mono (hF F (by simp))) hX.2.2.2.2))) rfl rfl rfl ?_
                  rintro ⟨m166, C6, f6, mK6⟩ ⟨hb166, hr166⟩
                  change J _ _ _ [blk g8 [.slice x.AO x.d.wait.length x.cO] 42, blk g6 (x.d.last.map Str) 41, blk g9 [.slice x.AT x.d.wait.length x.cT] 35, blk g5 ((held x.d).map Str) 41, blk g10 [.bool x.d.off] 4, blk g11 [I (fz x.d)] 3, m166, F, x.mK, x.mO, x.mT, blk g15 X.cells 32, mK6] _
                  dsimp only at hb166 hr166
                  refine J.nil ?_
                  refine J.then_n (J.k hK44 ?_)
                  refine J.keepE [(0, _), (3, _), (5, _), (6, _), (8, _), (9, _), (10, _), (11, _), (13, _), (14, _), (15, _), (18, _), (19, _)] ⟨rfl, rfl, rfl, rfl, rfl, rfl, rfl, rfl, rfl, rfl, rfl, rfl, rfl, trivial⟩ ?_
                  refine J.draw [F, blk g15 X.cells 32] [] (.y 0 (.y 1 (.y 2 (.y 3 (.y 4 (.e 5 (.y 6 .nil))))))) Try.wide (by decide +kernel) (by simp) ?_
                  refine J.dy rfl (op_fieldAddr (j := 2) rfl rfl Try.underlying32 rfl Try.sizeOf3 rfl) rfl rfl rfl rfl ?_
                  refine J.dy rfl (op_loadB 1 (l := X.cells) (v := I X.n) rfl rfl rfl Try.isAgg3 rfl) rfl rfl rfl rfl ?_
                  refine J.dy rfl ((op_max rfl rfl rfl).as (v' := I (fz (x.d.setFuse X.n X.keep))) (congrArg I (fz_set x.d X.n X.keep))) rfl rfl rfl rfl ?_
                  refine J.dy rfl (op_fieldAddr (j := 4) rfl rfl Try.underlying32 rfl Try.sizeOf23 rfl) rfl rfl rfl rfl ?_
                  refine J.dy rfl (op_loadB 1 (l := X.cells) (v := .slice X.kE X.keep.length X.kq) rfl rfl rfl Try.isAgg23 rfl) rfl rfl rfl rfl ?_
                  refine J.dsN rfl (op_store (i := 5) (vs := [I (fz (x.d.setFuse X.n X.keep))]) rfl rfl rfl rfl rfl Try.sizeOf3 rfl (by simp)) rfl rfl (by simp) (fun _ _ => ?_)
                  change J _ _ _ [blk g8 [.slice x.AO x.d.wait.length x.cO] 42, blk g6 (x.d.last.map Str) 41, blk g9 [.slice x.AT x.d.wait.length x.cT] 35, blk g5 ((held x.d).map Str) 41, blk g10 [.bool x.d.off] 4, blk g11 [I (fz (x.d.setFuse X.n X.keep))] 3, m166, F, x.mK, x.mO, x.mT, blk g15 X.cells 32, mK6] _
                  refine J.dy rfl (op_assign rfl rfl) rfl rfl rfl rfl ?_
                  refine J.perm [0, 1, 2, 3, 4, 5, 6, 7, 12, 9, 10, 11] [blk g8 [.slice x.AO x.d.wait.length x.cO] 42, blk g6 (x.d.last.map Str) 41, blk g9 [.slice x.AT x.d.wait.length x.cT] 35, blk g5 ((held x.d).map Str) 41, blk g10 [.bool x.d.off] 4, blk g11 [I (fz (x.d.setFuse X.n X.keep))] 3, m166, F, mK6, x.mO, x.mT, blk g15 X.cells 32] rfl (by decide) ?_
                  refine J.dnil ?_
                  refine J.blk_n ?_
                  refine J.then_n ?_
                  exact J.kk (({ x with d := x.d.setFuse X.n X.keep, m := m166, C := C6, f := f6, mK := mK6, E := X.kE, q := X.kq, K := X.keep } : P9), 0) hK28 (hI.fused hX.2.2.1 hX.2.2.2.1 hX.2.2.2.2 hb166 hr166) ⟨rfl, rfl, rfl, rfl, rfl, rfl, rfl, rfl, rfl, rfl, rfl, rfl, rfl, trivial⟩ (fun _ h => h.pick [0, 1, 2, 3, 4, 5, 6, 7, 8, 9, 10] (by decide))
                ·
                  refine J.seq (fun K45 hK45 => ?_)
                  refine J.region ?_
                  refine J.y (op_eql rfl rfl rfl) rfl rfl rfl ?_
                  refine J.y (op_assign rfl rfl) rfl rfl rfl ?_
                  refine J.nil ?_
                  refine J.then_n (J.k hK45 ?_)
                  refine J.keepE [(0, _), (3, _), (5, _), (6, _), (8, _), (9, _), (10, _), (11, _), (12, _), (13, _), (14, _), (15, _), (16, _), (17, _), (18, _), (19, _), (79, _), (172, _)] ⟨rfl, rfl, rfl, rfl, rfl, rfl, rfl, rfl, rfl, rfl, rfl, rfl, rfl, rfl, rfl, rfl, rfl, rfl, trivial⟩ ?_
                  refine J.ite rfl (fun h172 => ?_) (fun h172 => ?_)
                  ·
                    refine J.seq (fun K46 hK46 => ?_)
                    refine J.region ?_
                    refine J.y (op_move rfl rfl) rfl rfl rfl ?_
                    refine J.y (op_fieldAddr (j := 4) rfl rfl Try.underlying32 rfl Try.sizeOf23 rfl) rfl rfl rfl ?_
                    refine J.y (op_loadB 11 rfl rfl rfl Try.isAgg23 rfl) rfl rfl rfl ?_
                    refine J.e (op_call rfl rfl ent11 (Ct.use1 6 (m' := fun y : Hp => y) (new := fun _ => []) rfl (fun F' hF => cutB_ct F' x.m x.g x.d x.C x.f hI.dk hI.ok.1 (by have := hI.wk; omega) X.keep X.kE X.kq (hX.2.2.2.1.mono (hF F (by simp))) (Nat.le_trans hX.2.2.2.2 (by decide))))) rfl rfl rfl ?_
                    rintro m177 hb177
                    change J _ _ _ [blk g8 [.slice x.AO x.d.wait.length x.cO] 42, blk g6 (x.d.last.map Str) 41, blk g9 [.slice x.AT x.d.wait.length x.cT] 35, blk g5 ((held x.d).map Str) 41, blk g10 [.bool x.d.off] 4, blk g11 [I (fz x.d)] 3, m177, F, x.mK, x.mO, x.mT, blk g15 X.cells 32] _
                    refine J.nil ?_
                    refine J.then_n (J.k hK46 ?_)
                    refine J.keepE [(0, _), (3, _), (5, _), (6, _), (8, _), (9, _), (10, _), (11, _), (12, _), (13, _), (14, _), (15, _), (18, _), (19, _)] ⟨rfl, rfl, rfl, rfl, rfl, rfl, rfl, rfl, rfl, rfl, rfl, rfl, rfl, rfl, trivial⟩ ?_
                    refine J.region ?_
                    refine J.y (op_move rfl rfl) rfl rfl rfl ?_
                    refine J.y (op_fieldAddr (j := 4) rfl rfl Try.underlying32 rfl Try.sizeOf23 rfl) rfl rfl rfl ?_
                    refine J.y (op_loadB 11 rfl rfl rfl Try.isAgg23 rfl) rfl rfl rfl ?_
                    refine J.e (op_callV rfl rfl rfl ent14 (Ct.useA [blk g8 [.slice x.AO x.d.wait.length x.cO] 42, blk g6 (x.d.last.map Str) 41, blk g9 [.slice x.AT x.d.wait.length x.cT] 35, blk g5 ((held x.d).map Str) 41, blk g10 [.bool x.d.off] 4, blk g11 [I (fz x.d)] 3] [m177, F, x.mK, x.mO, x.mT, blk g15 X.cells 32] (A' := fun _ : Unit => [blk g8 [.slice none 0 0] 42, blk g6 ((x.d.cut X.keep).last.map Str) 41, blk g9 [.slice none 0 0] 35, blk g5 ((held (x.d.cut X.keep)).map Str) 41, blk g10 [.bool true] 4, blk g11 [I (-1)] 3]) (new := fun _ => []) (fun F' hF => cutc_ct F' g8 g6 g9 g5 g10 g11 x.d.last hI.l6 hI.ok.l64 x.d.wait hI.ok.w64 (by have := hI.wk; omega) x.AO x.cO x.AT x.cT (hI.rO.sl.mono (hF x.mO (by simp))) (hI.rT.sl.mono (hF x.mT (by simp))) (held x.d) (held_len _) x.d.off (fz x.d) X.kE X.kq X.keep (hX.2.2.2.1.mono (hF F (by simp))) (Nat.le_trans hX.2.2.2.2 (by decide)) (x.d.cut X.keep).last (held (x.d.cut X.keep)) rfl (held_cut hI.l6 X.keep)))) rfl rfl rfl ?_
                    rintro _ _
                    change J _ ((181, .tuple #[]) :: _) _ [blk g8 [.slice none 0 0] 42, blk g6 ((x.d.cut X.keep).last.map Str) 41, blk g9 [.slice none 0 0] 35, blk g5 ((held (x.d.cut X.keep)).map Str) 41, blk g10 [.bool true] 4, blk g11 [I (-1)] 3, m177, F, x.mK, x.mO, x.mT, blk g15 X.cells 32] _
                    refine J.addEmpty [0, 1, 2, 3, 4, 5, 6, 7, 8, 12] [blk g8 [.slice none 0 0] 42, blk g6 ((x.d.cut X.keep).last.map Str) 41, blk g9 [.slice none 0 0] 35, blk g5 ((held (x.d.cut X.keep)).map Str) 41, blk g10 [.bool true] 4, blk g11 [I (-1)] 3, m177, F, x.mK, (fun _ => none)] rfl (by decide) ?_
                    refine J.addEmpty [0, 1, 2, 3, 4, 5, 6, 7, 8, 9, 10] [blk g8 [.slice none 0 0] 42, blk g6 ((x.d.cut X.keep).last.map Str) 41, blk g9 [.slice none 0 0] 35, blk g5 ((held (x.d.cut X.keep)).map Str) 41, blk g10 [.bool true] 4, blk g11 [I (-1)] 3, m177, F, x.mK, (fun _ => none), (fun _ => none)] rfl (by decide) ?_
                    refine J.nil ?_
                    refine J.blk_n ?_
                    refine J.then_n ?_
                    exact J.kk (x.gone (x.d.cut X.keep) m177, 0) hK28 (hI.gone rfl hb177 (hI.ok.cut _) (by show (cutL _ _ _ _).length = 6; rw [cutL_len9]; exact hI.l6) rfl rfl (fun e => nomatch e)) ⟨rfl, rfl, rfl, rfl, rfl, rfl, rfl, rfl, rfl, rfl, rfl, rfl, rfl, trivial⟩ (fun _ h => h.pick [0, 1, 2, 3, 4, 5, 6, 7, 8, 9, 10] (by decide))
                  ·
                    refine J.seq (fun K47 hK47 => ?_)
                    refine J.region ?_
                    refine J.y (op_eql rfl rfl rfl) rfl rfl rfl ?_
                    refine J.y (op_assign rfl rfl) rfl rfl rfl ?_
                    refine J.nil ?_
                    refine J.then_n (J.k hK47 ?_)
                    refine J.keepE [(0, _), (3, _), (5, _), (6, _), (8, _), (9, _), (10, _), (11, _), (12, _), (13, _), (14, _), (15, _), (16, _), (17, _), (18, _), (19, _), (79, _), (182, _)] ⟨rfl, rfl, rfl, rfl, rfl, rfl, rfl, rfl, rfl, rfl, rfl, rfl, rfl, rfl, rfl, rfl, rfl, rfl, trivial⟩ ?_
                    refine J.ite rfl (fun h182 => ?_) (fun h182 => ?_)
                    ·
                      refine J.seq (fun K48 hK48 => ?_)
                      refine J.region ?_
                      refine J.y (op_move rfl rfl) rfl rfl rfl ?_
                      refine J.e (op_call rfl rfl ent12 (Ct.use1 6 (m' := fun y : Hp => y) (new := fun _ => []) rfl (fun F' hF => start_ct F' x.m x.g x.d x.C x.f hI.dk hI.ok))) rfl rfl rfl ?_
                      rintro m185 hb185
                      change J _ _ _ [blk g8 [.slice x.AO x.d.wait.length x.cO] 42, blk g6 (x.d.last.map Str) 41, blk g9 [.slice x.AT x.d.wait.length x.cT] 35, blk g5 ((held x.d).map Str) 41, blk g10 [.bool x.d.off] 4, blk g11 [I (fz x.d)] 3, m185, F, x.mK, x.mO, x.mT, blk g15 X.cells 32] _
                      refine J.nil ?_
                      refine J.then_n (J.k hK48 ?_)
                      refine J.keepE [(0, _), (3, _), (5, _), (6, _), (8, _), (9, _), (10, _), (11, _), (12, _), (13, _), (14, _), (18, _), (19, _)] ⟨rfl, rfl, rfl, rfl, rfl, rfl, rfl, rfl, rfl, rfl, rfl, rfl, rfl, trivial⟩ ?_
                      refine J.region ?_
                      refine J.s (op_store (i := 4) (vs := [.bool false]) rfl rfl rfl rfl rfl Try.sizeOf4 rfl (by simp)) rfl rfl (fun _ _ => ?_)
                      change J _ _ _ [blk g8 [.slice x.AO x.d.wait.length x.cO] 42, blk g6 (x.d.last.map Str) 41, blk g9 [.slice x.AT x.d.wait.length x.cT] 35, blk g5 ((held x.d).map Str) 41, blk g10 [.bool false] 4, blk g11 [I (fz x.d)] 3, m185, F, x.mK, x.mO, x.mT, blk g15 X.cells 32] _
                      refine J.nil ?_
                      refine J.blk_n ?_
                      refine J.then_n ?_
                      exact J.kk (({ x with d := x.d.start, m := m185 } : P9), 0) hK28 (hI.started hb185) ⟨rfl, rfl, rfl, rfl, rfl, rfl, rfl, rfl, rfl, rfl, rfl, rfl, rfl, trivial⟩ (fun _ h => h.pick [0, 1, 2, 3, 4, 5, 6, 7, 8, 9, 10] (by decide))
                    ·
                      refine J.seq (fun K49 hK49 => ?_)
                      refine J.region ?_
                      refine J.y (op_eql rfl rfl rfl) rfl rfl rfl ?_
                      refine J.y (op_assign rfl rfl) rfl rfl rfl ?_
                      refine J.nil ?_
                      refine J.then_n (J.k hK49 ?_)
                      refine J.keepE [(0, _), (3, _), (5, _), (6, _), (8, _), (9, _), (10, _), (11, _), (12, _), (13, _), (14, _), (15, _), (16, _), (17, _), (18, _), (19, _), (186, _)] ⟨rfl, rfl, rfl, rfl, rfl, rfl, rfl, rfl, rfl, rfl, rfl, rfl, rfl, rfl, rfl, rfl, rfl, trivial⟩ ?_
                      refine J.ite rfl (fun h186 => ?_) (fun h186 => ?_)
                      ·
                        obtain ⟨A2, c2, B2, e2, hc2, hsL2, hsW2⟩ := hI.dk.see
                        refine J.region ?_
                        refine J.y (op_move rfl rfl) rfl rfl rfl ?_
                        refine J.e (op_call rfl rfl ent17 (Ct.use (new := fun x : Nat × Hp => [x.2]) (fun F' hF => (copy_ct F' x.g x.d A2 c2 B2 e2 x.C x.f (hc2.mono (hF x.m (by simp))) (hsL2.mono (hF x.m (by simp))) (hsW2.mono (hF x.m (by simp))) (by rw [hI.l6]; decide) (by have := hI.wk; omega)).mono (φ2 := fun y : Nat × Hp => Dsk y.2 y.1 x.d x.C x.f) (val2 := fun y : Nat × Hp => Ptr y.1) (ms2 := fun y : Nat × Hp => F' :: [y.2]) id (fun _ _ => rfl) (fun _ h => h) (fun y w0 w _ h => h.pick [1, 0] (by decide))))) rfl rfl rfl ?_
                        rintro ⟨g189, m189⟩ hb189
                        try dsimp only at hb189
                        change J _ _ _ [blk g8 [.slice x.AO x.d.wait.length x.cO] 42, blk g6 (x.d.last.map Str) 41, blk g9 [.slice x.AT x.d.wait.length x.cT] 35, blk g5 ((held x.d).map Str) 41, blk g10 [.bool x.d.off] 4, blk g11 [I (fz x.d)] 3, x.m, F, x.mK, x.mO, x.mT, blk g15 X.cells 32, m189] _
                        refine J.y (op_assign rfl rfl) rfl rfl rfl ?_
                        refine J.perm [0, 1, 2, 3, 4, 5, 12, 7, 8, 9, 10, 11] [blk g8 [.slice x.AO x.d.wait.length x.cO] 42, blk g6 (x.d.last.map Str) 41, blk g9 [.slice x.AT x.d.wait.length x.cT] 35, blk g5 ((held x.d).map Str) 41, blk g10 [.bool x.d.off] 4, blk g11 [I (fz x.d)] 3, m189, F, x.mK, x.mO, x.mT, blk g15 X.cells 32] rfl (by decide) ?_
                        refine J.nil ?_
                        refine J.blk_n ?_
                        refine J.then_n ?_
                        exact J.kk (({ x with g := g189, m := m189 } : P9), 0) hK28 (hI.same rfl hb189) ⟨rfl, rfl, rfl, rfl, rfl, rfl, rfl, rfl, rfl, rfl, rfl, rfl, rfl, trivial⟩ (fun _ h => h.pick [0, 1, 2, 3, 4, 5, 6, 7, 8, 9, 10] (by decide))
                      ·
                        refine J.seq (fun K50 hK50 => ?_)
                        refine J.region ?_
                        refine J.y (op_move rfl rfl) rfl rfl rfl ?_
                        refine J.y (op_fieldAddr (j := 1) rfl rfl Try.underlying32 rfl Try.sizeOf3 rfl) rfl rfl rfl ?_
                        refine J.y (op_loadB 11 rfl rfl rfl Try.isAgg3 rfl) rfl rfl rfl ?_
                        refine J.y (op_move rfl rfl) rfl rfl rfl ?_
                        refine J.e (op_call rfl rfl ent9 (Ct.use1 6 (m' := fun y : Hp => y) (new := fun _ => []) rfl (fun F' hF => write_ct F' x.m x.g x.d x.C x.f hI.dk hI.ok (by have := hI.wk; omega) (hI.sK.mono (hF x.mK (by simp))) hI.nK X.at_ u (by omega)))) rfl rfl rfl ?_
                        rintro m84 hb84
                        change J _ _ _ [blk g8 [.slice x.AO x.d.wait.length x.cO] 42, blk g6 (x.d.last.map Str) 41, blk g9 [.slice x.AT x.d.wait.length x.cT] 35, blk g5 ((held x.d).map Str) 41, blk g10 [.bool x.d.off] 4, blk g11 [I (fz x.d)] 3, m84, F, x.mK, x.mO, x.mT, blk g15 X.cells 32] _
                        refine J.y (op_assign rfl rfl) rfl rfl rfl ?_
                        refine J.nil ?_
                        refine J.then_n (J.k hK50 ?_)
                        refine J.keepE [(0, _), (3, _), (5, _), (6, _), (8, _), (9, _), (10, _), (11, _), (12, _), (13, _), (14, _), (15, _), (16, _), (17, _), (18, _), (19, _)] ⟨rfl, rfl, rfl, rfl, rfl, rfl, rfl, rfl, rfl, rfl, rfl, rfl, rfl, rfl, rfl, rfl, trivial⟩ ?_
                        refine J.seq (fun K51 hK51 => ?_)
                        refine J.region ?_
                        refine J.y ((op_loadB 4 rfl rfl rfl Try.isAgg4 rfl).as (v' := .bool (decide (x.d.off = true))) (by rw [Bool.decide_eq_true])) rfl rfl rfl ?_
                        refine J.nil ?_
                        refine J.then_n (J.k hK51 ?_)
                        refine J.keepE [(0, _), (3, _), (5, _), (6, _), (8, _), (9, _), (10, _), (11, _), (12, _), (13, _), (14, _), (15, _), (16, _), (17, _), (18, _), (19, _), (85, _)] ⟨rfl, rfl, rfl, rfl, rfl, rfl, rfl, rfl, rfl, rfl, rfl, rfl, rfl, rfl, rfl, rfl, rfl, trivial⟩ ?_
                        refine J.ite rfl (fun h85 => ?_) (fun h85 => ?_)
                        ·
                          refine J.region ?_
                          refine J.y (op_assign rfl rfl) rfl rfl rfl ?_
                          refine J.nil ?_
                          refine J.blk_n ?_
                          refine J.then_n ?_
                          exact J.kk (({ x with m := m84 } : P9), 8) hK28 (hI.same (wr_off h85 _ _).1 hb84) ⟨rfl, rfl, rfl, rfl, rfl, rfl, rfl, rfl, rfl, rfl, rfl, rfl, by rw [(wr_off h85 _ _).2]; rfl, trivial⟩ (fun _ h => h.pick [0, 1, 2, 3, 4, 5, 6, 7, 8, 9, 10] (by decide))
                        ·
                          refine J.seq (fun K52 hK52 => ?_)
                          refine J.region ?_
                          refine J.y (op_move rfl rfl) rfl rfl rfl ?_
                          refine J.y (op_notD rfl rfl) rfl rfl rfl ?_
                          refine J.nil ?_
                          refine J.then_n (J.k hK52 ?_)
                          refine J.keepE [(0, _), (3, _), (5, _), (6, _), (8, _), (9, _), (10, _), (11, _), (12, _), (13, _), (14, _), (15, _), (16, _), (18, _), (19, _), (87, _)] ⟨rfl, rfl, rfl, rfl, rfl, rfl, rfl, rfl, rfl, rfl, rfl, rfl, rfl, rfl, rfl, rfl, trivial⟩ ?_
                          refine J.ite rfl (fun h87 => ?_) (fun h87 => ?_)
                          ·
                            refine J.region ?_
                            refine J.y (op_assign rfl rfl) rfl rfl rfl ?_
                            refine J.nil ?_
                            refine J.blk_n ?_
                            refine J.then_n ?_
                            exact J.kk (({ x with m := m84 } : P9), 10) hK28 (hI.same (wr_out hI.l6 h85 h87 _).1 hb84) ⟨rfl, rfl, rfl, rfl, rfl, rfl, rfl, rfl, rfl, rfl, rfl, rfl, by rw [(wr_out hI.l6 h85 h87 _).2]; rfl, trivial⟩ (fun _ h => h.pick [0, 1, 2, 3, 4, 5, 6, 7, 8, 9, 10] (by decide))
                          ·
                            refine J.seq (fun K53 hK53 => ?_)
                            refine J.region ?_
                            refine J.y (op_move rfl rfl) rfl rfl rfl ?_
                            refine J.y (op_slen Try.underlying9 rfl rfl) rfl rfl rfl ?_
                            refine J.y (op_gtr rfl rfl rfl) rfl rfl rfl ?_
                            refine J.nil ?_
                            refine J.then_n (J.k hK53 ?_)
                            refine J.keepE [(0, _), (3, _), (5, _), (6, _), (8, _), (9, _), (10, _), (11, _), (12, _), (13, _), (14, _), (15, _), (16, _), (18, _), (19, _), (90, _)] ⟨rfl, rfl, rfl, rfl, rfl, rfl, rfl, rfl, rfl, rfl, rfl, rfl, rfl, rfl, rfl, rfl, trivial⟩ ?_
                            refine J.ite rfl (fun h90 => ?_) (fun h90 => ?_)
                            ·
                              refine J.region ?_
                              refine J.y (op_assign rfl rfl) rfl rfl rfl ?_
                              refine J.nil ?_
                              refine J.blk_n ?_
                              refine J.then_n ?_
                              exact J.kk (({ x with m := m84 } : P9), 2) hK28 (hI.same (wr_long hI.l6 h85 (not_not9 h87) (show 64 < u.length by omega)).1 hb84) ⟨rfl, rfl, rfl, rfl, rfl, rfl, rfl, rfl, rfl, rfl, rfl, rfl, by rw [(wr_long hI.l6 h85 (not_not9 h87) (show 64 < u.length by omega)).2]; rfl, trivial⟩ (fun _ h => h.pick [0, 1, 2, 3, 4, 5, 6, 7, 8, 9, 10] (by decide))
                            ·
                              refine J.seq (fun K54 hK54 => ?_)
                              refine J.region ?_
                              refine J.y (op_loadB 5 rfl rfl rfl Try.isAgg3 rfl) rfl rfl rfl ?_
                              refine J.y (op_eql rfl rfl rfl) rfl rfl rfl ?_
                              refine J.nil ?_
                              refine J.then_n (J.k hK54 ?_)
                              refine J.keepE [(0, _), (3, _), (5, _), (6, _), (8, _), (9, _), (10, _), (11, _), (12, _), (13, _), (14, _), (15, _), (16, _), (18, _), (19, _), (92, _)] ⟨rfl, rfl, rfl, rfl, rfl, rfl, rfl, rfl, rfl, rfl, rfl, rfl, rfl, rfl, rfl, rfl, trivial⟩ ?_
                              refine J.ite rfl (fun h92 => ?_) (fun h92 => ?_)
                              ·
                                refine J.seq (fun K55 hK55 => ?_)
                                have hwd := (wr_dead (s := u) hI.l6 hI.ok h85 (not_not9 h87) (by omega) h92)
                                refine J.region ?_
                                refine J.y (op_assign rfl rfl) rfl rfl rfl ?_
                                refine J.nil ?_
                                refine J.then_n (J.k hK55 ?_)
                                refine J.keepE [(0, _), (3, _), (5, _), (6, _), (8, _), (9, _), (10, _), (11, _), (12, _), (13, _), (14, _), (18, _), (19, _)] ⟨rfl, rfl, rfl, rfl, rfl, rfl, rfl, rfl, rfl, rfl, rfl, rfl, rfl, trivial⟩ ?_
                                refine J.region ?_
                                refine J.y (op_move rfl rfl) rfl rfl rfl ?_
                                refine J.y (op_move rfl rfl) rfl rfl rfl ?_
                                refine J.e (op_callV rfl rfl rfl ent14 (Ct.useA [blk g8 [.slice x.AO x.d.wait.length x.cO] 42, blk g6 (x.d.last.map Str) 41, blk g9 [.slice x.AT x.d.wait.length x.cT] 35, blk g5 ((held x.d).map Str) 41, blk g10 [.bool x.d.off] 4, blk g11 [I (fz x.d)] 3] [m84, F, x.mK, x.mO, x.mT, blk g15 X.cells 32] (A' := fun _ : Unit => [blk g8 [.slice none 0 0] 42, blk g6 ((dead x.d).last.map Str) 41, blk g9 [.slice none 0 0] 35, blk g5 ((held (dead x.d)).map Str) 41, blk g10 [.bool true] 4, blk g11 [I (-1)] 3]) (new := fun _ => []) (fun F' hF => cutc_ct F' g8 g6 g9 g5 g10 g11 x.d.last hI.l6 hI.ok.l64 x.d.wait hI.ok.w64 (by have := hI.wk; omega) x.AO x.cO x.AT x.cT (hI.rO.sl.mono (hF x.mO (by simp))) (hI.rT.sl.mono (hF x.mT (by simp))) (held x.d) (held_len _) x.d.off (fz x.d) x.E x.q x.K (hI.sE.mono (hF F (by simp))) hI.nE (dead x.d).last (held (dead x.d)) (by rw [← hI.kK (((fz_burns hI.ok).2 h92).1)]; rfl) (held_dead hI.l6)))) rfl rfl rfl ?_
                                rintro _ _
                                change J _ ((95, .tuple #[]) :: _) _ [blk g8 [.slice none 0 0] 42, blk g6 ((dead x.d).last.map Str) 41, blk g9 [.slice none 0 0] 35, blk g5 ((held (dead x.d)).map Str) 41, blk g10 [.bool true] 4, blk g11 [I (-1)] 3, m84, F, x.mK, x.mO, x.mT, blk g15 X.cells 32] _
                                refine J.addEmpty [0, 1, 2, 3, 4, 5, 6, 7, 8, 12] [blk g8 [.slice none 0 0] 42, blk g6 ((dead x.d).last.map Str) 41, blk g9 [.slice none 0 0] 35, blk g5 ((held (dead x.d)).map Str) 41, blk g10 [.bool true] 4, blk g11 [I (-1)] 3, m84, F, x.mK, (fun _ => none)] rfl (by decide) ?_
                                refine J.addEmpty [0, 1, 2, 3, 4, 5, 6, 7, 8, 9, 10] [blk g8 [.slice none 0 0] 42, blk g6 ((dead x.d).last.map Str) 41, blk g9 [.slice none 0 0] 35, blk g5 ((held (dead x.d)).map Str) 41, blk g10 [.bool true] 4, blk g11 [I (-1)] 3, m84, F, x.mK, (fun _ => none), (fun _ => none)] rfl (by decide) ?_
                                refine J.nil ?_
                                refine J.blk_n ?_
                                refine J.then_n ?_
                                exact J.kk (x.gone (dead x.d) m84, 8) hK28 (hI.gone hwd.1 hb84 (hwd.1 ▸ hI.ok.write _ _) (dead_l6 hI.l6) rfl rfl (fun e => nomatch e)) ⟨rfl, rfl, rfl, rfl, rfl, rfl, rfl, rfl, rfl, rfl, rfl, rfl, by rw [hwd.2]; rfl, trivial⟩ (fun _ h => h.pick [0, 1, 2, 3, 4, 5, 6, 7, 8, 9, 10] (by decide))
                              ·
                                refine J.seq (fun K56 hK56 => ?_)
                                obtain ⟨j, hj⟩ := Int.eq_ofNat_of_zero_le (not_not9 h87).1
                                have hj6 : j < 6 := by have := (not_not9 h87).2; omega
                                rw [hj] at hb84
                                refine J.region ?_
                                refine J.y (op_loadB 5 rfl rfl rfl Try.isAgg3 rfl) rfl rfl rfl ?_
                                refine J.y (op_sub rfl rfl rfl (by have := fz_ge hI.ok; omega)) rfl rfl rfl ?_
                                refine J.y ((op_max rfl rfl rfl).as (v' := I (fz (dwr x.d j u))) (congrArg I (fz_bf hI.ok h92 (dwr x.d j u) rfl rfl).symm)) rfl rfl rfl ?_
                                refine J.s (op_store (i := 5) (vs := [I (fz (dwr x.d j u))]) rfl rfl rfl rfl rfl Try.sizeOf3 rfl (by simp)) rfl rfl (fun _ _ => ?_)
                                change J _ _ _ [blk g8 [.slice x.AO x.d.wait.length x.cO] 42, blk g6 (x.d.last.map Str) 41, blk g9 [.slice x.AT x.d.wait.length x.cT] 35, blk g5 ((held x.d).map Str) 41, blk g10 [.bool x.d.off] 4, blk g11 [I (fz (dwr x.d j u))] 3, m84, F, x.mK, x.mO, x.mT, blk g15 X.cells 32] _
                                refine J.nil ?_
                                refine J.then_n (J.k hK56 ?_)
                                refine J.keepE [(0, _), (3, _), (5, _), (6, _), (8, _), (9, _), (10, _), (11, _), (12, _), (13, _), (14, _), (15, _), (16, _), (18, _), (19, _)] ⟨rfl, rfl, rfl, rfl, rfl, rfl, rfl, rfl, rfl, rfl, rfl, rfl, rfl, rfl, rfl, trivial⟩ ?_
                                refine J.seq (fun K57 hK57 => ?_)
                                have hwo := (wr_ok (s := u) hI.l6 hI.ok h85 (j := j) (by omega) (by omega) h92)
                                have hcnt : x.d.wait.length + 1 = (dwr x.d j u).wait.length := by show _ = (x.d.wait ++ [_]).length; rw [List.length_append]; rfl
                                refine J.draw [F, blk g15 X.cells 32] [5] (.y 0 (.y 1 (.y 2 (.e 3 (.y 4 (.e 5 .nil)))))) Try.wide (by decide +kernel) (by simp) ?_
                                refine J.dy rfl (op_fieldAddr (j := 1) rfl rfl Try.underlying32 rfl Try.sizeOf3 rfl) rfl rfl rfl rfl ?_
                                refine J.dy rfl ((op_loadB 1 rfl rfl rfl Try.isAgg3 rfl).as (v' := I (j : Nat)) (by rw [hj])) rfl rfl rfl rfl ?_
                                refine J.dy rfl (op_move rfl rfl) rfl rfl rfl rfl ?_
                                refine J.de rfl (op_call rfl rfl ent8 (Ct.use0 (fun F' hF => full_ct F' u (by omega)))) rfl rfl rfl (by simp) ?_
                                intro g102 _
                                refine J.dy rfl (op_indexAddrJ (i := j) (j := j) rfl rfl rfl Try.underlying41 Try.sizeOf9 (by omega) (by omega)) rfl rfl rfl rfl ?_
                                refine J.ds rfl (op_store (i := 3) (vs := [Str (full u)]) rfl rfl rfl rfl rfl Try.sizeOf9 rfl (by rw [List.length_map, held_len]; show j + 1 ≤ 6; omega)) rfl rfl rfl (fun _ _ => ?_)
                                change J _ _ _ [blk g8 [.slice x.AO x.d.wait.length x.cO] 42, blk g6 (x.d.last.map Str) 41, blk g9 [.slice x.AT x.d.wait.length x.cT] 35, blk g5 (setAt ((held x.d).map Str) j [Str (full u)]) 41, blk g10 [.bool x.d.off] 4, blk g11 [I (fz (dwr x.d j u))] 3, m84, F, x.mK, x.mO, x.mT, blk g15 X.cells 32] _
                                rw [setAt_map Str _ _ _ (by rw [held_len]; omega), held_wr (show j < 6 by omega)]
                                refine J.dnil ?_
                                refine J.then_n (J.k hK57 ?_)
                                refine J.keepE [(0, _), (3, _), (5, _), (6, _), (8, _), (9, _), (10, _), (11, _), (12, _), (13, _), (14, _), (15, _), (16, _), (18, _), (19, _)] ⟨rfl, rfl, rfl, rfl, rfl, rfl, rfl, rfl, rfl, rfl, rfl, rfl, rfl, rfl, rfl, trivial⟩ ?_
                                refine J.draw [F, blk g15 X.cells 32, blk g8 [.slice x.AO x.d.wait.length x.cO] 42, blk g9 [.slice x.AT x.d.wait.length x.cT] 35] [10, 11] (.y 0 (.y 1 (.y 2 (.y 5 (.y 6 (.e 3 (.e 4 (.e 7 (.e 8 (.e 9 (.e 10 (.e 11 .nil)))))))))))) Try.wide (by decide +kernel) (by simp) ?_
                                refine J.dy rfl (op_loadB 2 rfl rfl rfl Try.isAgg42 rfl) rfl rfl rfl rfl ?_
                                refine J.dy rfl (op_fieldAddr (j := 1) rfl rfl Try.underlying32 rfl Try.sizeOf3 rfl) rfl rfl rfl rfl ?_
                                refine J.dy rfl ((op_loadB 1 rfl rfl rfl Try.isAgg3 rfl).as (v' := I (j : Nat)) (by rw [hj])) rfl rfl rfl rfl ?_
                                refine J.dy rfl (op_loadB 3 rfl rfl rfl Try.isAgg35 rfl) rfl rfl rfl rfl ?_
                                refine J.dy rfl (op_move rfl rfl) rfl rfl rfl rfl ?_
                                refine J.de rfl (op_buildSlice (l := [.tmp 106]) (xs := [[I (j : Nat)]]) rfl rfl rfl rfl Try.underlying42 el3 rfl (by decide) (by decide) (by simp)) rfl rfl rfl (by simp) ?_
                                intro g107 _
                                change J _ _ _ [blk g8 [.slice x.AO x.d.wait.length x.cO] 42, blk g6 (x.d.last.map Str) 41, blk g9 [.slice x.AT x.d.wait.length x.cT] 35, blk g5 ((held (dwr x.d j u)).map Str) 41, blk g10 [.bool x.d.off] 4, blk g11 [I (fz (dwr x.d j u))] 3, m84, F, x.mK, x.mO, x.mT, blk g15 X.cells 32, blk g107 [I (j : Nat)] 3] _
                                refine J.de rfl (op_append (i := 9) (m2 := blk g107 [I (j : Nat)] 3) (xs := intsV (ords x.d.wait)) (ys := intsV [(j : Int)]) rfl rfl rfl Try.underlying42 Try.underlying42 el3 rfl hI.rO (by simp) ((row_blk (q := True) (xs := intsV [(j : Int)]) rfl (by simp [intsV])).sl) (by simp [intsV, Value.oneCell']) (by have := hI.wk; omega) (by have := hI.wk; omega)) rfl rfl rfl (by simp) ?_
                                rintro ⟨A8, c8, m8⟩ h8
                                try dsimp only at h8
                                change J _ ((108, .slice A8 (x.d.wait.length + 1) c8) :: _) _ [blk g8 [.slice x.AO x.d.wait.length x.cO] 42, blk g6 (x.d.last.map Str) 41, blk g9 [.slice x.AT x.d.wait.length x.cT] 35, blk g5 ((held (dwr x.d j u)).map Str) 41, blk g10 [.bool x.d.off] 4, blk g11 [I (fz (dwr x.d j u))] 3, m84, F, x.mK, m8, x.mT, blk g15 X.cells 32, blk g107 [I (j : Nat)] 3] _
                                rw [hcnt]
                                refine J.de rfl (op_call rfl rfl ent8 (Ct.use0 (fun F' hF => full_ct F' u (by omega)))) rfl rfl rfl (by simp) ?_
                                intro g111 _
                                refine J.de rfl (op_buildSlice (l := [.tmp 111]) (xs := [[Str (full u)]]) rfl rfl rfl rfl Try.underlying35 el9 rfl (by decide) (by decide) (by simp)) rfl rfl rfl (by simp) ?_
                                intro g112 _
                                change J _ _ _ [blk g8 [.slice x.AO x.d.wait.length x.cO] 42, blk g6 (x.d.last.map Str) 41, blk g9 [.slice x.AT x.d.wait.length x.cT] 35, blk g5 ((held (dwr x.d j u)).map Str) 41, blk g10 [.bool x.d.off] 4, blk g11 [I (fz (dwr x.d j u))] 3, m84, F, x.mK, m8, x.mT, blk g15 X.cells 32, blk g107 [I (j : Nat)] 3, blk g112 [Str (full u)] 9] _
                                refine J.de rfl (op_append (i := 10) (m2 := blk g112 [Str (full u)] 9) (xs := strsV (txs x.d.wait)) (ys := strsV [full u]) rfl rfl rfl Try.underlying35 Try.underlying35 el9 rfl hI.rT (by simp) ((row_blk (q := True) (xs := strsV [full u]) rfl (by simp [strsV])).sl) (by simp [strsV, Value.oneCell']) (by have := hI.wk; omega) (by have := hI.wk; omega)) rfl rfl rfl (by simp) ?_
                                rintro ⟨A9, c9, m9⟩ h9
                                try dsimp only at h9
                                change J _ ((113, .slice A9 (x.d.wait.length + 1) c9) :: _) _ [blk g8 [.slice x.AO x.d.wait.length x.cO] 42, blk g6 (x.d.last.map Str) 41, blk g9 [.slice x.AT x.d.wait.length x.cT] 35, blk g5 ((held (dwr x.d j u)).map Str) 41, blk g10 [.bool x.d.off] 4, blk g11 [I (fz (dwr x.d j u))] 3, m84, F, x.mK, m8, m9, blk g15 X.cells 32, blk g107 [I (j : Nat)] 3, blk g112 [Str (full u)] 9] _
                                rw [hcnt]
                                refine J.ds rfl (op_store (i := 0) (vs := [.slice A8 (dwr x.d j u).wait.length c8]) rfl rfl rfl rfl rfl Try.sizeOf42 rfl (by simp)) rfl rfl rfl (fun _ _ => ?_)
                                change J _ _ _ [blk g8 [.slice A8 (dwr x.d j u).wait.length c8] 42, blk g6 (x.d.last.map Str) 41, blk g9 [.slice x.AT x.d.wait.length x.cT] 35, blk g5 ((held (dwr x.d j u)).map Str) 41, blk g10 [.bool x.d.off] 4, blk g11 [I (fz (dwr x.d j u))] 3, m84, F, x.mK, m8, m9, blk g15 X.cells 32, blk g107 [I (j : Nat)] 3, blk g112 [Str (full u)] 9] _
                                refine J.ds rfl (op_store (i := 2) (vs := [.slice A9 (dwr x.d j u).wait.length c9]) rfl rfl rfl rfl rfl Try.sizeOf35 rfl (by simp)) rfl rfl rfl (fun _ _ => ?_)
                                change J _ _ _ [blk g8 [.slice A8 (dwr x.d j u).wait.length c8] 42, blk g6 (x.d.last.map Str) 41, blk g9 [.slice A9 (dwr x.d j u).wait.length c9] 35, blk g5 ((held (dwr x.d j u)).map Str) 41, blk g10 [.bool x.d.off] 4, blk g11 [I (fz (dwr x.d j u))] 3, m84, F, x.mK, m8, m9, blk g15 X.cells 32, blk g107 [I (j : Nat)] 3, blk g112 [Str (full u)] 9] _
                                refine J.perm [0, 1, 2, 3, 4, 5, 6, 7, 8, 9, 10, 11] [blk g8 [.slice A8 (dwr x.d j u).wait.length c8] 42, blk g6 (x.d.last.map Str) 41, blk g9 [.slice A9 (dwr x.d j u).wait.length c9] 35, blk g5 ((held (dwr x.d j u)).map Str) 41, blk g10 [.bool x.d.off] 4, blk g11 [I (fz (dwr x.d j u))] 3, m84, F, x.mK, m8, m9, blk g15 X.cells 32] rfl (by decide) ?_
                                refine J.dnil ?_
                                refine J.blk_n ?_
                                refine J.then_n ?_
                                exact J.kk (({ x with d := dwr x.d j u, m := m84, mO := m8, AO := A8, cO := c8, mT := m9, AT := A9, cT := c9 } : P9), 0) hK28 (hI.wrote hwo.1 hb84 (hwo.1 ▸ hI.ok.write _ _) h8 h9) ⟨rfl, rfl, rfl, rfl, rfl, rfl, rfl, rfl, rfl, rfl, rfl, rfl, by rw [hj, hwo.2]; rfl, trivial⟩ (fun _ h => h.pick [0, 1, 2, 3, 4, 5, 6, 7, 8, 9, 10] (by decide))
          rintro ⟨y, rc⟩ hJ
          dsimp only at hJ ⊢
          refine J.seq (fun K58 hK58 => ?_)
          obtain ⟨A3, c3, B3, e3, hc3, hsL3, hsW3⟩ := hJ.dk.see
          refine J.draw [blk g8 [.slice y.AO y.d.wait.length y.cO] 42, blk g6 (y.d.last.map Str) 41, blk g9 [.slice y.AT y.d.wait.length y.cT] 35, blk g5 ((held y.d).map Str) 41, blk g10 [.bool y.d.off] 4, blk g11 [I (fz y.d)] 3, y.m, F, y.mK, y.mO, y.mT] [] (.y 0 (.y 1 (.y 2 (.y 3 (.y 4 (.y 6 (.e 5 (.y 7 (.y 8 .nil))))))))) Try.wide (by decide +kernel) (by simp) ?_
          refine J.dy rfl (op_move rfl rfl) rfl rfl rfl rfl ?_
          refine J.dy rfl (op_move rfl rfl) rfl rfl rfl rfl ?_
          refine J.dy rfl ((op_neq rfl rfl rfl).as (v' := .bool false) (congrArg Value.bool (decide_eq_false (fun h => h rfl)))) rfl rfl rfl rfl ?_
          refine J.dy rfl (op_move rfl rfl) rfl rfl rfl rfl ?_
          refine J.dyg rfl (op_move rfl rfl) (Wan.is rfl rfl rfl rfl rfl) rfl rfl rfl ?_
          refine J.dyg rfl (op_loadB 4 rfl rfl rfl Try.isAgg4 rfl) (Wan.is rfl rfl rfl rfl rfl) rfl rfl rfl ?_
          refine J.deg rfl (op_call rfl rfl ent18 (Ct.use0 (fun F' hF => on_ct F' y.g y.d A3 c3 B3 e3 y.C y.f (hc3.mono (hF y.m (by simp)))))) (Wan.is rfl rfl rfl rfl rfl) rfl rfl (by simp) ?_
          intro g195 _
          refine J.dyg rfl ((op_eqlB Try.underlying4 rfl rfl rfl).as (v' := .bool false) (by cases y.d.off <;> rfl)) (Wan.is rfl rfl rfl rfl rfl) rfl rfl rfl ?_
          refine J.dy rfl (op_pickF rfl rfl rfl) rfl rfl rfl rfl ?_
          refine J.dnil ?_
          refine J.then_n (J.k hK58 ?_)
          refine J.keepE [(0, _), (3, _), (5, _), (6, _), (8, _), (9, _), (10, _), (11, _), (12, _), (13, _), (14, _), (198, _)] ⟨rfl, rfl, rfl, rfl, rfl, rfl, rfl, rfl, rfl, rfl, rfl, rfl, trivial⟩ ?_
          refine J.condF rfl rfl ?_
          refine J.skip ?_
          refine J.blk_n ?_
          refine J.then_n (J.k hK23 ?_)
          refine J.keepE [(0, _), (3, _), (5, _), (6, _), (8, _), (9, _), (10, _), (11, _), (12, _), (13, _), (14, _)] ⟨rfl, rfl, rfl, rfl, rfl, rfl, rfl, rfl, rfl, rfl, rfl, trivial⟩ ?_
          refine J.region ?_
          refine J.y (op_move rfl rfl) rfl rfl rfl ?_
          refine J.y ((op_add rfl rfl rfl (by first | omega | (refine ⟨?_, ?_⟩ <;> omega))).as (v' := I ((k + 1 : Nat) : Int)) (congrArg I (by omega))) rfl rfl rfl ?_
          refine J.y (op_assign rfl rfl) rfl rfl rfl ?_
          refine J.nil ?_
          refine J.then_n ?_
          exact J.kk (k + 1, y) (fun z (hz : _ ∧ 70 - z.1 < 70 - k) => hI2 z hz.1 hz.2) ⟨⟨by dsimp only; omega, hJ⟩, by dsimp only; omega⟩ ⟨rfl, rfl, rfl, rfl, rfl, rfl, rfl, rfl, rfl, rfl, rfl, trivial⟩ (fun _ h => h)
        ·
          refine J.exit ?_
          refine J.then_x ?_
          refine J.then_x ?_
          refine J.blk_eq ?_
          refine J.then_n ?_
          exact J.kk x hK19 ({ hI with wk := Nat.le_trans hI.wk hk }) ⟨rfl, rfl, trivial⟩ (fun _ h => h)
      ·
        refine J.no (Wan.is rfl rfl rfl rfl rfl) rfl rfl ?_
        refine J.no (Wan.is rfl rfl rfl rfl rfl) rfl rfl ?_
        refine J.y (op_pickF rfl rfl rfl) rfl rfl rfl ?_
        refine J.nil ?_
        refine J.then_n (J.k hK22 ?_)
        refine J.keepE [(0, _), (3, _), (5, _), (6, _), (8, _), (9, _), (10, _), (11, _), (12, _), (13, _), (14, _), (53, _)] ⟨rfl, rfl, rfl, rfl, rfl, rfl, rfl, rfl, rfl, rfl, rfl, rfl, trivial⟩ ?_
        refine J.condF rfl rfl ?_
        refine J.exit ?_
        refine J.then_x ?_
        refine J.then_x ?_
        refine J.blk_eq ?_
        refine J.then_n ?_
        exact J.kk x hK19 ({ hI with wk := Nat.le_trans hI.wk hk }) ⟨rfl, rfl, trivial⟩ (fun _ h => h)
    rintro x hI
    refine J.seq (fun K59 hK59 => ?_)
    refine J.region ?_
    refine J.y (op_move rfl rfl) rfl rfl rfl ?_
    refine J.e (op_call rfl rfl ent12 (Ct.use1 6 (m' := fun y : Hp => y) (new := fun _ => []) rfl (fun F' hF => start_ct F' x.m x.g x.d x.C x.f hI.dk hI.ok))) rfl rfl rfl ?_
    rintro m200 hb200
    change J _ _ _ [blk g8 [.slice x.AO x.d.wait.length x.cO] 42, blk g6 (x.d.last.map Str) 41, blk g9 [.slice x.AT x.d.wait.length x.cT] 35, blk g5 ((held x.d).map Str) 41, blk g10 [.bool x.d.off] 4, blk g11 [I (fz x.d)] 3, m200, F, x.mK, x.mO, x.mT] _
    obtain ⟨A2, c2, B2, e2, hc2, hsL2, hsW2⟩ := hb200.see
    refine J.nil ?_
    refine J.then_n (J.k hK59 ?_)
    refine J.keepE [(3, _), (5, _)] ⟨rfl, rfl, trivial⟩ ?_
    refine J.seq (fun K60 hK60 => ?_)
    refine J.seq (fun K61 hK61 => ?_)
    refine J.region ?_
    refine J.y (op_assign rfl rfl) rfl rfl rfl ?_
    refine J.nil ?_
    refine J.then_n (J.k hK61 ?_)
    refine J.keepE [(3, _), (5, _), (22, _)] ⟨rfl, rfl, rfl, trivial⟩ ?_
    refine J.block ?_
    refine J.loop (X := Nat) (fun i => [(3, Ptr x.g), (5, Ptr g5), (22, I i)]) (fun _ => [blk g8 [.slice x.AO x.d.wait.length x.cO] 42, blk g6 (x.d.last.map Str) 41, blk g9 [.slice x.AT x.d.wait.length x.cT] 35, blk g5 ((held x.d).map Str) 41, blk g10 [.bool x.d.off] 4, blk g11 [I (fz x.d)] 3, m200, F, x.mK, x.mO, x.mT]) (fun i => i ≤ 6) (fun i => 6 - i) 0 (Nat.zero_le _) ⟨rfl, rfl, rfl, trivial⟩ (fun _ h => h) ?_
    intro i hi I5 hI5
    refine J.seq (fun K62 hK62 => ?_)
    refine J.seq (fun K63 hK63 => ?_)
    refine J.region ?_
    refine J.y (op_move rfl rfl) rfl rfl rfl ?_
    refine J.y (op_lss rfl rfl rfl) rfl rfl rfl ?_
    refine J.nil ?_
    refine J.then_n (J.k hK63 ?_)
    refine J.keepE [(3, _), (5, _), (22, _), (202, _)] ⟨rfl, rfl, rfl, rfl, trivial⟩ ?_
    refine J.ite rfl (fun h202 => ?_) (fun h202 => ?_)
    ·
      refine J.skip ?_
      refine J.then_n (J.k hK62 ?_)
      refine J.keepE [(3, _), (5, _), (22, _)] ⟨rfl, rfl, rfl, trivial⟩ ?_
      refine J.seq (fun K64 hK64 => ?_)
      refine J.block ?_
      refine J.seq (fun K65 hK65 => ?_)
      refine J.region ?_
      refine J.y (op_move rfl rfl) rfl rfl rfl ?_
      refine J.y (op_move rfl rfl) rfl rfl rfl ?_
      refine J.e (op_call rfl rfl ent13 (Ct.use0 (fun F' hF => read_ct F' x.g x.d.start A2 c2 B2 e2 x.C x.f (hc2.mono (hF m200 (by simp))) (hsL2.mono (hF m200 (by simp))) (hsW2.mono (hF m200 (by simp))) i (by show x.d.last.length ≤ _; rw [hI.l6]; decide) (by have := hI.wk; show x.d.wait.length ≤ _; omega)))) rfl rfl rfl ?_
      intro g208 _
      refine J.y (op_move rfl rfl) rfl rfl rfl ?_
      refine J.y ((op_extract (v := Str (x.d.start.read (i : Int))) rfl rfl rfl).as (v' := Str (x.d.now i)) (by rw [st6_read hI.l6 (by omega)])) rfl rfl rfl ?_
      refine J.y ((op_extract (v := I (x.d.start.ready (i : Int))) rfl rfl rfl).as (v' := I 0) (by rw [st6_ready hI.l6 (by omega)])) rfl rfl rfl ?_
      refine J.y (op_assign rfl rfl) rfl rfl rfl ?_
      refine J.y (op_assign rfl rfl) rfl rfl rfl ?_
      refine J.nil ?_
      refine J.then_n (J.k hK65 ?_)
      refine J.keepE [(3, _), (5, _), (22, _), (23, _), (24, _)] ⟨rfl, rfl, rfl, rfl, rfl, trivial⟩ ?_
      refine J.seq (fun K66 hK66 => ?_)
      refine J.region ?_
      refine J.y (op_move rfl rfl) rfl rfl rfl ?_
      refine J.y ((op_neq rfl rfl rfl).as (v' := .bool false) (congrArg Value.bool (decide_eq_false (by decide)))) rfl rfl rfl ?_
      refine J.y (op_move rfl rfl) rfl rfl rfl ?_
      refine J.yg (Wan.is rfl rfl rfl rfl rfl) (op_move rfl rfl) rfl rfl ?_
      refine J.yg (Wan.is rfl rfl rfl rfl rfl) (op_move rfl rfl) rfl rfl ?_
      refine J.yg (Wan.is rfl rfl rfl rfl rfl) (op_indexAddrJ (i := i) (j := i) rfl rfl rfl Try.underlying41 Try.sizeOf9 (by omega) (by omega)) rfl rfl ?_
      refine J.yg (Wan.is rfl rfl rfl rfl rfl) (op_loadB 3 rfl rfl rfl Try.isAgg9 (getMap (f := Str) [] (show i < (held x.d).length by rw [held_len]; omega))) rfl rfl ?_
      refine J.yg (Wan.is rfl rfl rfl rfl rfl) ((op_sne rfl rfl rfl).as (v' := .bool false) (congrArg Value.bool (decide_eq_false (fun h => h (by rw [held_getD _ (show i < 6 by omega)]))))) rfl rfl ?_
      refine J.y (op_pickF rfl rfl rfl) rfl rfl rfl ?_
      refine J.nil ?_
      refine J.then_n (J.k hK66 ?_)
      refine J.keepE [(3, _), (5, _), (22, _), (219, _)] ⟨rfl, rfl, rfl, rfl, trivial⟩ ?_
      refine J.condF rfl rfl ?_
      refine J.skip ?_
      refine J.blk_n ?_
      refine J.then_n (J.k hK64 ?_)
      refine J.keepE [(3, _), (5, _), (22, _)] ⟨rfl, rfl, rfl, trivial⟩ ?_
      refine J.region ?_
      refine J.y (op_move rfl rfl) rfl rfl rfl ?_
      refine J.y ((op_add rfl rfl rfl (by first | omega | (refine ⟨?_, ?_⟩ <;> omega))).as (v' := I ((i + 1 : Nat) : Int)) (congrArg I (by omega))) rfl rfl rfl ?_
      refine J.y (op_assign rfl rfl) rfl rfl rfl ?_
      refine J.nil ?_
      refine J.then_n ?_
      exact J.kk (i + 1) (fun y (hy : _ ∧ 6 - y < 6 - i) => hI5 y hy.1 hy.2) ⟨by omega, by omega⟩ ⟨rfl, rfl, rfl, trivial⟩ (fun _ h => h)
    ·
      refine J.exit ?_
      refine J.then_x ?_
      refine J.then_x ?_
      refine J.blk_eq ?_
      refine J.then_n (J.k hK60 ?_)
      refine J.keepE [] trivial ?_
      refine J.seq (fun K67 hK67 => ?_)
      refine J.region ?_
      refine J.y (op_assign rfl rfl) rfl rfl rfl ?_
      refine J.nil ?_
      refine J.then_n (J.k hK67 ?_)
      refine J.keepE [(2, _)] ⟨rfl, trivial⟩ ?_
      refine J.ret ?_
      exact J.done hw0 (fun _ _ h => h) (res1 rfl rfl) (retOk () rfl trivial [7] rfl (by decide))

theorem weights_in {H : Type} {P : Program} {e : TypeId} : ∀ {l : List (DataW H)} {d : DataW H}, d ∈ l → ∀ n ∈ d.weights P e, n ∈ DataW.weightsAll P e l
  | x :: r, d, hd, n, hn => by
    simp only [DataW.weightsAll, List.mem_append]
    rcases List.mem_cons.1 hd with rfl | hd
    · exact .inl hn
    · exact .inr (weights_in hd n hn)
theorem sl_ofW {H : Type} {enc : TypeId × Value → H} {P : Program} {W : World} {t e : TypeId} {fuel : Nat} {x : Value} {y : DataW H × List MemPlace} {R : Nat} (ht : P.underlying t = some (.slice e)) (he : 0 < P.cellsOf e) (h : DataW.trod enc P W 0 (fun _ => true) true fuel t [x] = some y) (hw : ∀ n ∈ y.1.weights P t, n ≤ R) :
    ∃ A n c xs, x = .slice A n c ∧ Sl (hp W) (P.cellsOf e) A n c xs ∧ n ≤ maxLen ∧ n * P.bytesOf e ≤ R ∧ ∀ z ∈ xs, ∃ fuel y, DataW.trod enc P W 0 (fun _ => true) true fuel e z = some y ∧ ∀ n ∈ y.1.weights P e, n ≤ R := by
  rcases DataW.trod_slice ht h with ⟨hx, _⟩ | ⟨a, len, cap, elems, rest, n, _, hcs, hy, _, hl, hm, hlen, hel, _, _⟩
  · simp only [List.cons.injEq, and_true] at hx
    subst hx
    exact ⟨none, 0, 0, [], rfl, Sl.nil, Nat.zero_le _, by rw [Nat.zero_mul]; exact Nat.zero_le _, by simp⟩
  · simp only [List.cons.injEq, and_true] at hcs
    subst hcs
    subst hy
    have hw1 : ∀ d ∈ elems.map (·.1), ∀ n ∈ d.weights P e, n ≤ R := fun d hd n hn => hw n (by
      simp only [DataW.weights, ht, List.mem_cons, List.mem_append]
      exact .inr (.inl (weights_in hd n hn)))
    have key : ∀ i, i < len → ∃ z y, W.cells? 0 (a.add (i * P.cellsOf e)) (P.cellsOf e) = some z ∧ DataW.trod enc P W 0 (fun _ => true) true n e z = some y ∧ ∀ n ∈ y.1.weights P e, n ≤ R := fun i hi => by
      have h1 := hel i hi
      rw [List.getElem?_eq_getElem (by omega)] at h1
      obtain ⟨z, h2, h3⟩ := Option.bind_eq_some_iff.1 h1
      exact ⟨z, _, h2, h3, hw1 _ (List.mem_map_of_mem (List.getElem_mem _))⟩
    refine ⟨some a, len, cap, (List.range len).map fun i => (W.cells? 0 (a.add (i * P.cellsOf e)) (P.cellsOf e)).getD [], rfl, ⟨by rw [List.length_map, List.length_range], hl, fun i z hz => ?_⟩, Nat.le_trans hl hm, ?_, fun z hz => ?_⟩
    · rw [List.getElem?_map] at hz
      by_cases hi : i < len
      · rw [List.getElem?_range hi] at hz
        obtain ⟨z', _, h2, _⟩ := key i hi
        simp only [Option.map_some, h2, Option.getD_some, Option.some.injEq] at hz
        subst hz
        obtain ⟨h5, h6⟩ := cells_Cells he h2
        exact ⟨h5, a, rfl, h6⟩
      · rw [List.getElem?_eq_none (by rw [List.length_range]; omega)] at hz; cases hz
    · have := hw ((elems.length + rest.length) * P.bytesOf e) (by simp [DataW.weights, ht])
      rw [← hlen]
      exact Nat.le_trans (Nat.mul_le_mul_right _ (Nat.le_add_right _ _)) this
    · obtain ⟨i, hi, rfl⟩ := List.mem_map.1 hz
      obtain ⟨z', y', h2, h3⟩ := key i (List.mem_range.1 hi)
      rw [h2]
      exact ⟨n, y', h3⟩
theorem struct_ofW {H : Type} {enc : TypeId × Value → H} {P : Program} {e : TypeId} {W : World} {x : List Value} {fuel : Nat} {fs : Array Field} {y : DataW H × List MemPlace} {R : Nat} (ht : P.underlying e = some (.struct fs)) (h : DataW.trod enc P W 0 (fun _ => true) true fuel e x = some y) (hw : ∀ n ∈ y.1.weights P e, n ≤ R) :
    x.length = P.cellsOf e ∧ ∀ (i : Nat) f, fs.toList[i]? = some f → ∃ fuel y, DataW.trod enc P W 0 (fun _ => true) true fuel f.type ((x.drop f.offset).take (P.cellsOf f.type)) = some y ∧ ∀ n ∈ y.1.weights P f.type, n ≤ R := by
  cases fuel with
  | zero => simp [DataW.trod] at h
  | succ fuel =>
    unfold DataW.trod at h
    rw [ht] at h
    have h' : (if x.length = P.cellsOf e then (fs.toList.mapM fun f => DataW.trod enc P W 0 (fun _ => true) true fuel f.type ((x.drop f.offset).take (P.cellsOf f.type))).map (fun xs => (DataW.agg (xs.map (·.1)), xs.flatMap (·.2))) else none) = some y := h
    clear h
    split at h'
    · rename_i hl
      obtain ⟨xs, hm, rfl⟩ := Option.map_eq_some_iff.1 h'
      refine ⟨hl, fun i f hf => ?_⟩
      obtain ⟨z, hz1, hz⟩ := mapM_get hm i f hf
      refine ⟨fuel, z, hz, fun n hn => hw n ?_⟩
      have : DataW.weights P e (DataW.agg (xs.map (·.1))) = DataW.weightsEach P (fs.toList.map (·.type)) (xs.map (·.1)) := by simp [DataW.weights, ht]
      rw [this]
      exact DataW.weights_mem_each (j := i) (t := f.type) (d := z.1) (by rw [List.getElem?_map, hf]; rfl) (by rw [List.getElem?_map, hz1]; rfl) n hn
    · cases h'
def Act9.okW (m : Hp) (a : Act9) : Prop := (-9223372036854775808 ≤ a.what ∧ a.what ≤ 9223372036854775807) ∧ (-9223372036854775808 ≤ a.at_ ∧ a.at_ ≤ 9223372036854775807) ∧ (-9223372036854775808 ≤ a.n ∧ a.n ≤ 9223372036854775807) ∧ Sl m 1 a.kE a.keep.length a.kq (bytesV a.keep) ∧ a.keep.length ≤ 140737488351232
theorem acts9_ofW {H : Type} {enc : TypeId × Value → H} {W : World} {xs : List (List Value)} (h : ∀ x ∈ xs, ∃ fuel y, DataW.trod enc Try.prog W 0 (fun _ => true) true fuel 32 x = some y ∧ ∀ n ∈ y.1.weights Try.prog 32, n ≤ reachBytes) : ∃ l : List Act9, xs = actsV l ∧ ∀ a ∈ l, a.okW (hp W) :=
  rows_of (f := Act9.cells) (Q := Act9.okW (hp W)) fun x hx => by
    obtain ⟨fuel, y, h1, hw⟩ := h x hx
    obtain ⟨hl, hf⟩ := struct_ofW Try.underlying32 h1 hw
    have hc : Try.prog.cellsOf 32 = 5 := by kernel_rfl
    have c3 : Try.prog.cellsOf 3 = 1 := by kernel_rfl
    have c9 : Try.prog.cellsOf 9 = 1 := by kernel_rfl
    have c8 : Try.prog.cellsOf 5 = 1 := by kernel_rfl
    have b8 : Try.prog.bytesOf 5 = 1 := by kernel_rfl
    have cS : Try.prog.cellsOf 23 = 1 := by kernel_rfl
    rw [hc] at hl
    match x, hl, hf with
    | [a, b, c, d, e], _, hf =>
      obtain ⟨_, _, h0, _⟩ := hf 0 _ rfl
      obtain ⟨_, _, h1, _⟩ := hf 1 _ rfl
      obtain ⟨_, _, h2, _⟩ := hf 2 _ rfl
      obtain ⟨_, _, h3, _⟩ := hf 3 _ rfl
      obtain ⟨_, _, h4, hw4⟩ := hf 4 _ rfl
      dsimp only at h0 h1 h2 h3 h4 hw4
      rw [c3] at h0 h1 h2
      rw [c9] at h3
      rw [cS] at h4
      obtain ⟨z0, rfl, b0⟩ := i64_of Try.underlying3 h0
      obtain ⟨z1, rfl, b1⟩ := i64_of Try.underlying3 h1
      obtain ⟨z2, rfl, b2⟩ := i64_of Try.underlying3 h2
      obtain ⟨s, rfl⟩ := str_of Try.underlying9 h3
      obtain ⟨A, n, q, ys, rfl, hs, hn, hr, hy⟩ := sl_ofW Try.underlying23 (by rw [c8]; decide) h4 hw4
      obtain ⟨K, rfl⟩ := bytes_of Try.underlying5 c8 (fun x hx => ⟨by have := sl_rows hs x hx; rw [c8] at this; exact this, by obtain ⟨fuel, y, h, _⟩ := hy x hx; exact ⟨fuel, y, h⟩⟩)
      rw [c8] at hs
      rw [b8, Nat.mul_one] at hr
      have hK : K.length = n := by have := hs.1; rw [bytesV, List.length_map] at this; exact this
      subst hK
      exact ⟨⟨z0, z1, z2, s, A, q, K⟩, rfl, b0, b1, b2, hs, hr⟩

end Go.Proofs.Ytlopnfgacopkbaa
