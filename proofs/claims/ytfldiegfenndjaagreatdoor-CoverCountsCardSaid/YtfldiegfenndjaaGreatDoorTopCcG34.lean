/- A part of the proof. -/
import Derived.Test.YtfldiegfenndjaaGreatDoorTopCcG32
import Derived.Test.YtfldiegfenndjaaGreatDoorTopCcG33
import Derived.Test.YtfldiegfenndjaaGreatDoorTopCcG8
set_option linter.unusedSimpArgs false
set_option linter.unusedVariables false
namespace Go.Proofs.YtfldiegfenndjaaGreatDoor
open Go Go.Fw Go.Proofs.Tryz
set_option maxRecDepth 100000
set_option maxHeartbeats 1000000
theorem qIw {P : Program} {env : Env} {ms : List Hp} {o : Oper} {t e x n' by'} (ho : o.op = .makeSlice t x x) (hx : ev env x = some (I ((n' : Nat) : Int))) (hu : P.underlying t = some (.slice e)) (he : qDV P e [.int .i64 0] by') (hb : by' * n' ≤ 281474976710656) (hn : n' ≤ 9223372036854775807) :
    EOp P env ms o (fun x : Nat × Hp => .slice (some ⟨x.1, 0, none⟩) n' n') (fun x => Row x.2 e 1 (some ⟨x.1, 0, none⟩) n' n' (qAu (List.replicate n' 0))) (fun x => ms ++ [x.2]) := fun n a w0 w next Q hk hs hq =>
  qBi ho hx hu he hb hn n a w0 w next Q hk hs fun g w' _ hst => by
    refine hq (g, blk g (List.replicate n' [.int .i64 0]).flatten e) w' ?_ hst
    have e1 : qAu (List.replicate n' 0) = List.replicate n' [Value.int .i64 0] := by unfold qAu; rw [List.map_replicate]; rfl
    show Row (blk g (List.replicate n' [.int .i64 0]).flatten e) e 1 (some ⟨g, 0, none⟩) n' n' (qAu (List.replicate n' 0))
    rw [e1]
    exact qAr (q := True) (sz := 1) (by simp) (by intro y hy; rw [(List.mem_replicate.1 hy).2]; rfl)
def stK (p : Nat × Nat) : Value := .agg #[I ((p.1 : Nat) : Int), I ((p.2 : Nat) : Int)]
theorem qPp (a b : Nat) : (((a : Int) == (b : Int)) = decide (a = b)) := by
 by_cases h : a = b
 · simp [h]
 · rw [decide_eq_false h, beq_eq_false_iff_ne]; omega
theorem eqSt (x y : Nat × Nat) (w : World) : (Op.equalIn 10000 131 (stK x) (stK y)).run prog w = .ok (decide (x = y)) w := by
 have u3 := u3_
 have a3 := b3_
 have hS : prog.underlying 131 = some (.struct (prog.fieldsOf 131)) := by kernel_rfl
 have hp : prog.stoodInHeld 131 = false := by kernel_rfl
 unfold stK
 rw [show (10000 : Nat) = 9999 + 1 from rfl, run_equalIn_struct w 9999 131 _ _ hS hp]
 simp only [Program.fieldsOf, underlying131]
 obtain ⟨v, b⟩ := x
 obtain ⟨v', b'⟩ := y
 have hj : ∀ (a b : Int) (w : World), (Op.equalIn 9999 3 (.int .i64 a) (.int .i64 b)).run prog w = .ok (a == b) w := fun a b w => run_equalIn_int w 9998 3 .i64 .i64 a b u3
 simp only [Op.eqFields]
 simp [part, a3, hj, qPp]
 by_cases h1 : v = v' <;> by_cases h2 : b = b' <;> simp [h1, h2]
theorem ckSt (x : Nat × Nat) (e : Bool) (w : World) : (Instr.checkKey e 10000 131 (stK x)).run prog w = .ok () w := by
 have a3 := b3_
 have us := run_underlying (w := w) underlying131
 have c2 : ∀ (v : Int), (Instr.checkKey e 9999 3 (.int .i64 v)).run prog w = .ok () w := fun v => MapKept.run_checkKey (d := .int .i64) u3_ (k := .int .i64 v) (show IntKind.i64 = IntKind.i64 from rfl) e 9998
 unfold stK
 rw [show (10000 : Nat) = 9999 + 1 from rfl]
 unfold Instr.checkKey
 simp only [Sem.run_bind, us, Result.andThen_ok]
 rw [← Array.forIn_toList]
 simp [part, a3, c2, Result.andThen]
theorem qT7 : qQh stK prog 131 where
 wide := by kernel_rfl
 ck := ckSt
 eq a b w := eqSt a b w
 inj a b h := by
  unfold stK at h
  obtain ⟨v, b1⟩ := a
  obtain ⟨v', b2⟩ := b
  simp at h
  exact Prod.ext (by dsimp only; omega) (by dsimp only; omega)
def qDS (v : VtD) : Nat × Nat := (v.b, v.nm)
def qCa (vs : List VtD) : List ((Nat × Nat) × Value) := vs.map fun v => (qDS v, .bool true)
theorem qGG {vs : List VtD} {s : Nat × Nat} (h : ∀ v ∈ vs, qDS v ≠ s) : qIG (qCa vs) s = none := by
 induction vs with
 | nil => rfl
 | cons v r ih =>
  show (if qDS v = s then some (Value.bool true) else qIG (qCa r) s) = none
  rw [if_neg (h v (.head _))]
  exact ih fun z hz => h z (.tail _ hz)
theorem qK1 {vs : List VtD} {s : Nat × Nat} (h : ∃ v ∈ vs, qDS v = s) : qIG (qCa vs) s = some (.bool true) := by
  induction vs with
  | nil => obtain ⟨v, hv, _⟩ := h; cases hv
  | cons v r ih =>
    show (if qDS v = s then some (Value.bool true) else qIG (qCa r) s) = _
    by_cases e : qDS v = s
    · rw [if_pos e]
    · rw [if_neg e]
      obtain ⟨z, hz, hs⟩ := h
      cases hz with
      | head => exact absurd hs e
      | tail _ hz => exact ih ⟨z, hz, hs⟩
theorem qHj {α : Type} (l : List α) (i : Nat) (no : α) (h : i < l.length) : l.take (i + 1) = l.take i ++ [l.getD i no] := by
 rw [List.take_succ_eq_append_getElem h, List.getD_eq_getElem?_getD, List.getElem?_eq_getElem h]; rfl
theorem qK0 {vs : List VtD} {i : Nat} (h : i < vs.length) : qCa (vs.take i) ++ [(qDS (vs.getD i qAP), .bool true)] = qCa (vs.take (i + 1)) := by
 rw [qHj vs i qAP h]; unfold qCa; rw [List.map_append]; rfl
def qUU (vs : List VtD) : Prop := ∀ i j, i < j → j < vs.length → qDS (vs.getD i qAP) ≠ qDS (vs.getD j qAP)
theorem qHI {vs : List VtD} {i : Nat} {v : VtD} (h : v ∈ vs.take i) : ∃ j, j < i ∧ j < vs.length ∧ v = vs.getD j qAP := by
 obtain ⟨j, hj, rfl⟩ := List.getElem_of_mem h
 rw [List.length_take] at hj
 refine ⟨j, by omega, by omega, ?_⟩
 rw [List.getElem_take, List.getD_eq_getElem?_getD, List.getElem?_eq_getElem (by omega)]; rfl
theorem qUU.none {vs : List VtD} (h : qUU vs) {i : Nat} (hi : i < vs.length) : qIG (qCa (vs.take i)) (qDS (vs.getD i qAP)) = none := qGG fun v hv => by
 obtain ⟨j, h1, _, rfl⟩ := qHI hv
 exact h j i h1 hi
def qIc (vs : List VtD) (b : Nat) : Nat := (vs.filter fun v => decide (v.b = b)).length
def qHR (n : Nat) (vs : List VtD) : List Nat := (List.range n).map (qIc vs)
theorem qEE (n : Nat) (vs : List VtD) : (qHR n vs).length = n := by unfold qHR; rw [List.length_map, List.length_range]
theorem qE0 {n : Nat} {vs : List VtD} {b : Nat} (h : b < n) : (qHR n vs).getD b 0 = qIc vs b := by
 unfold qHR; rw [List.getD_eq_getElem?_getD, List.getElem?_map, List.getElem?_range h]; rfl
theorem qQJ (n : Nat) : qHR n [] = List.replicate n 0 := by
 unfold qHR
 induction n with
 | zero => rfl
 | succ n ih => rw [List.range_succ, List.map_append, ih, List.replicate_succ']; rfl
theorem qN4 {n : Nat} {vs : List VtD} {i : Nat} (hi : i < vs.length) : (qHR n (vs.take i)).set (vs.getD i qAP).b ((qHR n (vs.take i)).getD (vs.getD i qAP).b 0 + 1) = qHR n (vs.take (i + 1)) := by
  apply List.ext_getElem?
  intro j
  rw [List.getElem?_set, qEE]
  have hs : ∀ b, qIc (vs.take (i + 1)) b = qIc (vs.take i) b + if (vs.getD i qAP).b = b then 1 else 0 := fun b => by
    unfold qIc
    rw [qHj vs i qAP hi, List.filter_append, List.length_append, List.filter_cons, List.filter_nil]
    by_cases e : (vs.getD i qAP).b = b
    · rw [if_pos (decide_eq_true e), if_pos e]; rfl
    · rw [if_neg (by simpa using e), if_neg e]; rfl
  by_cases hj : j < n
  · have e2 : (qHR n (vs.take (i + 1)))[j]? = some (qIc (vs.take (i + 1)) j) := by unfold qHR; rw [List.getElem?_map, List.getElem?_range hj]; rfl
    have e1 : (qHR n (vs.take i))[j]? = some (qIc (vs.take i) j) := by unfold qHR; rw [List.getElem?_map, List.getElem?_range hj]; rfl
    rw [e2, e1, hs]
    by_cases e : (vs.getD i qAP).b = j
    · rw [if_pos e, if_pos (by omega), if_pos e, e, qE0 hj]
    · rw [if_neg e, if_neg e]; rfl
  · have e2 : (qHR n (vs.take (i + 1)))[j]? = none := List.getElem?_eq_none (by rw [qEE]; omega)
    have e1 : (qHR n (vs.take i))[j]? = none := List.getElem?_eq_none (by rw [qEE]; omega)
    rw [e2, e1]
    split
    · rw [if_neg (by omega)]
    · rfl
def qGn (W : Nat → List Int) (sl n b nm : Nat) : Bool := decide (b < n) && decide (0 ≤ Wd.find ((W b).take sl) ((nm : Nat) : Int) 0)
theorem qRl {G : Hp} {W : Nat → List Int} {sl n : Nat} {ws : List WnD} (h : qDp G W sl ws) (hl : ws.length = n) (b nm : Nat) : qFD ws b nm = qGn W sl n b nm := by
 unfold qFD qGn
 rw [hl]
 by_cases hb : b < n
 · rw [(h b (by omega)).1]
 · rw [decide_eq_false hb]; rfl
def qGg (x y : Hd) (W : Nat → List Int) (sl n : Nat) (v : VtD) : Nat := if y.dig = [] ∨ v.ep ≠ y.ep ∨ v.hd ≠ y.dig then 15 else if qGn W sl n v.b v.nm = false then 17 else if qNg x v = false then 18 else if qOS v = false then 12 else 0
theorem vck_W {G : Hp} {W : Nat → List Int} {sl n : Nat} {ws : List WnD} (h : qDp G W sl ws) (hl : ws.length = n) (x y : Hd) (v : VtD) : qKt x y ws v = qGg x y W sl n v := by
 unfold qKt qGg
 rw [qRl h hl]
theorem qMG {x y : Hd} {W : Nat → List Int} {sl n : Nat} {v : VtD} (h : qGg x y W sl n v = 0) : v.b < n := by
  unfold qGg at h
  split at h
  · cases h
  · split at h
    · cases h
    · rename_i h2
      unfold qGn at h2
      simp at h2
      exact h2.1
def qEK (vs : List VtD) (i : Nat) : Bool := (vs.take i).any fun v => decide (qDS v = qDS (vs.getD i qAP))
theorem qJg (vs : List VtD) (i : Nat) : qIG (qCa (vs.take i)) (qDS (vs.getD i qAP)) = if qEK vs i = true then some (.bool true) else none := by
  by_cases h : qEK vs i = true
  · rw [if_pos h]
    obtain ⟨v, hv, h2⟩ := List.any_eq_true.1 h
    exact qK1 ⟨v, hv, of_decide_eq_true h2⟩
  · rw [if_neg h]
    exact qGG fun v hv e => h (List.any_eq_true.2 ⟨v, hv, decide_eq_true e⟩)
def qFz (x y : Hd) (W : Nat → List Int) (sl n nd : Nat) (vs : List VtD) : Nat → Nat
 | 0 => if ∀ b, b < n → nd ≤ qIc vs b then 0 else 16
 | k + 1 => if qEK vs (vs.length - (k + 1)) = true then 19 else if qGg x y W sl n (vs.getD (vs.length - (k + 1)) qAP) = 0 then qFz x y W sl n nd vs k else qGg x y W sl n (vs.getD (vs.length - (k + 1)) qAP)
theorem qO6 {x y : Hd} {W : Nat → List Int} {sl n nd : Nat} {vs : List VtD} {i : Nat} (hi : i < vs.length) : qFz x y W sl n nd vs (vs.length - i) = if qEK vs i = true then 19 else if qGg x y W sl n (vs.getD i qAP) = 0 then qFz x y W sl n nd vs (vs.length - (i + 1)) else qGg x y W sl n (vs.getD i qAP) := by
 obtain ⟨k, hk⟩ : ∃ k, vs.length - i = k + 1 := ⟨vs.length - i - 1, by omega⟩
 rw [hk, qFz, show vs.length - (k + 1) = i by omega, show vs.length - (i + 1) = k by omega]
def qFm (x y : Hd) (W : Nat → List Int) (sl n nd : Nat) (vs : List VtD) : Int := if x.next y = 0 then ((qFz x y W sl n nd vs vs.length : Nat) : Int) else x.next y
theorem ent9 : qAC prog 9 := qAC.of func9 rfl (by kernel_rfl)
theorem ent50 : qAC prog 50 := qAC.of func50 rfl (by kernel_rfl)
theorem qCI (F : Hp) (hK : KF F) (x : Hd) (A : Option Addr) (c : Nat) (hg : x.good) (hsl : Sl F 1 A x.nodes.length c (qAL x.nodes)) (y : Hd) (B : Option Addr) (e : Nat) (hgy : y.good) (hsy : Sl F 1 B y.nodes.length e (qAL y.nodes)) (hsm : ∀ s ∈ x.nodes, s.length ≤ 1048576) (d a sl nd : Nat) (hd : d ≤ 4) (hxd : x.dep = ((d : Nat) : Int)) (hx : x.err = 0) (h1 : 1 ≤ nd) (h2 : nd ≤ sl) (h3 : sl ≤ a) (h4 : a ≤ 64) (W : Nat → List Int) (hW : qTN x.dig (2 ^ d) a sl W) (Av : Option Addr) (nv cv : Nat) (vs : List VtD) (hvs : Sl F 15 Av nv cv (qDW vs)) (hnv : nv ≤ 100000) (hvo : ∀ i, i < vs.length → qKY F (vs.getD i qAP)) :
    Ct prog 13 [.agg #[N64 y.ep, Str y.par, I y.dep, I y.aud, .slice B y.nodes.length e, .slice Av nv cv], .agg #[N64 x.ep, Str x.par, I x.dep, I x.aud, .slice A x.nodes.length c], I ((a : Nat) : Int), .agg #[I ((sl : Nat) : Int), I ((nd : Nat) : Int)]] [F] (fun _ : Unit => I (qFm x y W sl (2 ^ d) nd vs)) (fun _ => True) (fun _ => [F]) := by
  have hvl : vs.length = nv := by have := hvs.1; simpa [qDW] using this
  have hpw := qTm hd
  refine Ct.walk func13 rfl ntmps13 rfl (fun w0 hw0 => ?_)
  change J _ [(0, _), (1, _), (2, _), (3, _)] _ _ _
  refine J.g fun K1 hK1 => J.u (qAl (l := [N64 y.ep, Str (y.par), I (y.dep), I (y.aud), .slice B y.nodes.length e, .slice Av nv cv]) rfl rfl rfl) rfl fun g4 _ => ?_
  change J _ _ _ [F, blk g4 [N64 y.ep, Str (y.par), I (y.dep), I (y.aud), .slice B y.nodes.length e, .slice Av nv cv] 45] _
  refine J.u (qAl (l := [N64 x.ep, Str (x.par), I (x.dep), I (x.aud), .slice A x.nodes.length c]) rfl rfl rfl) rfl fun g5 _ => ?_
  change J _ _ _ [_, _, blk g5 [N64 x.ep, Str (x.par), I (x.dep), I (x.aud), .slice A x.nodes.length c] 39] _
  refine J.u (qAl (l := [I ((sl : Nat) : Int), I ((nd : Nat) : Int)]) rfl rfl rfl) rfl fun g7 _ => ?_
  change J _ _ _ [_, _, _, blk g7 [I ((sl : Nat) : Int), I ((nd : Nat) : Int)] 26] _
  refine J.b rfl <| J.c hK1 <| J.W 2 4 5 7 ?_
  refine J.k fun K2 hK2 => J.g fun K3 hK3 => J.c7 2 qEH qB6 rfl rfl rfl rfl rfl <| J.a8 0 qLw qB6 rfl rfl rfl rfl rfl <| J.f (qAh (vs := [N64 y.ep, Str (y.par), I (y.dep), I (y.aud), .slice B y.nodes.length e]) rfl rfl qEH qB6 (m := blk g4 [N64 y.ep, Str (y.par), I (y.dep), I (y.aud), .slice B y.nodes.length e, .slice Av nv cv] 45) (by simp) (qAV.blk0.sub 0 5) rfl) rfl <| J.u (qAB rfl rfl ent49 (Ct.use0 (fun F' hF => qQC F' (hK.mo hF) x A c hg (hsl.mono (hF F (by simp))) y B e hgy (hsy.mono (hF F (by simp)))))) rfl fun g23 _ => J.b rfl <| J.c hK3 <| J.a3 2 4 5 7 9 ?_
  refine J.g fun K4 hK4 => J.b rfl <| J.f (qAx rfl rfl rfl) rfl <| J.c hK4 <| J.a9 2 4 5 7 9 25 ?_
  refine J.a0 rfl (fun h25 => ?_) (fun h25 => ?_)
  ·
    refine J.g fun K5 hK5 => J.p 2 rfl <| J.c hK5 <| J.A 8 ?_
    exact J.D <| J.a5 <| J.L hw0 rfl () (by unfold qFm; rw [if_neg h25]) trivial [0] rfl (by decide)
  refine J.a1 hK2 <| J.W 2 4 5 7 ?_
  refine J.g fun K6 hK6 => J.c7 2 qEH qB6 rfl rfl rfl rfl rfl <| J.b rfl <| J.c7 3 isAgg26 qKa rfl rfl rfl rfl rfl <| J.u (qAB rfl rfl ent9 (Ct.use (new := fun r : WnR => [r.mr, r.G]) (fun F' hF => qGA F' (hK.mo hF) x A c hg (hsl.mono (hF F (by simp))) d a sl nd hd hxd hx h1 h2 h3 h4 W hW))) rfl ?_
  rintro r31 hp31
  change J _ ((31, .tuple #[.slice r31.A r31.ws.length r31.c, I 0]) :: _) _ [F, blk g4 [N64 y.ep, Str (y.par), I (y.dep), I (y.aud), .slice B y.nodes.length e, .slice Av nv cv] 45, blk g5 [N64 x.ep, Str (x.par), I (x.dep), I (x.aud), .slice A x.nodes.length c] 39, blk g7 [I ((sl : Nat) : Int), I ((nd : Nat) : Int)] 26, r31.mr, r31.G] _
  refine J.p 5 rfl <| J.c hK6 <| J.a3 4 5 7 10 11 ?_
  refine J.k fun K7 hK7 => J.g fun K8 hK8 => J.b rfl <| J.f ((qAx rfl rfl rfl).no (by decide)) rfl <| J.c hK8 <| J.a9 4 5 7 10 11 35 ?_
  refine J.b6 ?_
  refine J.a1 hK7 <| J.W 4 5 7 10 ?_
  refine J.g fun K9 hK9 => J.u (qGN rfl) rfl ?_
  rintro g37 _
  change J _ ((37, .map (some g37)) :: _) _ [_, _, _, _, _, _, qAN g37 (.map #[] 0)] _
  refine J.b rfl <| J.c hK9 <| J.a3 4 5 7 10 12 ?_
  refine J.g fun K10 hK10 => J.b rfl <| J.f (qAZ qOT rfl rfl) rfl <| J.u (qIw (n' := 2 ^ d) rfl (by show some (I ((r31.ws.length : Nat) : Int)) = _; rw [hp31.len]) qB1 el3 (by omega) (by omega)) rfl ?_
  rintro ⟨g40, m40⟩ h40
  try dsimp only at h40
  change J _ ((40, .slice (some ⟨g40, 0, none⟩) (2 ^ d) (2 ^ d)) :: _) _ [_, _, _, _, _, _, _, m40] _
  rw [← qQJ] at h40
  refine J.b rfl <| J.c hK10 <| J.a9 4 5 7 10 12 13 ?_
  refine J.k fun K11 hK11 => J.g fun K12 hK12 => J.a8 5 qLw sizeOf43 rfl rfl rfl rfl rfl <| J.f (qAF 1 (v := .slice Av nv cv) rfl rfl rfl isAgg43 rfl) rfl <| J.f (qAZ qQr rfl rfl) rfl <| J.b rfl <| J.c hK12 <| J.d8 4 5 7 10 12 13 42 43 44 ?_
  refine J.T <| J.b2 (X := Nat × Hp × Hp) (fun ζ => [(4, Ptr g4), (5, Ptr g5), (7, Ptr g7), (10, .slice r31.A r31.ws.length r31.c), (12, .map (some g37)), (13, .slice (some ⟨g40, 0, none⟩) (2 ^ d) (2 ^ d)), (42, .slice Av nv cv), (43, I ((nv : Nat) : Int)), (44, I ((ζ.1 : Nat) : Int))]) (fun ζ => [F, blk g4 [N64 y.ep, Str (y.par), I (y.dep), I (y.aud), .slice B y.nodes.length e, .slice Av nv cv] 45, blk g5 [N64 x.ep, Str (x.par), I (x.dep), I (x.aud), .slice A x.nodes.length c] 39, blk g7 [I ((sl : Nat) : Int), I ((nd : Nat) : Int)] 26, r31.mr, r31.G, ζ.2.1, ζ.2.2]) (fun ζ => ζ.1 ≤ nv ∧ qIa stK ζ.2.1 g37 (qCa (vs.take ζ.1)) ∧ Row ζ.2.2 3 1 (some ⟨g40, 0, none⟩) (2 ^ d) (2 ^ d) (qAu (qHR (2 ^ d) (vs.take ζ.1))) ∧ qFz x y W sl (2 ^ d) nd vs (vs.length - ζ.1) = qFz x y W sl (2 ^ d) nd vs vs.length) (fun ζ => nv - ζ.1) (0, qAN g37 (.map #[] 0), m40) (⟨Nat.zero_le _, qIa.nil stK g37, h40, rfl⟩) ⟨rfl, rfl, rfl, rfl, rfl, rfl, rfl, rfl, rfl, trivial⟩ (fun _ h => h) ?_
  rintro ⟨i, mm, mc⟩ ⟨hi, hmm, hrc, hsc⟩ I0 hI0
  dsimp only at hi hmm hrc hsc ⊢
  refine J.g fun K13 hK13 => J.f (qAS rfl rfl rfl) rfl <| J.c hK13 <| J.e0 4 5 7 10 12 13 42 43 44 45 ?_
  refine J.k fun K14 hK14 => J.a0 rfl (fun h45 => ?_) (fun h45 => ?_)
  ·
    refine J.a1 hK14 <| J.d8 4 5 7 10 12 13 42 43 44 ?_
    refine J.k fun K15 hK15 => J.T <| J.g fun K16 hK16 => J.f (qAG (i := i) rfl rfl rfl qQr qL1 hvs (by omega)) rfl <| J.f (qAh (vs := [N64 ((vs.getD i qAP).ep), I (((vs.getD i qAP).b : Nat) : Int), Str ((vs.getD i qAP).hd), I (((vs.getD i qAP).nm : Nat) : Int), I (((vs.getD i qAP).i : Nat) : Int), .slice (vs.getD i qAP).chA (vs.getD i qAP).ch.length (vs.getD i qAP).chc, .slice (vs.getD i qAP).ptA (vs.getD i qAP).pt.length (vs.getD i qAP).ptc, Str ((vs.getD i qAP).an), Str ((vs.getD i qAP).op), Str ((vs.getD i qAP).rt), I (((vs.getD i qAP).ht : Nat) : Int), .slice (vs.getD i qAP).bsA (vs.getD i qAP).bs.length (vs.getD i qAP).bsc, .bool ((vs.getD i qAP).th), Str ((vs.getD i qAP).pk), Str ((vs.getD i qAP).pv)]) rfl rfl isAgg60 qL1 (m := F) (by simp) (hvs.elem (qOg (by omega))) rfl) rfl <| J.u (qAf (l := [.int .u64 0, I 0, Str [], I 0, I 0, .slice none 0 0, .slice none 0 0, Str [], Str [], Str [], I 0, .slice none 0 0, .bool false, Str [], Str []]) rfl qUK rfl) rfl fun g15 _ => ?_
    change J _ _ _ [F, blk g4 [N64 y.ep, Str (y.par), I (y.dep), I (y.aud), .slice B y.nodes.length e, .slice Av nv cv] 45, blk g5 [N64 x.ep, Str (x.par), I (x.dep), I (x.aud), .slice A x.nodes.length c] 39, blk g7 [I ((sl : Nat) : Int), I ((nd : Nat) : Int)] 26, r31.mr, r31.G, mm, mc, blk g15 [.int .u64 0, I 0, Str [], I 0, I 0, .slice none 0 0, .slice none 0 0, Str [], Str [], Str [], I 0, .slice none 0 0, .bool false, Str [], Str []] 60] _
    refine J.c1 (qAR (i := 8) (l := [.int .u64 0, I 0, Str [], I 0, I 0, .slice none 0 0, .slice none 0 0, Str [], Str [], Str [], I 0, .slice none 0 0, .bool false, Str [], Str []]) (vs := [N64 ((vs.getD i qAP).ep), I (((vs.getD i qAP).b : Nat) : Int), Str ((vs.getD i qAP).hd), I (((vs.getD i qAP).nm : Nat) : Int), I (((vs.getD i qAP).i : Nat) : Int), .slice (vs.getD i qAP).chA (vs.getD i qAP).ch.length (vs.getD i qAP).chc, .slice (vs.getD i qAP).ptA (vs.getD i qAP).pt.length (vs.getD i qAP).ptc, Str ((vs.getD i qAP).an), Str ((vs.getD i qAP).op), Str ((vs.getD i qAP).rt), I (((vs.getD i qAP).ht : Nat) : Int), .slice (vs.getD i qAP).bsA (vs.getD i qAP).bs.length (vs.getD i qAP).bsc, .bool ((vs.getD i qAP).th), Str ((vs.getD i qAP).pk), Str ((vs.getD i qAP).pv)]) rfl rfl rfl rfl rfl qL1 rfl rfl) rfl rfl fun _ _ => ?_
    change J _ _ _ [_, _, _, _, _, _, _, _, blk g15 [N64 ((vs.getD i qAP).ep), I (((vs.getD i qAP).b : Nat) : Int), Str ((vs.getD i qAP).hd), I (((vs.getD i qAP).nm : Nat) : Int), I (((vs.getD i qAP).i : Nat) : Int), .slice (vs.getD i qAP).chA (vs.getD i qAP).ch.length (vs.getD i qAP).chc, .slice (vs.getD i qAP).ptA (vs.getD i qAP).pt.length (vs.getD i qAP).ptc, Str ((vs.getD i qAP).an), Str ((vs.getD i qAP).op), Str ((vs.getD i qAP).rt), I (((vs.getD i qAP).ht : Nat) : Int), .slice (vs.getD i qAP).bsA (vs.getD i qAP).bs.length (vs.getD i qAP).bsc, .bool ((vs.getD i qAP).th), Str ((vs.getD i qAP).pk), Str ((vs.getD i qAP).pv)] 60] _
    refine J.c hK16 <| J.e0 4 5 7 10 12 13 15 42 43 44 ?_
    refine J.g fun K17 hK17 => J.a8 0 qHf qFv rfl rfl rfl rfl rfl <| J.a8 1 qE5 z3_ rfl rfl rfl rfl rfl <| J.f (qAF 8 (v := I (((vs.getD i qAP).b : Nat) : Int)) rfl rfl rfl b3_ rfl) rfl <| J.a8 0 qHf qFv rfl rfl rfl rfl rfl <| J.a8 3 qE5 z3_ rfl rfl rfl rfl rfl <| J.f (qAF 8 (v := I (((vs.getD i qAP).nm : Nat) : Int)) rfl rfl rfl b3_ rfl) rfl <| J.f (qAQ (l := [(0, .tmp 50), (1, .tmp 53)]) (vs := [I (((vs.getD i qAP).b : Nat) : Int), I (((vs.getD i qAP).nm : Nat) : Int)]) (places := [(0, 1), (1, 1)]) (r := [I (((vs.getD i qAP).b : Nat) : Int), I (((vs.getD i qAP).nm : Nat) : Int)]) rfl rfl rfl underlying131 zeroValue131 (fun _ => by kernel_rfl) rfl) rfl <| J.u (qAf (l := [I 0, I 0]) rfl zeroValue131 rfl) rfl fun g16 _ => ?_
    change J _ _ _ [_, _, _, _, _, _, _, _, _, blk g16 [I 0, I 0] 131] _
    refine J.c1 (qAR (i := 9) (l := [I 0, I 0]) (vs := [I (((vs.getD i qAP).b : Nat) : Int), I (((vs.getD i qAP).nm : Nat) : Int)]) rfl rfl rfl rfl rfl sizeOf131 rfl rfl) rfl rfl fun _ _ => ?_
    change J _ _ _ [_, _, _, _, _, _, _, _, _, blk g16 [I (((vs.getD i qAP).b : Nat) : Int), I (((vs.getD i qAP).nm : Nat) : Int)] 131] _
    refine J.c hK17 <| J.d5 4 5 7 10 12 13 15 16 42 43 44 ?_
    refine J.k fun K18 hK18 => J.k fun K19 hK19 => ?_
    have hvi := hvo i (by omega)
    have hvk : qKt x y r31.ws (vs.getD i qAP) = qGg x y W sl (2 ^ d) (vs.getD i qAP) := vck_W hp31.ok hp31.len x y (vs.getD i qAP)
    have hsc2 := qO6 (x := x) (y := y) (W := W) (sl := sl) (n := 2 ^ d) (nd := nd) (vs := vs) (i := i) (by omega)
    rw [hsc] at hsc2
    refine J.E <| J.b rfl <| J.c7 9 isAgg131 sizeOf131 rfl rfl rfl rfl rfl <| J.f ((qIx (K := stK) (l := qCa (vs.take i)) (s := qDS (vs.getD i qAP)) qT7 rfl rfl rfl underlying129 e4_ (m := mm) (by simp) hmm.at).as (v' := .bool (qEK vs i)) (by rw [qJg]; cases qEK vs i <;> rfl)) rfl <| J.c hK19 <| J.e2 4 5 7 10 12 13 15 16 42 43 44 57 ?_
    refine J.d0 rfl (fun h57 => ?_) (fun h57 => ?_)
    ·
      refine J.g fun K20 hK20 => J.b rfl <| J.c hK20 <| J.A 8 ?_
      exact J.D <| J.a5 <| J.b3 <| J.a5 <| J.a5 <| J.b3 <| J.a5 <| J.L hw0 rfl () (by unfold qFm; rw [if_pos (show x.next y = 0 by omega), hsc2, if_pos h57]; rfl) trivial [0] rfl (by decide)
    refine J.a1 hK18 <| J.d5 4 5 7 10 12 13 15 16 42 43 44 ?_
    refine J.k fun K21 hK21 => ?_
    have hnone : qIG (qCa (vs.take i)) (qDS (vs.getD i qAP)) = none := by rw [qJg, h57]; rfl
    rw [h57, if_neg (by decide)] at hsc2
    refine J.E <| J.b rfl <| J.c7 9 isAgg131 sizeOf131 rfl rfl rfl rfl rfl <| J.c1 (qLK (K := stK) (l := qCa (vs.take i)) (s := qDS (vs.getD i qAP)) (u := .bool true) qT7 rfl rfl rfl rfl underlying129 (i := 6) rfl hmm hnone) rfl rfl ?_
    rintro m15 hm15
    change J _ _ _ [F, blk g4 [N64 y.ep, Str (y.par), I (y.dep), I (y.aud), .slice B y.nodes.length e, .slice Av nv cv] 45, blk g5 [N64 x.ep, Str (x.par), I (x.dep), I (x.aud), .slice A x.nodes.length c] 39, blk g7 [I ((sl : Nat) : Int), I ((nd : Nat) : Int)] 26, r31.mr, r31.G, m15, mc, blk g15 [N64 ((vs.getD i qAP).ep), I (((vs.getD i qAP).b : Nat) : Int), Str ((vs.getD i qAP).hd), I (((vs.getD i qAP).nm : Nat) : Int), I (((vs.getD i qAP).i : Nat) : Int), .slice (vs.getD i qAP).chA (vs.getD i qAP).ch.length (vs.getD i qAP).chc, .slice (vs.getD i qAP).ptA (vs.getD i qAP).pt.length (vs.getD i qAP).ptc, Str ((vs.getD i qAP).an), Str ((vs.getD i qAP).op), Str ((vs.getD i qAP).rt), I (((vs.getD i qAP).ht : Nat) : Int), .slice (vs.getD i qAP).bsA (vs.getD i qAP).bs.length (vs.getD i qAP).bsc, .bool ((vs.getD i qAP).th), Str ((vs.getD i qAP).pk), Str ((vs.getD i qAP).pv)] 60, blk g16 [I (((vs.getD i qAP).b : Nat) : Int), I (((vs.getD i qAP).nm : Nat) : Int)] 131] _
    rw [qK0 (by omega)] at hm15
    refine J.c hK21 <| J.e0 4 5 7 10 12 13 15 42 43 44 ?_
    refine J.k fun K22 hK22 => J.g fun K23 hK23 => J.c7 8 isAgg60 qL1 rfl rfl rfl rfl rfl <| J.c7 2 qEH qB6 rfl rfl rfl rfl rfl <| J.a8 0 qLw qB6 rfl rfl rfl rfl rfl <| J.f (qAh (vs := [N64 y.ep, Str (y.par), I (y.dep), I (y.aud), .slice B y.nodes.length e]) rfl rfl qEH qB6 (m := blk g4 [N64 y.ep, Str (y.par), I (y.dep), I (y.aud), .slice B y.nodes.length e, .slice Av nv cv] 45) (by simp) (qAV.blk0.sub 0 5) rfl) rfl <| J.b rfl <| J.u (qAB rfl rfl ent50 (Ct.use0 (fun F' hF => (by have := qMI F' (hK.mo hF) (vs.getD i qAP) (hvi.mono (hF F (by simp))) x A c hg (hsl.mono (hF F (by simp))) y B e hgy (hsy.mono (hF F (by simp))) hsm r31.A r31.ws.length r31.c r31.ws (hp31.row.sl.mono (hF r31.mr (by simp))) W sl (by omega) (hp31.ok.mono (hF r31.G (by simp))); rw [hvk] at this; exact this)))) rfl fun g65 _ => J.b rfl <| J.c hK23 <| J.d5 4 5 7 10 12 13 15 17 42 43 44 ?_
    refine J.g fun K24 hK24 => J.b rfl <| J.f (qAx rfl rfl rfl) rfl <| J.c hK24 <| J.e2 4 5 7 10 12 13 15 17 42 43 44 67 ?_
    refine J.a0 rfl (fun h67 => ?_) (fun h67 => ?_)
    ·
      refine J.g fun K25 hK25 => J.p 2 rfl <| J.c hK25 <| J.A 8 ?_
      exact J.D <| J.a5 <| J.b3 <| J.a5 <| J.a5 <| J.b3 <| J.a5 <| J.L hw0 rfl () (by unfold qFm; rw [if_pos (show x.next y = 0 by omega), hsc2, if_neg (by omega)]) trivial [0] rfl (by decide)
    refine J.a1 hK22 <| J.e0 4 5 7 10 12 13 15 42 43 44 ?_
    have hvz : qGg x y W sl (2 ^ d) (vs.getD i qAP) = 0 := by omega
    have hbn := qMG hvz
    rw [if_pos hvz] at hsc2
    have hcl := qEE (2 ^ d) (vs.take i)
    have hcg := qE0 (vs := vs.take i) hbn
    have hcv : qIc (vs.take i) (vs.getD i qAP).b ≤ i := Nat.le_trans (List.length_filter_le _ _) (by rw [List.length_take]; omega)
    refine J.E <| J.b rfl <| J.a8 0 qHf qFv rfl rfl rfl rfl rfl <| J.a8 1 qE5 z3_ rfl rfl rfl rfl rfl <| J.f (qAF 8 (v := I (((vs.getD i qAP).b : Nat) : Int)) rfl rfl rfl b3_ rfl) rfl <| J.f (qAJ (i := (vs.getD i qAP).b) (j := 0 + ((vs.getD i qAP).b) * 1) rfl rfl rfl qB1 z3_ (by omega) (by omega)) rfl <| J.f (qAK rfl rfl b3_ (m := mc) (by simp) (hrc.sl.cells (qBA (by omega)))) rfl <| J.f ((qAO rfl rfl rfl (by omega)).as (v' := I (((qHR (2 ^ d) (vs.take i)).getD ((vs.getD i qAP).b) 0 + 1 : Nat) : Int)) (congrArg I (by omega))) rfl <| J.f (qAJ (i := (vs.getD i qAP).b) (j := 0 + ((vs.getD i qAP).b) * 1) rfl rfl rfl qB1 z3_ (by omega) (by omega)) rfl <| J.c1 (qA9 (i := 7) (k := (vs.getD i qAP).b) (off := 0) (b := [I (((qHR (2 ^ d) (vs.take i)).getD ((vs.getD i qAP).b) 0 + 1 : Nat) : Int)]) rfl rfl rfl rfl hrc (vs := [I (((qHR (2 ^ d) (vs.take i)).getD ((vs.getD i qAP).b) 0 + 1 : Nat) : Int)]) rfl z3_ rfl (by omega) (qBA (by omega)) rfl (Nat.le_refl _)) rfl rfl ?_
    rintro m19_1 hm19_1
    change J _ _ _ [F, blk g4 [N64 y.ep, Str (y.par), I (y.dep), I (y.aud), .slice B y.nodes.length e, .slice Av nv cv] 45, blk g5 [N64 x.ep, Str (x.par), I (x.dep), I (x.aud), .slice A x.nodes.length c] 39, blk g7 [I ((sl : Nat) : Int), I ((nd : Nat) : Int)] 26, r31.mr, r31.G, m15, m19_1, blk g15 [N64 ((vs.getD i qAP).ep), I (((vs.getD i qAP).b : Nat) : Int), Str ((vs.getD i qAP).hd), I (((vs.getD i qAP).nm : Nat) : Int), I (((vs.getD i qAP).i : Nat) : Int), .slice (vs.getD i qAP).chA (vs.getD i qAP).ch.length (vs.getD i qAP).chc, .slice (vs.getD i qAP).ptA (vs.getD i qAP).pt.length (vs.getD i qAP).ptc, Str ((vs.getD i qAP).an), Str ((vs.getD i qAP).op), Str ((vs.getD i qAP).rt), I (((vs.getD i qAP).ht : Nat) : Int), .slice (vs.getD i qAP).bsA (vs.getD i qAP).bs.length (vs.getD i qAP).bsc, .bool ((vs.getD i qAP).th), Str ((vs.getD i qAP).pk), Str ((vs.getD i qAP).pv)] 60, blk g16 [I (((vs.getD i qAP).b : Nat) : Int), I (((vs.getD i qAP).nm : Nat) : Int)] 131] _
    rw [qEA] at hm19_1
    refine J.a2 <| J.a4 <| J.q (J.H hK15 ?_)
    refine J.d8 4 5 7 10 12 13 42 43 44 ?_
    exact J.E <| J.f ((qAO rfl rfl rfl (by omega)).nat (i + 1) (by omega)) rfl <| J.b rfl <| J.a2 <| J.q <| J.a6 (i + 1, m15, m19_1) (fun η (hη : _ ∧ nv - η.1 < nv - i) => hI0 η hη.1 hη.2) ⟨⟨by dsimp only; omega, hm15, by dsimp only; rw [← qN4 (n := 2 ^ d) (by omega)]; exact hm19_1, hsc2.symm⟩, by first | omega | (dsimp only; omega)⟩ ⟨rfl, rfl, rfl, rfl, rfl, rfl, rfl, rfl, rfl, trivial⟩ (fun _ h => h.pick [0, 1, 2, 3, 4, 5, 6, 7] (by decide))
  refine J.b0 <| J.Z <| J.Z <| J.b1 ?_
  refine J.q (J.H hK11 ?_)
  refine J.M 7 13 ?_
  refine J.k fun K26 hK26 => J.k fun K27 hK27 => ?_
  obtain rfl : i = vs.length := by omega
  rw [List.take_length] at hrc
  rw [Nat.sub_self, qFz] at hsc
  refine J.E <| J.b rfl <| J.f (qAZ qB1 rfl rfl) rfl <| J.b rfl <| J.c hK27 <| J.W 7 78 79 80 ?_
  refine J.T <| J.b2 (X := Nat) (fun ζ => [(7, Ptr g7), (78, .slice (some ⟨g40, 0, none⟩) (2 ^ d) (2 ^ d)), (79, I (((2 ^ d) : Nat) : Int)), (80, I ((ζ : Nat) : Int))]) (fun ζ => [F, blk g4 [N64 y.ep, Str (y.par), I (y.dep), I (y.aud), .slice B y.nodes.length e, .slice Av nv cv] 45, blk g5 [N64 x.ep, Str (x.par), I (x.dep), I (x.aud), .slice A x.nodes.length c] 39, blk g7 [I ((sl : Nat) : Int), I ((nd : Nat) : Int)] 26, r31.mr, r31.G, mm, mc]) (fun ζ => ζ ≤ 2 ^ d ∧ ∀ b, b < ζ → nd ≤ qIc vs b) (fun ζ => 2 ^ d - ζ) 0 (⟨Nat.zero_le _, fun b h => absurd h (Nat.not_lt_zero b)⟩) ⟨rfl, rfl, rfl, rfl, trivial⟩ (fun _ h => h) ?_
  rintro k ⟨hk, hlo⟩ I2 hI2
  refine J.g fun K28 hK28 => J.f (qAS rfl rfl rfl) rfl <| J.c hK28 <| J.a3 7 78 79 80 81 ?_
  refine J.k fun K29 hK29 => J.a0 rfl (fun h81 => ?_) (fun h81 => ?_)
  ·
    refine J.a1 hK29 <| J.W 7 78 79 80 ?_
    refine J.k fun K30 hK30 => J.T <| J.k fun K31 hK31 => ?_
    have hcl2 := qEE (2 ^ d) vs
    refine J.E <| J.f (qAJ (i := k) (j := 0 + k * 1) rfl rfl rfl qB1 z3_ (by omega) (by omega)) rfl <| J.f (qAK rfl rfl b3_ (m := mc) (by simp) (hrc.sl.cells (qBA (by omega)))) rfl <| J.b rfl <| J.c hK31 <| J.a3 7 19 78 79 80 ?_
    refine J.g fun K32 hK32 => J.b rfl <| J.a8 1 qOU z3_ rfl rfl rfl rfl rfl <| J.f (qAF 3 (v := I ((nd : Nat) : Int)) rfl rfl rfl b3_ rfl) rfl <| J.f (qAS rfl rfl rfl) rfl <| J.c hK32 <| J.a3 7 78 79 80 87 ?_
    refine J.a0 rfl (fun h87 => ?_) (fun h87 => ?_)
    ·
      refine J.g fun K33 hK33 => J.b rfl <| J.c hK33 <| J.A 8 ?_
      refine J.D <| J.b3 <| J.a5 <| J.a5 <| J.b3 <| J.a5 ?_
      have hno : ¬ ∀ b, b < 2 ^ d → nd ≤ qIc vs b := fun h => by have := h k (by omega); rw [← qE0 (vs := vs) (show k < 2 ^ d by omega)] at this; omega
      rw [if_neg hno] at hsc
      exact J.L hw0 rfl () (by unfold qFm; rw [if_pos (show x.next y = 0 by omega), ← hsc]; rfl) trivial [0] rfl (by decide)
    refine J.b7 <| J.a4 <| J.q (J.H hK30 ?_)
    refine J.W 7 78 79 80 ?_
    exact J.E <| J.f ((qAO rfl rfl rfl (by omega)).nat (k + 1) (by omega)) rfl <| J.b rfl <| J.a2 <| J.q <| J.a6 (k + 1) (fun η (hη : _ ∧ 2 ^ d - η < 2 ^ d - k) => hI2 η hη.1 hη.2) ⟨⟨by omega, fun b hb => by rcases Nat.lt_succ_iff_lt_or_eq.1 hb with h | rfl; exact hlo b h; rw [← qE0 (vs := vs) (show b < 2 ^ d by omega)]; omega⟩, by first | omega | (dsimp only; omega)⟩ ⟨rfl, rfl, rfl, rfl, trivial⟩ (fun _ h => h)
  refine J.b0 <| J.Z <| J.Z <| J.b1 ?_
  refine J.q (J.H hK26 ?_)
  refine J.c6 [] trivial <| J.g fun K34 hK34 => J.b rfl <| J.c hK34 <| J.A 8 ?_
  refine J.D ?_
  have hall : ∀ b, b < 2 ^ d → nd ≤ qIc vs b := fun b hb => hlo b (by omega)
  rw [if_pos hall] at hsc
  exact J.L hw0 rfl () (by unfold qFm; rw [if_pos (show x.next y = 0 by omega), ← hsc]; rfl) trivial [0] rfl (by decide)
end Go.Proofs.YtfldiegfenndjaaGreatDoor
