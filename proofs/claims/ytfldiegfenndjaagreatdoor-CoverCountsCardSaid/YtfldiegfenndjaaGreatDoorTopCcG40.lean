/- A part of the proof. -/
import Derived.Test.YtfldiegfenndjaaGreatDoorTopCcG4
import Derived.Test.YtfldiegfenndjaaGreatDoorTopCcG8
import Derived.Test.YtfldiegfenndjaaGreatDoorTopCcG39
import Derived.Test.YtfldiegfenndjaaGreatDoorTopCcG18
set_option linter.unusedSimpArgs false
set_option linter.unusedVariables false
namespace Go.Proofs.YtfldiegfenndjaaGreatDoor
open Go Go.Fw Go.Proofs.Tryz
set_option maxRecDepth 100000
set_option maxHeartbeats 1000000
theorem ent7 : qAC prog 7 := qAC.of func7 rfl (by kernel_rfl)
theorem ent10 : qAC prog 10 := qAC.of func10 rfl (by kernel_rfl)
theorem ent14 : qAC prog 14 := qAC.of func14 rfl (by kernel_rfl)
section
variable {P : Program} {env : Env} {rs ms : List Hp} {o : Oper}
theorem qSF {t t' x y yk} {a m : Nat} (ha : a < 65536) (ho : o.op = .binOp .shr t x y t') (hx : ev env x = some (.int .u16 ((a : Nat) : Int))) (hy : ev env y = some (.int yk ((m : Nat) : Int))) : YOp P env rs o (.int .u16 ((a / 2 ^ min m 16 : Nat) : Int)) := fun n ac w hk _ => by
 have hm : ¬ ((m : Int) < 0) := by omega
 have e : ((a : Int).fdiv (2 ^ min m 16)) = ((a / 2 ^ min m 16 : Nat) : Int) := by
  rw [Int.fdiv_eq_ediv_of_nonneg _ (Int.le_of_lt (Int.pow_pos (by omega)))]
  simp
 simp only [execOp, ho, hk.ev hx, hk.ev hy, binOp, Op.shift, if_neg hm, Int.toNat_natCast, IntKind.bits, e]
 simp [eqGuard]
theorem qSO {t t' x y} {a b : Nat} (ha : a < 65536) (hb : b < 65536) (ho : o.op = .binOp .and t x y t') (hx : ev env x = some (.int .u16 ((a : Nat) : Int))) (hy : ev env y = some (.int .u16 ((b : Nat) : Int))) : YOp P env rs o (.int .u16 ((a &&& b : Nat) : Int)) := fun n ac w hk _ => by
 have hr : a &&& b < 65536 := Nat.lt_of_le_of_lt Nat.and_le_left ha
 have hrun := qDO (P := P) .u16 (op := .and) (a := a) (b := b) (r := a &&& b) ha hb w rfl
 rw [show IntKind.u16.wrap ((a &&& b : Nat) : Int) = ((a &&& b : Nat) : Int) by
  simp only [IntKind.wrap, IntKind.bits, IntKind.signed]
  simp
  omega] at hrun
 simp only [execOp, ho, hk.ev hx, hk.ev hy]
 simp [eqGuard, binOp, hrun]
end
def hsV (l : List Nat) : List (List Value) := l.map fun x => [.int .u16 ((x : Nat) : Int)]
theorem qSp {l : List Nat} {k : Nat} (h : k < l.length) : (hsV l)[k]? = some [.int .u16 ((l.getD k 0 : Nat) : Int)] := by
 unfold hsV
 rw [List.getElem?_map, List.getElem?_eq_getElem h, List.getD_eq_getElem?_getD, List.getElem?_eq_getElem h]; rfl
theorem qLU (l : List Nat) (k : Nat) : (qAu l).take k = qAu (l.take k) := by simp [qAu]
structure CS (a d sl b i : Nat) (us : List Nat) (vs : List VtD) (G : Hp) : Prop where
 ul : us.length = a
 u0 : ∀ j, us.getD j 0 ≤ vs.length
 vl : vs.length ≤ 5 * b + i
 ok : ∀ k, k < vs.length → qKY G (vs.getD k qAP)
 ck : ∀ k, k < vs.length → qGg (pW a d) (nW a d) (qBR a d sl) sl (2 ^ d) (vs.getD k qAP) = 0
 sn : ∀ k, k < vs.length → qEK vs k = false
 wh : ∀ v ∈ vs, v.b < b ∨ (v.b = b ∧ ∃ j, j < i ∧ ((v.nm : Nat) : Int) = (qBR a d sl b).getD j 0)
theorem CS.init {a d sl : Nat} {G : Hp} : CS a d sl 0 0 (List.replicate a 0) [] G :=
 ⟨List.length_replicate, fun j => by
  rw [List.getD_eq_getElem?_getD, List.getElem?_replicate]
  split <;> exact Nat.zero_le _, Nat.zero_le _, fun k hk => absurd hk (Nat.not_lt_zero k), fun k hk => absurd hk (Nat.not_lt_zero k), fun k hk => absurd hk (Nat.not_lt_zero k), fun v hv => by cases hv⟩
theorem CS.skip {a d sl b i : Nat} {us : List Nat} {vs : List VtD} {G : Hp} (h : CS a d sl b i us vs G) : CS a d sl b (i + 1) us vs G :=
 ⟨h.ul, h.u0, by have := h.vl; omega, h.ok, h.ck, h.sn, fun v hv => (h.wh v hv).imp id fun ⟨h1, j, h2, h3⟩ => ⟨h1, j, by omega, h3⟩⟩
theorem CS.next {a d sl b : Nat} {us : List Nat} {vs : List VtD} {G : Hp} (h : CS a d sl b sl us vs G) (h5 : sl ≤ 5) : CS a d sl (b + 1) 0 us vs G :=
 ⟨h.ul, h.u0, by have := h.vl; omega, h.ok, h.ck, h.sn, fun v hv => .inl (by rcases h.wh v hv with h1 | ⟨h1, _⟩ <;> omega)⟩
theorem qMf (vs : List VtD) (v : VtD) (k : Nat) (h : k < vs.length) : qEK (vs ++ [v]) k = qEK vs k := by
 unfold qEK
 rw [List.take_append_of_le_length (by omega), qCm vs v qAP k (by omega), if_pos h]
theorem CS.add {a d sl b i : Nat} {us : List Nat} {vs : List VtD} {G G' : Hp} {v : VtD} {nm : Nat} (h : CS a d sl b i us vs G) (ha : a ≤ 5) (hd : d ≤ 1) (h1 : 1 ≤ sl) (h2 : sl ≤ a) (hb : b < 2 ^ d) (hi : i < sl) (hl : Le G G') (hok : qKY G' v) (hck : qGg (pW a d) (nW a d) (qBR a d sl) sl (2 ^ d) v = 0)
    (hvb : v.b = b) (hvn : v.nm = nm) (hw : ((nm : Nat) : Int) = (qBR a d sl b).getD i 0) : CS a d sl b (i + 1) (us.set nm (us.getD nm 0 + 1)) (vs ++ [v]) G' := by
  have hlen : (vs ++ [v]).length = vs.length + 1 := by rw [List.length_append]; rfl
  have hcase : ∀ {p : VtD → Prop}, (∀ k, k < vs.length → p (vs.getD k qAP)) → p v → ∀ k, k < (vs ++ [v]).length → p ((vs ++ [v]).getD k qAP) := fun {p} hp hv k hk => by
    rw [hlen] at hk
    rw [qCm vs v qAP k hk]
    split
    · exact hp k (by assumption)
    · exact hv
  refine ⟨by rw [List.length_set]; exact h.ul, fun j => ?_, by rw [hlen]; have := h.vl; omega, hcase (fun k hk => (h.ok k hk).mono hl) hok, hcase (p := fun v => qGg (pW a d) (nW a d) (qBR a d sl) sl (2 ^ d) v = 0) h.ck hck, fun k hk => ?_, fun x hx => ?_⟩
  · rw [hlen, List.getD_eq_getElem?_getD, List.getElem?_set]
    split
    · split
      · have := h.u0 nm; show _ + 1 ≤ _; omega
      · exact Nat.zero_le _
    · rw [← List.getD_eq_getElem?_getD]; have := h.u0 j; omega
  · rw [hlen] at hk
    by_cases hlt : k < vs.length
    · rw [qMf vs v k hlt]; exact h.sn k hlt
    · obtain rfl : k = vs.length := by omega
      unfold qEK
      rw [List.take_append_of_le_length (Nat.le_refl _), List.take_length, qCm vs v qAP vs.length (by omega), if_neg (by omega)]
      rw [Bool.eq_false_iff]
      intro e
      obtain ⟨x, hx, hs⟩ := List.any_eq_true.1 e
      have hs2 := of_decide_eq_true hs
      have e1 : x.b = v.b := congrArg Prod.fst hs2
      have e2 : x.nm = v.nm := congrArg Prod.snd hs2
      rcases h.wh x hx with h3 | ⟨_, j, hj, h4⟩
      · omega
      · obtain ⟨w1, w2, _⟩ := qJV ha hd h1 h2 hb
        rw [e2, hvn, hw] at h4
        have hji : j ≠ i := by omega
        have g : ∀ k, k < sl → ((qBR a d sl b).take sl)[k]? = some ((qBR a d sl b).getD k 0) := fun k hk => by
          rw [List.getElem?_take, if_pos hk, List.getD_eq_getElem?_getD, List.getElem?_eq_getElem (by rw [w1]; omega)]; rfl
        have hp := List.pairwise_iff_getElem.1 w2 j i (by rw [List.length_take, w1]; omega) (by rw [List.length_take, w1]; omega) (by omega)
        have g1 := g j (by omega)
        have g2 := g i hi
        rw [List.getElem?_eq_getElem (by rw [List.length_take, w1]; omega)] at g1 g2
        exact hp (by rw [Option.some.inj g1, Option.some.inj g2]; exact h4.symm)
  · rcases List.mem_append.1 hx with hx | hx
    · exact (h.wh x hx).imp id fun ⟨h3, j, h4, h5⟩ => ⟨h3, j, by omega, h5⟩
    · rw [List.mem_singleton] at hx
      subst hx
      exact .inr ⟨hvb, i, by omega, by rw [hvn]; exact hw⟩
theorem qOy {W : Nat → List Int} {sl n b nm i : Nat} (hb : b < n) (hi : i < sl) (hl : sl ≤ (W b).length) (h : ((nm : Nat) : Int) = (W b).getD i 0) : qGn W sl n b nm = true := by
  have hf : ∀ (l : List Int) (x : Int) (k : Nat), x ∈ l → 0 ≤ Wd.find l x k := fun l x => by
    induction l with
    | nil => intro k hx; cases hx
    | cons y r ih =>
      intro k hx
      unfold Wd.find
      by_cases e : x = y
      · rw [if_pos e]; omega
      · rw [if_neg e]
        rcases List.mem_cons.1 hx with h | h
        · exact absurd h e
        · exact ih (k + 1) h
  unfold qGn
  rw [decide_eq_true hb, Bool.true_and]
  refine decide_eq_true (hf _ _ _ ?_)
  rw [h, List.getD_eq_getElem?_getD, List.getElem?_eq_getElem (by omega)]
  exact List.mem_take_iff_getElem.2 ⟨i, by omega, rfl⟩
theorem qS7 (vs : List VtD) (b : Nat) : ((vs.map VtD.b).filter fun x => decide (x = b)).length = qIc vs b := by
 unfold qIc
 rw [List.filter_map, List.length_map]; rfl
theorem qTD (x : UInt8) : (x &&& 3).toNat ≤ 3 := by rw [UInt8.toNat_and]; exact Nat.and_le_right
theorem qTE (x : UInt8) : (x &&& 1).toNat ≤ 1 := by rw [UInt8.toNat_and]; exact Nat.and_le_right
theorem qRQ {a d sl b i : Nat} (hi : i < sl) : ((((Wn.swN (qQl a d b) a sl).take sl).getD i 0 : Nat) : Int) = (qBR a d sl b).getD i 0 := by
 unfold qBR
 rw [Wn.swW_swN, Wn.getD_mapI, List.getD_eq_getElem?_getD, List.getD_eq_getElem?_getD, List.getElem?_take, if_pos hi]
attribute [local irreducible] qBt qAD Hd.dig Sm.nd Xm.root Wo.opn
theorem qNZ (F : Hp) (hK : KF F) (hA : qAV F ⟨1, 0, none⟩ qBr) (hT : qCX F) (n0 n1 n2 n3 : UInt8) (A1 : Option Addr) (k1 c1 : Nat) (l1 : List Nat) (hs1 : Sl F 1 A1 k1 c1 (hsV l1)) (hk1 : k1 ≤ 9223372036854775807) (hb1 : ∀ x ∈ l1, x < 65536) : Ct prog 3 [.agg #[B8 n0, B8 n1, B8 n2, B8 n3], .slice A1 k1 c1] [F] (fun _ : Unit => .bool true) (fun _ => True) (fun _ => [F]) := by
 have hl1 : l1.length = k1 := by have := hs1.1; simpa [hsV] using this
 obtain ⟨a, ha⟩ : ∃ a, a = 2 + (n0 &&& 3).toNat := ⟨_, rfl⟩
 obtain ⟨d, hd⟩ : ∃ d, d = (n1 &&& 1).toNat := ⟨_, rfl⟩
 have h3 := qTD n0
 have h1 := qTE n1
 obtain ⟨sl, hsl⟩ : ∃ sl, sl = 1 + n2.toNat % a := ⟨_, rfl⟩
 have hm := Nat.mod_lt n2.toNat (show 0 < a by omega)
 obtain ⟨nd, hnd⟩ : ∃ nd, nd = 1 + n3.toNat % sl := ⟨_, rfl⟩
 have hm2 := Nat.mod_lt n3.toNat (show 0 < sl by omega)
 have hpw : 2 ^ d ≤ 2 := Nat.le_trans (Nat.pow_le_pow_right (by decide) (show d ≤ 1 by omega)) (by decide)
 have hd1 : d ≤ 1 := by omega
 have ha5 : a ≤ 5 := by omega
 have hpd := qAz ha5 hd1
 refine Ct.walk func3 rfl ntmps3 rfl (fun w0 hw0 => ?_)
 change J _ [(0, _), (1, _)] _ _ _
 refine J.g fun K1 hK1 => J.u (qAl (l := [B8 n0, B8 n1, B8 n2, B8 n3]) rfl rfl rfl) rfl fun g2 _ => ?_
 change J _ _ _ [F, blk g2 [B8 n0, B8 n1, B8 n2, B8 n3] 22] _
 refine J.b rfl <| J.c hK1 <| J.M 1 2 ?_
 refine J.k fun K2 hK2 => J.g fun K3 hK3 => J.u (qAB rfl rfl ent7 (Ct.use0 (fun F' hF => qIp F' (hK.mo hF) (hA.mono (hF F (by simp))) (hT.mono (hF F (by simp)))))) rfl fun g18 _ => J.f (qA2 rfl rfl) rfl <| J.c hK3 <| J.V 1 2 19 ?_
 refine J.b6 ?_
 refine J.a1 hK2 <| J.M 1 2 ?_
 refine J.k fun K4 hK4 => J.b5 [blk g2 [B8 n0, B8 n1, B8 n2, B8 n3] 22] [] (.y 0 (.y 1 (.y 2 (.y 3 (.y 4 (.y 5 (.y 6 (.y 7 (.y 8 (.y 9 (.y 10 .nil))))))))))) Tryz.wide (by decide +kernel) (by simp) ?_
 refine J.j rfl (qAY (i := 0) (j := 0) rfl rfl rfl underlying22 z5_ (by omega) rfl) rfl rfl <| J.j rfl (qAF 0 (v := B8 n0) rfl rfl rfl b5_ rfl) rfl rfl <| J.j rfl (qI0 (b := 3) rfl rfl rfl) rfl rfl <| J.j rfl (qBT rfl rfl u5_ u3_) rfl rfl <| J.j rfl ((qAO rfl rfl rfl (by omega)).nat (a) (by omega)) rfl rfl <| J.j rfl (qAY (i := 1) (j := 1) rfl rfl rfl underlying22 z5_ (by omega) rfl) rfl rfl <| J.j rfl (qAF 0 (v := B8 n1) rfl rfl rfl b5_ rfl) rfl rfl <| J.j rfl (qI0 (b := 1) rfl rfl rfl) rfl rfl <| J.j rfl ((qBT rfl rfl u5_ u3_).nat (d) (by omega)) rfl rfl <| J.c0 ?_
 refine J.c0 ?_
 refine J.b4 <| J.q (J.H hK4 ?_)
 refine J.W 1 2 5 6 ?_
 refine J.g fun K5 hK5 => J.f (qAY (i := 2) (j := 2) rfl rfl rfl underlying22 z5_ (by omega) rfl) rfl <| J.f (qAF 1 (v := B8 n2) rfl rfl rfl b5_ rfl) rfl <| J.f (qBT rfl rfl u5_ u3_) rfl <| J.b rfl <| J.f ((qFS rfl rfl rfl ⟨by omega, by omega⟩).as (v' := I ((n2.toNat % a : Nat) : Int)) (congrArg I (Int.ofNat_tmod _ _).symm)) rfl <| J.f ((qAO rfl rfl rfl (by omega)).nat (sl) (by omega)) rfl <| J.b rfl <| J.c hK5 <| J.a3 1 2 5 6 7 ?_
 refine J.g fun K6 hK6 => J.b rfl <| J.f (qAY (i := 3) (j := 3) rfl rfl rfl underlying22 z5_ (by omega) rfl) rfl <| J.f (qAF 1 (v := B8 n3) rfl rfl rfl b5_ rfl) rfl <| J.f (qBT rfl rfl u5_ u3_) rfl <| J.b rfl <| J.f ((qFS rfl rfl rfl ⟨by omega, by omega⟩).as (v' := I ((n3.toNat % sl : Nat) : Int)) (congrArg I (Int.ofNat_tmod _ _).symm)) rfl <| J.f ((qAO rfl rfl rfl (by omega)).nat (nd) (by omega)) rfl <| J.f (qAQ (l := [(0, .tmp 35), (1, .tmp 41)]) (vs := [I ((sl : Nat) : Int), I ((nd : Nat) : Int)]) (places := [(0, 1), (1, 1)]) (r := [I ((sl : Nat) : Int), I ((nd : Nat) : Int)]) rfl rfl rfl qOU qRE (fun _ => by kernel_rfl) (by kernel_rfl)) rfl <| J.u (qAf (l := [I 0, I 0]) rfl qRE rfl) rfl fun g8 _ => ?_
 change J _ _ _ [_, _, blk g8 [I 0, I 0] 26] _
 refine J.c1 (qAR (i := 2) (l := [I 0, I 0]) (vs := [I ((sl : Nat) : Int), I ((nd : Nat) : Int)]) rfl rfl rfl rfl rfl qKa rfl rfl) rfl rfl fun _ _ => ?_
 change J _ _ _ [_, _, blk g8 [I ((sl : Nat) : Int), I ((nd : Nat) : Int)] 26] _
 refine J.c hK6 <| J.a3 1 5 6 7 8 ?_
 refine J.g fun K7 hK7 => J.p 2 rfl <| J.u (qAB rfl rfl ent8 (Ct.use (new := fun r : WdH => [r.mr, r.mu, r.H]) (fun F' hF => qEf F' (hK.mo hF) (hA.mono (hF F (by simp))) (hT.mono (hF F (by simp))) a d (by omega) (by omega) (by omega)))) rfl ?_
 rintro ⟨gw, gt, gr, gs, kA, kc, nA, nc, gu, uc, mr, mu, H⟩ hw
 try dsimp only at hw
 change J _ ((45, Ptr gw) :: _) _ [_, _, _, mr, mu, H] _
 obtain ⟨hw, hgl, hkr, hks, hro, hur, hTr, hnr⟩ := hw
 dsimp only at hw hgl hkr hks hro hur hTr hnr
 refine J.b rfl <| J.c hK7 <| J.a9 1 5 6 7 8 9 ?_
 refine J.k fun K8 hK8 => J.b5 [H, blk g8 [I ((sl : Nat) : Int), I ((nd : Nat) : Int)] 26] [] (.y 0 (.y 1 (.y 2 (.y 3 (.y 4 (.y 5 (.e 6 (.y 7 (.y 8 (.y 9 (.y 10 (.y 11 .nil)))))))))))) Tryz.wide (by decide +kernel) (by simp) ?_
 refine J.G ?_
 refine J.j rfl (qAE rfl rfl) rfl rfl <| J.j rfl (qAA (j := 3) rfl rfl qC3 rfl qB6 rfl) rfl rfl <| J.j rfl (qAh (vs := [N64 0, Str (qBw), I ((d : Nat) : Int), I ((a : Nat) : Int), .slice nA ((qAT (qAD a) d).length) nc]) rfl rfl qEH qB6 (m := H) (by simp) (hw.sub 3 5) rfl) rfl rfl <| J.G ?_
 refine J.j rfl (qAk 1 rfl rfl rfl isAgg26 qKa rfl) rfl rfl <| J.a7 rfl (qAB rfl rfl ent9 (Ct.use (new := fun r : WnR => [r.mr, r.G]) (fun F' hF => qGA F' (hK.mo hF) (pW a d) nA nc (qCS a (by omega)) (hnr.mono (hF H (by simp))) d a sl nd (by omega) rfl (qBp (by omega) (by omega)) (by omega) (by omega) (by omega) (by omega) (qBR a d sl) (qDI (by omega) (by omega) (by omega) (by omega))))) rfl (by simp) ?_
 rintro ⟨wA, wc, wm, wG, ws⟩ hp
 try dsimp only at hp
 change J _ ((53, .tuple #[.slice wA ws.length wc, I 0]) :: _) _ [_, _, _, _, _, _, wm, wG] _
 obtain ⟨hwl, hwr, hwk⟩ := hp
 dsimp only at hwl hwr hwk
 refine J.G ?_
 refine J.d4 (.slice wA ws.length wc) ?_
 refine J.d4 (I ((0 : Nat) : Int)) ?_
 refine J.c0 ?_
 refine J.c0 ?_
 refine J.b4 <| J.q (J.H hK8 ?_)
 refine J.d2 1 5 6 7 8 9 10 11 ?_
 refine J.k fun K9 hK9 => J.g fun K10 hK10 => J.b rfl <| J.f ((qAx rfl rfl rfl).no (by decide)) rfl <| J.p 2 rfl <| J.O (qAZ qOT rfl rfl) rfl <| J.b rfl <| J.O ((qIv (a := 1) (m := d) rfl rfl rfl (by omega)).as (v' := I ((2 ^ d : Nat) : Int)) (by rw [Nat.one_mul])) rfl <| J.O ((qAx rfl rfl rfl).no (fun h => h (by rw [hwl]))) rfl <| J.b rfl <| J.c hK10 <| J.b9 1 5 7 8 9 10 64 ?_
 refine J.b6 ?_
 refine J.a1 hK9 <| J.a9 1 5 7 8 9 10 ?_
 refine J.g fun K11 hK11 => J.b rfl <| J.c hK11 <| J.b9 1 5 7 8 9 10 12 ?_
 refine J.g fun K12 hK12 => J.u (qAf (l := [.int .u64 0, Str [], I 0, I 0, .slice none 0 0, .slice none 0 0]) rfl qOY rfl) rfl fun g13 _ => ?_
 change J _ _ _ [_, _, _, _, _, _, _, _, blk g13 [.int .u64 0, Str [], I 0, I 0, .slice none 0 0, .slice none 0 0] 45] _
 refine J.c hK12 <| J.d2 1 5 7 8 9 10 12 13 ?_
 refine J.g fun K13 hK13 => J.b rfl <| J.f (qAE rfl rfl) rfl <| J.a8 8 qC3 qB6 rfl rfl rfl rfl rfl <| J.f (qAh (vs := [N64 1, Str ((pW a d).dig), I ((d : Nat) : Int), I ((a : Nat) : Int), .slice nA ((qAT (qAD a) d).length) nc]) rfl rfl qEH qB6 (m := H) (by simp) (hw.sub 8 5) rfl) rfl <| J.a8 0 qLw qB6 rfl rfl rfl rfl rfl <| J.c1 (qAc (i := 8) (l := [.int .u64 0, Str [], I 0, I 0, .slice none 0 0, .slice none 0 0]) (vs := [N64 1, Str (pW a d).dig, I ((d : Nat) : Int), I ((a : Nat) : Int), .slice nA ((qAT (qAD a) d).length) nc]) rfl rfl rfl rfl rfl qB6 rfl (by simp)) rfl rfl fun _ _ => ?_
 change J _ _ _ [_, _, _, _, _, _, _, _, blk g13 [N64 1, Str (pW a d).dig, I ((d : Nat) : Int), I ((a : Nat) : Int), .slice nA ((qAT (qAD a) d).length) nc, .slice none 0 0] 45] _
 refine J.c hK13 <| J.d2 1 5 7 8 9 10 12 13 ?_
 refine J.k fun K14 hK14 => J.k fun K15 hK15 => J.c5 [3, 4, 0, 5, 6, 7, 1, 2, 8] [mr, mu, F, H, wm, wG, blk g2 [B8 n0, B8 n1, B8 n2, B8 n3] 22, blk g8 [I ((sl : Nat) : Int), I ((nd : Nat) : Int)] 26, blk g13 [N64 1, Str (pW a d).dig, I ((d : Nat) : Int), I ((a : Nat) : Int), .slice nA ((qAT (qAD a) d).length) nc, .slice none 0 0] 45] rfl (by decide) <| J.E <| J.b rfl <| J.c hK15 <| J.d8 1 5 7 8 9 10 12 13 14 ?_
 refine J.T <| J.b2 (X := Nat × List Nat × List VtD × Nat × Nat × Option Addr × Nat × Option Addr × Nat × Hp × Hp × Hp × Hp × Hp) (fun ζ => [(1, .slice A1 k1 c1), (5, I ((a : Nat) : Int)), (7, I ((sl : Nat) : Int)), (8, Ptr g8), (9, Ptr gw), (10, .slice wA ws.length wc), (12, .slice ζ.2.2.2.2.2.1 ζ.2.2.2.1 ζ.2.2.2.2.2.2.1), (13, Ptr g13), (14, I ((ζ.1 : Nat) : Int))]) (fun ζ => [ζ.2.2.2.2.2.2.2.2.2.1, ζ.2.2.2.2.2.2.2.2.2.2.1, F, H, wm, wG, blk g2 [B8 n0, B8 n1, B8 n2, B8 n3] 22, blk g8 [I ((sl : Nat) : Int), I ((nd : Nat) : Int)] 26, blk g13 [N64 1, Str (pW a d).dig, I ((d : Nat) : Int), I ((a : Nat) : Int), .slice nA ((qAT (qAD a) d).length) nc, .slice ζ.2.2.2.2.2.2.2.1 ζ.2.2.2.2.1 ζ.2.2.2.2.2.2.2.2.1] 45, ζ.2.2.2.2.2.2.2.2.2.2.2.1, ζ.2.2.2.2.2.2.2.2.2.2.2.2.1, ζ.2.2.2.2.2.2.2.2.2.2.2.2.2]) (fun ζ => ζ.1 ≤ 2 ^ d ∧ CS a d sl ζ.1 0 ζ.2.1 ζ.2.2.1 ζ.2.2.2.2.2.2.2.2.2.2.2.2.2 ∧ qId ζ.2.2.2.2.2.2.2.2.2.1 gr (wL a) ∧ Row ζ.2.2.2.2.2.2.2.2.2.2.1 3 1 (some ⟨gu, 0, none⟩) a uc (qAu ζ.2.1) ∧ Row ζ.2.2.2.2.2.2.2.2.2.2.2.1 3 1 ζ.2.2.2.2.2.1 ζ.2.2.2.1 ζ.2.2.2.2.2.2.1 (qAu (ζ.2.2.1.map VtD.b)) ∧ Row ζ.2.2.2.2.2.2.2.2.2.2.2.2.1 60 15 ζ.2.2.2.2.2.2.2.1 ζ.2.2.2.2.1 ζ.2.2.2.2.2.2.2.2.1 (qDW ζ.2.2.1)) (fun ζ => 2 ^ d - ζ.1) (0, (List.replicate a 0), [], 0, 0, none, 0, none, 0, mr, mu, (fun _ => none), (fun _ => none), (fun _ => none)) (⟨Nat.zero_le _, CS.init, hro, hur, qB5.nil, qB5.nil⟩) ⟨rfl, rfl, rfl, rfl, rfl, rfl, rfl, rfl, rfl, trivial⟩ (fun _ h => h.empty.empty.empty.pick [0, 1, 2, 3, 4, 5, 6, 7, 8, 9, 10, 11] (by decide)) ?_
 rintro ⟨b, us, vs, nn, nv, An, cn, At, ct, mr, mu, mn, mt, G⟩ ⟨hb, hcs, hro, hur, hrn, hrt⟩ I0 hI0
 dsimp only at hb hcs hro hur hrn hrt ⊢
 refine J.k fun K16 hK16 => J.g fun K17 hK17 => J.p 2 rfl <| J.f (qAZ qOT rfl rfl) rfl <| J.f (qAS rfl rfl rfl) rfl <| J.c hK17 <| J.e0 1 5 7 8 9 10 12 13 14 73 ?_
 refine J.a0 rfl (fun h73 => ?_) (fun h73 => ?_)
 ·
  refine J.a1 hK16 <| J.d8 1 5 7 8 9 10 12 13 14 ?_
  refine J.k fun K18 hK18 => J.T <| J.g fun K19 hK19 => J.b rfl <| J.f (qAE rfl rfl) rfl <| J.a8 3 qC3 qB6 rfl rfl rfl rfl rfl <| J.f (qAh (vs := [N64 0, Str (qBw), I ((d : Nat) : Int), I ((a : Nat) : Int), .slice nA ((qAT (qAD a) d).length) nc]) rfl rfl qEH qB6 (m := H) (by simp) (hw.sub 3 5) rfl) rfl <| J.u (qAB rfl rfl ent11 (Ct.use0 (fun F' hF => qCA F' (hK.mo hF) (pW a d) nA nc (qCS a (by omega)) (hnr.mono (hF H (by simp)))))) rfl fun g80 _ => J.p 3 rfl <| J.u (qAB rfl rfl ent10 (Ct.use (new := fun x : Option Addr × Nat × Hp => [x.2.2]) (fun F' hF => qSU F' (pW a d).dig (by omega) b a sl (by omega) (by omega) (by omega) (qQl a d b) (wd23 (by omega) ha5 hd1 (by omega)) (ok23 ⟨a, by omega⟩ ⟨d, by omega⟩ ⟨b, by omega⟩ (by dsimp only; omega) (by dsimp only; omega))))) rfl ?_
  rintro ⟨A84, c84, m84⟩ h84
  try dsimp only at h84
  change J _ ((84, .slice A84 sl c84) :: _) _ [mr, mu, F, H, wm, wG, blk g2 [B8 n0, B8 n1, B8 n2, B8 n3] 22, blk g8 [I ((sl : Nat) : Int), I ((nd : Nat) : Int)] 26, blk g13 [N64 1, Str (pW a d).dig, I ((d : Nat) : Int), I ((a : Nat) : Int), .slice nA ((qAT (qAD a) d).length) nc, .slice At nv ct] 45, mn, mt, G, m84] _
  have hs84 := h84.sl.to (k := sl) (by omega)
  rw [qLU] at hs84
  refine J.b rfl <| J.c hK19 <| J.e0 1 5 7 8 9 10 12 13 14 15 ?_
  refine J.g fun K20 hK20 => J.b rfl <| J.c hK20 <| J.d5 1 5 7 8 9 10 12 13 14 15 16 ?_
  refine J.T <| J.b2 (X := Nat × List Nat × List VtD × Nat × Nat × Option Addr × Nat × Option Addr × Nat × Hp × Hp × Hp × Hp × Hp) (fun ζ => [(1, .slice A1 k1 c1), (5, I ((a : Nat) : Int)), (7, I ((sl : Nat) : Int)), (8, Ptr g8), (9, Ptr gw), (10, .slice wA ws.length wc), (12, .slice ζ.2.2.2.2.2.1 ζ.2.2.2.1 ζ.2.2.2.2.2.2.1), (13, Ptr g13), (14, I ((b : Nat) : Int)), (15, .slice A84 sl c84), (16, I ((ζ.1 : Nat) : Int))]) (fun ζ => [ζ.2.2.2.2.2.2.2.2.2.1, ζ.2.2.2.2.2.2.2.2.2.2.1, F, H, wm, wG, blk g2 [B8 n0, B8 n1, B8 n2, B8 n3] 22, blk g8 [I ((sl : Nat) : Int), I ((nd : Nat) : Int)] 26, blk g13 [N64 1, Str (pW a d).dig, I ((d : Nat) : Int), I ((a : Nat) : Int), .slice nA ((qAT (qAD a) d).length) nc, .slice ζ.2.2.2.2.2.2.2.1 ζ.2.2.2.2.1 ζ.2.2.2.2.2.2.2.2.1] 45, ζ.2.2.2.2.2.2.2.2.2.2.2.1, ζ.2.2.2.2.2.2.2.2.2.2.2.2.1, ζ.2.2.2.2.2.2.2.2.2.2.2.2.2, m84]) (fun ζ => ζ.1 ≤ sl ∧ CS a d sl b ζ.1 ζ.2.1 ζ.2.2.1 ζ.2.2.2.2.2.2.2.2.2.2.2.2.2 ∧ qId ζ.2.2.2.2.2.2.2.2.2.1 gr (wL a) ∧ Row ζ.2.2.2.2.2.2.2.2.2.2.1 3 1 (some ⟨gu, 0, none⟩) a uc (qAu ζ.2.1) ∧ Row ζ.2.2.2.2.2.2.2.2.2.2.2.1 3 1 ζ.2.2.2.2.2.1 ζ.2.2.2.1 ζ.2.2.2.2.2.2.1 (qAu (ζ.2.2.1.map VtD.b)) ∧ Row ζ.2.2.2.2.2.2.2.2.2.2.2.2.1 60 15 ζ.2.2.2.2.2.2.2.1 ζ.2.2.2.2.1 ζ.2.2.2.2.2.2.2.2.1 (qDW ζ.2.2.1)) (fun ζ => sl - ζ.1) (0, us, vs, nn, nv, An, cn, At, ct, mr, mu, mn, mt, G) (⟨Nat.zero_le _, hcs, hro, hur, hrn, hrt⟩) ⟨rfl, rfl, rfl, rfl, rfl, rfl, rfl, rfl, rfl, rfl, rfl, trivial⟩ (fun _ h => h) ?_
  rintro ⟨i, us, vs, nn, nv, An, cn, At, ct, mr, mu, mn, mt, G⟩ ⟨hi, hcs, hro, hur, hrn, hrt⟩ I2 hI2
  dsimp only at hi hcs hro hur hrn hrt ⊢
  refine J.k fun K21 hK21 => J.g fun K22 hK22 => J.p 2 rfl <| J.f (qAS rfl rfl rfl) rfl <| J.c hK22 <| J.e2 1 5 7 8 9 10 12 13 14 15 16 87 ?_
  refine J.a0 rfl (fun h87 => ?_) (fun h87 => ?_)
  ·
   refine J.a1 hK21 <| J.d5 1 5 7 8 9 10 12 13 14 15 16 ?_
   refine J.k fun K23 hK23 => J.T <| J.k fun K24 hK24 => J.k fun K25 hK25 => ?_
   obtain ⟨hx1, hx2, hx3⟩ := hwk b (by omega)
   have hw84 := qRQ (a := a) (d := d) (sl := sl) (b := b) (i := i) (by omega)
   obtain ⟨hwi1, hwi2, hwi3⟩ := qJV ha5 hd1 (show 1 ≤ sl by omega) (show sl ≤ a by omega) (show b < 2 ^ d by omega)
   have hxi : (ws.getD b qCk).l.getD i 0 = (qBR a d sl b).getD i 0 := by rw [hx1, List.getD_eq_getElem?_getD, List.getD_eq_getElem?_getD, List.getElem?_take, if_pos (by omega)]
   have hsw : ((Wn.swN (qQl a d b) a sl).take sl).length = sl := by rw [List.length_take, Wn.swN_len]; omega
   refine J.b5 [wm, wG, m84] [] (.y 0 (.y 1 (.y 2 (.y 3 (.y 4 (.y 5 (.y 6 (.y 7 (.y 8 (.y 9 (.y 10 (.y 11 .nil)))))))))))) Tryz.wide (by decide +kernel) (by simp) ?_
   refine J.G ?_
   refine J.G ?_
   refine J.j rfl (qAG (i := b) rfl rfl rfl qOT qL2 hwr.sl (by first | omega | (simp only [List.length_append, List.length_cons, List.length_nil, List.length_take, List.length_drop] at *; omega))) rfl rfl <| J.j rfl (qAK (v := .slice (ws.getD b qCk).lA (ws.getD b qCk).l.length (ws.getD b qCk).lc) rfl rfl isAgg40 (m := wm) (by simp) (hwr.sl.elem (qJT (k := b) (by omega)))) rfl rfl <| J.G ?_
   refine J.j rfl (qAG (i := i) rfl rfl rfl qB1 z3_ hx3 (by first | omega | (simp only [List.length_append, List.length_cons, List.length_nil, List.length_take, List.length_drop] at *; omega))) rfl rfl <| J.j rfl (qAK rfl rfl b3_ (m := wG) (by simp) (hx3.elem (qLh (by first | omega | (simp only [List.length_append, List.length_cons, List.length_nil, List.length_take, List.length_drop] at *; omega))))) rfl rfl <| J.G ?_
   refine J.G ?_
   refine J.j rfl (qAG (i := i) rfl rfl rfl qB1 z3_ hs84 (by first | omega | (simp only [List.length_append, List.length_cons, List.length_nil, List.length_take, List.length_drop] at *; omega))) rfl rfl <| J.j rfl (qAK rfl rfl b3_ (m := m84) (by simp) (hs84.elem (qBA (by first | omega | (simp only [List.length_append, List.length_cons, List.length_nil, List.length_take, List.length_drop] at *; omega))))) rfl rfl <| J.j rfl ((qAx rfl rfl rfl).no (fun h => h (by rw [hxi, hw84]))) rfl rfl <| J.b4 <| J.q (J.H hK25 ?_)
   refine J.e2 1 5 7 8 9 10 12 13 14 15 16 101 ?_
   refine J.b6 ?_
   refine J.a1 hK24 <| J.d5 1 5 7 8 9 10 12 13 14 15 16 ?_
   refine J.k fun K26 hK26 => ?_
   have hnn : vs.length = nn := by have := hrn.1; simpa [qAu] using this
   have hnv : vs.length = nv := by have := hrt.1; simpa [qDW] using this
   have hvl := hcs.vl
   refine J.E <| J.p 2 rfl <| J.f (qAZ underlying23 rfl rfl) rfl <| J.f (qAS rfl rfl rfl) rfl <| J.b rfl <| J.c3 (d := 106) rfl (fun h106 => ?_) (fun h106 => ?_)
   ·
    refine J.p 2 rfl ?_
    have hu16 : l1.getD b 0 < 65536 := hb1 _ (by rw [List.getD_eq_getElem?_getD, List.getElem?_eq_getElem (by omega)]; exact List.getElem_mem _)
    refine J.O (qAG (i := b) rfl rfl rfl underlying23 sizeOf48 hs1 (by omega)) rfl <| J.O (qAK (v := .int .u16 ((l1.getD b 0 : Nat) : Int)) rfl rfl isAgg48 (m := F) (by simp) (hs1.elem (qSp (by omega)))) rfl <| J.b rfl <| J.O (qSF (a := l1.getD b 0) (m := i) hu16 rfl rfl rfl) rfl <| J.O (qSO (a := l1.getD b 0 / 2 ^ min i 16) (b := 1) (Nat.lt_of_le_of_lt (Nat.div_le_self _ _) hu16) (by decide) rfl rfl rfl) rfl <| J.O (qAd rfl rfl rfl) rfl <| J.b rfl <| J.c hK26 <| J.e2 1 5 7 8 9 10 12 13 14 15 16 115 ?_
    refine J.a0 rfl (fun h115 => ?_) (fun h115 => ?_)
    ·
     refine J.g fun K27 hK27 => J.p 2 rfl <| J.u (qAH (l := [.tmp 117]) (xs := [[I ((b : Nat) : Int)]]) rfl rfl rfl rfl qB1 el3 rfl (by decide) (by decide) (by simp)) rfl fun g118 _ => ?_
     change J _ _ _ [mr, mu, F, H, wm, wG, blk g2 [B8 n0, B8 n1, B8 n2, B8 n3] 22, blk g8 [I ((sl : Nat) : Int), I ((nd : Nat) : Int)] 26, blk g13 [N64 1, Str (pW a d).dig, I ((d : Nat) : Int), I ((a : Nat) : Int), .slice nA ((qAT (qAD a) d).length) nc, .slice At nv ct] 45, mn, mt, G, m84, blk g118 [I ((b : Nat) : Int)] 3] _
     refine J.u (qAb (i := 9) (xs := qAu (vs.map VtD.b)) (m2 := blk g118 [I ((b : Nat) : Int)] 3) (ys := [[I ((b : Nat) : Int)]]) rfl rfl rfl qB1 qB1 el3 rfl hrn (by simp) ((qA8 (q := True) (qAu [b]) rfl (by simp [qAu]) rfl).sl) rfl (by first | omega | (simp only [List.length_append, List.length_cons, List.length_nil, List.length_take, List.length_drop] at *; omega)) (by first | omega | (simp only [List.length_append, List.length_cons, List.length_nil, List.length_take, List.length_drop] at *; omega))) rfl ?_
     rintro ⟨A119, c119, m119⟩ h119
     try dsimp only at h119
     change J _ ((119, .slice A119 (nn + 1) c119) :: _) _ [_, _, _, _, _, _, _, _, _, m119, _, _, _, _] _
     rw [← qCl] at h119
     refine J.b rfl <| J.c hK27 <| J.d5 1 5 7 8 9 10 12 13 14 15 16 ?_
     obtain ⟨nm, hnm⟩ : ∃ nm, nm = ((Wn.swN (qQl a d b) a sl).take sl).getD i 0 := ⟨_, rfl⟩
     have hnw : ((nm : Nat) : Int) = (qBR a d sl b).getD i 0 := by rw [hnm]; exact hw84
     have hnma : nm < a := by have := hwi3 i (by omega); omega
     refine J.b5 [m84, blk g13 [N64 1, Str (pW a d).dig, I ((d : Nat) : Int), I ((a : Nat) : Int), .slice nA ((qAT (qAD a) d).length) nc, .slice At nv ct] 45] [12] (.y 0 (.y 1 (.y 2 (.y 3 (.y 4 (.y 5 (.y 6 (.y 7 (.e 8 (.e 9 (.e 10 (.y 11 (.e 12 .nil))))))))))))) Tryz.wide (by decide +kernel) (by simp) ?_
     refine J.j rfl (qAA (j := 5) rfl rfl qLw rfl sizeOf43 rfl) rfl rfl <| J.j rfl (qAF 1 (v := .slice At nv ct) rfl rfl rfl isAgg43 rfl) rfl rfl <| J.G ?_
     refine J.G ?_
     refine J.G ?_
     refine J.j rfl (qAG (i := i) rfl rfl rfl qB1 z3_ hs84 (by first | omega | (simp only [List.length_append, List.length_cons, List.length_nil, List.length_take, List.length_drop] at *; omega))) rfl rfl <| J.j rfl (qAK rfl rfl b3_ (m := m84) (by simp) (hs84.elem (qBA (by first | omega | (simp only [List.length_append, List.length_cons, List.length_nil, List.length_take, List.length_drop] at *; omega))))) rfl rfl ?_
     rw [← hnm]
     refine J.G ?_
     refine J.a7 rfl (qAB rfl rfl ent12 (Ct.useA [mr, mu] [F, H, wm, wG, blk g2 [B8 n0, B8 n1, B8 n2, B8 n3] 22, blk g8 [I ((sl : Nat) : Int), I ((nd : Nat) : Int)] 26, blk g13 [N64 1, Str (pW a d).dig, I ((d : Nat) : Int), I ((a : Nat) : Int), .slice nA ((qAT (qAD a) d).length) nc, .slice At nv ct] 45, m119, mt, G, m84, blk g118 [I ((b : Nat) : Int)] 3] (A' := fun r : VoR => [r.mr, r.mu]) (new := fun r : VoR => [r.m1, r.m2, r.m3]) (fun F' hF => qIj F' mr mu (hK.mo hF) a d nm b gw gt gr kc (qAT (qAD a) d).length nc uc gu kA nA gs us (by omega) (by omega) hnma (by omega) (qBW (qBp (by omega) (by omega))) (qBW (qGX (by omega) (by omega))) (hw.mono (hF H (by simp))) hgl (hkr.mono (hF H (by simp))) (hks.mono (hF H (by simp))) hro hcs.ul (fun j => Nat.le_trans (hcs.u0 j) (by have := hcs.vl; omega)) hur (hTr.mono (hF H (by simp))) rfl (hnr.mono (hF H (by simp)))))) rfl (by simp) ?_
     rintro ⟨A1c, c1c, m1c, A2c, c2c, m2c, s3c, A3c, c3c, m3c, mrc, muc⟩ hvc
     try dsimp only at hvc
     change J _ ((128, .agg (vtW a d nm b us ⟨A1c, c1c, m1c, A2c, c2c, m2c, s3c, A3c, c3c, m3c, mrc, muc⟩).cells.toArray) :: _) _ [mrc, muc, _, _, _, _, _, _, _, _, _, _, _, _, m1c, m2c, m3c] _
     obtain ⟨vc, hvc_⟩ : ∃ v, v = vtW a d nm b us ⟨A1c, c1c, m1c, A2c, c2c, m2c, s3c, A3c, c3c, m3c, mrc, muc⟩ := ⟨_, rfl⟩
     rw [← hvc_]
     refine J.a7 rfl (qAH (l := [.tmp 128]) (xs := qDW [vc]) rfl rfl rfl rfl qQr el60 rfl (by decide) (by decide) (fun x hx => qEa hx)) rfl (by simp) ?_
     rintro g129 _
     change J _ ((129, .slice (some ⟨g129, 0, none⟩) 1 1) :: _) _ [_, _, _, _, _, _, _, _, _, _, _, _, _, _, _, _, _, blk g129 (qDW [vc]).flatten 60] _
     refine J.a7 rfl (qAb (i := 10) (xs := qDW vs) (m2 := blk g129 (qDW [vc]).flatten 60) (ys := qDW ([vc])) rfl rfl rfl qQr qQr el60 rfl hrt (by simp) ((qAr (q := True) (g := g129) (e := 60) (sz := 15) (xs := qDW [vc]) rfl (fun x hx => qEa hx)).sl) (qSQ _) (by first | omega | (simp only [List.length_append, List.length_cons, List.length_nil, List.length_take, List.length_drop] at *; omega)) (by first | omega | (simp only [List.length_append, List.length_cons, List.length_nil, List.length_take, List.length_drop] at *; omega))) rfl (by simp) ?_
     rintro ⟨A130, c130, m130⟩ h130
     try dsimp only at h130
     change J _ ((130, .slice A130 (nv + 1) c130) :: _) _ [_, _, _, _, _, _, _, _, _, _, m130, _, _, _, _, _, _, _] _
     rw [← qOh] at h130
     refine J.j rfl (qAA (j := 5) rfl rfl qLw rfl sizeOf43 rfl) rfl rfl <| J.c8 rfl (qAc (i := 8) (l := [N64 1, Str (pW a d).dig, I ((d : Nat) : Int), I ((a : Nat) : Int), .slice nA ((qAT (qAD a) d).length) nc, .slice At nv ct]) (vs := [.slice A130 (nv + 1) c130]) rfl rfl rfl rfl rfl sizeOf43 rfl (by simp)) rfl rfl rfl fun _ _ => ?_
     change J _ _ _ [_, _, _, _, _, _, _, _, blk g13 [N64 1, Str (pW a d).dig, I ((d : Nat) : Int), I ((a : Nat) : Int), .slice nA ((qAT (qAD a) d).length) nc, .slice A130 (nv + 1) c130] 45, _, _, _, _, _, _, _, _, _] _
     refine J.c5 [11, 14, 15, 16, 0, 1, 2, 3, 4, 5, 6, 7, 8, 9, 10, 12] [G, m1c, m2c, m3c, mrc, muc, F, H, wm, wG, blk g2 [B8 n0, B8 n1, B8 n2, B8 n3] 22, blk g8 [I ((sl : Nat) : Int), I ((nd : Nat) : Int)] 26, blk g13 [N64 1, Str (pW a d).dig, I ((d : Nat) : Int), I ((a : Nat) : Int), .slice nA ((qAT (qAD a) d).length) nc, .slice A130 (nv + 1) c130] 45, m119, m130, m84] rfl (by decide) <| J.d9 (fun hq1 => ?_)
     refine J.d9 (fun hq2 => ?_)
     refine J.d9 (fun hq3 => ?_)
     refine J.b4 <| J.a4 <| J.q (J.H hK23 ?_)
     refine J.d5 1 5 7 8 9 10 12 13 14 15 16 ?_
     exact J.E <| J.b rfl <| J.f ((qAO rfl rfl rfl (by first | omega | (simp only [List.length_append, List.length_cons, List.length_nil, List.length_take, List.length_drop] at *; omega))).nat (i + 1) (by omega)) rfl <| J.b rfl <| J.a2 <| J.q <| J.a6 (i + 1, (us.set nm (us.getD nm 0 + 1)), (vs ++ [vc]), nn + 1, nv + 1, A119, c119, A130, c130, mrc, muc, m119, m130, U [U [U [G, m1c], m2c], m3c]) (fun η (hη : _ ∧ sl - η.1 < sl - i) => hI2 η hη.1 hη.2) ⟨⟨by dsimp only; omega, hcs.add ha5 hd1 (by omega) (by omega) (by omega) (by omega) (((qHK hq1).trans (qHK hq2)).trans (qHK hq3)) (by rw [hvc_]; exact qJX (by omega) (by omega) hnma (by omega) hvc (((qLc hq1).trans (qHK hq2)).trans (qHK hq3)) ((qLc hq2).trans (qHK hq3)) (qLc hq3)) (by rw [hvc_]; exact qHc ha5 hd1 hnma hvc (qOy (by omega) (show i < sl by omega) (by rw [hwi1]; omega) hnw)) (by rw [hvc_]; rfl) (by rw [hvc_]; rfl) hnw, hvc.ro, hvc.ur, by dsimp only; rw [List.map_append, List.map_singleton, show vc.b = b by rw [hvc_]; rfl]; exact h119, h130⟩, by first | omega | (dsimp only; omega)⟩ ⟨rfl, rfl, rfl, rfl, rfl, rfl, rfl, rfl, rfl, rfl, rfl, trivial⟩ (fun _ h => h.pick [1, 2, 3, 4, 5, 6, 7, 8, 9, 10, 11, 0, 12] (by decide))
    refine J.b7 <| J.a4 <| J.q (J.H hK23 ?_)
    refine J.d5 1 5 7 8 9 10 12 13 14 15 16 ?_
    exact J.E <| J.b rfl <| J.f ((qAO rfl rfl rfl (by first | omega | (simp only [List.length_append, List.length_cons, List.length_nil, List.length_take, List.length_drop] at *; omega))).nat (i + 1) (by omega)) rfl <| J.b rfl <| J.a2 <| J.q <| J.a6 (i + 1, us, vs, nn, nv, An, cn, At, ct, mr, mu, mn, mt, G) (fun η (hη : _ ∧ sl - η.1 < sl - i) => hI2 η hη.1 hη.2) ⟨⟨by dsimp only; omega, hcs.skip, hro, hur, hrn, hrt⟩, by first | omega | (dsimp only; omega)⟩ ⟨rfl, rfl, rfl, rfl, rfl, rfl, rfl, rfl, rfl, rfl, rfl, trivial⟩ (fun _ h => h)
   refine J.p 9 rfl <| J.c hK26 <| J.e2 1 5 7 8 9 10 12 13 14 15 16 115 ?_
   refine J.b6 ?_
   refine J.b7 <| J.a4 <| J.q (J.H hK23 ?_)
   refine J.d5 1 5 7 8 9 10 12 13 14 15 16 ?_
   exact J.E <| J.b rfl <| J.f ((qAO rfl rfl rfl (by first | omega | (simp only [List.length_append, List.length_cons, List.length_nil, List.length_take, List.length_drop] at *; omega))).nat (i + 1) (by omega)) rfl <| J.b rfl <| J.a2 <| J.q <| J.a6 (i + 1, us, vs, nn, nv, An, cn, At, ct, mr, mu, mn, mt, G) (fun η (hη : _ ∧ sl - η.1 < sl - i) => hI2 η hη.1 hη.2) ⟨⟨by dsimp only; omega, hcs.skip, hro, hur, hrn, hrt⟩, by first | omega | (dsimp only; omega)⟩ ⟨rfl, rfl, rfl, rfl, rfl, rfl, rfl, rfl, rfl, rfl, rfl, trivial⟩ (fun _ h => h)
  refine J.b0 <| J.Z <| J.Z <| J.b1 ?_
  refine J.a4 <| J.q (J.H hK18 ?_)
  refine J.d8 1 5 7 8 9 10 12 13 14 ?_
  exact J.E <| J.b rfl <| J.f ((qAO rfl rfl rfl (by first | omega | (simp only [List.length_append, List.length_cons, List.length_nil, List.length_take, List.length_drop] at *; omega))).nat (b + 1) (by omega)) rfl <| J.b rfl <| J.a2 <| J.q <| J.a6 (b + 1, us, vs, nn, nv, An, cn, At, ct, mr, mu, mn, mt, G) (fun η (hη : _ ∧ 2 ^ d - η.1 < 2 ^ d - b) => hI0 η hη.1 hη.2) ⟨⟨by dsimp only; omega, CS.next (by have e : i = sl := (by omega); rw [e] at hcs; exact hcs) (by omega), hro, hur, hrn, hrt⟩, by first | omega | (dsimp only; omega)⟩ ⟨rfl, rfl, rfl, rfl, rfl, rfl, rfl, rfl, rfl, trivial⟩ (fun _ h => h.pick [0, 1, 2, 3, 4, 5, 6, 7, 8, 9, 10, 11] (by decide))
 refine J.b0 <| J.Z <| J.Z <| J.b1 ?_
 refine J.q (J.H hK14 ?_)
 refine J.a9 5 8 9 10 12 13 ?_
 refine J.k fun K28 hK28 => ?_
 have hnn : vs.length = nn := by have := hrn.1; simpa [qAu] using this
 have hnv : vs.length = nv := by have := hrt.1; simpa [qDW] using this
 have hvl := hcs.vl
 refine J.b5 [H, blk g8 [I ((sl : Nat) : Int), I ((nd : Nat) : Int)] 26, blk g13 [N64 1, Str (pW a d).dig, I ((d : Nat) : Int), I ((a : Nat) : Int), .slice nA ((qAT (qAD a) d).length) nc, .slice At nv ct] 45] [] (.y 0 (.y 1 (.y 2 (.y 3 (.y 4 (.y 5 (.y 6 (.e 7 (.y 8 .nil))))))))) Tryz.wide (by decide +kernel) (by simp) ?_
 refine J.j rfl (qAk 2 rfl rfl rfl isAgg45 sizeOf45 rfl) rfl rfl <| J.G ?_
 refine J.j rfl (qAE rfl rfl) rfl rfl <| J.j rfl (qAA (j := 3) rfl rfl qC3 rfl qB6 rfl) rfl rfl <| J.j rfl (qAh (vs := [N64 0, Str (qBw), I ((d : Nat) : Int), I ((a : Nat) : Int), .slice nA ((qAT (qAD a) d).length) nc]) rfl rfl qEH qB6 (m := H) (by simp) (hw.sub 3 5) rfl) rfl rfl <| J.G ?_
 refine J.j rfl (qAk 1 rfl rfl rfl isAgg26 qKa rfl) rfl rfl <| J.a7 rfl (qAB rfl rfl ent13 (Ct.use0 (fun F' hF => qCI F' (hK.mo hF) (pW a d) nA nc (qCS a (by omega)) (hnr.mono (hF H (by simp))) (nW a d) nA nc (qDE a (by omega) (qBW (qBp (by omega) (by omega)))) (hnr.mono (hF H (by simp))) (qBU _ _ _) d a sl nd (by omega) rfl (qBp (by omega) (by omega)) (by omega) (by omega) (by omega) (by omega) (qBR a d sl) (qDI (by omega) (by omega) (by omega) (by omega)) At nv ct vs (hrt.sl.mono (hF mt (by simp))) (by omega) (fun i hi => (hcs.ok i hi).mono (hF G (by simp)))))) rfl (by simp) fun g139 _ => J.c0 ?_
 refine J.b4 <| J.q (J.H hK28 ?_)
 refine J.W 8 10 12 17 ?_
 refine J.k fun K29 hK29 => ?_
 have hce := qJF (nd := nd) (qNS ha5 hd1) hcs.sn hcs.ck
 have hcv : decide (qFm (pW a d) (nW a d) (qBR a d sl) sl (2 ^ d) nd vs = 0) = decide (∀ x, x < 2 ^ d → nd ≤ ((vs.map VtD.b).filter fun y => decide (y = x)).length) := by
  rw [hce]
  refine decide_eq_decide.2 ?_
  simp only [qS7]
  split <;> rename_i h
  · exact ⟨fun _ => h, fun _ => rfl⟩
  · exact ⟨fun e => absurd e (by decide), fun e => absurd e h⟩
 refine J.E <| J.b rfl <| J.f (qAd rfl rfl rfl) rfl <| J.p 2 rfl <| J.f ((qAZ qOT rfl rfl).as (v' := I ((2 ^ d : Nat) : Int)) (by rw [hwl])) rfl <| J.a8 1 qOU z3_ rfl rfl rfl rfl rfl <| J.f (qAF 7 (v := I ((nd : Nat) : Int)) rfl rfl rfl b3_ rfl) rfl <| J.u (qAB rfl rfl ent14 (Ct.use0 (fun F' hF => qJD F' An nn cn (vs.map VtD.b) (hrn.sl.mono (hF mn (by simp))) (by omega) (2 ^ d) nd (by omega)))) rfl fun g147 _ => J.f ((qSK u4_ rfl rfl rfl).as (v' := .bool true) (by rw [hcv]; exact congrArg Value.bool (beq_self_eq_true _))) rfl <| J.p 2 rfl <| J.O (qAd rfl rfl rfl) rfl <| J.b rfl <| J.c3 (d := 152) rfl (fun h152 => ?_) (fun h152 => ?_)
 ·
  refine J.p 5 rfl <| J.c hK29 <| J.A 4 ?_
  exact J.D <| J.L hw0 rfl () rfl trivial [2] rfl (by decide)
 refine J.b rfl <| J.O ((qAd rfl rfl rfl).yes (by rw [hce] at h152 ⊢; split at h152 <;> rename_i hq; exact absurd rfl h152; rw [if_neg hq]; rfl)) rfl <| J.p 3 rfl <| J.c hK29 <| J.A 4 ?_
 exact J.D <| J.L hw0 rfl () rfl trivial [2] rfl (by decide)
theorem hs_of {H : Type} {enc : TypeId × Value → H} {P : Program} {W : World} {e : TypeId} {xs : List (List Value)} (he : P.underlying e = some (.int .u16)) (h : ∀ x ∈ xs, x.length = 1 ∧ ∃ fuel y, DataW.trod enc P W 0 (fun _ => true) true fuel e x = some y) : ∃ l : List Nat, xs = hsV l ∧ ∀ x ∈ l, x < 65536 :=
 qMm (f := fun b : Nat => [.int .u16 ((b : Nat) : Int)]) (Q := fun b => b < 65536) (xs := xs) fun x hx => by
  obtain ⟨h1, fuel, y, hy⟩ := h x hx
  match x, h1, hy with
  | [v], _, hy =>
   obtain ⟨b, rfl, hb⟩ := qTb he hy
   exact ⟨b, rfl, hb⟩
theorem qOz {m : Hp} {sz A n c xs} (h : Sl m sz A n c xs) : ∀ x ∈ xs, x.length = sz := fun x hx => by
 obtain ⟨i, hi⟩ := List.mem_iff_getElem?.1 hx
 exact (h.2.2 i x hi).1
end Go.Proofs.YtfldiegfenndjaaGreatDoor
