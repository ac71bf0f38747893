/- A part of the proof: contracts of functions of the program, each for every state of the heaps that it names. -/
import Derived.Test.YtlopnfgacopkbaaDoorXco
import Derived.Test.YtlopnfgacopkbaaDoorX8
set_option linter.unusedSimpArgs false
set_option linter.unusedVariables false
namespace Go.Proofs.YtlopnfgacopkbaaDoor
open Go Go.Fw
set_option maxRecDepth 100000
set_option maxHeartbeats 1000000
theorem ent12 : Enters Tryd.prog 12 := Enters.of Tryd.func12 rfl (by kernel_rfl)
theorem ent40 : Enters Tryd.prog 40 := Enters.of Tryd.func40 rfl (by kernel_rfl)
theorem ent41 : Enters Tryd.prog 41 := Enters.of Tryd.func41 rfl (by kernel_rfl)
theorem ent42 : Enters Tryd.prog 42 := Enters.of Tryd.func42 rfl (by kernel_rfl)
theorem ent43 : Enters Tryd.prog 43 := Enters.of Tryd.func43 rfl (by kernel_rfl)
theorem ent44 : Enters Tryd.prog 44 := Enters.of Tryd.func44 rfl (by kernel_rfl)

theorem Mk.lvl_16 (l : List (List UInt8)) (hs : ∀ s ∈ l, s.length = 16) : ∀ j, ∀ s ∈ Mk.lvl l j, s.length = 16
  | 0, s, h => hs s h
  | j + 1, s, h => by
    simp only [Mk.lvl, Mk.above, List.mem_map] at h
    obtain ⟨k, _, rfl⟩ := h
    exact Mk.node_length _ _
theorem Mk.path_16 (l : List (List UInt8)) (i h : Nat) (hs : ∀ s ∈ l, s.length = 16) (hl : l.length = 2 ^ h) (hi : i < 2 ^ h) : ∀ s ∈ Mk.path l i h, s.length = 16 := fun s hp => by
  unfold Mk.path at hp
  simp only [List.mem_map, List.mem_range] at hp
  obtain ⟨j, hj, rfl⟩ := hp
  refine Mk.lvl_16 l hs j _ (Mk.getS_mem ?_)
  rw [Mk.lvl_length l h hl j (by omega), show h - j = (h - 1 - j) + 1 by omega, Nat.pow_succ, Nat.mul_comm]
  refine Mk.xor_one _ _ ?_
  rw [Nat.div_lt_iff_lt_mul (Nat.two_pow_pos j), Nat.mul_assoc, ← Nat.pow_add, Nat.mul_comm, ← Nat.pow_succ, show (h - 1 - j + j).succ = h by omega]
  exact hi
theorem Xm.leaves_16 (seed : List UInt8) (k : Nat) : ∀ s ∈ Xm.leaves seed k, s.length = 16 := fun s hs => by
  simp only [Xm.leaves, List.mem_map] at hs
  obtain ⟨i, _, rfl⟩ := hs
  exact Xm.pub_length _ _
theorem Mk.root_16 (seed : List UInt8) (h : Nat) : (Xm.root seed h).length = 16 := by
  unfold Xm.root Mk.root
  exact Mk.lvl_16 _ (Xm.leaves_16 _ _) h _ (Mk.getS_mem (by rw [Mk.lvl_length _ h (Xm.leaves_length _ _) h (Nat.le_refl _), Nat.sub_self]; decide))
theorem Wo.signs_len (seed : List UInt8) (i : Nat) (d : List Nat) : (Wo.signs seed i d 35).length = 35 := by simp [Wo.signs]
/-- the signature of the law, as bytes -/
def xcB (sd : List UInt8) (h : Nat) : List UInt8 := sgB 0 (Wo.signs sd 0 (Wo.digs (Xm.digest (Wo.opn sd) 0 [120])) 35) (Mk.path (Xm.leaves sd (2 ^ h)) 0 h)
def xcU (sd : List UInt8) (h : Nat) (junk : List UInt8) (n1 : UInt8) : List UInt8 := (xcB sd h).take (n1.toNat * 3 % ((xcB sd h).length + 1)) ++ junk.take 700
theorem dp_short {s : List UInt8} (h : s.length < 33) : dpV s = .tuple #[.agg #[Str [], Str [], I 0], I 3] := (dpV_no (e := 3) (if_pos h) (by decide)).symm
theorem dp_seven {s : List UInt8} (h : s.length = 32) : dpV (s ++ [7]) = .tuple #[.agg #[Str [], Str [], I 0], I 4] := by
  refine (dpV_no (e := 4) ?_ (by decide)).symm
  unfold dpE
  rw [if_neg (by simp [h]), if_neg (by simp [h]), if_pos]
  rw [List.getD_eq_getElem?_getD, List.getElem?_append_right (by omega), h]
  decide

theorem xmssCodes_ok (F : Hp) (hK : Cells F ⟨0, 0, none⟩ (Sha.K.map W32)) (seed junk : List UInt8) (n0 n1 : UInt8) (hz : whyE (xcU (seed.take 20) (n0.toNat % 2) junk n1) = 0) :
    Ct Tryd.prog 8 [Str seed, Str junk, .agg #[B8 n0, B8 n1]] [F] (fun _ : Unit => .bool true) (fun _ => True) (fun _ => [F]) := by
  obtain ⟨sd, hsd⟩ : ∃ y, y = seed.take 20 := ⟨_, rfl⟩
  rw [← hsd] at hz
  have hsl : sd.length ≤ 20 := by rw [hsd, List.length_take]; omega
  obtain ⟨h, hh⟩ : ∃ h, h = n0.toNat % 2 := ⟨_, rfl⟩
  rw [← hh] at hz
  have hh2 : (h : Int) = (n0.toNat : Int) % 2 ^ 1 := by omega
  have h1 : h ≤ 1 := by omega
  have hn1 := n1.toNat_lt
  have hp0 := Nat.two_pow_pos h
  have hdl := Xm.digest_length (Wo.opn sd) 0 [120]
  have hcl : (Wo.signs sd 0 (Wo.digs (Xm.digest (Wo.opn sd) 0 [120])) 35).length = 35 := Wo.signs_len _ _ _
  have hpl : (Mk.path (Xm.leaves sd (2 ^ h)) 0 h).length = h := Mk.path_len _ _ _
  have hc16 : ∀ s ∈ (Wo.signs sd 0 (Wo.digs (Xm.digest (Wo.opn sd) 0 [120])) 35), s.length = 16 := Wo.signs_16 _ _ _ _
  have hp16 : ∀ s ∈ (Mk.path (Xm.leaves sd (2 ^ h)) 0 h), s.length = 16 := Mk.path_16 _ _ _ (Xm.leaves_16 _ _) (Xm.leaves_length _ _) hp0
  have hbl : (xcB sd h).length = 562 + 16 * h := by unfold xcB; rw [sgB_len hc16 hp16 hcl, hpl]
  obtain ⟨w1, w2, w3, w4, w5⟩ := why_sgB (i := 0) (by omega) hc16 hp16 hcl (by omega)
  rw [show sgB 0 (Wo.signs sd 0 (Wo.digs (Xm.digest (Wo.opn sd) 0 [120])) 35) (Mk.path (Xm.leaves sd (2 ^ h)) 0 h) = xcB sd h from rfl] at w1 w2 w3 w4 w5
  rw [hpl] at w3 w5
  obtain ⟨pe0, pe1⟩ := dp_enc (k := h) (by omega) (Wo.opn_length sd) (Mk.root_16 sd h)
  have hpe := pubEnc_len pe0
  obtain ⟨u, hu⟩ : ∃ u, u = xcU sd h junk n1 := ⟨_, rfl⟩
  rw [← hu] at hz
  obtain ⟨ct, hct⟩ : ∃ c, c = n1.toNat * 3 % ((xcB sd h).length + 1) := ⟨_, rfl⟩
  have hctl : ct < (xcB sd h).length + 1 := by rw [hct]; exact Nat.mod_lt _ (by omega)
  have hct2 : (ct : Int) = ((n1.toNat * 3 : Nat) : Int) % (((xcB sd h).length + 1 : Nat) : Int) := by rw [hct, Int.natCast_emod]
  have hul : u.length ≤ 2000 := by rw [hu]; unfold xcU; rw [List.length_append, List.length_take, List.length_take]; omega
  have hu2 : (xcB sd h).take ct ++ junk.take 700 = u := by rw [hu, hct]; rfl
  obtain ⟨z1, z2, z3, z4, z5, z6, z7⟩ := why_ok hz
  refine Ct.walk Tryd.func8 rfl Tryd.ntmps8 rfl (fun w0 => ?_)
  change J _ [(0, _), (1, _), (2, _)] _ _ _
  refine J.seq (fun K1 hK1 => ?_)
  refine J.region ?_
  refine J.e (op_box rfl rfl (l := [B8 n0, B8 n1]) rfl) rfl rfl rfl ?_
  intro g5 _
  change J _ _ _ [F, blk g5 [B8 n0, B8 n1] 78] _
  refine J.y (op_assign rfl rfl) rfl rfl rfl ?_
  refine J.nil ?_
  refine J.then_n (J.k hK1 ?_)
  refine J.keepE [(0, _), (1, _), (5, _)] ⟨rfl, rfl, rfl, trivial⟩ ?_
  refine J.seq (fun K2 hK2 => ?_)
  refine J.seq (fun K3 hK3 => ?_)
  refine J.region ?_
  refine J.e (op_call rfl rfl ent12 (Ct.use0 (fun F' hF => speaks08_ct F' (hK.mono (hF _ (by simp)))))) rfl rfl rfl ?_
  intro g33 _
  refine J.y ((op_not rfl rfl).as (v' := .bool false) rfl) rfl rfl rfl ?_
  refine J.nil ?_
  refine J.then_n (J.k hK3 ?_)
  refine J.keepE [(0, _), (1, _), (5, _), (34, _)] ⟨rfl, rfl, rfl, rfl, trivial⟩ ?_
  refine J.condF rfl rfl ?_
  refine J.skip ?_
  refine J.then_n (J.k hK2 ?_)
  refine J.keepE [(0, _), (1, _), (5, _)] ⟨rfl, rfl, rfl, trivial⟩ ?_
  refine J.seq (fun K4 hK4 => ?_)
  refine J.draw [F, blk g5 [B8 n0, B8 n1] 78] [] (.y 0 (.y 1 (.y 2 (.y 3 (.y 4 (.y 5 (.y 6 (.y 7 (.y 8 (.e 9 (.y 10 (.y 11 (.y 12 (.y 13 (.y 14 .nil))))))))))))))) Tryd.wide (by decide +kernel) (by simp) ?_
  refine J.dy rfl (op_move rfl rfl) rfl rfl rfl rfl ?_
  refine J.dy rfl (op_move rfl rfl) rfl rfl rfl rfl ?_
  refine J.dy rfl (op_slen Tryd.underlying9 rfl rfl) rfl rfl rfl rfl ?_
  refine J.dy rfl ((op_min rfl rfl rfl).as (v' := I ((min seed.length 20 : Nat) : Int)) (congrArg I (by omega))) rfl rfl rfl rfl ?_
  refine J.dy rfl ((op_sslice (l := 0) (h := min seed.length 20) Tryd.underlying9 rfl rfl rfl rfl ⟨by omega, by omega⟩).as (congrArg Str ((Sha.take_min _ _).trans hsd.symm))) rfl rfl rfl rfl ?_
  refine J.dy rfl (op_indexAddrJ (i := 0) (j := 0) rfl rfl rfl Tryd.underlying78 Tryd.sizeOf5 (by decide) (by decide)) rfl rfl rfl rfl ?_
  refine J.dy rfl (op_loadB 1 rfl rfl rfl Tryd.isAgg5 rfl) rfl rfl rfl rfl ?_
  refine J.dy rfl (op_cv_u8_i64 rfl rfl Tryd.underlying5 Tryd.underlying3) rfl rfl rfl rfl ?_
  refine J.dy rfl ((op_maskI 1 rfl rfl rfl (by decide) (by decide)).as (v' := I h) (congrArg I hh2.symm)) rfl rfl rfl rfl ?_
  refine J.de rfl (op_call rfl rfl ent13 (Ct.use (fun F' hF => (xnew_ct F' (hK.mono (hF _ (by simp))) sd h (by omega) (by omega)).mono (φ2 := fun x : Nat × Hp => Keyed x.2 x.1 sd h) (val2 := fun x : Nat × Hp => .tuple #[Ptr x.1, I 0]) (ms2 := fun x : Nat × Hp => F' :: [x.2]) id (fun _ _ => rfl) (fun _ h => h) (fun x w0 w _ h => h.pick [1, 0] (by decide))))) rfl rfl rfl (by simp) ?_
  rintro ⟨gk, mk⟩ hk6
  try dsimp only at hk6
  change J _ ((45, .tuple #[Ptr gk, I 0]) :: _) _ [F, blk g5 [B8 n0, B8 n1] 78, mk] _
  obtain ⟨AK, cK, hcK, hsK⟩ := hk6.see
  refine J.dy rfl (op_move rfl rfl) rfl rfl rfl rfl ?_
  refine J.dy rfl (op_extract (v := Ptr gk) rfl rfl rfl) rfl rfl rfl rfl ?_
  refine J.dy rfl (op_extract (v := I 0) rfl rfl rfl) rfl rfl rfl rfl ?_
  refine J.dy rfl (op_assign rfl rfl) rfl rfl rfl rfl ?_
  refine J.dy rfl (op_assign rfl rfl) rfl rfl rfl rfl ?_
  refine J.dnil ?_
  refine J.then_n (J.k hK4 ?_)
  refine J.keepE [(1, _), (5, _), (7, _)] ⟨rfl, rfl, rfl, trivial⟩ ?_
  refine J.seq (fun K5 hK5 => ?_)
  refine J.region ?_
  refine J.y (op_move rfl rfl) rfl rfl rfl ?_
  refine J.e (op_call rfl rfl ent15 (Ct.use (fun F' hF => xsign_ct F' (hK.mono (hF _ (by simp))) gk sd h AK cK (hcK.mono (hF mk (by simp))) (hsK.mono (hF mk (by simp))) (by omega) (by omega) [120] (by decide) 0 hp0))) rfl rfl rfl ?_
  rintro ⟨⟨A1, c1, m1⟩, ⟨A2, c2, m2⟩⟩ ⟨h1r, h2r⟩
  change J _ ((50, .tuple #[.agg #[I 0, .slice A1 35 c1, .slice A2 h c2], I 0]) :: _) _ [F, blk g5 [B8 n0, B8 n1] 78, mk, m1, m2] _
  dsimp only at h1r h2r
  refine J.y (op_move rfl rfl) rfl rfl rfl ?_
  refine J.y (op_extract (v := .agg #[I 0, .slice A1 35 c1, .slice A2 h c2]) rfl rfl rfl) rfl rfl rfl ?_
  refine J.y (op_extract (v := I 0) rfl rfl rfl) rfl rfl rfl ?_
  refine J.e (op_alloc rfl Tryd.zeroValue32 rfl) rfl rfl rfl ?_
  intro g9 _
  change J _ _ _ [F, blk g5 [B8 n0, B8 n1] 78, mk, m1, m2, blk g9 _ 32] _
  refine J.s (op_storeAll (l := [I 0, .slice none 0 0, .slice none 0 0]) (i := 5) (vs := [I 0, .slice A1 35 c1, .slice A2 h c2]) rfl rfl rfl rfl rfl Tryd.sizeOf32 rfl rfl) rfl rfl (fun _ _ => ?_)
  change J _ _ _ [F, blk g5 [B8 n0, B8 n1] 78, mk, m1, m2, blk g9 [I 0, .slice A1 35 c1, .slice A2 h c2] 32] _
  refine J.y (op_assign rfl rfl) rfl rfl rfl ?_
  refine J.nil ?_
  refine J.then_n (J.k hK5 ?_)
  refine J.keepE [(1, _), (5, _), (7, _), (9, _)] ⟨rfl, rfl, rfl, rfl, trivial⟩ ?_
  refine J.seq (fun K6 hK6 => ?_)
  refine J.region ?_
  refine J.y (op_loadBA 5 rfl rfl rfl Tryd.isAgg32 Tryd.sizeOf32 rfl) rfl rfl rfl ?_
  refine J.e (op_call rfl rfl ent40 (Ct.use0 (fun F' hF => sencode_ct F' 0 A1 c1 (Wo.signs sd 0 (Wo.digs (Xm.digest (Wo.opn sd) 0 [120])) 35) (h1r.sl.mono (hF m1 (by simp))) A2 h c2 (Mk.path (Xm.leaves sd (2 ^ h)) 0 h) (h2r.sl.mono (hF m2 (by simp))) (by omega) (by omega) hc16 hp16))) rfl rfl rfl ?_
  intro g55 _
  refine J.y (op_move rfl rfl) rfl rfl rfl ?_
  refine J.y (op_extract (v := Str (xcB sd h)) rfl rfl rfl) rfl rfl rfl ?_
  refine J.y (op_extract (v := I 0) rfl rfl rfl) rfl rfl rfl ?_
  refine J.y (op_assign rfl rfl) rfl rfl rfl ?_
  refine J.y (op_assign rfl rfl) rfl rfl rfl ?_
  refine J.nil ?_
  refine J.then_n (J.k hK6 ?_)
  refine J.keepE [(1, _), (5, _), (7, _), (11, _), (12, _)] ⟨rfl, rfl, rfl, rfl, rfl, trivial⟩ ?_
  refine J.seq (fun K7 hK7 => ?_)
  refine J.region ?_
  refine J.y (op_move rfl rfl) rfl rfl rfl ?_
  refine J.e (op_call rfl rfl ent41 (Ct.use (fun F' hF => sdecode_ct F' (xcB sd h)))) rfl rfl rfl ?_
  rintro ⟨⟨A3, c3, m3⟩, ⟨A4, c4, m4⟩⟩ ⟨h3r, h4r⟩
  change J _ ((60, .tuple #[if whyE (xcB sd h) = 0 then .agg #[I (natB ((⟨(xcB sd h), 0⟩ : RS).out 1)), .slice A3 35 c3, .slice A4 (dN (xcB sd h)) c4] else .agg #[I 0, .slice none 0 0, .slice none 0 0], I (whyE (xcB sd h))]) :: _) _ [F, blk g5 [B8 n0, B8 n1] 78, mk, m1, m2, blk g9 [I 0, .slice A1 35 c1, .slice A2 h c2] 32, m3, m4] _
  dsimp only at h3r h4r
  rw [w4] at h3r
  rw [w3, Nat.min_eq_left (by omega), w5] at h4r
  rw [w1, if_pos rfl, w2, w3]
  refine J.y (op_move rfl rfl) rfl rfl rfl ?_
  refine J.y (op_extract (v := .agg #[I 0, .slice A3 35 c3, .slice A4 h c4]) rfl rfl rfl) rfl rfl rfl ?_
  refine J.y (op_extract (v := I 0) rfl rfl rfl) rfl rfl rfl ?_
  refine J.e (op_alloc rfl Tryd.zeroValue32 rfl) rfl rfl rfl ?_
  intro g13 _
  change J _ _ _ [F, blk g5 [B8 n0, B8 n1] 78, mk, m1, m2, blk g9 [I 0, .slice A1 35 c1, .slice A2 h c2] 32, m3, m4, blk g13 _ 32] _
  refine J.s (op_storeAll (l := [I 0, .slice none 0 0, .slice none 0 0]) (i := 8) (vs := [I 0, .slice A3 35 c3, .slice A4 h c4]) rfl rfl rfl rfl rfl Tryd.sizeOf32 rfl rfl) rfl rfl (fun _ _ => ?_)
  change J _ _ _ [F, blk g5 [B8 n0, B8 n1] 78, mk, m1, m2, blk g9 [I 0, .slice A1 35 c1, .slice A2 h c2] 32, m3, m4, blk g13 [I 0, .slice A3 35 c3, .slice A4 h c4] 32] _
  refine J.y (op_assign rfl rfl) rfl rfl rfl ?_
  refine J.nil ?_
  refine J.then_n (J.k hK7 ?_)
  refine J.keepE [(1, _), (5, _), (7, _), (11, _), (12, _), (13, _), (14, _)] ⟨rfl, rfl, rfl, rfl, rfl, rfl, rfl, trivial⟩ ?_
  refine J.seq (fun K8 hK8 => ?_)
  refine J.region ?_
  refine J.y (op_move rfl rfl) rfl rfl rfl ?_
  refine J.e (op_call rfl rfl ent16 (Ct.use0 (fun F' hF => xpublic_ct F' gk sd (Wo.opn sd) (Xm.root sd h) h AK (2 ^ h) cK (hcK.mono (hF mk (by simp)))))) rfl rfl rfl ?_
  intro g65 _
  refine J.e (op_call rfl rfl ent42 (Ct.use0 (fun F' hF => pencode_ct F' (Wo.opn sd) (Xm.root sd h) h (by rw [Wo.opn_length]; decide) (by rw [Mk.root_16]; decide)))) rfl rfl rfl ?_
  intro g66 _
  refine J.y (op_move rfl rfl) rfl rfl rfl ?_
  refine J.y (op_extract (v := Str (pubEnc (Wo.opn sd) (Xm.root sd h) h)) rfl rfl rfl) rfl rfl rfl ?_
  refine J.y ((op_extract (v := I (pubErr (Wo.opn sd) (Xm.root sd h) h)) rfl rfl rfl).as (v' := I 0) (congrArg I pe0)) rfl rfl rfl ?_
  refine J.y (op_assign rfl rfl) rfl rfl rfl ?_
  refine J.y (op_assign rfl rfl) rfl rfl rfl ?_
  refine J.nil ?_
  refine J.then_n (J.k hK8 ?_)
  refine J.keepE [(1, _), (5, _), (7, _), (11, _), (12, _), (13, _), (14, _), (15, _), (16, _)] ⟨rfl, rfl, rfl, rfl, rfl, rfl, rfl, rfl, rfl, trivial⟩ ?_
  refine J.seq (fun K9 hK9 => ?_)
  refine J.region ?_
  refine J.y (op_move rfl rfl) rfl rfl rfl ?_
  refine J.e (op_call rfl rfl ent43 (Ct.use0 (fun F' hF => (pdecode_ct F' (pubEnc (Wo.opn sd) (Xm.root sd h) h)).mono (φ2 := fun _ => True) (val2 := fun _ : Unit => .tuple #[.agg #[Str (Wo.opn sd), Str (Xm.root sd h), I h], I 0]) id (fun _ _ => pe1) (fun _ _ => trivial) (fun _ _ _ _ h => h)))) rfl rfl rfl ?_
  intro g71 _
  refine J.y (op_move rfl rfl) rfl rfl rfl ?_
  refine J.y (op_extract (v := .agg #[Str (Wo.opn sd), Str (Xm.root sd h), I h]) rfl rfl rfl) rfl rfl rfl ?_
  refine J.y (op_extract (v := I 0) rfl rfl rfl) rfl rfl rfl ?_
  refine J.e (op_alloc rfl Tryd.zeroValue36 rfl) rfl rfl rfl ?_
  intro g17 _
  change J _ _ _ [F, blk g5 [B8 n0, B8 n1] 78, mk, m1, m2, blk g9 [I 0, .slice A1 35 c1, .slice A2 h c2] 32, m3, m4, blk g13 [I 0, .slice A3 35 c3, .slice A4 h c4] 32, blk g17 _ 36] _
  refine J.s (op_storeAll (l := [Str [], Str [], I 0]) (i := 9) (vs := [Str (Wo.opn sd), Str (Xm.root sd h), I h]) rfl rfl rfl rfl rfl Tryd.sizeOf36 rfl rfl) rfl rfl (fun _ _ => ?_)
  change J _ _ _ [F, blk g5 [B8 n0, B8 n1] 78, mk, m1, m2, blk g9 [I 0, .slice A1 35 c1, .slice A2 h c2] 32, m3, m4, blk g13 [I 0, .slice A3 35 c3, .slice A4 h c4] 32, blk g17 [Str (Wo.opn sd), Str (Xm.root sd h), I h] 36] _
  refine J.y (op_assign rfl rfl) rfl rfl rfl ?_
  refine J.nil ?_
  refine J.then_n (J.k hK9 ?_)
  refine J.keepE [(1, _), (5, _), (7, _), (11, _), (12, _), (13, _), (14, _), (15, _), (16, _), (17, _), (18, _)] ⟨rfl, rfl, rfl, rfl, rfl, rfl, rfl, rfl, rfl, rfl, rfl, trivial⟩ ?_
  refine J.seq (fun K10 hK10 => ?_)
  refine J.seq (fun K11 hK11 => ?_)
  refine J.draw [F, blk g5 [B8 n0, B8 n1] 78, mk, m1, m2, blk g9 [I 0, .slice A1 35 c1, .slice A2 h c2] 32, m3, m4, blk g13 [I 0, .slice A3 35 c3, .slice A4 h c4] 32, blk g17 [Str (Wo.opn sd), Str (Xm.root sd h), I h] 36] [] (.y 0 (.y 1 (.y 2 (.y 3 (.y 4 (.y 5 (.y 6 (.y 7 (.y 8 (.y 9 (.y 10 (.y 11 (.y 12 (.y 13 (.y 14 (.y 15 (.y 16 (.e 17 (.y 18 (.y 19 (.y 20 (.y 21 (.y 22 (.e 23 (.y 24 (.y 25 (.y 26 (.y 27 (.y 28 (.y 29 (.y 30 (.y 31 (.y 32 (.y 33 (.y 34 (.y 35 (.y 36 (.y 37 (.y 38 (.y 39 (.y 40 (.y 41 .nil)))))))))))))))))))))))))))))))))))))))))) Tryd.wide (by decide +kernel) (by simp) ?_
  refine J.dy rfl (op_move rfl rfl) rfl rfl rfl rfl ?_
  refine J.dy rfl ((op_neq rfl rfl rfl).as (v' := .bool false) (congrArg Value.bool (decide_eq_false (by decide)))) rfl rfl rfl rfl ?_
  refine J.dy rfl (op_move rfl rfl) rfl rfl rfl rfl ?_
  refine J.dyg rfl (op_move rfl rfl) (Wan.is rfl rfl rfl rfl rfl) rfl rfl rfl ?_
  refine J.dyg rfl ((op_neq rfl rfl rfl).as (v' := .bool false) (congrArg Value.bool (decide_eq_false (by decide)))) (Wan.is rfl rfl rfl rfl rfl) rfl rfl rfl ?_
  refine J.dy rfl (op_pickF rfl rfl rfl) rfl rfl rfl rfl ?_
  refine J.dy rfl (op_move rfl rfl) rfl rfl rfl rfl ?_
  refine J.dyg rfl (op_move rfl rfl) (Wan.is rfl rfl rfl rfl rfl) rfl rfl rfl ?_
  refine J.dyg rfl ((op_neq rfl rfl rfl).as (v' := .bool false) (congrArg Value.bool (decide_eq_false (by decide)))) (Wan.is rfl rfl rfl rfl rfl) rfl rfl rfl ?_
  refine J.dy rfl (op_pickF rfl rfl rfl) rfl rfl rfl rfl ?_
  refine J.dy rfl (op_move rfl rfl) rfl rfl rfl rfl ?_
  refine J.dyg rfl (op_move rfl rfl) (Wan.is rfl rfl rfl rfl rfl) rfl rfl rfl ?_
  refine J.dyg rfl ((op_neq rfl rfl rfl).as (v' := .bool false) (congrArg Value.bool (decide_eq_false (by decide)))) (Wan.is rfl rfl rfl rfl rfl) rfl rfl rfl ?_
  refine J.dy rfl (op_pickF rfl rfl rfl) rfl rfl rfl rfl ?_
  refine J.dy rfl (op_move rfl rfl) rfl rfl rfl rfl ?_
  refine J.dyg rfl (op_loadBA 9 rfl rfl rfl Tryd.isAgg36 Tryd.sizeOf36 rfl) (Wan.is rfl rfl rfl rfl rfl) rfl rfl rfl ?_
  refine J.dyg rfl (op_move rfl rfl) (Wan.is rfl rfl rfl rfl rfl) rfl rfl rfl ?_
  refine J.deg rfl (op_call rfl rfl ent16 (Ct.use0 (fun F' hF => xpublic_ct F' gk sd (Wo.opn sd) (Xm.root sd h) h AK (2 ^ h) cK (hcK.mono (hF mk (by simp)))))) (Wan.is rfl rfl rfl rfl rfl) rfl rfl (by simp) ?_
  intro g91 _
  refine J.dyg rfl ((op_neS rfl rfl rfl (by kernel_rfl) (eqPub 9998 (Wo.opn sd) (Xm.root sd h) (Wo.opn sd) (Xm.root sd h) h h)).as (v' := .bool false) (by rw [decide_eq_true ⟨rfl, rfl, rfl⟩]; rfl)) (Wan.is rfl rfl rfl rfl rfl) rfl rfl rfl ?_
  refine J.dy rfl (op_pickF rfl rfl rfl) rfl rfl rfl rfl ?_
  refine J.dy rfl (op_move rfl rfl) rfl rfl rfl rfl ?_
  refine J.dyg rfl (op_loadBA 9 rfl rfl rfl Tryd.isAgg36 Tryd.sizeOf36 rfl) (Wan.is rfl rfl rfl rfl rfl) rfl rfl rfl ?_
  refine J.dyg rfl (op_loadBA 8 rfl rfl rfl Tryd.isAgg32 Tryd.sizeOf32 rfl) (Wan.is rfl rfl rfl rfl rfl) rfl rfl rfl ?_
  refine J.deg rfl (op_call rfl rfl ent18 (Ct.use0 (fun F' hF => xverify_ct F' (hK.mono (hF _ (by simp))) (Wo.opn sd) (Xm.root sd h) h [120] 0 A3 c3 (Wo.signs sd 0 (Wo.digs (Xm.digest (Wo.opn sd) 0 [120])) 35) (h3r.sl.mono (hF m3 (by simp))) hc16 A4 c4 (Mk.path (Xm.leaves sd (2 ^ h)) 0 h) (h4r.sl.mono (hF m4 (by simp))) (Mk.path_small2 _ _ _) (by rw [Wo.opn_length]; decide) (by decide) (by omega) hp0))) (Wan.is rfl rfl rfl rfl rfl) rfl rfl (by simp) ?_
  intro g97 _
  refine J.dyg rfl ((op_not rfl rfl).as (v' := .bool false) (by rw [Wo.recPub sd 0 (Xm.digest (Wo.opn sd) 0 [120]) (by omega), decide_eq_true (Mk.climb_root2 sd h 0 hp0)]; rfl)) (Wan.is rfl rfl rfl rfl rfl) rfl rfl rfl ?_
  refine J.dy rfl (op_pickF rfl rfl rfl) rfl rfl rfl rfl ?_
  refine J.dy rfl (op_move rfl rfl) rfl rfl rfl rfl ?_
  refine J.dyg rfl (op_move rfl rfl) (Wan.is rfl rfl rfl rfl rfl) rfl rfl rfl ?_
  refine J.dyg rfl (op_slen Tryd.underlying9 rfl rfl) (Wan.is rfl rfl rfl rfl rfl) rfl rfl rfl ?_
  refine J.dyg rfl ((op_neq rfl rfl rfl).as (v' := .bool false) (congrArg Value.bool (decide_eq_false (by omega)))) (Wan.is rfl rfl rfl rfl rfl) rfl rfl rfl ?_
  refine J.dy rfl (op_pickF rfl rfl rfl) rfl rfl rfl rfl ?_
  refine J.dy rfl (op_move rfl rfl) rfl rfl rfl rfl ?_
  refine J.dyg rfl (op_move rfl rfl) (Wan.is rfl rfl rfl rfl rfl) rfl rfl rfl ?_
  refine J.dyg rfl (op_slen Tryd.underlying9 rfl rfl) (Wan.is rfl rfl rfl rfl rfl) rfl rfl rfl ?_
  refine J.dyg rfl (op_indexAddrJ (i := 0) (j := 0) rfl rfl rfl Tryd.underlying78 Tryd.sizeOf5 (by decide) (by decide)) (Wan.is rfl rfl rfl rfl rfl) rfl rfl rfl ?_
  refine J.dyg rfl (op_loadB 1 rfl rfl rfl Tryd.isAgg5 rfl) (Wan.is rfl rfl rfl rfl rfl) rfl rfl rfl ?_
  refine J.dyg rfl (op_cv_u8_i64 rfl rfl Tryd.underlying5 Tryd.underlying3) (Wan.is rfl rfl rfl rfl rfl) rfl rfl rfl ?_
  refine J.dyg rfl ((op_maskI 1 rfl rfl rfl (by decide) (by decide)).as (v' := I h) (congrArg I hh2.symm)) (Wan.is rfl rfl rfl rfl rfl) rfl rfl rfl ?_
  refine J.dyg rfl ((op_mul rfl rfl rfl (by first | omega | (refine ⟨?_, ?_⟩ <;> omega))).as (v' := I ((16 * h : Nat) : Int)) (congrArg I (by omega))) (Wan.is rfl rfl rfl rfl rfl) rfl rfl rfl ?_
  refine J.dyg rfl ((op_add rfl rfl rfl (by first | omega | (refine ⟨?_, ?_⟩ <;> omega))).as (v' := I ((562 + 16 * h : Nat) : Int)) (congrArg I (by omega))) (Wan.is rfl rfl rfl rfl rfl) rfl rfl rfl ?_
  refine J.dyg rfl ((op_neq rfl rfl rfl).as (v' := .bool false) (congrArg Value.bool (decide_eq_false (by omega)))) (Wan.is rfl rfl rfl rfl rfl) rfl rfl rfl ?_
  refine J.dy rfl (op_pickF rfl rfl rfl) rfl rfl rfl rfl ?_
  refine J.dnil ?_
  refine J.then_n (J.k hK11 ?_)
  refine J.keepE [(1, _), (5, _), (11, _), (15, _), (115, _)] ⟨rfl, rfl, rfl, rfl, rfl, trivial⟩ ?_
  refine J.condF rfl rfl ?_
  refine J.skip ?_
  refine J.then_n (J.k hK10 ?_)
  refine J.keepE [(1, _), (5, _), (11, _), (15, _)] ⟨rfl, rfl, rfl, rfl, trivial⟩ ?_
  refine J.seq (fun K12 hK12 => ?_)
  refine J.region ?_
  refine J.y (op_indexAddrJ (i := 1) (j := 1) rfl rfl rfl Tryd.underlying78 Tryd.sizeOf5 (by decide) (by decide)) rfl rfl rfl ?_
  refine J.y (op_loadB 1 rfl rfl rfl Tryd.isAgg5 rfl) rfl rfl rfl ?_
  refine J.y (op_cv_u8_i64 rfl rfl Tryd.underlying5 Tryd.underlying3) rfl rfl rfl ?_
  refine J.y ((op_mul rfl rfl rfl (by first | omega | (refine ⟨?_, ?_⟩ <;> omega))).as (v' := I ((n1.toNat * 3 : Nat) : Int)) (congrArg I (by omega))) rfl rfl rfl ?_
  refine J.y (op_move rfl rfl) rfl rfl rfl ?_
  refine J.y (op_slen Tryd.underlying9 rfl rfl) rfl rfl rfl ?_
  refine J.y ((op_add rfl rfl rfl (by first | omega | (refine ⟨?_, ?_⟩ <;> omega))).as (v' := I (((xcB sd h).length + 1 : Nat) : Int)) (congrArg I (by omega))) rfl rfl rfl ?_
  refine J.y ((op_rem rfl rfl rfl (by omega)).as (v' := I (ct : Int)) (congrArg I (by omega))) rfl rfl rfl ?_
  refine J.y (op_assign rfl rfl) rfl rfl rfl ?_
  refine J.nil ?_
  refine J.then_n (J.k hK12 ?_)
  refine J.keepE [(1, _), (11, _), (15, _), (19, _)] ⟨rfl, rfl, rfl, rfl, trivial⟩ ?_
  refine J.seq (fun K13 hK13 => ?_)
  refine J.draw [F, blk g5 [B8 n0, B8 n1] 78, mk, m1, m2, blk g9 [I 0, .slice A1 35 c1, .slice A2 h c2] 32, m3, m4, blk g13 [I 0, .slice A3 35 c3, .slice A4 h c4] 32, blk g17 [Str (Wo.opn sd), Str (Xm.root sd h), I h] 36] [] (.y 0 (.y 1 (.y 2 (.y 3 (.y 4 (.y 5 (.y 6 (.y 7 (.y 8 (.y 9 .nil)))))))))) Tryd.wide (by decide +kernel) (by simp) ?_
  refine J.dy rfl (op_move rfl rfl) rfl rfl rfl rfl ?_
  refine J.dy rfl (op_move rfl rfl) rfl rfl rfl rfl ?_
  refine J.dy rfl ((op_sslice (l := 0) (h := ct) Tryd.underlying9 rfl rfl rfl rfl ⟨by omega, by omega⟩).as (congrArg Str List.drop_zero)) rfl rfl rfl rfl ?_
  refine J.dy rfl (op_move rfl rfl) rfl rfl rfl rfl ?_
  refine J.dy rfl (op_move rfl rfl) rfl rfl rfl rfl ?_
  refine J.dy rfl (op_slen Tryd.underlying9 rfl rfl) rfl rfl rfl rfl ?_
  refine J.dy rfl ((op_min rfl rfl rfl).as (v' := I ((min junk.length 700 : Nat) : Int)) (congrArg I (by omega))) rfl rfl rfl rfl ?_
  refine J.dy rfl ((op_sslice (l := 0) (h := min junk.length 700) Tryd.underlying9 rfl rfl rfl rfl ⟨by omega, by omega⟩).as (congrArg Str (Sha.take_min _ _))) rfl rfl rfl rfl ?_
  refine J.dy rfl ((op_sadd rfl rfl rfl (by rw [List.length_take, List.length_take]; omega)).as (v' := Str u) (congrArg Str hu2)) rfl rfl rfl rfl ?_
  refine J.dy rfl (op_assign rfl rfl) rfl rfl rfl rfl ?_
  refine J.dnil ?_
  refine J.then_n (J.k hK13 ?_)
  refine J.keepE [(1, _), (15, _)] ⟨rfl, rfl, trivial⟩ ?_
  refine J.seq (fun K14 hK14 => ?_)
  refine J.region ?_
  refine J.y (op_move rfl rfl) rfl rfl rfl ?_
  refine J.e (op_call rfl rfl ent41 (Ct.use (fun F' hF => sdecode_ct F' u))) rfl rfl rfl ?_
  rintro ⟨⟨A5, c5, m5⟩, ⟨A6, c6, m6⟩⟩ ⟨h5r, h6r⟩
  change J _ ((135, .tuple #[if whyE u = 0 then .agg #[I (natB ((⟨u, 0⟩ : RS).out 1)), .slice A5 35 c5, .slice A6 (dN u) c6] else .agg #[I 0, .slice none 0 0, .slice none 0 0], I (whyE u)]) :: _) _ [F, blk g5 [B8 n0, B8 n1] 78, mk, m1, m2, blk g9 [I 0, .slice A1 35 c1, .slice A2 h c2] 32, m3, m4, blk g13 [I 0, .slice A3 35 c3, .slice A4 h c4] 32, blk g17 [Str (Wo.opn sd), Str (Xm.root sd h), I h] 36, m5, m6] _
  dsimp only at h5r h6r
  rw [z6] at h5r
  rw [z4, Nat.min_eq_left z1, z7] at h6r
  rw [hz, if_pos rfl, z5, z4]
  refine J.y (op_move rfl rfl) rfl rfl rfl ?_
  refine J.y (op_extract (v := .agg #[I (u.getD 0 0).toNat, .slice A5 35 c5, .slice A6 (u.getD 561 0).toNat c6]) rfl rfl rfl) rfl rfl rfl ?_
  refine J.y (op_extract (v := I 0) rfl rfl rfl) rfl rfl rfl ?_
  refine J.e (op_alloc rfl Tryd.zeroValue32 rfl) rfl rfl rfl ?_
  intro g20 _
  change J _ _ _ [F, blk g5 [B8 n0, B8 n1] 78, mk, m1, m2, blk g9 [I 0, .slice A1 35 c1, .slice A2 h c2] 32, m3, m4, blk g13 [I 0, .slice A3 35 c3, .slice A4 h c4] 32, blk g17 [Str (Wo.opn sd), Str (Xm.root sd h), I h] 36, m5, m6, blk g20 _ 32] _
  refine J.s (op_storeAll (l := [I 0, .slice none 0 0, .slice none 0 0]) (i := 12) (vs := [I (u.getD 0 0).toNat, .slice A5 35 c5, .slice A6 (u.getD 561 0).toNat c6]) rfl rfl rfl rfl rfl Tryd.sizeOf32 rfl rfl) rfl rfl (fun _ _ => ?_)
  change J _ _ _ [F, blk g5 [B8 n0, B8 n1] 78, mk, m1, m2, blk g9 [I 0, .slice A1 35 c1, .slice A2 h c2] 32, m3, m4, blk g13 [I 0, .slice A3 35 c3, .slice A4 h c4] 32, blk g17 [Str (Wo.opn sd), Str (Xm.root sd h), I h] 36, m5, m6, blk g20 [I (u.getD 0 0).toNat, .slice A5 35 c5, .slice A6 (u.getD 561 0).toNat c6] 32] _
  refine J.y (op_assign rfl rfl) rfl rfl rfl ?_
  refine J.nil ?_
  refine J.then_n (J.k hK14 ?_)
  refine J.keepE [(1, _), (15, _), (20, _), (21, _)] ⟨rfl, rfl, rfl, rfl, trivial⟩ ?_
  refine J.seq (fun K15 hK15 => ?_)
  refine J.seq (fun K16 hK16 => ?_)
  refine J.region ?_
  refine J.y (op_move rfl rfl) rfl rfl rfl ?_
  refine J.y (op_move rfl rfl) rfl rfl rfl ?_
  refine J.e (op_call rfl rfl ent44 (Ct.use0 (fun F' hF => why_ct F' u (by omega)))) rfl rfl rfl ?_
  intro g140 _
  refine J.y ((op_neq rfl rfl rfl).as (v' := .bool false) (congrArg Value.bool (decide_eq_false (by rw [hz]; decide)))) rfl rfl rfl ?_
  refine J.nil ?_
  refine J.then_n (J.k hK16 ?_)
  refine J.keepE [(1, _), (15, _), (20, _), (21, _), (141, _)] ⟨rfl, rfl, rfl, rfl, rfl, trivial⟩ ?_
  refine J.condF rfl rfl ?_
  refine J.skip ?_
  refine J.then_n (J.k hK15 ?_)
  refine J.keepE [(1, _), (15, _), (20, _), (21, _)] ⟨rfl, rfl, rfl, rfl, trivial⟩ ?_
  refine J.seq (fun K17 hK17 => ?_)
  refine J.seq (fun K18 hK18 => ?_)
  refine J.region ?_
  refine J.y (op_move rfl rfl) rfl rfl rfl ?_
  refine J.y ((op_eql rfl rfl rfl).as (v' := .bool true) (congrArg Value.bool (decide_eq_true (rfl)))) rfl rfl rfl ?_
  refine J.nil ?_
  refine J.then_n (J.k hK18 ?_)
  refine J.keepE [(1, _), (15, _), (20, _), (143, _)] ⟨rfl, rfl, rfl, rfl, trivial⟩ ?_
  refine J.condT rfl rfl ?_
  refine J.seq (fun K19 hK19 => ?_)
  refine J.region ?_
  refine J.y (op_loadBA 12 rfl rfl rfl Tryd.isAgg32 Tryd.sizeOf32 rfl) rfl rfl rfl ?_
  refine J.e (op_call rfl rfl ent40 (Ct.use0 (fun F' hF => (sencode_ct F' (u.getD 0 0).toNat A5 c5 (ck (u.drop 1) 16 35) (h5r.sl.mono (hF m5 (by simp))) A6 (u.getD 561 0).toNat c6 (ck (u.drop 562) 16 (u.getD 561 0).toNat) (h6r.sl.mono (hF m6 (by simp))) (by omega) (by omega) (ck_16 (by rw [List.length_drop]; omega)) (ck_16 (by rw [List.length_drop]; omega))).mono (φ2 := fun _ => True) (val2 := fun _ : Unit => .tuple #[Str u, I 0]) id (fun _ _ => by rw [sgB_why hz]) (fun _ _ => trivial) (fun _ _ _ _ h => h)))) rfl rfl rfl ?_
  intro g146 _
  refine J.y (op_move rfl rfl) rfl rfl rfl ?_
  refine J.y (op_extract (v := Str u) rfl rfl rfl) rfl rfl rfl ?_
  refine J.y (op_extract (v := I 0) rfl rfl rfl) rfl rfl rfl ?_
  refine J.y (op_assign rfl rfl) rfl rfl rfl ?_
  refine J.y (op_assign rfl rfl) rfl rfl rfl ?_
  refine J.nil ?_
  refine J.then_n (J.k hK19 ?_)
  refine J.keepE [(1, _), (22, _), (23, _)] ⟨rfl, rfl, rfl, trivial⟩ ?_
  refine J.seq (fun K20 hK20 => ?_)
  refine J.region ?_
  refine J.y (op_move rfl rfl) rfl rfl rfl ?_
  refine J.y ((op_eql rfl rfl rfl).as (v' := .bool true) (congrArg Value.bool (decide_eq_true (by decide)))) rfl rfl rfl ?_
  refine J.y (op_move rfl rfl) rfl rfl rfl ?_
  refine J.yg (Wan.is rfl rfl rfl rfl rfl) (op_move rfl rfl) rfl rfl ?_
  refine J.yg (Wan.is rfl rfl rfl rfl rfl) (op_move rfl rfl) rfl rfl ?_
  refine J.yg (Wan.is rfl rfl rfl rfl rfl) ((op_seq rfl rfl rfl).as (v' := .bool true) (congrArg Value.bool (decide_eq_true (rfl)))) rfl rfl ?_
  refine J.y (op_pickT rfl rfl rfl) rfl rfl rfl ?_
  refine J.y (op_assign rfl rfl) rfl rfl rfl ?_
  refine J.nil ?_
  refine J.then_n (J.k hK20 ?_)
  refine J.keepE [(6, _)] ⟨rfl, trivial⟩ ?_
  refine J.ret ?_
  refine J.then_r ?_
  exact J.done (fun _ _ h => h) (res1 rfl rfl) (retOk () rfl trivial [0] rfl (by decide))

theorem xmssCodes_no (F : Hp) (hK : Cells F ⟨0, 0, none⟩ (Sha.K.map W32)) (seed junk : List UInt8) (n0 n1 : UInt8) (hz : ¬ whyE (xcU (seed.take 20) (n0.toNat % 2) junk n1) = 0) :
    Ct Tryd.prog 8 [Str seed, Str junk, .agg #[B8 n0, B8 n1]] [F] (fun _ : Unit => .bool true) (fun _ => True) (fun _ => [F]) := by
  obtain ⟨sd, hsd⟩ : ∃ y, y = seed.take 20 := ⟨_, rfl⟩
  rw [← hsd] at hz
  have hsl : sd.length ≤ 20 := by rw [hsd, List.length_take]; omega
  obtain ⟨h, hh⟩ : ∃ h, h = n0.toNat % 2 := ⟨_, rfl⟩
  rw [← hh] at hz
  have hh2 : (h : Int) = (n0.toNat : Int) % 2 ^ 1 := by omega
  have h1 : h ≤ 1 := by omega
  have hn1 := n1.toNat_lt
  have hp0 := Nat.two_pow_pos h
  have hdl := Xm.digest_length (Wo.opn sd) 0 [120]
  have hcl : (Wo.signs sd 0 (Wo.digs (Xm.digest (Wo.opn sd) 0 [120])) 35).length = 35 := Wo.signs_len _ _ _
  have hpl : (Mk.path (Xm.leaves sd (2 ^ h)) 0 h).length = h := Mk.path_len _ _ _
  have hc16 : ∀ s ∈ (Wo.signs sd 0 (Wo.digs (Xm.digest (Wo.opn sd) 0 [120])) 35), s.length = 16 := Wo.signs_16 _ _ _ _
  have hp16 : ∀ s ∈ (Mk.path (Xm.leaves sd (2 ^ h)) 0 h), s.length = 16 := Mk.path_16 _ _ _ (Xm.leaves_16 _ _) (Xm.leaves_length _ _) hp0
  have hbl : (xcB sd h).length = 562 + 16 * h := by unfold xcB; rw [sgB_len hc16 hp16 hcl, hpl]
  obtain ⟨w1, w2, w3, w4, w5⟩ := why_sgB (i := 0) (by omega) hc16 hp16 hcl (by omega)
  rw [show sgB 0 (Wo.signs sd 0 (Wo.digs (Xm.digest (Wo.opn sd) 0 [120])) 35) (Mk.path (Xm.leaves sd (2 ^ h)) 0 h) = xcB sd h from rfl] at w1 w2 w3 w4 w5
  rw [hpl] at w3 w5
  obtain ⟨pe0, pe1⟩ := dp_enc (k := h) (by omega) (Wo.opn_length sd) (Mk.root_16 sd h)
  have hpe := pubEnc_len pe0
  obtain ⟨u, hu⟩ : ∃ u, u = xcU sd h junk n1 := ⟨_, rfl⟩
  rw [← hu] at hz
  obtain ⟨ct, hct⟩ : ∃ c, c = n1.toNat * 3 % ((xcB sd h).length + 1) := ⟨_, rfl⟩
  have hctl : ct < (xcB sd h).length + 1 := by rw [hct]; exact Nat.mod_lt _ (by omega)
  have hct2 : (ct : Int) = ((n1.toNat * 3 : Nat) : Int) % (((xcB sd h).length + 1 : Nat) : Int) := by rw [hct, Int.natCast_emod]
  have hul : u.length ≤ 2000 := by rw [hu]; unfold xcU; rw [List.length_append, List.length_take, List.length_take]; omega
  have hu2 : (xcB sd h).take ct ++ junk.take 700 = u := by rw [hu, hct]; rfl
  refine Ct.walk Tryd.func8 rfl Tryd.ntmps8 rfl (fun w0 => ?_)
  change J _ [(0, _), (1, _), (2, _)] _ _ _
  refine J.seq (fun K1 hK1 => ?_)
  refine J.region ?_
  refine J.e (op_box rfl rfl (l := [B8 n0, B8 n1]) rfl) rfl rfl rfl ?_
  intro g5 _
  change J _ _ _ [F, blk g5 [B8 n0, B8 n1] 78] _
  refine J.y (op_assign rfl rfl) rfl rfl rfl ?_
  refine J.nil ?_
  refine J.then_n (J.k hK1 ?_)
  refine J.keepE [(0, _), (1, _), (5, _)] ⟨rfl, rfl, rfl, trivial⟩ ?_
  refine J.seq (fun K2 hK2 => ?_)
  refine J.seq (fun K3 hK3 => ?_)
  refine J.region ?_
  refine J.e (op_call rfl rfl ent12 (Ct.use0 (fun F' hF => speaks08_ct F' (hK.mono (hF _ (by simp)))))) rfl rfl rfl ?_
  intro g33 _
  refine J.y ((op_not rfl rfl).as (v' := .bool false) rfl) rfl rfl rfl ?_
  refine J.nil ?_
  refine J.then_n (J.k hK3 ?_)
  refine J.keepE [(0, _), (1, _), (5, _), (34, _)] ⟨rfl, rfl, rfl, rfl, trivial⟩ ?_
  refine J.condF rfl rfl ?_
  refine J.skip ?_
  refine J.then_n (J.k hK2 ?_)
  refine J.keepE [(0, _), (1, _), (5, _)] ⟨rfl, rfl, rfl, trivial⟩ ?_
  refine J.seq (fun K4 hK4 => ?_)
  refine J.draw [F, blk g5 [B8 n0, B8 n1] 78] [] (.y 0 (.y 1 (.y 2 (.y 3 (.y 4 (.y 5 (.y 6 (.y 7 (.y 8 (.e 9 (.y 10 (.y 11 (.y 12 (.y 13 (.y 14 .nil))))))))))))))) Tryd.wide (by decide +kernel) (by simp) ?_
  refine J.dy rfl (op_move rfl rfl) rfl rfl rfl rfl ?_
  refine J.dy rfl (op_move rfl rfl) rfl rfl rfl rfl ?_
  refine J.dy rfl (op_slen Tryd.underlying9 rfl rfl) rfl rfl rfl rfl ?_
  refine J.dy rfl ((op_min rfl rfl rfl).as (v' := I ((min seed.length 20 : Nat) : Int)) (congrArg I (by omega))) rfl rfl rfl rfl ?_
  refine J.dy rfl ((op_sslice (l := 0) (h := min seed.length 20) Tryd.underlying9 rfl rfl rfl rfl ⟨by omega, by omega⟩).as (congrArg Str ((Sha.take_min _ _).trans hsd.symm))) rfl rfl rfl rfl ?_
  refine J.dy rfl (op_indexAddrJ (i := 0) (j := 0) rfl rfl rfl Tryd.underlying78 Tryd.sizeOf5 (by decide) (by decide)) rfl rfl rfl rfl ?_
  refine J.dy rfl (op_loadB 1 rfl rfl rfl Tryd.isAgg5 rfl) rfl rfl rfl rfl ?_
  refine J.dy rfl (op_cv_u8_i64 rfl rfl Tryd.underlying5 Tryd.underlying3) rfl rfl rfl rfl ?_
  refine J.dy rfl ((op_maskI 1 rfl rfl rfl (by decide) (by decide)).as (v' := I h) (congrArg I hh2.symm)) rfl rfl rfl rfl ?_
  refine J.de rfl (op_call rfl rfl ent13 (Ct.use (fun F' hF => (xnew_ct F' (hK.mono (hF _ (by simp))) sd h (by omega) (by omega)).mono (φ2 := fun x : Nat × Hp => Keyed x.2 x.1 sd h) (val2 := fun x : Nat × Hp => .tuple #[Ptr x.1, I 0]) (ms2 := fun x : Nat × Hp => F' :: [x.2]) id (fun _ _ => rfl) (fun _ h => h) (fun x w0 w _ h => h.pick [1, 0] (by decide))))) rfl rfl rfl (by simp) ?_
  rintro ⟨gk, mk⟩ hk6
  try dsimp only at hk6
  change J _ ((45, .tuple #[Ptr gk, I 0]) :: _) _ [F, blk g5 [B8 n0, B8 n1] 78, mk] _
  obtain ⟨AK, cK, hcK, hsK⟩ := hk6.see
  refine J.dy rfl (op_move rfl rfl) rfl rfl rfl rfl ?_
  refine J.dy rfl (op_extract (v := Ptr gk) rfl rfl rfl) rfl rfl rfl rfl ?_
  refine J.dy rfl (op_extract (v := I 0) rfl rfl rfl) rfl rfl rfl rfl ?_
  refine J.dy rfl (op_assign rfl rfl) rfl rfl rfl rfl ?_
  refine J.dy rfl (op_assign rfl rfl) rfl rfl rfl rfl ?_
  refine J.dnil ?_
  refine J.then_n (J.k hK4 ?_)
  refine J.keepE [(1, _), (5, _), (7, _)] ⟨rfl, rfl, rfl, trivial⟩ ?_
  refine J.seq (fun K5 hK5 => ?_)
  refine J.region ?_
  refine J.y (op_move rfl rfl) rfl rfl rfl ?_
  refine J.e (op_call rfl rfl ent15 (Ct.use (fun F' hF => xsign_ct F' (hK.mono (hF _ (by simp))) gk sd h AK cK (hcK.mono (hF mk (by simp))) (hsK.mono (hF mk (by simp))) (by omega) (by omega) [120] (by decide) 0 hp0))) rfl rfl rfl ?_
  rintro ⟨⟨A1, c1, m1⟩, ⟨A2, c2, m2⟩⟩ ⟨h1r, h2r⟩
  change J _ ((50, .tuple #[.agg #[I 0, .slice A1 35 c1, .slice A2 h c2], I 0]) :: _) _ [F, blk g5 [B8 n0, B8 n1] 78, mk, m1, m2] _
  dsimp only at h1r h2r
  refine J.y (op_move rfl rfl) rfl rfl rfl ?_
  refine J.y (op_extract (v := .agg #[I 0, .slice A1 35 c1, .slice A2 h c2]) rfl rfl rfl) rfl rfl rfl ?_
  refine J.y (op_extract (v := I 0) rfl rfl rfl) rfl rfl rfl ?_
  refine J.e (op_alloc rfl Tryd.zeroValue32 rfl) rfl rfl rfl ?_
  intro g9 _
  change J _ _ _ [F, blk g5 [B8 n0, B8 n1] 78, mk, m1, m2, blk g9 _ 32] _
  refine J.s (op_storeAll (l := [I 0, .slice none 0 0, .slice none 0 0]) (i := 5) (vs := [I 0, .slice A1 35 c1, .slice A2 h c2]) rfl rfl rfl rfl rfl Tryd.sizeOf32 rfl rfl) rfl rfl (fun _ _ => ?_)
  change J _ _ _ [F, blk g5 [B8 n0, B8 n1] 78, mk, m1, m2, blk g9 [I 0, .slice A1 35 c1, .slice A2 h c2] 32] _
  refine J.y (op_assign rfl rfl) rfl rfl rfl ?_
  refine J.nil ?_
  refine J.then_n (J.k hK5 ?_)
  refine J.keepE [(1, _), (5, _), (7, _), (9, _)] ⟨rfl, rfl, rfl, rfl, trivial⟩ ?_
  refine J.seq (fun K6 hK6 => ?_)
  refine J.region ?_
  refine J.y (op_loadBA 5 rfl rfl rfl Tryd.isAgg32 Tryd.sizeOf32 rfl) rfl rfl rfl ?_
  refine J.e (op_call rfl rfl ent40 (Ct.use0 (fun F' hF => sencode_ct F' 0 A1 c1 (Wo.signs sd 0 (Wo.digs (Xm.digest (Wo.opn sd) 0 [120])) 35) (h1r.sl.mono (hF m1 (by simp))) A2 h c2 (Mk.path (Xm.leaves sd (2 ^ h)) 0 h) (h2r.sl.mono (hF m2 (by simp))) (by omega) (by omega) hc16 hp16))) rfl rfl rfl ?_
  intro g55 _
  refine J.y (op_move rfl rfl) rfl rfl rfl ?_
  refine J.y (op_extract (v := Str (xcB sd h)) rfl rfl rfl) rfl rfl rfl ?_
  refine J.y (op_extract (v := I 0) rfl rfl rfl) rfl rfl rfl ?_
  refine J.y (op_assign rfl rfl) rfl rfl rfl ?_
  refine J.y (op_assign rfl rfl) rfl rfl rfl ?_
  refine J.nil ?_
  refine J.then_n (J.k hK6 ?_)
  refine J.keepE [(1, _), (5, _), (7, _), (11, _), (12, _)] ⟨rfl, rfl, rfl, rfl, rfl, trivial⟩ ?_
  refine J.seq (fun K7 hK7 => ?_)
  refine J.region ?_
  refine J.y (op_move rfl rfl) rfl rfl rfl ?_
  refine J.e (op_call rfl rfl ent41 (Ct.use (fun F' hF => sdecode_ct F' (xcB sd h)))) rfl rfl rfl ?_
  rintro ⟨⟨A3, c3, m3⟩, ⟨A4, c4, m4⟩⟩ ⟨h3r, h4r⟩
  change J _ ((60, .tuple #[if whyE (xcB sd h) = 0 then .agg #[I (natB ((⟨(xcB sd h), 0⟩ : RS).out 1)), .slice A3 35 c3, .slice A4 (dN (xcB sd h)) c4] else .agg #[I 0, .slice none 0 0, .slice none 0 0], I (whyE (xcB sd h))]) :: _) _ [F, blk g5 [B8 n0, B8 n1] 78, mk, m1, m2, blk g9 [I 0, .slice A1 35 c1, .slice A2 h c2] 32, m3, m4] _
  dsimp only at h3r h4r
  rw [w4] at h3r
  rw [w3, Nat.min_eq_left (by omega), w5] at h4r
  rw [w1, if_pos rfl, w2, w3]
  refine J.y (op_move rfl rfl) rfl rfl rfl ?_
  refine J.y (op_extract (v := .agg #[I 0, .slice A3 35 c3, .slice A4 h c4]) rfl rfl rfl) rfl rfl rfl ?_
  refine J.y (op_extract (v := I 0) rfl rfl rfl) rfl rfl rfl ?_
  refine J.e (op_alloc rfl Tryd.zeroValue32 rfl) rfl rfl rfl ?_
  intro g13 _
  change J _ _ _ [F, blk g5 [B8 n0, B8 n1] 78, mk, m1, m2, blk g9 [I 0, .slice A1 35 c1, .slice A2 h c2] 32, m3, m4, blk g13 _ 32] _
  refine J.s (op_storeAll (l := [I 0, .slice none 0 0, .slice none 0 0]) (i := 8) (vs := [I 0, .slice A3 35 c3, .slice A4 h c4]) rfl rfl rfl rfl rfl Tryd.sizeOf32 rfl rfl) rfl rfl (fun _ _ => ?_)
  change J _ _ _ [F, blk g5 [B8 n0, B8 n1] 78, mk, m1, m2, blk g9 [I 0, .slice A1 35 c1, .slice A2 h c2] 32, m3, m4, blk g13 [I 0, .slice A3 35 c3, .slice A4 h c4] 32] _
  refine J.y (op_assign rfl rfl) rfl rfl rfl ?_
  refine J.nil ?_
  refine J.then_n (J.k hK7 ?_)
  refine J.keepE [(1, _), (5, _), (7, _), (11, _), (12, _), (13, _), (14, _)] ⟨rfl, rfl, rfl, rfl, rfl, rfl, rfl, trivial⟩ ?_
  refine J.seq (fun K8 hK8 => ?_)
  refine J.region ?_
  refine J.y (op_move rfl rfl) rfl rfl rfl ?_
  refine J.e (op_call rfl rfl ent16 (Ct.use0 (fun F' hF => xpublic_ct F' gk sd (Wo.opn sd) (Xm.root sd h) h AK (2 ^ h) cK (hcK.mono (hF mk (by simp)))))) rfl rfl rfl ?_
  intro g65 _
  refine J.e (op_call rfl rfl ent42 (Ct.use0 (fun F' hF => pencode_ct F' (Wo.opn sd) (Xm.root sd h) h (by rw [Wo.opn_length]; decide) (by rw [Mk.root_16]; decide)))) rfl rfl rfl ?_
  intro g66 _
  refine J.y (op_move rfl rfl) rfl rfl rfl ?_
  refine J.y (op_extract (v := Str (pubEnc (Wo.opn sd) (Xm.root sd h) h)) rfl rfl rfl) rfl rfl rfl ?_
  refine J.y ((op_extract (v := I (pubErr (Wo.opn sd) (Xm.root sd h) h)) rfl rfl rfl).as (v' := I 0) (congrArg I pe0)) rfl rfl rfl ?_
  refine J.y (op_assign rfl rfl) rfl rfl rfl ?_
  refine J.y (op_assign rfl rfl) rfl rfl rfl ?_
  refine J.nil ?_
  refine J.then_n (J.k hK8 ?_)
  refine J.keepE [(1, _), (5, _), (7, _), (11, _), (12, _), (13, _), (14, _), (15, _), (16, _)] ⟨rfl, rfl, rfl, rfl, rfl, rfl, rfl, rfl, rfl, trivial⟩ ?_
  refine J.seq (fun K9 hK9 => ?_)
  refine J.region ?_
  refine J.y (op_move rfl rfl) rfl rfl rfl ?_
  refine J.e (op_call rfl rfl ent43 (Ct.use0 (fun F' hF => (pdecode_ct F' (pubEnc (Wo.opn sd) (Xm.root sd h) h)).mono (φ2 := fun _ => True) (val2 := fun _ : Unit => .tuple #[.agg #[Str (Wo.opn sd), Str (Xm.root sd h), I h], I 0]) id (fun _ _ => pe1) (fun _ _ => trivial) (fun _ _ _ _ h => h)))) rfl rfl rfl ?_
  intro g71 _
  refine J.y (op_move rfl rfl) rfl rfl rfl ?_
  refine J.y (op_extract (v := .agg #[Str (Wo.opn sd), Str (Xm.root sd h), I h]) rfl rfl rfl) rfl rfl rfl ?_
  refine J.y (op_extract (v := I 0) rfl rfl rfl) rfl rfl rfl ?_
  refine J.e (op_alloc rfl Tryd.zeroValue36 rfl) rfl rfl rfl ?_
  intro g17 _
  change J _ _ _ [F, blk g5 [B8 n0, B8 n1] 78, mk, m1, m2, blk g9 [I 0, .slice A1 35 c1, .slice A2 h c2] 32, m3, m4, blk g13 [I 0, .slice A3 35 c3, .slice A4 h c4] 32, blk g17 _ 36] _
  refine J.s (op_storeAll (l := [Str [], Str [], I 0]) (i := 9) (vs := [Str (Wo.opn sd), Str (Xm.root sd h), I h]) rfl rfl rfl rfl rfl Tryd.sizeOf36 rfl rfl) rfl rfl (fun _ _ => ?_)
  change J _ _ _ [F, blk g5 [B8 n0, B8 n1] 78, mk, m1, m2, blk g9 [I 0, .slice A1 35 c1, .slice A2 h c2] 32, m3, m4, blk g13 [I 0, .slice A3 35 c3, .slice A4 h c4] 32, blk g17 [Str (Wo.opn sd), Str (Xm.root sd h), I h] 36] _
  refine J.y (op_assign rfl rfl) rfl rfl rfl ?_
  refine J.nil ?_
  refine J.then_n (J.k hK9 ?_)
  refine J.keepE [(1, _), (5, _), (7, _), (11, _), (12, _), (13, _), (14, _), (15, _), (16, _), (17, _), (18, _)] ⟨rfl, rfl, rfl, rfl, rfl, rfl, rfl, rfl, rfl, rfl, rfl, trivial⟩ ?_
  refine J.seq (fun K10 hK10 => ?_)
  refine J.seq (fun K11 hK11 => ?_)
  refine J.draw [F, blk g5 [B8 n0, B8 n1] 78, mk, m1, m2, blk g9 [I 0, .slice A1 35 c1, .slice A2 h c2] 32, m3, m4, blk g13 [I 0, .slice A3 35 c3, .slice A4 h c4] 32, blk g17 [Str (Wo.opn sd), Str (Xm.root sd h), I h] 36] [] (.y 0 (.y 1 (.y 2 (.y 3 (.y 4 (.y 5 (.y 6 (.y 7 (.y 8 (.y 9 (.y 10 (.y 11 (.y 12 (.y 13 (.y 14 (.y 15 (.y 16 (.e 17 (.y 18 (.y 19 (.y 20 (.y 21 (.y 22 (.e 23 (.y 24 (.y 25 (.y 26 (.y 27 (.y 28 (.y 29 (.y 30 (.y 31 (.y 32 (.y 33 (.y 34 (.y 35 (.y 36 (.y 37 (.y 38 (.y 39 (.y 40 (.y 41 .nil)))))))))))))))))))))))))))))))))))))))))) Tryd.wide (by decide +kernel) (by simp) ?_
  refine J.dy rfl (op_move rfl rfl) rfl rfl rfl rfl ?_
  refine J.dy rfl ((op_neq rfl rfl rfl).as (v' := .bool false) (congrArg Value.bool (decide_eq_false (by decide)))) rfl rfl rfl rfl ?_
  refine J.dy rfl (op_move rfl rfl) rfl rfl rfl rfl ?_
  refine J.dyg rfl (op_move rfl rfl) (Wan.is rfl rfl rfl rfl rfl) rfl rfl rfl ?_
  refine J.dyg rfl ((op_neq rfl rfl rfl).as (v' := .bool false) (congrArg Value.bool (decide_eq_false (by decide)))) (Wan.is rfl rfl rfl rfl rfl) rfl rfl rfl ?_
  refine J.dy rfl (op_pickF rfl rfl rfl) rfl rfl rfl rfl ?_
  refine J.dy rfl (op_move rfl rfl) rfl rfl rfl rfl ?_
  refine J.dyg rfl (op_move rfl rfl) (Wan.is rfl rfl rfl rfl rfl) rfl rfl rfl ?_
  refine J.dyg rfl ((op_neq rfl rfl rfl).as (v' := .bool false) (congrArg Value.bool (decide_eq_false (by decide)))) (Wan.is rfl rfl rfl rfl rfl) rfl rfl rfl ?_
  refine J.dy rfl (op_pickF rfl rfl rfl) rfl rfl rfl rfl ?_
  refine J.dy rfl (op_move rfl rfl) rfl rfl rfl rfl ?_
  refine J.dyg rfl (op_move rfl rfl) (Wan.is rfl rfl rfl rfl rfl) rfl rfl rfl ?_
  refine J.dyg rfl ((op_neq rfl rfl rfl).as (v' := .bool false) (congrArg Value.bool (decide_eq_false (by decide)))) (Wan.is rfl rfl rfl rfl rfl) rfl rfl rfl ?_
  refine J.dy rfl (op_pickF rfl rfl rfl) rfl rfl rfl rfl ?_
  refine J.dy rfl (op_move rfl rfl) rfl rfl rfl rfl ?_
  refine J.dyg rfl (op_loadBA 9 rfl rfl rfl Tryd.isAgg36 Tryd.sizeOf36 rfl) (Wan.is rfl rfl rfl rfl rfl) rfl rfl rfl ?_
  refine J.dyg rfl (op_move rfl rfl) (Wan.is rfl rfl rfl rfl rfl) rfl rfl rfl ?_
  refine J.deg rfl (op_call rfl rfl ent16 (Ct.use0 (fun F' hF => xpublic_ct F' gk sd (Wo.opn sd) (Xm.root sd h) h AK (2 ^ h) cK (hcK.mono (hF mk (by simp)))))) (Wan.is rfl rfl rfl rfl rfl) rfl rfl (by simp) ?_
  intro g91 _
  refine J.dyg rfl ((op_neS rfl rfl rfl (by kernel_rfl) (eqPub 9998 (Wo.opn sd) (Xm.root sd h) (Wo.opn sd) (Xm.root sd h) h h)).as (v' := .bool false) (by rw [decide_eq_true ⟨rfl, rfl, rfl⟩]; rfl)) (Wan.is rfl rfl rfl rfl rfl) rfl rfl rfl ?_
  refine J.dy rfl (op_pickF rfl rfl rfl) rfl rfl rfl rfl ?_
  refine J.dy rfl (op_move rfl rfl) rfl rfl rfl rfl ?_
  refine J.dyg rfl (op_loadBA 9 rfl rfl rfl Tryd.isAgg36 Tryd.sizeOf36 rfl) (Wan.is rfl rfl rfl rfl rfl) rfl rfl rfl ?_
  refine J.dyg rfl (op_loadBA 8 rfl rfl rfl Tryd.isAgg32 Tryd.sizeOf32 rfl) (Wan.is rfl rfl rfl rfl rfl) rfl rfl rfl ?_
  refine J.deg rfl (op_call rfl rfl ent18 (Ct.use0 (fun F' hF => xverify_ct F' (hK.mono (hF _ (by simp))) (Wo.opn sd) (Xm.root sd h) h [120] 0 A3 c3 (Wo.signs sd 0 (Wo.digs (Xm.digest (Wo.opn sd) 0 [120])) 35) (h3r.sl.mono (hF m3 (by simp))) hc16 A4 c4 (Mk.path (Xm.leaves sd (2 ^ h)) 0 h) (h4r.sl.mono (hF m4 (by simp))) (Mk.path_small2 _ _ _) (by rw [Wo.opn_length]; decide) (by decide) (by omega) hp0))) (Wan.is rfl rfl rfl rfl rfl) rfl rfl (by simp) ?_
  intro g97 _
  refine J.dyg rfl ((op_not rfl rfl).as (v' := .bool false) (by rw [Wo.recPub sd 0 (Xm.digest (Wo.opn sd) 0 [120]) (by omega), decide_eq_true (Mk.climb_root2 sd h 0 hp0)]; rfl)) (Wan.is rfl rfl rfl rfl rfl) rfl rfl rfl ?_
  refine J.dy rfl (op_pickF rfl rfl rfl) rfl rfl rfl rfl ?_
  refine J.dy rfl (op_move rfl rfl) rfl rfl rfl rfl ?_
  refine J.dyg rfl (op_move rfl rfl) (Wan.is rfl rfl rfl rfl rfl) rfl rfl rfl ?_
  refine J.dyg rfl (op_slen Tryd.underlying9 rfl rfl) (Wan.is rfl rfl rfl rfl rfl) rfl rfl rfl ?_
  refine J.dyg rfl ((op_neq rfl rfl rfl).as (v' := .bool false) (congrArg Value.bool (decide_eq_false (by omega)))) (Wan.is rfl rfl rfl rfl rfl) rfl rfl rfl ?_
  refine J.dy rfl (op_pickF rfl rfl rfl) rfl rfl rfl rfl ?_
  refine J.dy rfl (op_move rfl rfl) rfl rfl rfl rfl ?_
  refine J.dyg rfl (op_move rfl rfl) (Wan.is rfl rfl rfl rfl rfl) rfl rfl rfl ?_
  refine J.dyg rfl (op_slen Tryd.underlying9 rfl rfl) (Wan.is rfl rfl rfl rfl rfl) rfl rfl rfl ?_
  refine J.dyg rfl (op_indexAddrJ (i := 0) (j := 0) rfl rfl rfl Tryd.underlying78 Tryd.sizeOf5 (by decide) (by decide)) (Wan.is rfl rfl rfl rfl rfl) rfl rfl rfl ?_
  refine J.dyg rfl (op_loadB 1 rfl rfl rfl Tryd.isAgg5 rfl) (Wan.is rfl rfl rfl rfl rfl) rfl rfl rfl ?_
  refine J.dyg rfl (op_cv_u8_i64 rfl rfl Tryd.underlying5 Tryd.underlying3) (Wan.is rfl rfl rfl rfl rfl) rfl rfl rfl ?_
  refine J.dyg rfl ((op_maskI 1 rfl rfl rfl (by decide) (by decide)).as (v' := I h) (congrArg I hh2.symm)) (Wan.is rfl rfl rfl rfl rfl) rfl rfl rfl ?_
  refine J.dyg rfl ((op_mul rfl rfl rfl (by first | omega | (refine ⟨?_, ?_⟩ <;> omega))).as (v' := I ((16 * h : Nat) : Int)) (congrArg I (by omega))) (Wan.is rfl rfl rfl rfl rfl) rfl rfl rfl ?_
  refine J.dyg rfl ((op_add rfl rfl rfl (by first | omega | (refine ⟨?_, ?_⟩ <;> omega))).as (v' := I ((562 + 16 * h : Nat) : Int)) (congrArg I (by omega))) (Wan.is rfl rfl rfl rfl rfl) rfl rfl rfl ?_
  refine J.dyg rfl ((op_neq rfl rfl rfl).as (v' := .bool false) (congrArg Value.bool (decide_eq_false (by omega)))) (Wan.is rfl rfl rfl rfl rfl) rfl rfl rfl ?_
  refine J.dy rfl (op_pickF rfl rfl rfl) rfl rfl rfl rfl ?_
  refine J.dnil ?_
  refine J.then_n (J.k hK11 ?_)
  refine J.keepE [(1, _), (5, _), (11, _), (15, _), (115, _)] ⟨rfl, rfl, rfl, rfl, rfl, trivial⟩ ?_
  refine J.condF rfl rfl ?_
  refine J.skip ?_
  refine J.then_n (J.k hK10 ?_)
  refine J.keepE [(1, _), (5, _), (11, _), (15, _)] ⟨rfl, rfl, rfl, rfl, trivial⟩ ?_
  refine J.seq (fun K12 hK12 => ?_)
  refine J.region ?_
  refine J.y (op_indexAddrJ (i := 1) (j := 1) rfl rfl rfl Tryd.underlying78 Tryd.sizeOf5 (by decide) (by decide)) rfl rfl rfl ?_
  refine J.y (op_loadB 1 rfl rfl rfl Tryd.isAgg5 rfl) rfl rfl rfl ?_
  refine J.y (op_cv_u8_i64 rfl rfl Tryd.underlying5 Tryd.underlying3) rfl rfl rfl ?_
  refine J.y ((op_mul rfl rfl rfl (by first | omega | (refine ⟨?_, ?_⟩ <;> omega))).as (v' := I ((n1.toNat * 3 : Nat) : Int)) (congrArg I (by omega))) rfl rfl rfl ?_
  refine J.y (op_move rfl rfl) rfl rfl rfl ?_
  refine J.y (op_slen Tryd.underlying9 rfl rfl) rfl rfl rfl ?_
  refine J.y ((op_add rfl rfl rfl (by first | omega | (refine ⟨?_, ?_⟩ <;> omega))).as (v' := I (((xcB sd h).length + 1 : Nat) : Int)) (congrArg I (by omega))) rfl rfl rfl ?_
  refine J.y ((op_rem rfl rfl rfl (by omega)).as (v' := I (ct : Int)) (congrArg I (by omega))) rfl rfl rfl ?_
  refine J.y (op_assign rfl rfl) rfl rfl rfl ?_
  refine J.nil ?_
  refine J.then_n (J.k hK12 ?_)
  refine J.keepE [(1, _), (11, _), (15, _), (19, _)] ⟨rfl, rfl, rfl, rfl, trivial⟩ ?_
  refine J.seq (fun K13 hK13 => ?_)
  refine J.draw [F, blk g5 [B8 n0, B8 n1] 78, mk, m1, m2, blk g9 [I 0, .slice A1 35 c1, .slice A2 h c2] 32, m3, m4, blk g13 [I 0, .slice A3 35 c3, .slice A4 h c4] 32, blk g17 [Str (Wo.opn sd), Str (Xm.root sd h), I h] 36] [] (.y 0 (.y 1 (.y 2 (.y 3 (.y 4 (.y 5 (.y 6 (.y 7 (.y 8 (.y 9 .nil)))))))))) Tryd.wide (by decide +kernel) (by simp) ?_
  refine J.dy rfl (op_move rfl rfl) rfl rfl rfl rfl ?_
  refine J.dy rfl (op_move rfl rfl) rfl rfl rfl rfl ?_
  refine J.dy rfl ((op_sslice (l := 0) (h := ct) Tryd.underlying9 rfl rfl rfl rfl ⟨by omega, by omega⟩).as (congrArg Str List.drop_zero)) rfl rfl rfl rfl ?_
  refine J.dy rfl (op_move rfl rfl) rfl rfl rfl rfl ?_
  refine J.dy rfl (op_move rfl rfl) rfl rfl rfl rfl ?_
  refine J.dy rfl (op_slen Tryd.underlying9 rfl rfl) rfl rfl rfl rfl ?_
  refine J.dy rfl ((op_min rfl rfl rfl).as (v' := I ((min junk.length 700 : Nat) : Int)) (congrArg I (by omega))) rfl rfl rfl rfl ?_
  refine J.dy rfl ((op_sslice (l := 0) (h := min junk.length 700) Tryd.underlying9 rfl rfl rfl rfl ⟨by omega, by omega⟩).as (congrArg Str (Sha.take_min _ _))) rfl rfl rfl rfl ?_
  refine J.dy rfl ((op_sadd rfl rfl rfl (by rw [List.length_take, List.length_take]; omega)).as (v' := Str u) (congrArg Str hu2)) rfl rfl rfl rfl ?_
  refine J.dy rfl (op_assign rfl rfl) rfl rfl rfl rfl ?_
  refine J.dnil ?_
  refine J.then_n (J.k hK13 ?_)
  refine J.keepE [(1, _), (15, _)] ⟨rfl, rfl, trivial⟩ ?_
  refine J.seq (fun K14 hK14 => ?_)
  refine J.region ?_
  refine J.y (op_move rfl rfl) rfl rfl rfl ?_
  refine J.e (op_call rfl rfl ent41 (Ct.use (fun F' hF => sdecode_ct F' u))) rfl rfl rfl ?_
  rintro ⟨⟨A5, c5, m5⟩, ⟨A6, c6, m6⟩⟩ ⟨h5r, h6r⟩
  change J _ ((135, .tuple #[if whyE u = 0 then .agg #[I (natB ((⟨u, 0⟩ : RS).out 1)), .slice A5 35 c5, .slice A6 (dN u) c6] else .agg #[I 0, .slice none 0 0, .slice none 0 0], I (whyE u)]) :: _) _ [F, blk g5 [B8 n0, B8 n1] 78, mk, m1, m2, blk g9 [I 0, .slice A1 35 c1, .slice A2 h c2] 32, m3, m4, blk g13 [I 0, .slice A3 35 c3, .slice A4 h c4] 32, blk g17 [Str (Wo.opn sd), Str (Xm.root sd h), I h] 36, m5, m6] _
  dsimp only at h5r h6r
  rw [if_neg hz]
  refine J.y (op_move rfl rfl) rfl rfl rfl ?_
  refine J.y (op_extract (v := .agg #[I 0, .slice none 0 0, .slice none 0 0]) rfl rfl rfl) rfl rfl rfl ?_
  refine J.y (op_extract (v := I (whyE u)) rfl rfl rfl) rfl rfl rfl ?_
  refine J.e (op_alloc rfl Tryd.zeroValue32 rfl) rfl rfl rfl ?_
  intro g20 _
  change J _ _ _ [F, blk g5 [B8 n0, B8 n1] 78, mk, m1, m2, blk g9 [I 0, .slice A1 35 c1, .slice A2 h c2] 32, m3, m4, blk g13 [I 0, .slice A3 35 c3, .slice A4 h c4] 32, blk g17 [Str (Wo.opn sd), Str (Xm.root sd h), I h] 36, m5, m6, blk g20 _ 32] _
  refine J.s (op_storeAll (l := [I 0, .slice none 0 0, .slice none 0 0]) (i := 12) (vs := [I 0, .slice none 0 0, .slice none 0 0]) rfl rfl rfl rfl rfl Tryd.sizeOf32 rfl rfl) rfl rfl (fun _ _ => ?_)
  change J _ _ _ [F, blk g5 [B8 n0, B8 n1] 78, mk, m1, m2, blk g9 [I 0, .slice A1 35 c1, .slice A2 h c2] 32, m3, m4, blk g13 [I 0, .slice A3 35 c3, .slice A4 h c4] 32, blk g17 [Str (Wo.opn sd), Str (Xm.root sd h), I h] 36, m5, m6, blk g20 [I 0, .slice none 0 0, .slice none 0 0] 32] _
  refine J.y (op_assign rfl rfl) rfl rfl rfl ?_
  refine J.nil ?_
  refine J.then_n (J.k hK14 ?_)
  refine J.keepE [(1, _), (15, _), (20, _), (21, _)] ⟨rfl, rfl, rfl, rfl, trivial⟩ ?_
  refine J.seq (fun K15 hK15 => ?_)
  refine J.seq (fun K16 hK16 => ?_)
  refine J.region ?_
  refine J.y (op_move rfl rfl) rfl rfl rfl ?_
  refine J.y (op_move rfl rfl) rfl rfl rfl ?_
  refine J.e (op_call rfl rfl ent44 (Ct.use0 (fun F' hF => why_ct F' u (by omega)))) rfl rfl rfl ?_
  intro g140 _
  refine J.y ((op_neq rfl rfl rfl).as (v' := .bool false) (congrArg Value.bool (decide_eq_false (fun h => h rfl)))) rfl rfl rfl ?_
  refine J.nil ?_
  refine J.then_n (J.k hK16 ?_)
  refine J.keepE [(1, _), (15, _), (20, _), (21, _), (141, _)] ⟨rfl, rfl, rfl, rfl, rfl, trivial⟩ ?_
  refine J.condF rfl rfl ?_
  refine J.skip ?_
  refine J.then_n (J.k hK15 ?_)
  refine J.keepE [(1, _), (15, _), (20, _), (21, _)] ⟨rfl, rfl, rfl, rfl, trivial⟩ ?_
  refine J.seq (fun K17 hK17 => ?_)
  refine J.seq (fun K18 hK18 => ?_)
  refine J.region ?_
  refine J.y (op_move rfl rfl) rfl rfl rfl ?_
  refine J.y ((op_eql rfl rfl rfl).as (v' := .bool false) (congrArg Value.bool (decide_eq_false (hz)))) rfl rfl rfl ?_
  refine J.nil ?_
  refine J.then_n (J.k hK18 ?_)
  refine J.keepE [(1, _), (15, _), (20, _), (143, _)] ⟨rfl, rfl, rfl, rfl, trivial⟩ ?_
  refine J.condF rfl rfl ?_
  refine J.skip ?_
  refine J.then_n (J.k hK17 ?_)
  refine J.keepE [(15, _), (20, _)] ⟨rfl, rfl, trivial⟩ ?_
  refine J.seq (fun K19 hK19 => ?_)
  refine J.region ?_
  refine J.y (op_move rfl rfl) rfl rfl rfl ?_
  refine J.y ((op_sslice (l := 0) (h := 32) Tryd.underlying9 rfl rfl rfl rfl ⟨by omega, by omega⟩).as (congrArg Str List.drop_zero)) rfl rfl rfl ?_
  refine J.e (op_call rfl rfl ent43 (Ct.use0 (fun F' hF => (pdecode_ct F' ((pubEnc (Wo.opn sd) (Xm.root sd h) h).take 32)).mono (φ2 := fun _ => True) (val2 := fun _ : Unit => .tuple #[.agg #[Str [], Str [], I 0], I 3]) id (fun _ _ => dp_short (by rw [List.length_take]; omega)) (fun _ _ => trivial) (fun _ _ _ _ h => h)))) rfl rfl rfl ?_
  intro g159 _
  refine J.y (op_move rfl rfl) rfl rfl rfl ?_
  refine J.y (op_extract (v := .agg #[Str [], Str [], I 0]) rfl rfl rfl) rfl rfl rfl ?_
  refine J.y (op_extract (v := I 3) rfl rfl rfl) rfl rfl rfl ?_
  refine J.e (op_alloc rfl Tryd.zeroValue36 rfl) rfl rfl rfl ?_
  intro g24 _
  change J _ _ _ [F, blk g5 [B8 n0, B8 n1] 78, mk, m1, m2, blk g9 [I 0, .slice A1 35 c1, .slice A2 h c2] 32, m3, m4, blk g13 [I 0, .slice A3 35 c3, .slice A4 h c4] 32, blk g17 [Str (Wo.opn sd), Str (Xm.root sd h), I h] 36, m5, m6, blk g20 [I 0, .slice none 0 0, .slice none 0 0] 32, blk g24 _ 36] _
  refine J.s (op_storeAll (l := [Str [], Str [], I 0]) (i := 13) (vs := [Str [], Str [], I 0]) rfl rfl rfl rfl rfl Tryd.sizeOf36 rfl rfl) rfl rfl (fun _ _ => ?_)
  change J _ _ _ [F, blk g5 [B8 n0, B8 n1] 78, mk, m1, m2, blk g9 [I 0, .slice A1 35 c1, .slice A2 h c2] 32, m3, m4, blk g13 [I 0, .slice A3 35 c3, .slice A4 h c4] 32, blk g17 [Str (Wo.opn sd), Str (Xm.root sd h), I h] 36, m5, m6, blk g20 [I 0, .slice none 0 0, .slice none 0 0] 32, blk g24 [Str [], Str [], I 0] 36] _
  refine J.y (op_assign rfl rfl) rfl rfl rfl ?_
  refine J.nil ?_
  refine J.then_n (J.k hK19 ?_)
  refine J.keepE [(15, _), (20, _), (25, _)] ⟨rfl, rfl, rfl, trivial⟩ ?_
  refine J.seq (fun K20 hK20 => ?_)
  refine J.region ?_
  refine J.y (op_move rfl rfl) rfl rfl rfl ?_
  refine J.y ((op_sslice (l := 0) (h := 32) Tryd.underlying9 rfl rfl rfl rfl ⟨by omega, by omega⟩).as (congrArg Str List.drop_zero)) rfl rfl rfl ?_
  refine J.y ((op_sadd (b := [7]) rfl rfl rfl (by rw [List.length_take]; simp; omega))) rfl rfl rfl ?_
  refine J.e (op_call rfl rfl ent43 (Ct.use0 (fun F' hF => (pdecode_ct F' (((pubEnc (Wo.opn sd) (Xm.root sd h) h).take 32) ++ [7])).mono (φ2 := fun _ => True) (val2 := fun _ : Unit => .tuple #[.agg #[Str [], Str [], I 0], I 4]) id (fun _ _ => dp_seven (by rw [List.length_take]; omega)) (fun _ _ => trivial) (fun _ _ _ _ h => h)))) rfl rfl rfl ?_
  intro g166 _
  refine J.y (op_move rfl rfl) rfl rfl rfl ?_
  refine J.y (op_extract (v := .agg #[Str [], Str [], I 0]) rfl rfl rfl) rfl rfl rfl ?_
  refine J.y (op_extract (v := I 4) rfl rfl rfl) rfl rfl rfl ?_
  refine J.e (op_alloc rfl Tryd.zeroValue36 rfl) rfl rfl rfl ?_
  intro g26 _
  change J _ _ _ [F, blk g5 [B8 n0, B8 n1] 78, mk, m1, m2, blk g9 [I 0, .slice A1 35 c1, .slice A2 h c2] 32, m3, m4, blk g13 [I 0, .slice A3 35 c3, .slice A4 h c4] 32, blk g17 [Str (Wo.opn sd), Str (Xm.root sd h), I h] 36, m5, m6, blk g20 [I 0, .slice none 0 0, .slice none 0 0] 32, blk g24 [Str [], Str [], I 0] 36, blk g26 _ 36] _
  refine J.s (op_storeAll (l := [Str [], Str [], I 0]) (i := 14) (vs := [Str [], Str [], I 0]) rfl rfl rfl rfl rfl Tryd.sizeOf36 rfl rfl) rfl rfl (fun _ _ => ?_)
  change J _ _ _ [F, blk g5 [B8 n0, B8 n1] 78, mk, m1, m2, blk g9 [I 0, .slice A1 35 c1, .slice A2 h c2] 32, m3, m4, blk g13 [I 0, .slice A3 35 c3, .slice A4 h c4] 32, blk g17 [Str (Wo.opn sd), Str (Xm.root sd h), I h] 36, m5, m6, blk g20 [I 0, .slice none 0 0, .slice none 0 0] 32, blk g24 [Str [], Str [], I 0] 36, blk g26 [Str [], Str [], I 0] 36] _
  refine J.y (op_assign rfl rfl) rfl rfl rfl ?_
  refine J.nil ?_
  refine J.then_n (J.k hK20 ?_)
  refine J.keepE [(20, _), (25, _), (27, _)] ⟨rfl, rfl, rfl, trivial⟩ ?_
  refine J.seq (fun K21 hK21 => ?_)
  refine J.region ?_
  refine J.e (op_call rfl rfl ent13 (Ct.use0 (fun F' hF => xnew_bad F' [] 7 (by decide)))) rfl rfl rfl ?_
  intro g170 _
  refine J.y (op_move rfl rfl) rfl rfl rfl ?_
  refine J.y (op_extract (v := .pointer none) rfl rfl rfl) rfl rfl rfl ?_
  refine J.y (op_extract (v := I 1) rfl rfl rfl) rfl rfl rfl ?_
  refine J.y (op_assign rfl rfl) rfl rfl rfl ?_
  refine J.y (op_assign rfl rfl) rfl rfl rfl ?_
  refine J.nil ?_
  refine J.then_n (J.k hK21 ?_)
  refine J.keepE [(20, _), (25, _), (27, _), (29, _)] ⟨rfl, rfl, rfl, rfl, trivial⟩ ?_
  refine J.seq (fun K22 hK22 => ?_)
  refine J.region ?_
  refine J.y (op_assign rfl rfl) rfl rfl rfl ?_
  refine J.nil ?_
  refine J.then_n (J.k hK22 ?_)
  refine J.keepE [(20, _), (25, _), (27, _), (29, _), (30, _)] ⟨rfl, rfl, rfl, rfl, rfl, trivial⟩ ?_
  refine J.seq (fun K23 hK23 => ?_)
  refine J.region ?_
  refine J.y (op_move rfl rfl) rfl rfl rfl ?_
  refine J.e (op_call rfl rfl ent15 (Ct.use0 (fun F' hF => xsign_nil F' 0 []))) rfl rfl rfl ?_
  intro g175 _
  refine J.y (op_move rfl rfl) rfl rfl rfl ?_
  refine J.y (op_extract (v := .agg #[I 0, .slice none 0 0, .slice none 0 0]) rfl rfl rfl) rfl rfl rfl ?_
  refine J.y (op_extract (v := I 1) rfl rfl rfl) rfl rfl rfl ?_
  refine J.e (op_alloc rfl Tryd.zeroValue32 rfl) rfl rfl rfl ?_
  intro g31 _
  change J _ _ _ [F, blk g5 [B8 n0, B8 n1] 78, mk, m1, m2, blk g9 [I 0, .slice A1 35 c1, .slice A2 h c2] 32, m3, m4, blk g13 [I 0, .slice A3 35 c3, .slice A4 h c4] 32, blk g17 [Str (Wo.opn sd), Str (Xm.root sd h), I h] 36, m5, m6, blk g20 [I 0, .slice none 0 0, .slice none 0 0] 32, blk g24 [Str [], Str [], I 0] 36, blk g26 [Str [], Str [], I 0] 36, blk g31 _ 32] _
  refine J.s (op_storeAll (l := [I 0, .slice none 0 0, .slice none 0 0]) (i := 15) (vs := [I 0, .slice none 0 0, .slice none 0 0]) rfl rfl rfl rfl rfl Tryd.sizeOf32 rfl rfl) rfl rfl (fun _ _ => ?_)
  change J _ _ _ [F, blk g5 [B8 n0, B8 n1] 78, mk, m1, m2, blk g9 [I 0, .slice A1 35 c1, .slice A2 h c2] 32, m3, m4, blk g13 [I 0, .slice A3 35 c3, .slice A4 h c4] 32, blk g17 [Str (Wo.opn sd), Str (Xm.root sd h), I h] 36, m5, m6, blk g20 [I 0, .slice none 0 0, .slice none 0 0] 32, blk g24 [Str [], Str [], I 0] 36, blk g26 [Str [], Str [], I 0] 36, blk g31 [I 0, .slice none 0 0, .slice none 0 0] 32] _
  refine J.y (op_assign rfl rfl) rfl rfl rfl ?_
  refine J.nil ?_
  refine J.then_n (J.k hK23 ?_)
  refine J.keepE [(20, _), (25, _), (27, _), (29, _), (30, _), (32, _)] ⟨rfl, rfl, rfl, rfl, rfl, rfl, trivial⟩ ?_
  refine J.seq (fun K24 hK24 => ?_)
  refine J.region ?_
  refine J.y (op_fieldAddr (j := 1) rfl rfl Tryd.underlying32 rfl Tryd.sizeOf30 rfl) rfl rfl rfl ?_
  refine J.y (op_loadB 12 rfl rfl rfl Tryd.isAgg30 rfl) rfl rfl rfl ?_
  refine J.y (op_len Tryd.underlying30 rfl rfl) rfl rfl rfl ?_
  refine J.y ((op_eql rfl rfl rfl).as (v' := .bool true) (congrArg Value.bool (decide_eq_true (by decide)))) rfl rfl rfl ?_
  refine J.y (op_move rfl rfl) rfl rfl rfl ?_
  refine J.yg (Wan.is rfl rfl rfl rfl rfl) (op_move rfl rfl) rfl rfl ?_
  refine J.yg (Wan.is rfl rfl rfl rfl rfl) ((op_eql rfl rfl rfl).as (v' := .bool true) (congrArg Value.bool (decide_eq_true (by decide)))) rfl rfl ?_
  refine J.y (op_pickT rfl rfl rfl) rfl rfl rfl ?_
  refine J.y (op_move rfl rfl) rfl rfl rfl ?_
  refine J.yg (Wan.is rfl rfl rfl rfl rfl) (op_move rfl rfl) rfl rfl ?_
  refine J.yg (Wan.is rfl rfl rfl rfl rfl) ((op_eql rfl rfl rfl).as (v' := .bool true) (congrArg Value.bool (decide_eq_true (by decide)))) rfl rfl ?_
  refine J.y (op_pickT rfl rfl rfl) rfl rfl rfl ?_
  refine J.y (op_move rfl rfl) rfl rfl rfl ?_
  refine J.yg (Wan.is rfl rfl rfl rfl rfl) (op_move rfl rfl) rfl rfl ?_
  refine J.yg (Wan.is rfl rfl rfl rfl rfl) ((op_eql rfl rfl rfl).as (v' := .bool true) (congrArg Value.bool (decide_eq_true (by decide)))) rfl rfl ?_
  refine J.y (op_pickT rfl rfl rfl) rfl rfl rfl ?_
  refine J.y (op_move rfl rfl) rfl rfl rfl ?_
  refine J.yg (Wan.is rfl rfl rfl rfl rfl) (op_move rfl rfl) rfl rfl ?_
  refine J.yg (Wan.is rfl rfl rfl rfl rfl) ((op_eql rfl rfl rfl).as (v' := .bool true) (congrArg Value.bool (decide_eq_true (by decide)))) rfl rfl ?_
  refine J.y (op_pickT rfl rfl rfl) rfl rfl rfl ?_
  refine J.y (op_move rfl rfl) rfl rfl rfl ?_
  refine J.yg (Wan.is rfl rfl rfl rfl rfl) (op_move rfl rfl) rfl rfl ?_
  refine J.eg (Wan.is rfl rfl rfl rfl rfl) (op_call rfl rfl ent14 (Ct.use0 (fun F' hF => xcount_nil F'))) rfl rfl ?_
  intro g200 _
  refine J.yg (Wan.is rfl rfl rfl rfl rfl) ((op_eql rfl rfl rfl).as (v' := .bool true) (congrArg Value.bool (decide_eq_true (by decide)))) rfl rfl ?_
  refine J.y (op_pickT rfl rfl rfl) rfl rfl rfl ?_
  refine J.y (op_assign rfl rfl) rfl rfl rfl ?_
  refine J.nil ?_
  refine J.then_n (J.k hK24 ?_)
  refine J.keepE [(6, _)] ⟨rfl, trivial⟩ ?_
  refine J.ret ?_
  exact J.done (fun _ _ h => h) (res1 rfl rfl) (retOk () rfl trivial [0] rfl (by decide))

theorem xmssCodes_ct (F : Hp) (hK : Cells F ⟨0, 0, none⟩ (Sha.K.map W32)) (seed junk : List UInt8) (n0 n1 : UInt8) :
    Ct Tryd.prog 8 [Str seed, Str junk, .agg #[B8 n0, B8 n1]] [F] (fun _ : Unit => .bool true) (fun _ => True) (fun _ => [F]) := by
  by_cases hz : whyE (xcU (seed.take 20) (n0.toNat % 2) junk n1) = 0
  · exact xmssCodes_ok F hK seed junk n0 n1 hz
  · exact xmssCodes_no F hK seed junk n0 n1 hz

end Go.Proofs.YtlopnfgacopkbaaDoor
