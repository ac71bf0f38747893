/- A part of the proof. -/
import Derived.Test.YtfldiegfenndjaaGreatDoorTopCvG32
import Derived.Test.YtfldiegfenndjaaGreatDoorTopCvG37
import Derived.Test.YtfldiegfenndjaaGreatDoorTopCvG38
import Derived.Test.YtfldiegfenndjaaGreatDoorTopCvG29
import Derived.Test.YtfldiegfenndjaaGreatDoorTopCvG8
set_option linter.unusedSimpArgs false
set_option linter.unusedVariables false
namespace Go.Proofs.YtfldiegfenndjaaGreatDoor
open Go Go.Fw Go.Proofs.Tryz
set_option maxRecDepth 100000
set_option maxHeartbeats 1000000
theorem qQs {a nm : Nat} (ha : a ≤ 5) (h : nm < a) : Sm.getP (qAB a) (qAM nm) = some (qBB nm) := by
 rw [qPe (by omega)]
 exact Sm.getP_mem (p := (qBO nm, qBB nm)) (qB2 ha).once (List.mem_map.2 ⟨nm, List.mem_range.2 h, rfl⟩)
theorem br23 {a d : Nat} (ha : a ≤ 5) (hd : d ≤ 1) (k : List UInt8) : qFm (pW a d).nodes (pW a d).dep = Sm.ndB (qAB a) k 0 := by
 have h := (qPD (qB2 ha) (d := d) (by omega)).2
 have e : Sm.ndB (qAB a) k 0 = Sm.nd 128 (qAB a) := by
  show Sm.nd 128 (Sm.bel _ k 0) = _
  rw [Sm.bel_zero]
 rw [e]; exact h
theorem qM8 {a d : Nat} (ha : a ≤ 5) (hd : d ≤ 1) : (pW a d).next (nW a d) = 0 := by
 have h1 := qB8 ha hd
 have h2 := qAx ha hd
 refine qQe (by rw [h1]; decide) ?_ ?_ ?_
 · show ¬ (1 = 0 ∨ 1 - 1 ≠ 0); decide
 · exact fun e => e.elim (fun e => by rw [e] at h2; exact absurd h2 (by decide)) (fun e => e rfl)
 · show ¬ (((d : Nat) : Int) ≠ ((d : Nat) : Int) ∨ ((a : Nat) : Int) < ((a : Nat) : Int)); omega
section
variable {a d nm b : Nat} {us : List Nat} {r : VoR} {gr : Nat} {uA : Option Addr} {uc : Nat}
theorem qQ8 (hnm : nm < 5) : qTB (vtW a d nm b us r) = qBB nm := by
 show Sha.tagged 16 [wN nm, qBM (Wo.opn (qAG nm)) (Xm.root (qAG nm) 2) ((2 : Nat) : Int)] = _
 unfold qBM
 rw [if_pos ⟨by decide, by decide, Wo.opn_length _, qBh hnm⟩]; rfl
theorem qLs (ha : a ≤ 5) (hd : d ≤ 1) (hnm : nm < a) (hp : VoP a d nm b us gr uA uc r) : qI9 (pW a d) (vtW a d nm b us r) = true := by
 have h := qMh (qB2 ha) (qB6 nm) hp.st
 rw [qQs ha hnm] at h
 unfold qI9
 rw [qQ8 (by omega), br23 ha hd (qAM nm)]
 exact h
theorem qLr (hp : VoP a d nm b us gr uA uc r) : qJY (vtW a d nm b us r) = true := by
 have hi : us.getD nm 0 % 4 < 2 ^ 2 := Nat.mod_lt _ (by decide)
 have e := Wo.recPub (qAG nm) (us.getD nm 0 % 4) (Xm.digest (Wo.opn (qAG nm)) (us.getD nm 0 % 4) (atM 1 b nm (nW a d).dig)) (by rw [Xm.digest_length]; decide)
 unfold qJY
 refine decide_eq_true ?_
 show Mk.climb (Wo.publicOf (Wo.opn (qAG nm)) (us.getD nm 0 % 4) (Wo.ends (Wo.opn (qAG nm)) (us.getD nm 0 % 4) (Wo.digs (Xm.digest (Wo.opn (qAG nm)) (us.getD nm 0 % 4) (atM 1 b nm (nW a d).dig))) (sgC (qAG nm) (us.getD nm 0 % 4) (atM 1 b nm (nW a d).dig)) 35)) (us.getD nm 0 % 4) (sgP (qAG nm) 2 (us.getD nm 0 % 4)) = Xm.root (qAG nm) 2
 unfold sgC
 rw [e]
 exact qJF (qAG nm) 2 _ hi
theorem qCt {G : Hp} (ha : a ≤ 5) (hd : d ≤ 1) (hnm : nm < a) (hb : b < 16) (hp : VoP a d nm b us gr uA uc r) (h1 : Le r.m1 G) (h2 : Le r.m2 G) (h3 : Le r.m3 G) : qCb G (vtW a d nm b us r) where
 ch := hp.r1.sl.mono h1
 pt := hp.r2.sl.mono h2
 bs := hp.r3.sl.mono h3
 good := qKz (qB2 ha) (qB6 nm) hp.st
 pvl := qK5 (qB2 ha) (qAM nm) r.s
 ch35 := qMI _ _ _
 ch16 := qTJ _ _ _
 ptl := qMH _ _ _
 pt16 := qTI _ (Nat.mod_lt _ (by decide))
 h6 := by show 2 ≤ 6; decide
 hi := Nat.mod_lt _ (by decide)
 an := Nat.le_of_ble_eq_true rfl
 op := by show (Wo.opn (qAG nm)).length ≤ _; rw [Wo.opn_length]; decide
 rt := by show (Xm.root (qAG nm) 2).length ≤ _; rw [qBh (by omega)]; decide
 pe := qLq (by omega)
 b16 := hb
 nm64 := by show nm < 64; omega
 ep := by show 1 ≤ _; decide
 hd := qAs (qB8 ha hd)
theorem qHd {v : VtD} {W : Nat → List Int} {sl n : Nat} {x y : Hd} (hy : y.dig ≠ []) (he : v.ep = y.ep) (hh : v.hd = y.dig) (hs : qDd W sl n v.b v.nm = true) (h1 : qI9 x v = true) (h2 : qJY v = true) : qC0 x y W sl n v = 0 := by
 unfold qC0
 rw [if_neg (fun h => h.elim hy (fun h => h.elim (fun h => h he) (fun h => h hh))), hs, if_neg (by decide), h1, if_neg (by decide), h2, if_neg (by decide)]
theorem qLt {W : Nat → List Int} {sl n : Nat} (ha : a ≤ 5) (hd : d ≤ 1) (hnm : nm < a) (hp : VoP a d nm b us gr uA uc r) (hs : qDd W sl n b nm = true) : qC0 (pW a d) (nW a d) W sl n (vtW a d nm b us r) = 0 :=
 qHd (fun e => by have := qAs (qB8 ha hd); rw [e] at this; cases this) rfl rfl hs (qLs ha hd hnm hp) (qLr hp)
end
theorem qMQ {x y : Hd} {W : Nat → List Int} {sl n nd : Nat} {vs : List VtD} (h1 : ∀ i, i < vs.length → qEM vs i = false) (h2 : ∀ i, i < vs.length → qC0 x y W sl n (vs.getD i qAN) = 0) : ∀ k, k ≤ vs.length → qFv x y W sl n nd vs k = if ∀ b, b < n → nd ≤ qJE vs b then 0 else 16
 | 0, _ => rfl
 | k + 1, hk => by
  rw [qFv, h1 _ (by omega), if_neg (by decide), if_pos (h2 _ (by omega))]
  exact qMQ h1 h2 k (by omega)
theorem qJG {x y : Hd} {W : Nat → List Int} {sl n nd : Nat} {vs : List VtD} (hn : x.next y = 0) (h1 : ∀ i, i < vs.length → qEM vs i = false) (h2 : ∀ i, i < vs.length → qC0 x y W sl n (vs.getD i qAN) = 0) : qCo x y W sl n nd vs = ((if ∀ b, b < n → nd ≤ qJE vs b then 0 else 16 : Nat) : Int) := by
 unfold qCo
 rw [if_pos hn, qMQ h1 h2 _ (Nat.le_refl _)]
theorem qOi {m : Hp} {e : TypeId} {sz : Nat} {A : Option Addr} {n c : Nat} {xs : List (List Value)} (h : Row m e sz A n c xs) (hn : 0 < n) : ∃ g, A = some ⟨g, 0, none⟩ := by
 obtain ⟨_, _, hnc, hcase⟩ := h
 rcases hcase with ⟨_, hc, _⟩ | ⟨g, _, _, _, hA, _⟩
 · omega
 · exact ⟨g, hA⟩
structure WdH where
 gw : Nat
 gt : Nat
 gr : Nat
 gs : List Nat
 kA : Option Addr
 kc : Nat
 nA : Option Addr
 nc : Nat
 gu : Nat
 uc : Nat
 mr : Hp
 mu : Hp
 H : Hp
structure WdHP (a d : Nat) (r : WdH) : Prop where
 w : qAS r.H ⟨r.gw, 0, none⟩ (wdC r.gt r.gr r.kA a r.kc r.nA (qAI (qAB a) d).length r.nc a d (some ⟨r.gu, 0, none⟩) r.uc)
 gl : r.gs.length = a
 kr : Sl r.H 1 r.kA a r.kc (qCu r.gs)
 ks : qEc r.H r.gs
 ro : qJP r.mr r.gr (wL a)
 ur : Row r.mu 3 1 (some ⟨r.gu, 0, none⟩) a r.uc (qA9 (List.replicate a 0))
 t : qEb r.H r.gt (qAB a)
 nr : Sl r.H 1 r.nA (qAI (qAB a) d).length r.nc (qAJ (qAI (qAB a) d))
theorem qEj (F : Hp) (hK : KF F) (hA : qAS F ⟨1, 0, none⟩ qBo) (hT : qCP F) (a d : Nat) (h1 : 1 ≤ a) (ha : a ≤ 5) (hd : d ≤ 1) : Ct prog 8 [I ((a : Nat) : Int), I ((d : Nat) : Int)] [F] (fun r : WdH => Ptr r.gw) (fun r => WdHP a d r) (fun r => [F, r.mr, r.mu, r.H]) := fun w0 w hw =>
 (qI4 F hK hA hT a d ha hd w0 w hw).mono fun e w' ⟨r, he, hp, hs⟩ => by
  obtain ⟨gu, hgu⟩ := qOi hp.ur (by omega)
  have hs2 := hs.pick [5, 1, 2, 4, 7, 0, 3, 6] (by decide)
  have hj := St.joinUs (A := [r.G, blk r.gw (wdC r.gt r.gr r.kA a r.kc r.nA (qAI (qAB a) d).length r.nc a d r.uA r.uc) 42, r.mt, r.mq, r.mn]) (r := [F, r.mr, r.mu]) hs2
  have hl : ∀ m ∈ [r.G, blk r.gw (wdC r.gt r.gr r.kA a r.kc r.nA (qAI (qAB a) d).length r.nc a d r.uA r.uc) 42, r.mt, r.mq, r.mn], Le m (U [r.G, blk r.gw (wdC r.gt r.gr r.kA a r.kc r.nA (qAI (qAB a) d).length r.nc a d r.uA r.uc) 42, r.mt, r.mq, r.mn]) := fun m hm => qHJ hj.1 hm
  refine ⟨⟨r.gw, r.gt, r.gr, r.gs, r.kA, r.kc, r.nA, r.nc, gu, r.uc, r.mr, r.mu, _⟩, he, ⟨?_, hp.gl, hp.kr.sl.mono (hl _ (by simp)), hp.ks.mono (hl _ (by simp)), hp.ro, by have := hp.ur; rw [hgu] at this; exact this, hp.t.at.mono (hl _ (by simp)), hp.nr.sl.mono (hl _ (by simp))⟩, hj.2.pick [1, 2, 3, 0] (by decide)⟩
  have hc : qAS (blk r.gw (wdC r.gt r.gr r.kA a r.kc r.nA (qAI (qAB a) d).length r.nc a d r.uA r.uc) 42) ⟨r.gw, 0, none⟩ (wdC r.gt r.gr r.kA a r.kc r.nA (qAI (qAB a) d).length r.nc a d (some ⟨gu, 0, none⟩) r.uc) := by
   rw [hgu]; exact qAS.blk0
  exact hc.mono (hl _ (by simp))
end Go.Proofs.YtfldiegfenndjaaGreatDoor
namespace Go.Proofs.YtfldiegfenndjaaGreatDoor
open Go Go.Fw Go.Proofs.Tryz
set_option maxRecDepth 100000
set_option maxHeartbeats 1000000
theorem ent8 : qAF prog 8 := qAF.of func8 rfl (by kernel_rfl)
theorem ent12 : qAF prog 12 := qAF.of func12 rfl (by kernel_rfl)
theorem ent13 : qAF prog 13 := qAF.of func13 rfl (by kernel_rfl)
theorem el60 : qDu prog 60 [.int .u64 0, .int .i64 0, Str [], .int .i64 0, .int .i64 0, .slice none 0 0, .slice none 0 0, Str [], Str [], Str [], .int .i64 0, .slice none 0 0, .bool false, Str [], Str []] 216 := qDu.of (by kernel_rfl) rfl
theorem qBc {l : List VtD} {x : List Value} (h : x ∈ qBE l) : x.length = 15 := by
 obtain ⟨v, _, rfl⟩ := List.mem_map.1 h; rfl
theorem qIo {n : Nat} (j : Nat) : (List.replicate n 0).getD j 0 ≤ 1000000 := by
 rw [List.getD_eq_getElem?_getD, List.getElem?_replicate]
 split <;> exact Nat.zero_le _
theorem qQY (vs : List VtD) : qEM vs 0 = false := rfl
theorem qJx {v : VtD} {p : VtD → Prop} (h : p v) : ∀ i, i < [v].length → p ([v].getD i qAN) := fun i hi => by
 have : i < 1 := hi
 obtain rfl : i = 0 := by omega
 exact h
theorem qGn {us : List Nat} {r : VoR} {gr : Nat} {uA : Option Addr} {uc : Nat} (hp : VoP 1 0 0 0 us gr uA uc r) : qCo (pW 1 0) (nW 1 0) (qDS 1 0 1) 1 (2 ^ 0) 1 [vtW 1 0 0 0 us r] = 0 := by
  have hs : qDd (qDS 1 0 1) 1 (2 ^ 0) 0 0 = true := by decide +kernel
  rw [qJG (qM8 (by decide) (by decide)) (fun i hi => by have : i < 1 := hi; rw [show i = 0 by omega]; rfl) (qJx (p := fun v => qC0 (pW 1 0) (nW 1 0) (qDS 1 0 1) 1 (2 ^ 0) v = 0) (qLt (by decide) (by decide) (by decide) hp hs)), if_pos]
  · rfl
  · intro b hb
    rw [show b = 0 from Nat.lt_one_iff.1 hb]
    exact Nat.le_refl 1
theorem qGm : qCo (pW 1 0) (nW 1 0) (qDS 1 0 1) 1 (2 ^ 0) 1 [] = 16 := by
  rw [qJG (vs := []) (qM8 (by decide) (by decide)) (fun i hi => absurd (show i < 0 from hi) (Nat.not_lt_zero i)) (fun i hi => absurd (show i < 0 from hi) (Nat.not_lt_zero i)), if_neg]
  · rfl
  · intro h
    exact absurd (h 0 (by decide)) (by decide)
attribute [local irreducible] qBp qAB Hd.dig Sm.nd Xm.root Wo.opn
theorem qIr (F : Hp) (hK : KF F) (hA : qAS F ⟨1, 0, none⟩ qBo) (hT : qCP F) : Ct prog 7 [] [F] (fun _ : Unit => .bool true) (fun _ => True) (fun _ => [F]) := by
 refine Ct.walk func7 rfl ntmps7 rfl (fun w0 hw0 => ?_)
 change J _ [] _ _ _
 refine J.g fun K1 hK1 => J.b rfl <| J.c hK1 <| J.c7 [] trivial <| J.g fun K2 hK2 => J.q (qAC rfl rfl ent8 (Ct.use (new := fun r : WdH => [r.mr, r.mu, r.H]) (fun F' hF => qEj F' (hK.mo hF) (hA.mono (hF F (by simp))) (hT.mono (hF F (by simp))) 1 0 (by decide) (by decide) (by decide)))) rfl ?_
 rintro ⟨gw, gt, gr, gs, kA, kc, nA, nc, gu, uc, mr, mu, H⟩ hw
 try dsimp only at hw
 change J _ ((4, Ptr gw) :: _) _ [F, mr, mu, H] _
 obtain ⟨hw, hgl, hkr, hks, hro, hur, hTr, hnr⟩ := hw
 dsimp only at hw hgl hkr hks hro hur hTr hnr
 refine J.b rfl <| J.c hK2 <| J.u 1 ?_
 refine J.p fun K3 hK3 => J.g fun K4 hK4 => J.b rfl <| J.f ((qBk underlying27 rfl rfl rfl).as (v' := .bool false) rfl) rfl <| J.c hK4 <| J.G 1 6 ?_
 refine J.b2 ?_
 refine J.a1 hK3 <| J.u 1 ?_
 refine J.p fun K5 hK5 => J.c4 [1, 2, 0, 3] [mr, mu, F, H] rfl (by decide) <| J.c0 [H] [9] (.y 0 (.y 1 (.y 2 (.y 3 (.y 4 (.br (.e 5 (.br (.e 6 (.y 7 (.e 8 (.e 9 .nil)))) (.e 8 (.e 6 (.y 7 (.e 9 .nil)))))) (.e 8 (.e 5 (.e 6 (.y 7 (.e 9 .nil))))))))))) Tryz.wide (by decide +kernel) (by simp) ?_
 refine J.V ?_
 refine J.k rfl (qAD rfl rfl) rfl rfl <| J.k rfl (qAA (j := 8) rfl rfl qCf rfl qBf rfl) rfl rfl <| J.k rfl (qAd (vs := [N64 1, Str ((pW 1 0).dig), I ((0 : Nat) : Int), I ((1 : Nat) : Int), .slice nA ((qAI (qAB 1) 0).length) nc]) rfl rfl qDR qBf (m := H) (by simp) (hw.sub 8 5) rfl) rfl rfl <| J.V ?_
 refine J.d9 ?_ ?_
 ·
  refine J.a2 rfl (qAC rfl rfl ent12 (Ct.useA [mr, mu] [F, H] (A' := fun r : VoR => [r.mr, r.mu]) (new := fun r : VoR => [r.m1, r.m2, r.m3]) (fun F' hF => qCz F' mr mu (hK.mo hF) 1 0 0 0 gw gt gr kc (qAI (qAB 1) 0).length nc uc gu kA nA gs (List.replicate 1 0) (by decide) (by decide) (by decide) (by decide) (qAs (qBP (by decide) (by decide))) (qAs (qB8 (by decide) (by decide))) (hw.mono (hF H (by simp))) hgl (hkr.mono (hF H (by simp))) (hks.mono (hF H (by simp))) hro rfl (fun j => qIo j) hur (hTr.mono (hF H (by simp))) rfl (hnr.mono (hF H (by simp)))))) rfl (by simp) ?_
  rintro ⟨A1a, c1a, m1a, A2a, c2a, m2a, s3a, A3a, c3a, m3a, mra, mua⟩ hva
  try dsimp only at hva
  change J _ ((12, .agg (vtW 1 0 0 0 (List.replicate 1 0) ⟨A1a, c1a, m1a, A2a, c2a, m2a, s3a, A3a, c3a, m3a, mra, mua⟩).cells.toArray) :: _) _ [mra, mua, F, H, m1a, m2a, m3a] _
  obtain ⟨va, hva_⟩ : ∃ v, v = vtW 1 0 0 0 (List.replicate 1 0) ⟨A1a, c1a, m1a, A2a, c2a, m2a, s3a, A3a, c3a, m3a, mra, mua⟩ := ⟨_, rfl⟩
  rw [← hva_]
  refine J.d9 ?_ ?_
  ·
   refine J.a2 rfl (qAH (l := [.tmp 12]) (xs := qBE [va]) rfl rfl rfl rfl qEJ el60 rfl (by decide) (by decide) (fun x hx => qBc hx)) rfl (by simp) ?_
   rintro g13 _
   change J _ ((13, .slice (some ⟨g13, 0, none⟩) 1 1) :: _) _ [_, _, _, _, _, _, _, blk g13 (qBE [va]).flatten 60] _
   refine J.k rfl (qAL (l := [(0, .tmp 10), (1, .tmp 13)]) (vs := [.agg #[N64 1, Str (pW 1 0).dig, I ((0 : Nat) : Int), I ((1 : Nat) : Int), .slice nA ((qAI (qAB 1) 0).length) nc], .slice (some ⟨g13, 0, none⟩) 1 1]) (places := [(0, 5), (5, 1)]) (r := [N64 1, Str (pW 1 0).dig, I ((0 : Nat) : Int), I ((1 : Nat) : Int), .slice nA ((qAI (qAB 1) 0).length) nc, .slice (some ⟨g13, 0, none⟩) 1 1]) rfl rfl rfl qF8 qIH (fun _ => by kernel_rfl) (by kernel_rfl)) rfl rfl <| J.a2 rfl (qAe (l := [.int .u64 0, Str [], I 0, I 0, .slice none 0 0, .slice none 0 0]) rfl qIH rfl) rfl (by simp) fun g2 _ => ?_
   change J _ _ _ [_, _, _, _, _, _, _, _, blk g2 [.int .u64 0, Str [], I 0, I 0, .slice none 0 0, .slice none 0 0] 45] _
   refine J.c8 rfl (qAP (i := 8) (l := [.int .u64 0, Str [], I 0, I 0, .slice none 0 0, .slice none 0 0]) (vs := [N64 1, Str (pW 1 0).dig, I ((0 : Nat) : Int), I ((1 : Nat) : Int), .slice nA ((qAI (qAB 1) 0).length) nc, .slice (some ⟨g13, 0, none⟩) 1 1]) rfl rfl rfl rfl rfl qLb rfl rfl) rfl rfl rfl fun _ _ => ?_
   change J _ _ _ [_, _, _, _, _, _, _, _, blk g2 [N64 1, Str (pW 1 0).dig, I ((0 : Nat) : Int), I ((1 : Nat) : Int), .slice nA ((qAI (qAB 1) 0).length) nc, .slice (some ⟨g13, 0, none⟩) 1 1] 45] _
   refine J.b3 <| J.A (J.L hK5 ?_)
   refine J.G 1 2 ?_
   refine J.p fun K6 hK6 => J.c4 [4, 5, 6, 2, 3, 7, 8] [m1a, m2a, m3a, F, H, blk g13 (qBE [va]).flatten 60, blk g2 [N64 1, Str (pW 1 0).dig, I ((0 : Nat) : Int), I ((1 : Nat) : Int), .slice nA ((qAI (qAB 1) 0).length) nc, .slice (some ⟨g13, 0, none⟩) 1 1] 45] rfl (by decide) <| J.M <| J.f (qAL (l := [(0, .const ((Value.int IntKind.i64 1))), (1, .const ((Value.int IntKind.i64 1)))]) (vs := [I ((1 : Nat) : Int), I ((1 : Nat) : Int)]) (places := [(0, 1), (1, 1)]) (r := [I ((1 : Nat) : Int), I ((1 : Nat) : Int)]) rfl rfl rfl qHg qPu (fun _ => by kernel_rfl) (by kernel_rfl)) rfl <| J.q (qAe (l := [I 0, I 0]) rfl qPu rfl) rfl fun g3 _ => ?_
   change J _ _ _ [m1a, m2a, m3a, F, H, blk g13 (qBE [va]).flatten 60, blk g2 [N64 1, Str (pW 1 0).dig, I ((0 : Nat) : Int), I ((1 : Nat) : Int), .slice nA ((qAI (qAB 1) 0).length) nc, .slice (some ⟨g13, 0, none⟩) 1 1] 45, blk g3 [I 0, I 0] 26] _
   refine J.b4 (qAP (i := 7) (l := [I 0, I 0]) (vs := [I ((1 : Nat) : Int), I ((1 : Nat) : Int)]) rfl rfl rfl rfl rfl qId rfl rfl) rfl rfl fun _ _ => ?_
   change J _ _ _ [_, _, _, _, _, _, _, blk g3 [I ((1 : Nat) : Int), I ((1 : Nat) : Int)] 26] _
   refine J.c6 (fun hj1 => ?_)
   refine J.c6 (fun hj2 => ?_)
   refine J.c hK6 <| J.O 1 2 3 ?_
   refine J.p fun K7 hK7 => ?_
   have hle1 : Le m1a (U [U [m1a, m2a], m3a]) := (qBL hj1).trans (qBL hj2)
   have hle2 : Le m2a (U [U [m1a, m2a], m3a]) := (qDV hj1).trans (qBL hj2)
   have hvok : qCb (U [U [m1a, m2a], m3a]) va := hva_ ▸ qCt (by decide) (by decide) (by decide) (by decide) hva hle1 hle2 (qDV hj2)
   refine J.c0 [H, blk g2 [N64 1, Str (pW 1 0).dig, I ((0 : Nat) : Int), I ((1 : Nat) : Int), .slice nA ((qAI (qAB 1) 0).length) nc, .slice (some ⟨g13, 0, none⟩) 1 1] 45, blk g3 [I ((1 : Nat) : Int), I ((1 : Nat) : Int)] 26] [] (.y 0 (.y 1 (.y 2 (.y 3 (.y 4 (.y 5 (.e 6 (.y 7 (.y 8 (.y 9 (.y 10 (.y 11 (.y 12 (.y 13 (.y 14 (.y 15 (.y 16 (.y 17 (.y 18 (.e 19 (.y 20 (.y 21 (.y 22 .nil))))))))))))))))))))))) Tryz.wide (by decide +kernel) (by simp) ?_
   refine J.k rfl (qAg 1 rfl rfl rfl isAgg45 qLb rfl) rfl rfl <| J.V ?_
   refine J.k rfl (qAD rfl rfl) rfl rfl <| J.k rfl (qAA (j := 3) rfl rfl qCf rfl qBf rfl) rfl rfl <| J.k rfl (qAd (vs := [N64 0, Str (qA8), I ((0 : Nat) : Int), I ((1 : Nat) : Int), .slice nA ((qAI (qAB 1) 0).length) nc]) rfl rfl qDR qBf (m := H) (by simp) (hw.sub 3 5) rfl) rfl rfl <| J.k rfl (qAg 2 rfl rfl rfl qLf qId rfl) rfl rfl <| J.a2 rfl (qAC rfl rfl ent13 (Ct.use0 (fun F' hF => qBz F' (hK.mo hF) (pW 1 0) nA nc (qBr 1 (by decide)) (hnr.mono (hF H (by simp))) (nW 1 0) nA nc (qDA 1 (by decide) (qAs (qBP (by decide) (by decide)))) (hnr.mono (hF H (by simp))) (qBJ _ _ _) 0 1 1 1 (by decide) rfl (qBP (by decide) (by decide)) (by decide) (by decide) (by decide) (by decide) (qDS 1 0 1) (qCn (by decide) (by decide) (by decide) (by decide)) (some ⟨g13, 0, none⟩) 1 1 [va] ((qAn (q := True) (g := g13) (e := 60) (sz := 15) (xs := qBE [va]) rfl (fun x hx => qBc hx)).sl.mono (hF (blk g13 (qBE [va]).flatten 60) (by simp))) (by decide) (qJx (hvok.mono (hF (U [U [m1a, m2a], m3a]) (by simp))))))) rfl (by simp) fun g22 _ => J.k rfl ((qAa rfl rfl rfl).yes (by rw [hva_]; exact qGn hva)) rfl rfl <| J.V ?_
   refine J.b0 rfl (qAv rfl rfl) rfl rfl <| J.b0 rfl (qAD rfl rfl) rfl rfl <| J.b0 rfl (qAA (j := 8) rfl rfl qCf rfl qBf rfl) rfl rfl <| J.b0 rfl (qAd (vs := [N64 1, Str ((pW 1 0).dig), I ((0 : Nat) : Int), I ((1 : Nat) : Int), .slice nA ((qAI (qAB 1) 0).length) nc]) rfl rfl qDR qBf (m := H) (by simp) (hw.sub 8 5) rfl) rfl rfl <| J.b0 rfl (qAL (l := [(0, .tmp 28)]) (vs := [.agg #[N64 1, Str (pW 1 0).dig, I ((0 : Nat) : Int), I ((1 : Nat) : Int), .slice nA ((qAI (qAB 1) 0).length) nc]]) (places := [(0, 5), (5, 1)]) (r := [N64 1, Str (pW 1 0).dig, I ((0 : Nat) : Int), I ((1 : Nat) : Int), .slice nA ((qAI (qAB 1) 0).length) nc, .slice none 0 0]) rfl rfl rfl qF8 qIH (fun _ => by kernel_rfl) (by kernel_rfl)) rfl rfl <| J.b0 rfl (qAv rfl rfl) rfl rfl <| J.b0 rfl (qAD rfl rfl) rfl rfl <| J.b0 rfl (qAA (j := 3) rfl rfl qCf rfl qBf rfl) rfl rfl <| J.b0 rfl (qAd (vs := [N64 0, Str (qA8), I ((0 : Nat) : Int), I ((1 : Nat) : Int), .slice nA ((qAI (qAB 1) 0).length) nc]) rfl rfl qDR qBf (m := H) (by simp) (hw.sub 3 5) rfl) rfl rfl <| J.b0 rfl (qAg 2 rfl rfl rfl qLf qId rfl) rfl rfl <| J.e8 rfl (qAC rfl rfl ent13 (Ct.use0 (fun F' hF => qBz F' (hK.mo hF) (pW 1 0) nA nc (qBr 1 (by decide)) (hnr.mono (hF H (by simp))) (nW 1 0) nA nc (qDA 1 (by decide) (qAs (qBP (by decide) (by decide)))) (hnr.mono (hF H (by simp))) (qBJ _ _ _) 0 1 1 1 (by decide) rfl (qBP (by decide) (by decide)) (by decide) (by decide) (by decide) (by decide) (qDS 1 0 1) (qCn (by decide) (by decide) (by decide) (by decide)) none 0 0 [] Sl.nil (by decide) (fun i hi => absurd hi (Nat.not_lt_zero i))))) (Wan.is rfl rfl rfl rfl rfl) rfl rfl (by simp) ?_
   intro g35 _
   refine J.b0 rfl ((qAa rfl rfl rfl).yes (qGm)) rfl rfl <| J.e3 ?_
   refine J.c1 ?_
   refine J.b3 <| J.A (J.L hK7 ?_)
   refine J.u 0 ?_
   exact J.D <| J.H hw0 rfl () rfl trivial [1] rfl (by decide)
  refine J.a2 rfl (qAe (l := [.int .u64 0, Str [], I 0, I 0, .slice none 0 0, .slice none 0 0]) rfl qIH rfl) rfl (by simp) fun g2 _ => ?_
  change J _ _ _ [mra, mua, F, H, m1a, m2a, m3a, blk g2 [.int .u64 0, Str [], I 0, I 0, .slice none 0 0, .slice none 0 0] 45] _
  refine J.a2 rfl (qAH (l := [.tmp 12]) (xs := qBE [va]) rfl rfl rfl rfl qEJ el60 rfl (by decide) (by decide) (fun x hx => qBc hx)) rfl (by simp) ?_
  rintro g13 _
  change J _ ((13, .slice (some ⟨g13, 0, none⟩) 1 1) :: _) _ [_, _, _, _, _, _, _, _, blk g13 (qBE [va]).flatten 60] _
  refine J.k rfl (qAL (l := [(0, .tmp 10), (1, .tmp 13)]) (vs := [.agg #[N64 1, Str (pW 1 0).dig, I ((0 : Nat) : Int), I ((1 : Nat) : Int), .slice nA ((qAI (qAB 1) 0).length) nc], .slice (some ⟨g13, 0, none⟩) 1 1]) (places := [(0, 5), (5, 1)]) (r := [N64 1, Str (pW 1 0).dig, I ((0 : Nat) : Int), I ((1 : Nat) : Int), .slice nA ((qAI (qAB 1) 0).length) nc, .slice (some ⟨g13, 0, none⟩) 1 1]) rfl rfl rfl qF8 qIH (fun _ => by kernel_rfl) (by kernel_rfl)) rfl rfl <| J.c8 rfl (qAP (i := 7) (l := [.int .u64 0, Str [], I 0, I 0, .slice none 0 0, .slice none 0 0]) (vs := [N64 1, Str (pW 1 0).dig, I ((0 : Nat) : Int), I ((1 : Nat) : Int), .slice nA ((qAI (qAB 1) 0).length) nc, .slice (some ⟨g13, 0, none⟩) 1 1]) rfl rfl rfl rfl rfl qLb rfl rfl) rfl rfl rfl fun _ _ => ?_
  change J _ _ _ [_, _, _, _, _, _, _, blk g2 [N64 1, Str (pW 1 0).dig, I ((0 : Nat) : Int), I ((1 : Nat) : Int), .slice nA ((qAI (qAB 1) 0).length) nc, .slice (some ⟨g13, 0, none⟩) 1 1] 45, _] _
  refine J.b3 <| J.A (J.L hK5 ?_)
  refine J.G 1 2 ?_
  refine J.p fun K8 hK8 => J.c4 [4, 5, 6, 2, 3, 8, 7] [m1a, m2a, m3a, F, H, blk g13 (qBE [va]).flatten 60, blk g2 [N64 1, Str (pW 1 0).dig, I ((0 : Nat) : Int), I ((1 : Nat) : Int), .slice nA ((qAI (qAB 1) 0).length) nc, .slice (some ⟨g13, 0, none⟩) 1 1] 45] rfl (by decide) <| J.M <| J.f (qAL (l := [(0, .const ((Value.int IntKind.i64 1))), (1, .const ((Value.int IntKind.i64 1)))]) (vs := [I ((1 : Nat) : Int), I ((1 : Nat) : Int)]) (places := [(0, 1), (1, 1)]) (r := [I ((1 : Nat) : Int), I ((1 : Nat) : Int)]) rfl rfl rfl qHg qPu (fun _ => by kernel_rfl) (by kernel_rfl)) rfl <| J.q (qAe (l := [I 0, I 0]) rfl qPu rfl) rfl fun g3 _ => ?_
  change J _ _ _ [m1a, m2a, m3a, F, H, blk g13 (qBE [va]).flatten 60, blk g2 [N64 1, Str (pW 1 0).dig, I ((0 : Nat) : Int), I ((1 : Nat) : Int), .slice nA ((qAI (qAB 1) 0).length) nc, .slice (some ⟨g13, 0, none⟩) 1 1] 45, blk g3 [I 0, I 0] 26] _
  refine J.b4 (qAP (i := 7) (l := [I 0, I 0]) (vs := [I ((1 : Nat) : Int), I ((1 : Nat) : Int)]) rfl rfl rfl rfl rfl qId rfl rfl) rfl rfl fun _ _ => ?_
  change J _ _ _ [_, _, _, _, _, _, _, blk g3 [I ((1 : Nat) : Int), I ((1 : Nat) : Int)] 26] _
  refine J.c6 (fun hj1 => ?_)
  refine J.c6 (fun hj2 => ?_)
  refine J.c hK8 <| J.O 1 2 3 ?_
  refine J.p fun K9 hK9 => ?_
  have hle1 : Le m1a (U [U [m1a, m2a], m3a]) := (qBL hj1).trans (qBL hj2)
  have hle2 : Le m2a (U [U [m1a, m2a], m3a]) := (qDV hj1).trans (qBL hj2)
  have hvok : qCb (U [U [m1a, m2a], m3a]) va := hva_ ▸ qCt (by decide) (by decide) (by decide) (by decide) hva hle1 hle2 (qDV hj2)
  refine J.c0 [H, blk g2 [N64 1, Str (pW 1 0).dig, I ((0 : Nat) : Int), I ((1 : Nat) : Int), .slice nA ((qAI (qAB 1) 0).length) nc, .slice (some ⟨g13, 0, none⟩) 1 1] 45, blk g3 [I ((1 : Nat) : Int), I ((1 : Nat) : Int)] 26] [] (.y 0 (.y 1 (.y 2 (.y 3 (.y 4 (.y 5 (.e 6 (.y 7 (.y 8 (.y 9 (.y 10 (.y 11 (.y 12 (.y 13 (.y 14 (.y 15 (.y 16 (.y 17 (.y 18 (.e 19 (.y 20 (.y 21 (.y 22 .nil))))))))))))))))))))))) Tryz.wide (by decide +kernel) (by simp) ?_
  refine J.k rfl (qAg 1 rfl rfl rfl isAgg45 qLb rfl) rfl rfl <| J.V ?_
  refine J.k rfl (qAD rfl rfl) rfl rfl <| J.k rfl (qAA (j := 3) rfl rfl qCf rfl qBf rfl) rfl rfl <| J.k rfl (qAd (vs := [N64 0, Str (qA8), I ((0 : Nat) : Int), I ((1 : Nat) : Int), .slice nA ((qAI (qAB 1) 0).length) nc]) rfl rfl qDR qBf (m := H) (by simp) (hw.sub 3 5) rfl) rfl rfl <| J.k rfl (qAg 2 rfl rfl rfl qLf qId rfl) rfl rfl <| J.a2 rfl (qAC rfl rfl ent13 (Ct.use0 (fun F' hF => qBz F' (hK.mo hF) (pW 1 0) nA nc (qBr 1 (by decide)) (hnr.mono (hF H (by simp))) (nW 1 0) nA nc (qDA 1 (by decide) (qAs (qBP (by decide) (by decide)))) (hnr.mono (hF H (by simp))) (qBJ _ _ _) 0 1 1 1 (by decide) rfl (qBP (by decide) (by decide)) (by decide) (by decide) (by decide) (by decide) (qDS 1 0 1) (qCn (by decide) (by decide) (by decide) (by decide)) (some ⟨g13, 0, none⟩) 1 1 [va] ((qAn (q := True) (g := g13) (e := 60) (sz := 15) (xs := qBE [va]) rfl (fun x hx => qBc hx)).sl.mono (hF (blk g13 (qBE [va]).flatten 60) (by simp))) (by decide) (qJx (hvok.mono (hF (U [U [m1a, m2a], m3a]) (by simp))))))) rfl (by simp) fun g22 _ => J.k rfl ((qAa rfl rfl rfl).yes (by rw [hva_]; exact qGn hva)) rfl rfl <| J.V ?_
  refine J.b0 rfl (qAv rfl rfl) rfl rfl <| J.b0 rfl (qAD rfl rfl) rfl rfl <| J.b0 rfl (qAA (j := 8) rfl rfl qCf rfl qBf rfl) rfl rfl <| J.b0 rfl (qAd (vs := [N64 1, Str ((pW 1 0).dig), I ((0 : Nat) : Int), I ((1 : Nat) : Int), .slice nA ((qAI (qAB 1) 0).length) nc]) rfl rfl qDR qBf (m := H) (by simp) (hw.sub 8 5) rfl) rfl rfl <| J.b0 rfl (qAL (l := [(0, .tmp 28)]) (vs := [.agg #[N64 1, Str (pW 1 0).dig, I ((0 : Nat) : Int), I ((1 : Nat) : Int), .slice nA ((qAI (qAB 1) 0).length) nc]]) (places := [(0, 5), (5, 1)]) (r := [N64 1, Str (pW 1 0).dig, I ((0 : Nat) : Int), I ((1 : Nat) : Int), .slice nA ((qAI (qAB 1) 0).length) nc, .slice none 0 0]) rfl rfl rfl qF8 qIH (fun _ => by kernel_rfl) (by kernel_rfl)) rfl rfl <| J.b0 rfl (qAv rfl rfl) rfl rfl <| J.b0 rfl (qAD rfl rfl) rfl rfl <| J.b0 rfl (qAA (j := 3) rfl rfl qCf rfl qBf rfl) rfl rfl <| J.b0 rfl (qAd (vs := [N64 0, Str (qA8), I ((0 : Nat) : Int), I ((1 : Nat) : Int), .slice nA ((qAI (qAB 1) 0).length) nc]) rfl rfl qDR qBf (m := H) (by simp) (hw.sub 3 5) rfl) rfl rfl <| J.b0 rfl (qAg 2 rfl rfl rfl qLf qId rfl) rfl rfl <| J.e8 rfl (qAC rfl rfl ent13 (Ct.use0 (fun F' hF => qBz F' (hK.mo hF) (pW 1 0) nA nc (qBr 1 (by decide)) (hnr.mono (hF H (by simp))) (nW 1 0) nA nc (qDA 1 (by decide) (qAs (qBP (by decide) (by decide)))) (hnr.mono (hF H (by simp))) (qBJ _ _ _) 0 1 1 1 (by decide) rfl (qBP (by decide) (by decide)) (by decide) (by decide) (by decide) (by decide) (qDS 1 0 1) (qCn (by decide) (by decide) (by decide) (by decide)) none 0 0 [] Sl.nil (by decide) (fun i hi => absurd hi (Nat.not_lt_zero i))))) (Wan.is rfl rfl rfl rfl rfl) rfl rfl (by simp) ?_
  intro g35 _
  refine J.b0 rfl ((qAa rfl rfl rfl).yes (qGm)) rfl rfl <| J.e3 ?_
  refine J.c1 ?_
  refine J.b3 <| J.A (J.L hK9 ?_)
  refine J.u 0 ?_
  exact J.D <| J.H hw0 rfl () rfl trivial [1] rfl (by decide)
 refine J.a2 rfl (qAe (l := [.int .u64 0, Str [], I 0, I 0, .slice none 0 0, .slice none 0 0]) rfl qIH rfl) rfl (by simp) fun g2 _ => ?_
 change J _ _ _ [mr, mu, F, H, blk g2 [.int .u64 0, Str [], I 0, I 0, .slice none 0 0, .slice none 0 0] 45] _
 refine J.a2 rfl (qAC rfl rfl ent12 (Ct.useA [mr, mu] [F, H, blk g2 [.int .u64 0, Str [], I 0, I 0, .slice none 0 0, .slice none 0 0] 45] (A' := fun r : VoR => [r.mr, r.mu]) (new := fun r : VoR => [r.m1, r.m2, r.m3]) (fun F' hF => qCz F' mr mu (hK.mo hF) 1 0 0 0 gw gt gr kc (qAI (qAB 1) 0).length nc uc gu kA nA gs (List.replicate 1 0) (by decide) (by decide) (by decide) (by decide) (qAs (qBP (by decide) (by decide))) (qAs (qB8 (by decide) (by decide))) (hw.mono (hF H (by simp))) hgl (hkr.mono (hF H (by simp))) (hks.mono (hF H (by simp))) hro rfl (fun j => qIo j) hur (hTr.mono (hF H (by simp))) rfl (hnr.mono (hF H (by simp)))))) rfl (by simp) ?_
 rintro ⟨A1a, c1a, m1a, A2a, c2a, m2a, s3a, A3a, c3a, m3a, mra, mua⟩ hva
 try dsimp only at hva
 change J _ ((12, .agg (vtW 1 0 0 0 (List.replicate 1 0) ⟨A1a, c1a, m1a, A2a, c2a, m2a, s3a, A3a, c3a, m3a, mra, mua⟩).cells.toArray) :: _) _ [mra, mua, _, _, _, m1a, m2a, m3a] _
 obtain ⟨va, hva_⟩ : ∃ v, v = vtW 1 0 0 0 (List.replicate 1 0) ⟨A1a, c1a, m1a, A2a, c2a, m2a, s3a, A3a, c3a, m3a, mra, mua⟩ := ⟨_, rfl⟩
 rw [← hva_]
 refine J.a2 rfl (qAH (l := [.tmp 12]) (xs := qBE [va]) rfl rfl rfl rfl qEJ el60 rfl (by decide) (by decide) (fun x hx => qBc hx)) rfl (by simp) ?_
 rintro g13 _
 change J _ ((13, .slice (some ⟨g13, 0, none⟩) 1 1) :: _) _ [_, _, _, _, _, _, _, _, blk g13 (qBE [va]).flatten 60] _
 refine J.k rfl (qAL (l := [(0, .tmp 10), (1, .tmp 13)]) (vs := [.agg #[N64 1, Str (pW 1 0).dig, I ((0 : Nat) : Int), I ((1 : Nat) : Int), .slice nA ((qAI (qAB 1) 0).length) nc], .slice (some ⟨g13, 0, none⟩) 1 1]) (places := [(0, 5), (5, 1)]) (r := [N64 1, Str (pW 1 0).dig, I ((0 : Nat) : Int), I ((1 : Nat) : Int), .slice nA ((qAI (qAB 1) 0).length) nc, .slice (some ⟨g13, 0, none⟩) 1 1]) rfl rfl rfl qF8 qIH (fun _ => by kernel_rfl) (by kernel_rfl)) rfl rfl <| J.c8 rfl (qAP (i := 4) (l := [.int .u64 0, Str [], I 0, I 0, .slice none 0 0, .slice none 0 0]) (vs := [N64 1, Str (pW 1 0).dig, I ((0 : Nat) : Int), I ((1 : Nat) : Int), .slice nA ((qAI (qAB 1) 0).length) nc, .slice (some ⟨g13, 0, none⟩) 1 1]) rfl rfl rfl rfl rfl qLb rfl rfl) rfl rfl rfl fun _ _ => ?_
 change J _ _ _ [_, _, _, _, blk g2 [N64 1, Str (pW 1 0).dig, I ((0 : Nat) : Int), I ((1 : Nat) : Int), .slice nA ((qAI (qAB 1) 0).length) nc, .slice (some ⟨g13, 0, none⟩) 1 1] 45, _, _, _, _] _
 refine J.b3 <| J.A (J.L hK5 ?_)
 refine J.G 1 2 ?_
 refine J.p fun K10 hK10 => J.c4 [5, 6, 7, 2, 3, 8, 4] [m1a, m2a, m3a, F, H, blk g13 (qBE [va]).flatten 60, blk g2 [N64 1, Str (pW 1 0).dig, I ((0 : Nat) : Int), I ((1 : Nat) : Int), .slice nA ((qAI (qAB 1) 0).length) nc, .slice (some ⟨g13, 0, none⟩) 1 1] 45] rfl (by decide) <| J.M <| J.f (qAL (l := [(0, .const ((Value.int IntKind.i64 1))), (1, .const ((Value.int IntKind.i64 1)))]) (vs := [I ((1 : Nat) : Int), I ((1 : Nat) : Int)]) (places := [(0, 1), (1, 1)]) (r := [I ((1 : Nat) : Int), I ((1 : Nat) : Int)]) rfl rfl rfl qHg qPu (fun _ => by kernel_rfl) (by kernel_rfl)) rfl <| J.q (qAe (l := [I 0, I 0]) rfl qPu rfl) rfl fun g3 _ => ?_
 change J _ _ _ [m1a, m2a, m3a, F, H, blk g13 (qBE [va]).flatten 60, blk g2 [N64 1, Str (pW 1 0).dig, I ((0 : Nat) : Int), I ((1 : Nat) : Int), .slice nA ((qAI (qAB 1) 0).length) nc, .slice (some ⟨g13, 0, none⟩) 1 1] 45, blk g3 [I 0, I 0] 26] _
 refine J.b4 (qAP (i := 7) (l := [I 0, I 0]) (vs := [I ((1 : Nat) : Int), I ((1 : Nat) : Int)]) rfl rfl rfl rfl rfl qId rfl rfl) rfl rfl fun _ _ => ?_
 change J _ _ _ [_, _, _, _, _, _, _, blk g3 [I ((1 : Nat) : Int), I ((1 : Nat) : Int)] 26] _
 refine J.c6 (fun hj1 => ?_)
 refine J.c6 (fun hj2 => ?_)
 refine J.c hK10 <| J.O 1 2 3 ?_
 refine J.p fun K11 hK11 => ?_
 have hle1 : Le m1a (U [U [m1a, m2a], m3a]) := (qBL hj1).trans (qBL hj2)
 have hle2 : Le m2a (U [U [m1a, m2a], m3a]) := (qDV hj1).trans (qBL hj2)
 have hvok : qCb (U [U [m1a, m2a], m3a]) va := hva_ ▸ qCt (by decide) (by decide) (by decide) (by decide) hva hle1 hle2 (qDV hj2)
 refine J.c0 [H, blk g2 [N64 1, Str (pW 1 0).dig, I ((0 : Nat) : Int), I ((1 : Nat) : Int), .slice nA ((qAI (qAB 1) 0).length) nc, .slice (some ⟨g13, 0, none⟩) 1 1] 45, blk g3 [I ((1 : Nat) : Int), I ((1 : Nat) : Int)] 26] [] (.y 0 (.y 1 (.y 2 (.y 3 (.y 4 (.y 5 (.e 6 (.y 7 (.y 8 (.y 9 (.y 10 (.y 11 (.y 12 (.y 13 (.y 14 (.y 15 (.y 16 (.y 17 (.y 18 (.e 19 (.y 20 (.y 21 (.y 22 .nil))))))))))))))))))))))) Tryz.wide (by decide +kernel) (by simp) ?_
 refine J.k rfl (qAg 1 rfl rfl rfl isAgg45 qLb rfl) rfl rfl <| J.V ?_
 refine J.k rfl (qAD rfl rfl) rfl rfl <| J.k rfl (qAA (j := 3) rfl rfl qCf rfl qBf rfl) rfl rfl <| J.k rfl (qAd (vs := [N64 0, Str (qA8), I ((0 : Nat) : Int), I ((1 : Nat) : Int), .slice nA ((qAI (qAB 1) 0).length) nc]) rfl rfl qDR qBf (m := H) (by simp) (hw.sub 3 5) rfl) rfl rfl <| J.k rfl (qAg 2 rfl rfl rfl qLf qId rfl) rfl rfl <| J.a2 rfl (qAC rfl rfl ent13 (Ct.use0 (fun F' hF => qBz F' (hK.mo hF) (pW 1 0) nA nc (qBr 1 (by decide)) (hnr.mono (hF H (by simp))) (nW 1 0) nA nc (qDA 1 (by decide) (qAs (qBP (by decide) (by decide)))) (hnr.mono (hF H (by simp))) (qBJ _ _ _) 0 1 1 1 (by decide) rfl (qBP (by decide) (by decide)) (by decide) (by decide) (by decide) (by decide) (qDS 1 0 1) (qCn (by decide) (by decide) (by decide) (by decide)) (some ⟨g13, 0, none⟩) 1 1 [va] ((qAn (q := True) (g := g13) (e := 60) (sz := 15) (xs := qBE [va]) rfl (fun x hx => qBc hx)).sl.mono (hF (blk g13 (qBE [va]).flatten 60) (by simp))) (by decide) (qJx (hvok.mono (hF (U [U [m1a, m2a], m3a]) (by simp))))))) rfl (by simp) fun g22 _ => J.k rfl ((qAa rfl rfl rfl).yes (by rw [hva_]; exact qGn hva)) rfl rfl <| J.V ?_
 refine J.b0 rfl (qAv rfl rfl) rfl rfl <| J.b0 rfl (qAD rfl rfl) rfl rfl <| J.b0 rfl (qAA (j := 8) rfl rfl qCf rfl qBf rfl) rfl rfl <| J.b0 rfl (qAd (vs := [N64 1, Str ((pW 1 0).dig), I ((0 : Nat) : Int), I ((1 : Nat) : Int), .slice nA ((qAI (qAB 1) 0).length) nc]) rfl rfl qDR qBf (m := H) (by simp) (hw.sub 8 5) rfl) rfl rfl <| J.b0 rfl (qAL (l := [(0, .tmp 28)]) (vs := [.agg #[N64 1, Str (pW 1 0).dig, I ((0 : Nat) : Int), I ((1 : Nat) : Int), .slice nA ((qAI (qAB 1) 0).length) nc]]) (places := [(0, 5), (5, 1)]) (r := [N64 1, Str (pW 1 0).dig, I ((0 : Nat) : Int), I ((1 : Nat) : Int), .slice nA ((qAI (qAB 1) 0).length) nc, .slice none 0 0]) rfl rfl rfl qF8 qIH (fun _ => by kernel_rfl) (by kernel_rfl)) rfl rfl <| J.b0 rfl (qAv rfl rfl) rfl rfl <| J.b0 rfl (qAD rfl rfl) rfl rfl <| J.b0 rfl (qAA (j := 3) rfl rfl qCf rfl qBf rfl) rfl rfl <| J.b0 rfl (qAd (vs := [N64 0, Str (qA8), I ((0 : Nat) : Int), I ((1 : Nat) : Int), .slice nA ((qAI (qAB 1) 0).length) nc]) rfl rfl qDR qBf (m := H) (by simp) (hw.sub 3 5) rfl) rfl rfl <| J.b0 rfl (qAg 2 rfl rfl rfl qLf qId rfl) rfl rfl <| J.e8 rfl (qAC rfl rfl ent13 (Ct.use0 (fun F' hF => qBz F' (hK.mo hF) (pW 1 0) nA nc (qBr 1 (by decide)) (hnr.mono (hF H (by simp))) (nW 1 0) nA nc (qDA 1 (by decide) (qAs (qBP (by decide) (by decide)))) (hnr.mono (hF H (by simp))) (qBJ _ _ _) 0 1 1 1 (by decide) rfl (qBP (by decide) (by decide)) (by decide) (by decide) (by decide) (by decide) (qDS 1 0 1) (qCn (by decide) (by decide) (by decide) (by decide)) none 0 0 [] Sl.nil (by decide) (fun i hi => absurd hi (Nat.not_lt_zero i))))) (Wan.is rfl rfl rfl rfl rfl) rfl rfl (by simp) ?_
 intro g35 _
 refine J.b0 rfl ((qAa rfl rfl rfl).yes (qGm)) rfl rfl <| J.e3 ?_
 refine J.c1 ?_
 refine J.b3 <| J.A (J.L hK11 ?_)
 refine J.u 0 ?_
 exact J.D <| J.H hw0 rfl () rfl trivial [1] rfl (by decide)
end Go.Proofs.YtfldiegfenndjaaGreatDoor
