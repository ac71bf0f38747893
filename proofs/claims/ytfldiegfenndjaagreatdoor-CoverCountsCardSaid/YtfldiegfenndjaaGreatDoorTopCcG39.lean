/- A part of the proof. -/
import Derived.Test.YtfldiegfenndjaaGreatDoorTopCcG34
import Derived.Test.YtfldiegfenndjaaGreatDoorTopCcG37
import Derived.Test.YtfldiegfenndjaaGreatDoorTopCcG38
import Derived.Test.YtfldiegfenndjaaGreatDoorTopCcG31
import Derived.Test.YtfldiegfenndjaaGreatDoorTopCcG8
import Derived.Test.YtfldiegfenndjaaGreatDoorTopCcG23
set_option linter.unusedSimpArgs false
set_option linter.unusedVariables false
namespace Go.Proofs.YtfldiegfenndjaaGreatDoor
open Go Go.Fw Go.Proofs.Tryz
set_option maxRecDepth 100000
set_option maxHeartbeats 1000000
theorem qUC {a nm : Nat} (ha : a ≤ 5) (h : nm < a) : Sm.getP (qAD a) (qAM nm) = some (qBN nm) := by
 rw [qP3 (by omega)]
 exact Sm.getP_mem (p := (qBO nm, qBN nm)) (qCP ha).once (List.mem_map.2 ⟨nm, List.mem_range.2 h, rfl⟩)
theorem br23 {a d : Nat} (ha : a ≤ 5) (hd : d ≤ 1) (k : List UInt8) : qFo (pW a d).nodes (pW a d).dep = Sm.ndB (qAD a) k 0 := by
 have h := (qPd (qCP ha) (d := d) (by omega)).2
 have e : Sm.ndB (qAD a) k 0 = Sm.nd 128 (qAD a) := by
  show Sm.nd 128 (Sm.bel _ k 0) = _
  rw [Sm.bel_zero]
 rw [e]; exact h
theorem qNS {a d : Nat} (ha : a ≤ 5) (hd : d ≤ 1) : (pW a d).next (nW a d) = 0 := by
 have h1 := qGX ha hd
 have h2 := qAz ha hd
 refine qQz (by rw [h1]; decide) ?_ ?_ ?_
 · show ¬ (1 = 0 ∨ 1 - 1 ≠ 0); decide
 · exact fun e => e.elim (fun e => by rw [e] at h2; exact absurd h2 (by decide)) (fun e => e rfl)
 · show ¬ (((d : Nat) : Int) ≠ ((d : Nat) : Int) ∨ ((a : Nat) : Int) < ((a : Nat) : Int)); omega
section
variable {a d nm b : Nat} {us : List Nat} {r : VoR} {gr : Nat} {uA : Option Addr} {uc : Nat}
theorem qRT (hnm : nm < 5) : valV (vtW a d nm b us r) = qBN nm := by
 show Sha.tagged 16 [wN nm, qBe (Wo.opn (qAI nm)) (Xm.root (qAI nm) 2) ((2 : Nat) : Int)] = _
 unfold qBe
 rw [if_pos ⟨by decide, by decide, Wo.opn_length _, qCb hnm⟩]; rfl
theorem qRU (ha : a ≤ 5) (hd : d ≤ 1) (hnm : nm < a) (hp : VoP a d nm b us gr uA uc r) : qNg (pW a d) (vtW a d nm b us r) = true := by
 have h := qM2 (qCP ha) (qCc nm) hp.st
 rw [qUC ha hnm] at h
 unfold qNg
 rw [qRT (by omega), br23 ha hd (qAM nm)]
 exact h
theorem qRS (hp : VoP a d nm b us gr uA uc r) : qOS (vtW a d nm b us r) = true := by
 have hi : us.getD nm 0 % 4 < 2 ^ 2 := Nat.mod_lt _ (by decide)
 have e := Wo.recPub (qAI nm) (us.getD nm 0 % 4) (Xm.digest (Wo.opn (qAI nm)) (us.getD nm 0 % 4) (atM 1 b nm (nW a d).dig)) (by rw [Xm.digest_length]; decide)
 unfold qOS
 refine decide_eq_true ?_
 show Mk.climb (Wo.publicOf (Wo.opn (qAI nm)) (us.getD nm 0 % 4) (Wo.ends (Wo.opn (qAI nm)) (us.getD nm 0 % 4) (Wo.digs (Xm.digest (Wo.opn (qAI nm)) (us.getD nm 0 % 4) (atM 1 b nm (nW a d).dig))) (sgC (qAI nm) (us.getD nm 0 % 4) (atM 1 b nm (nW a d).dig)) 35)) (us.getD nm 0 % 4) (sgP (qAI nm) 2 (us.getD nm 0 % 4)) = Xm.root (qAI nm) 2
 unfold sgC
 rw [e]
 exact qJE (qAI nm) 2 _ hi
theorem qJX {G : Hp} (ha : a ≤ 5) (hd : d ≤ 1) (hnm : nm < a) (hb : b < 16) (hp : VoP a d nm b us gr uA uc r) (h1 : Le r.m1 G) (h2 : Le r.m2 G) (h3 : Le r.m3 G) : qKY G (vtW a d nm b us r) where
 ch := hp.r1.sl.mono h1
 pt := hp.r2.sl.mono h2
 bs := hp.r3.sl.mono h3
 good := qK8 (qCP ha) (qCc nm) hp.st
 pvl := qLF (qCP ha) (qAM nm) r.s
 ch35 := qMb _ _ _
 ch16 := qTf _ _ _
 ptl := qMa _ _ _
 pt16 := qTe _ (Nat.mod_lt _ (by decide))
 h6 := by show 2 ≤ 6; decide
 hi := Nat.mod_lt _ (by decide)
 an := Nat.le_of_ble_eq_true rfl
 op := by show (Wo.opn (qAI nm)).length ≤ _; rw [Wo.opn_length]; decide
 rt := by show (Xm.root (qAI nm) 2).length ≤ _; rw [qCb (by omega)]; decide
 pe := qMB (by omega)
 b16 := hb
 nm64 := by show nm < 64; omega
 ep := by show 1 ≤ _; decide
 hd := qBW (qGX ha hd)
theorem qMH {v : VtD} {W : Nat → List Int} {sl n : Nat} {x y : Hd} (hy : y.dig ≠ []) (he : v.ep = y.ep) (hh : v.hd = y.dig) (hs : qGn W sl n v.b v.nm = true) (h1 : qNg x v = true) (h2 : qOS v = true) : qGg x y W sl n v = 0 := by
 unfold qGg
 rw [if_neg (fun h => h.elim hy (fun h => h.elim (fun h => h he) (fun h => h hh))), hs, if_neg (by decide), h1, if_neg (by decide), h2, if_neg (by decide)]
theorem qHc {W : Nat → List Int} {sl n : Nat} (ha : a ≤ 5) (hd : d ≤ 1) (hnm : nm < a) (hp : VoP a d nm b us gr uA uc r) (hs : qGn W sl n b nm = true) : qGg (pW a d) (nW a d) W sl n (vtW a d nm b us r) = 0 :=
 qMH (fun e => by have := qBW (qGX ha hd); rw [e] at this; cases this) rfl rfl hs (qRU ha hd hnm hp) (qRS hp)
end
theorem qMj {x y : Hd} {W : Nat → List Int} {sl n nd : Nat} {vs : List VtD} (h1 : ∀ i, i < vs.length → qEK vs i = false) (h2 : ∀ i, i < vs.length → qGg x y W sl n (vs.getD i qAP) = 0) : ∀ k, k ≤ vs.length → qFz x y W sl n nd vs k = if ∀ b, b < n → nd ≤ qIc vs b then 0 else 16
 | 0, _ => rfl
 | k + 1, hk => by
  rw [qFz, h1 _ (by omega), if_neg (by decide), if_pos (h2 _ (by omega))]
  exact qMj h1 h2 k (by omega)
theorem qJF {x y : Hd} {W : Nat → List Int} {sl n nd : Nat} {vs : List VtD} (hn : x.next y = 0) (h1 : ∀ i, i < vs.length → qEK vs i = false) (h2 : ∀ i, i < vs.length → qGg x y W sl n (vs.getD i qAP) = 0) : qFm x y W sl n nd vs = ((if ∀ b, b < n → nd ≤ qIc vs b then 0 else 16 : Nat) : Int) := by
 unfold qFm
 rw [if_pos hn, qMj h1 h2 _ (Nat.le_refl _)]
theorem qJi {m : Hp} {e : TypeId} {sz : Nat} {A : Option Addr} {n c : Nat} {xs : List (List Value)} (h : Row m e sz A n c xs) (hn : 0 < n) : ∃ g, A = some ⟨g, 0, none⟩ := by
 obtain ⟨_, _, hnc, hcase⟩ := h
 rcases hcase with ⟨_, hc, _⟩ | ⟨g, _, _, _, hA, _⟩
 · omega
 · exact ⟨g, hA⟩
structure WdH where
 gw : Nat
 gt : Nat
 gr : Nat
 gs : List Nat
 kA : Option Addr
 kc : Nat
 nA : Option Addr
 nc : Nat
 gu : Nat
 uc : Nat
 mr : Hp
 mu : Hp
 H : Hp
structure WdHP (a d : Nat) (r : WdH) : Prop where
 w : qAV r.H ⟨r.gw, 0, none⟩ (wdC r.gt r.gr r.kA a r.kc r.nA (qAT (qAD a) d).length r.nc a d (some ⟨r.gu, 0, none⟩) r.uc)
 gl : r.gs.length = a
 kr : Sl r.H 1 r.kA a r.kc (qC2 r.gs)
 ks : qEY r.H r.gs
 ro : qId r.mr r.gr (wL a)
 ur : Row r.mu 3 1 (some ⟨r.gu, 0, none⟩) a r.uc (qAu (List.replicate a 0))
 t : qEX r.H r.gt (qAD a)
 nr : Sl r.H 1 r.nA (qAT (qAD a) d).length r.nc (qAL (qAT (qAD a) d))
theorem qEf (F : Hp) (hK : KF F) (hA : qAV F ⟨1, 0, none⟩ qBr) (hT : qCX F) (a d : Nat) (h1 : 1 ≤ a) (ha : a ≤ 5) (hd : d ≤ 1) : Ct prog 8 [I ((a : Nat) : Int), I ((d : Nat) : Int)] [F] (fun r : WdH => Ptr r.gw) (fun r => WdHP a d r) (fun r => [F, r.mr, r.mu, r.H]) := fun w0 w hw =>
 (qI4 F hK hA hT a d ha hd w0 w hw).mono fun e w' ⟨r, he, hp, hs⟩ => by
  obtain ⟨gu, hgu⟩ := qJi hp.ur (by omega)
  have hs2 := hs.pick [5, 1, 2, 4, 7, 0, 3, 6] (by decide)
  have hj := St.joinUs (A := [r.G, blk r.gw (wdC r.gt r.gr r.kA a r.kc r.nA (qAT (qAD a) d).length r.nc a d r.uA r.uc) 42, r.mt, r.mq, r.mn]) (r := [F, r.mr, r.mu]) hs2
  have hl : ∀ m ∈ [r.G, blk r.gw (wdC r.gt r.gr r.kA a r.kc r.nA (qAT (qAD a) d).length r.nc a d r.uA r.uc) 42, r.mt, r.mq, r.mn], Le m (U [r.G, blk r.gw (wdC r.gt r.gr r.kA a r.kc r.nA (qAT (qAD a) d).length r.nc a d r.uA r.uc) 42, r.mt, r.mq, r.mn]) := fun m hm => qHJ hj.1 hm
  refine ⟨⟨r.gw, r.gt, r.gr, r.gs, r.kA, r.kc, r.nA, r.nc, gu, r.uc, r.mr, r.mu, _⟩, he, ⟨?_, hp.gl, hp.kr.sl.mono (hl _ (by simp)), hp.ks.mono (hl _ (by simp)), hp.ro, by have := hp.ur; rw [hgu] at this; exact this, hp.t.at.mono (hl _ (by simp)), hp.nr.sl.mono (hl _ (by simp))⟩, hj.2.pick [1, 2, 3, 0] (by decide)⟩
  have hc : qAV (blk r.gw (wdC r.gt r.gr r.kA a r.kc r.nA (qAT (qAD a) d).length r.nc a d r.uA r.uc) 42) ⟨r.gw, 0, none⟩ (wdC r.gt r.gr r.kA a r.kc r.nA (qAT (qAD a) d).length r.nc a d (some ⟨gu, 0, none⟩) r.uc) := by
   rw [hgu]; exact qAV.blk0
  exact hc.mono (hl _ (by simp))
end Go.Proofs.YtfldiegfenndjaaGreatDoor
namespace Go.Proofs.YtfldiegfenndjaaGreatDoor
open Go Go.Fw Go.Proofs.Tryz
set_option maxRecDepth 100000
set_option maxHeartbeats 1000000
theorem ent8 : qAC prog 8 := qAC.of func8 rfl (by kernel_rfl)
theorem ent12 : qAC prog 12 := qAC.of func12 rfl (by kernel_rfl)
theorem ent13 : qAC prog 13 := qAC.of func13 rfl (by kernel_rfl)
theorem el60 : qDV prog 60 [.int .u64 0, .int .i64 0, Str [], .int .i64 0, .int .i64 0, .slice none 0 0, .slice none 0 0, Str [], Str [], Str [], .int .i64 0, .slice none 0 0, .bool false, Str [], Str []] 216 := qDV.of (by kernel_rfl) rfl
theorem qEa {l : List VtD} {x : List Value} (h : x ∈ qDW l) : x.length = 15 := by
 obtain ⟨v, _, rfl⟩ := List.mem_map.1 h; rfl
theorem qTY {n : Nat} (j : Nat) : (List.replicate n 0).getD j 0 ≤ 1000000 := by
 rw [List.getD_eq_getElem?_getD, List.getElem?_replicate]
 split <;> exact Nat.zero_le _
theorem qJ2 {v : VtD} {p : VtD → Prop} (h : p v) : ∀ i, i < [v].length → p ([v].getD i qAP) := fun i hi => by
 have : i < 1 := hi
 obtain rfl : i = 0 := by omega
 exact h
theorem qGm {us : List Nat} {r : VoR} {gr : Nat} {uA : Option Addr} {uc : Nat} (hp : VoP 1 0 0 0 us gr uA uc r) : qFm (pW 1 0) (nW 1 0) (qBR 1 0 1) 1 (2 ^ 0) 1 [vtW 1 0 0 0 us r] = 0 := by
  have hs : qGn (qBR 1 0 1) 1 (2 ^ 0) 0 0 = true := by decide +kernel
  rw [qJF (qNS (by decide) (by decide)) (fun i hi => by have : i < 1 := hi; rw [show i = 0 by omega]; rfl) (qJ2 (p := fun v => qGg (pW 1 0) (nW 1 0) (qBR 1 0 1) 1 (2 ^ 0) v = 0) (qHc (by decide) (by decide) (by decide) hp hs)), if_pos]
  · rfl
  · intro b hb
    rw [show b = 0 from Nat.lt_one_iff.1 hb]
    exact Nat.le_refl 1
theorem qGl : qFm (pW 1 0) (nW 1 0) (qBR 1 0 1) 1 (2 ^ 0) 1 [] = 16 := by
  rw [qJF (vs := []) (qNS (by decide) (by decide)) (fun i hi => absurd (show i < 0 from hi) (Nat.not_lt_zero i)) (fun i hi => absurd (show i < 0 from hi) (Nat.not_lt_zero i)), if_neg]
  · rfl
  · intro h
    exact absurd (h 0 (by decide)) (by decide)
attribute [local irreducible] qBt qAD Hd.dig Sm.nd Xm.root Wo.opn
theorem qIp (F : Hp) (hK : KF F) (hA : qAV F ⟨1, 0, none⟩ qBr) (hT : qCX F) : Ct prog 7 [] [F] (fun _ : Unit => .bool true) (fun _ => True) (fun _ => [F]) := by
 refine Ct.walk func7 rfl ntmps7 rfl (fun w0 hw0 => ?_)
 refine J.g fun K1 hK1 => J.b rfl <| J.c hK1 <| J.c6 [] trivial <| J.g fun K2 hK2 => J.u (qAB rfl rfl ent8 (Ct.use (fun F' hF => qEf F' (hK.mo hF) (hA.mono (hF F (by simp))) (hT.mono (hF F (by simp))) 1 0 (by decide) (by decide) (by decide)))) rfl ?_
 rintro ⟨gw, gt, gr, gs, kA, kc, nA, nc, gu, uc, mr, mu, H⟩ hw
 try dsimp only at hw
 obtain ⟨hw, hgl, hkr, hks, hro, hur, hTr, hnr⟩ := hw
 dsimp only at hw hgl hkr hks hro hur hTr hnr
 refine J.b rfl <| J.c hK2 <| J.A 1 ?_
 refine J.k fun K3 hK3 => J.g fun K4 hK4 => J.b rfl <| J.f ((qBm underlying27 rfl rfl rfl).as (v' := .bool false) rfl) rfl <| J.c hK4 <| J.M 1 6 ?_
 refine J.b6 ?_
 refine J.a1 hK3 <| J.A 1 ?_
 refine J.k fun K5 hK5 => J.c5 [1, 2, 0, 3] [mr, mu, F, H] rfl (by decide) <| J.b5 [H] [9] (.y 0 (.y 1 (.y 2 (.y 3 (.y 4 (.br (.e 5 (.br (.e 6 (.y 7 (.e 8 (.e 9 .nil)))) (.e 8 (.e 6 (.y 7 (.e 9 .nil)))))) (.e 8 (.e 5 (.e 6 (.y 7 (.e 9 .nil))))))))))) Tryz.wide (by decide +kernel) (by simp) ?_
 refine J.G ?_
 refine J.j rfl (qAE rfl rfl) rfl rfl <| J.j rfl (qAA rfl rfl qC3 rfl qB6 rfl) rfl rfl <| J.j rfl (qAh rfl rfl qEH qB6 (m := H) (by simp) (hw.sub 8 5) rfl) rfl rfl <| J.G ?_
 refine J.e9 ?_ ?_
 ·
  refine J.a7 rfl (qAB rfl rfl ent12 (Ct.useA [mr, mu] [F, H] (A' := fun r : VoR => [r.mr, r.mu]) (new := fun r : VoR => [r.m1, r.m2, r.m3]) (fun F' hF => qIj F' mr mu (hK.mo hF) 1 0 0 0 gw gt gr kc (qAT (qAD 1) 0).length nc uc gu kA nA gs (List.replicate 1 0) (by decide) (by decide) (by decide) (by decide) (qBW (qBp (by decide) (by decide))) (qBW (qGX (by decide) (by decide))) (hw.mono (hF H (by simp))) hgl (hkr.mono (hF H (by simp))) (hks.mono (hF H (by simp))) hro rfl (fun j => qTY j) hur (hTr.mono (hF H (by simp))) rfl (hnr.mono (hF H (by simp)))))) rfl (by simp) ?_
  rintro ⟨A1a, c1a, m1a, A2a, c2a, m2a, s3a, A3a, c3a, m3a, mra, mua⟩ hva
  try dsimp only at hva
  obtain ⟨va, hva_⟩ : ∃ v, v = vtW 1 0 0 0 (List.replicate 1 0) ⟨A1a, c1a, m1a, A2a, c2a, m2a, s3a, A3a, c3a, m3a, mra, mua⟩ := ⟨_, rfl⟩
  rw [← hva_]
  refine J.e9 ?_ ?_
  ·
   refine J.a7 rfl (qAH (l := [.tmp 12]) (xs := qDW [va]) rfl rfl rfl rfl qQr el60 rfl (by decide) (by decide) (fun x hx => qEa hx)) rfl (by simp) ?_
   rintro g13 _
   refine J.j rfl (qAQ (places := [(0, 5), (5, 1)]) (r := [N64 1, Str (pW 1 0).dig, I ((0 : Nat) : Int), I ((1 : Nat) : Int), .slice nA ((qAT (qAD 1) 0).length) nc, .slice (some ⟨g13, 0, none⟩) 1 1]) rfl rfl rfl qLw qOY (fun _ => by kernel_rfl) (by kernel_rfl)) rfl rfl <| J.a7 rfl (qAf rfl qOY rfl) rfl (by simp) fun g2 _ => J.c8 rfl (qAR (i := 8) (l := [.int .u64 0, Str [], I 0, I 0, .slice none 0 0, .slice none 0 0]) (vs := [N64 1, Str (pW 1 0).dig, I ((0 : Nat) : Int), I ((1 : Nat) : Int), .slice nA ((qAT (qAD 1) 0).length) nc, .slice (some ⟨g13, 0, none⟩) 1 1]) rfl rfl rfl rfl rfl sizeOf45 rfl rfl) rfl rfl rfl fun _ _ => J.b4 <| J.q (J.H hK5 ?_)
   refine J.M 1 2 ?_
   refine J.k fun K6 hK6 => J.c5 [4, 5, 6, 2, 3, 7, 8] [m1a, m2a, m3a, F, H, blk g13 (qDW [va]).flatten 60, blk g2 [N64 1, Str (pW 1 0).dig, I ((0 : Nat) : Int), I ((1 : Nat) : Int), .slice nA ((qAT (qAD 1) 0).length) nc, .slice (some ⟨g13, 0, none⟩) 1 1] 45] rfl (by decide) <| J.E <| J.f (qAQ (places := [(0, 1), (1, 1)]) (r := [I ((1 : Nat) : Int), I ((1 : Nat) : Int)]) rfl rfl rfl qOU qRE (fun _ => by kernel_rfl) (by kernel_rfl)) rfl <| J.u (qAf rfl qRE rfl) rfl fun g3 _ => J.c1 (qAR (i := 7) (l := [I 0, I 0]) (vs := [I ((1 : Nat) : Int), I ((1 : Nat) : Int)]) rfl rfl rfl rfl rfl qKa rfl rfl) rfl rfl fun _ _ => J.d9 (fun hj1 => ?_)
   refine J.d9 (fun hj2 => ?_)
   refine J.c hK6 <| J.V 1 2 3 ?_
   refine J.k fun K7 hK7 => ?_
   have hle1 : Le m1a (U [U [m1a, m2a], m3a]) := (qHK hj1).trans (qHK hj2)
   have hle2 : Le m2a (U [U [m1a, m2a], m3a]) := (qLc hj1).trans (qHK hj2)
   have hvok : qKY (U [U [m1a, m2a], m3a]) va := hva_ ▸ qJX (by decide) (by decide) (by decide) (by decide) hva hle1 hle2 (qLc hj2)
   refine J.b5 [H, blk g2 [N64 1, Str (pW 1 0).dig, I ((0 : Nat) : Int), I ((1 : Nat) : Int), .slice nA ((qAT (qAD 1) 0).length) nc, .slice (some ⟨g13, 0, none⟩) 1 1] 45, blk g3 [I ((1 : Nat) : Int), I ((1 : Nat) : Int)] 26] [] (.y 0 (.y 1 (.y 2 (.y 3 (.y 4 (.y 5 (.e 6 (.y 7 (.y 8 (.y 9 (.y 10 (.y 11 (.y 12 (.y 13 (.y 14 (.y 15 (.y 16 (.y 17 (.y 18 (.e 19 (.y 20 (.y 21 (.y 22 .nil))))))))))))))))))))))) Tryz.wide (by decide +kernel) (by simp) ?_
   refine J.j rfl (qAk 1 rfl rfl rfl isAgg45 sizeOf45 rfl) rfl rfl <| J.G ?_
   refine J.j rfl (qAE rfl rfl) rfl rfl <| J.j rfl (qAA rfl rfl qC3 rfl qB6 rfl) rfl rfl <| J.j rfl (qAh rfl rfl qEH qB6 (m := H) (by simp) (hw.sub 3 5) rfl) rfl rfl <| J.j rfl (qAk 2 rfl rfl rfl isAgg26 qKa rfl) rfl rfl <| J.a7 rfl (qAB rfl rfl ent13 (Ct.use0 (fun F' hF => qCI F' (hK.mo hF) (pW 1 0) nA nc (qCS 1 (by decide)) (hnr.mono (hF H (by simp))) (nW 1 0) nA nc (qDE 1 (by decide) (qBW (qBp (by decide) (by decide)))) (hnr.mono (hF H (by simp))) (qBU _ _ _) 0 1 1 1 (by decide) rfl (qBp (by decide) (by decide)) (by decide) (by decide) (by decide) (by decide) (qBR 1 0 1) (qDI (by decide) (by decide) (by decide) (by decide)) (some ⟨g13, 0, none⟩) 1 1 [va] ((qAr (q := True) (g := g13) (e := 60) (sz := 15) (xs := qDW [va]) rfl (fun x hx => qEa hx)).sl.mono (hF (blk g13 (qDW [va]).flatten 60) (by simp))) (by decide) (qJ2 (hvok.mono (hF (U [U [m1a, m2a], m3a]) (by simp))))))) rfl (by simp) fun g22 _ => J.j rfl ((qAd rfl rfl rfl).yes (by rw [hva_]; exact qGm hva)) rfl rfl <| J.G ?_
   refine J.b8 rfl (qAj rfl rfl) rfl rfl <| J.b8 rfl (qAE rfl rfl) rfl rfl <| J.b8 rfl (qAA rfl rfl qC3 rfl qB6 rfl) rfl rfl <| J.b8 rfl (qAh rfl rfl qEH qB6 (m := H) (by simp) (hw.sub 8 5) rfl) rfl rfl <| J.b8 rfl (qAQ (places := [(0, 5), (5, 1)]) (r := [N64 1, Str (pW 1 0).dig, I ((0 : Nat) : Int), I ((1 : Nat) : Int), .slice nA ((qAT (qAD 1) 0).length) nc, .slice none 0 0]) rfl rfl rfl qLw qOY (fun _ => by kernel_rfl) (by kernel_rfl)) rfl rfl <| J.b8 rfl (qAj rfl rfl) rfl rfl <| J.b8 rfl (qAE rfl rfl) rfl rfl <| J.b8 rfl (qAA rfl rfl qC3 rfl qB6 rfl) rfl rfl <| J.b8 rfl (qAh rfl rfl qEH qB6 (m := H) (by simp) (hw.sub 3 5) rfl) rfl rfl <| J.b8 rfl (qAk 2 rfl rfl rfl isAgg26 qKa rfl) rfl rfl <| J.f0 rfl (qAB rfl rfl ent13 (Ct.use0 (fun F' hF => qCI F' (hK.mo hF) (pW 1 0) nA nc (qCS 1 (by decide)) (hnr.mono (hF H (by simp))) (nW 1 0) nA nc (qDE 1 (by decide) (qBW (qBp (by decide) (by decide)))) (hnr.mono (hF H (by simp))) (qBU _ _ _) 0 1 1 1 (by decide) rfl (qBp (by decide) (by decide)) (by decide) (by decide) (by decide) (by decide) (qBR 1 0 1) (qDI (by decide) (by decide) (by decide) (by decide)) none 0 0 [] Sl.nil (by decide) (fun i hi => absurd hi (Nat.not_lt_zero i))))) (Wan.is rfl rfl rfl rfl rfl) rfl rfl (by simp) ?_
   intro g35 _
   refine J.b8 rfl ((qAd rfl rfl rfl).yes (qGl)) rfl rfl <| J.f4 ?_
   refine J.c0 ?_
   refine J.b4 <| J.q (J.H hK7 ?_)
   refine J.A 0 ?_
   exact J.D <| J.L hw0 rfl () rfl trivial [1] rfl (by decide)
  refine J.a7 rfl (qAf rfl qOY rfl) rfl (by simp) fun g2 _ => J.a7 rfl (qAH (l := [.tmp 12]) (xs := qDW [va]) rfl rfl rfl rfl qQr el60 rfl (by decide) (by decide) (fun x hx => qEa hx)) rfl (by simp) ?_
  rintro g13 _
  refine J.j rfl (qAQ (places := [(0, 5), (5, 1)]) (r := [N64 1, Str (pW 1 0).dig, I ((0 : Nat) : Int), I ((1 : Nat) : Int), .slice nA ((qAT (qAD 1) 0).length) nc, .slice (some ⟨g13, 0, none⟩) 1 1]) rfl rfl rfl qLw qOY (fun _ => by kernel_rfl) (by kernel_rfl)) rfl rfl <| J.c8 rfl (qAR (i := 7) (l := [.int .u64 0, Str [], I 0, I 0, .slice none 0 0, .slice none 0 0]) (vs := [N64 1, Str (pW 1 0).dig, I ((0 : Nat) : Int), I ((1 : Nat) : Int), .slice nA ((qAT (qAD 1) 0).length) nc, .slice (some ⟨g13, 0, none⟩) 1 1]) rfl rfl rfl rfl rfl sizeOf45 rfl rfl) rfl rfl rfl fun _ _ => J.b4 <| J.q (J.H hK5 ?_)
  refine J.M 1 2 ?_
  refine J.k fun K8 hK8 => J.c5 [4, 5, 6, 2, 3, 8, 7] [m1a, m2a, m3a, F, H, blk g13 (qDW [va]).flatten 60, blk g2 [N64 1, Str (pW 1 0).dig, I ((0 : Nat) : Int), I ((1 : Nat) : Int), .slice nA ((qAT (qAD 1) 0).length) nc, .slice (some ⟨g13, 0, none⟩) 1 1] 45] rfl (by decide) <| J.E <| J.f (qAQ (places := [(0, 1), (1, 1)]) (r := [I ((1 : Nat) : Int), I ((1 : Nat) : Int)]) rfl rfl rfl qOU qRE (fun _ => by kernel_rfl) (by kernel_rfl)) rfl <| J.u (qAf rfl qRE rfl) rfl fun g3 _ => J.c1 (qAR (i := 7) (l := [I 0, I 0]) (vs := [I ((1 : Nat) : Int), I ((1 : Nat) : Int)]) rfl rfl rfl rfl rfl qKa rfl rfl) rfl rfl fun _ _ => J.d9 (fun hj1 => ?_)
  refine J.d9 (fun hj2 => ?_)
  refine J.c hK8 <| J.V 1 2 3 ?_
  refine J.k fun K9 hK9 => ?_
  have hle1 : Le m1a (U [U [m1a, m2a], m3a]) := (qHK hj1).trans (qHK hj2)
  have hle2 : Le m2a (U [U [m1a, m2a], m3a]) := (qLc hj1).trans (qHK hj2)
  have hvok : qKY (U [U [m1a, m2a], m3a]) va := hva_ ▸ qJX (by decide) (by decide) (by decide) (by decide) hva hle1 hle2 (qLc hj2)
  refine J.b5 [H, blk g2 [N64 1, Str (pW 1 0).dig, I ((0 : Nat) : Int), I ((1 : Nat) : Int), .slice nA ((qAT (qAD 1) 0).length) nc, .slice (some ⟨g13, 0, none⟩) 1 1] 45, blk g3 [I ((1 : Nat) : Int), I ((1 : Nat) : Int)] 26] [] (.y 0 (.y 1 (.y 2 (.y 3 (.y 4 (.y 5 (.e 6 (.y 7 (.y 8 (.y 9 (.y 10 (.y 11 (.y 12 (.y 13 (.y 14 (.y 15 (.y 16 (.y 17 (.y 18 (.e 19 (.y 20 (.y 21 (.y 22 .nil))))))))))))))))))))))) Tryz.wide (by decide +kernel) (by simp) ?_
  refine J.j rfl (qAk 1 rfl rfl rfl isAgg45 sizeOf45 rfl) rfl rfl <| J.G ?_
  refine J.j rfl (qAE rfl rfl) rfl rfl <| J.j rfl (qAA rfl rfl qC3 rfl qB6 rfl) rfl rfl <| J.j rfl (qAh rfl rfl qEH qB6 (m := H) (by simp) (hw.sub 3 5) rfl) rfl rfl <| J.j rfl (qAk 2 rfl rfl rfl isAgg26 qKa rfl) rfl rfl <| J.a7 rfl (qAB rfl rfl ent13 (Ct.use0 (fun F' hF => qCI F' (hK.mo hF) (pW 1 0) nA nc (qCS 1 (by decide)) (hnr.mono (hF H (by simp))) (nW 1 0) nA nc (qDE 1 (by decide) (qBW (qBp (by decide) (by decide)))) (hnr.mono (hF H (by simp))) (qBU _ _ _) 0 1 1 1 (by decide) rfl (qBp (by decide) (by decide)) (by decide) (by decide) (by decide) (by decide) (qBR 1 0 1) (qDI (by decide) (by decide) (by decide) (by decide)) (some ⟨g13, 0, none⟩) 1 1 [va] ((qAr (q := True) (g := g13) (e := 60) (sz := 15) (xs := qDW [va]) rfl (fun x hx => qEa hx)).sl.mono (hF (blk g13 (qDW [va]).flatten 60) (by simp))) (by decide) (qJ2 (hvok.mono (hF (U [U [m1a, m2a], m3a]) (by simp))))))) rfl (by simp) fun g22 _ => J.j rfl ((qAd rfl rfl rfl).yes (by rw [hva_]; exact qGm hva)) rfl rfl <| J.G ?_
  refine J.b8 rfl (qAj rfl rfl) rfl rfl <| J.b8 rfl (qAE rfl rfl) rfl rfl <| J.b8 rfl (qAA rfl rfl qC3 rfl qB6 rfl) rfl rfl <| J.b8 rfl (qAh rfl rfl qEH qB6 (m := H) (by simp) (hw.sub 8 5) rfl) rfl rfl <| J.b8 rfl (qAQ (places := [(0, 5), (5, 1)]) (r := [N64 1, Str (pW 1 0).dig, I ((0 : Nat) : Int), I ((1 : Nat) : Int), .slice nA ((qAT (qAD 1) 0).length) nc, .slice none 0 0]) rfl rfl rfl qLw qOY (fun _ => by kernel_rfl) (by kernel_rfl)) rfl rfl <| J.b8 rfl (qAj rfl rfl) rfl rfl <| J.b8 rfl (qAE rfl rfl) rfl rfl <| J.b8 rfl (qAA rfl rfl qC3 rfl qB6 rfl) rfl rfl <| J.b8 rfl (qAh rfl rfl qEH qB6 (m := H) (by simp) (hw.sub 3 5) rfl) rfl rfl <| J.b8 rfl (qAk 2 rfl rfl rfl isAgg26 qKa rfl) rfl rfl <| J.f0 rfl (qAB rfl rfl ent13 (Ct.use0 (fun F' hF => qCI F' (hK.mo hF) (pW 1 0) nA nc (qCS 1 (by decide)) (hnr.mono (hF H (by simp))) (nW 1 0) nA nc (qDE 1 (by decide) (qBW (qBp (by decide) (by decide)))) (hnr.mono (hF H (by simp))) (qBU _ _ _) 0 1 1 1 (by decide) rfl (qBp (by decide) (by decide)) (by decide) (by decide) (by decide) (by decide) (qBR 1 0 1) (qDI (by decide) (by decide) (by decide) (by decide)) none 0 0 [] Sl.nil (by decide) (fun i hi => absurd hi (Nat.not_lt_zero i))))) (Wan.is rfl rfl rfl rfl rfl) rfl rfl (by simp) ?_
  intro g35 _
  refine J.b8 rfl ((qAd rfl rfl rfl).yes (qGl)) rfl rfl <| J.f4 ?_
  refine J.c0 ?_
  refine J.b4 <| J.q (J.H hK9 ?_)
  refine J.A 0 ?_
  exact J.D <| J.L hw0 rfl () rfl trivial [1] rfl (by decide)
 refine J.a7 rfl (qAf rfl qOY rfl) rfl (by simp) fun g2 _ => J.a7 rfl (qAB rfl rfl ent12 (Ct.useA [mr, mu] [F, H, blk g2 [.int .u64 0, Str [], I 0, I 0, .slice none 0 0, .slice none 0 0] 45] (A' := fun r : VoR => [r.mr, r.mu]) (new := fun r : VoR => [r.m1, r.m2, r.m3]) (fun F' hF => qIj F' mr mu (hK.mo hF) 1 0 0 0 gw gt gr kc (qAT (qAD 1) 0).length nc uc gu kA nA gs (List.replicate 1 0) (by decide) (by decide) (by decide) (by decide) (qBW (qBp (by decide) (by decide))) (qBW (qGX (by decide) (by decide))) (hw.mono (hF H (by simp))) hgl (hkr.mono (hF H (by simp))) (hks.mono (hF H (by simp))) hro rfl (fun j => qTY j) hur (hTr.mono (hF H (by simp))) rfl (hnr.mono (hF H (by simp)))))) rfl (by simp) ?_
 rintro ⟨A1a, c1a, m1a, A2a, c2a, m2a, s3a, A3a, c3a, m3a, mra, mua⟩ hva
 try dsimp only at hva
 obtain ⟨va, hva_⟩ : ∃ v, v = vtW 1 0 0 0 (List.replicate 1 0) ⟨A1a, c1a, m1a, A2a, c2a, m2a, s3a, A3a, c3a, m3a, mra, mua⟩ := ⟨_, rfl⟩
 rw [← hva_]
 refine J.a7 rfl (qAH (l := [.tmp 12]) (xs := qDW [va]) rfl rfl rfl rfl qQr el60 rfl (by decide) (by decide) (fun x hx => qEa hx)) rfl (by simp) ?_
 rintro g13 _
 refine J.j rfl (qAQ (places := [(0, 5), (5, 1)]) (r := [N64 1, Str (pW 1 0).dig, I ((0 : Nat) : Int), I ((1 : Nat) : Int), .slice nA ((qAT (qAD 1) 0).length) nc, .slice (some ⟨g13, 0, none⟩) 1 1]) rfl rfl rfl qLw qOY (fun _ => by kernel_rfl) (by kernel_rfl)) rfl rfl <| J.c8 rfl (qAR (i := 4) (l := [.int .u64 0, Str [], I 0, I 0, .slice none 0 0, .slice none 0 0]) (vs := [N64 1, Str (pW 1 0).dig, I ((0 : Nat) : Int), I ((1 : Nat) : Int), .slice nA ((qAT (qAD 1) 0).length) nc, .slice (some ⟨g13, 0, none⟩) 1 1]) rfl rfl rfl rfl rfl sizeOf45 rfl rfl) rfl rfl rfl fun _ _ => J.b4 <| J.q (J.H hK5 ?_)
 refine J.M 1 2 ?_
 refine J.k fun K10 hK10 => J.c5 [5, 6, 7, 2, 3, 8, 4] [m1a, m2a, m3a, F, H, blk g13 (qDW [va]).flatten 60, blk g2 [N64 1, Str (pW 1 0).dig, I ((0 : Nat) : Int), I ((1 : Nat) : Int), .slice nA ((qAT (qAD 1) 0).length) nc, .slice (some ⟨g13, 0, none⟩) 1 1] 45] rfl (by decide) <| J.E <| J.f (qAQ (places := [(0, 1), (1, 1)]) (r := [I ((1 : Nat) : Int), I ((1 : Nat) : Int)]) rfl rfl rfl qOU qRE (fun _ => by kernel_rfl) (by kernel_rfl)) rfl <| J.u (qAf rfl qRE rfl) rfl fun g3 _ => J.c1 (qAR (i := 7) (l := [I 0, I 0]) (vs := [I ((1 : Nat) : Int), I ((1 : Nat) : Int)]) rfl rfl rfl rfl rfl qKa rfl rfl) rfl rfl fun _ _ => J.d9 (fun hj1 => ?_)
 refine J.d9 (fun hj2 => ?_)
 refine J.c hK10 <| J.V 1 2 3 ?_
 refine J.k fun K11 hK11 => ?_
 have hle1 : Le m1a (U [U [m1a, m2a], m3a]) := (qHK hj1).trans (qHK hj2)
 have hle2 : Le m2a (U [U [m1a, m2a], m3a]) := (qLc hj1).trans (qHK hj2)
 have hvok : qKY (U [U [m1a, m2a], m3a]) va := hva_ ▸ qJX (by decide) (by decide) (by decide) (by decide) hva hle1 hle2 (qLc hj2)
 refine J.b5 [H, blk g2 [N64 1, Str (pW 1 0).dig, I ((0 : Nat) : Int), I ((1 : Nat) : Int), .slice nA ((qAT (qAD 1) 0).length) nc, .slice (some ⟨g13, 0, none⟩) 1 1] 45, blk g3 [I ((1 : Nat) : Int), I ((1 : Nat) : Int)] 26] [] (.y 0 (.y 1 (.y 2 (.y 3 (.y 4 (.y 5 (.e 6 (.y 7 (.y 8 (.y 9 (.y 10 (.y 11 (.y 12 (.y 13 (.y 14 (.y 15 (.y 16 (.y 17 (.y 18 (.e 19 (.y 20 (.y 21 (.y 22 .nil))))))))))))))))))))))) Tryz.wide (by decide +kernel) (by simp) ?_
 refine J.j rfl (qAk 1 rfl rfl rfl isAgg45 sizeOf45 rfl) rfl rfl <| J.G ?_
 refine J.j rfl (qAE rfl rfl) rfl rfl <| J.j rfl (qAA rfl rfl qC3 rfl qB6 rfl) rfl rfl <| J.j rfl (qAh rfl rfl qEH qB6 (m := H) (by simp) (hw.sub 3 5) rfl) rfl rfl <| J.j rfl (qAk 2 rfl rfl rfl isAgg26 qKa rfl) rfl rfl <| J.a7 rfl (qAB rfl rfl ent13 (Ct.use0 (fun F' hF => qCI F' (hK.mo hF) (pW 1 0) nA nc (qCS 1 (by decide)) (hnr.mono (hF H (by simp))) (nW 1 0) nA nc (qDE 1 (by decide) (qBW (qBp (by decide) (by decide)))) (hnr.mono (hF H (by simp))) (qBU _ _ _) 0 1 1 1 (by decide) rfl (qBp (by decide) (by decide)) (by decide) (by decide) (by decide) (by decide) (qBR 1 0 1) (qDI (by decide) (by decide) (by decide) (by decide)) (some ⟨g13, 0, none⟩) 1 1 [va] ((qAr (q := True) (g := g13) (e := 60) (sz := 15) (xs := qDW [va]) rfl (fun x hx => qEa hx)).sl.mono (hF (blk g13 (qDW [va]).flatten 60) (by simp))) (by decide) (qJ2 (hvok.mono (hF (U [U [m1a, m2a], m3a]) (by simp))))))) rfl (by simp) fun g22 _ => J.j rfl ((qAd rfl rfl rfl).yes (by rw [hva_]; exact qGm hva)) rfl rfl <| J.G ?_
 refine J.b8 rfl (qAj rfl rfl) rfl rfl <| J.b8 rfl (qAE rfl rfl) rfl rfl <| J.b8 rfl (qAA rfl rfl qC3 rfl qB6 rfl) rfl rfl <| J.b8 rfl (qAh rfl rfl qEH qB6 (m := H) (by simp) (hw.sub 8 5) rfl) rfl rfl <| J.b8 rfl (qAQ (places := [(0, 5), (5, 1)]) (r := [N64 1, Str (pW 1 0).dig, I ((0 : Nat) : Int), I ((1 : Nat) : Int), .slice nA ((qAT (qAD 1) 0).length) nc, .slice none 0 0]) rfl rfl rfl qLw qOY (fun _ => by kernel_rfl) (by kernel_rfl)) rfl rfl <| J.b8 rfl (qAj rfl rfl) rfl rfl <| J.b8 rfl (qAE rfl rfl) rfl rfl <| J.b8 rfl (qAA rfl rfl qC3 rfl qB6 rfl) rfl rfl <| J.b8 rfl (qAh rfl rfl qEH qB6 (m := H) (by simp) (hw.sub 3 5) rfl) rfl rfl <| J.b8 rfl (qAk 2 rfl rfl rfl isAgg26 qKa rfl) rfl rfl <| J.f0 rfl (qAB rfl rfl ent13 (Ct.use0 (fun F' hF => qCI F' (hK.mo hF) (pW 1 0) nA nc (qCS 1 (by decide)) (hnr.mono (hF H (by simp))) (nW 1 0) nA nc (qDE 1 (by decide) (qBW (qBp (by decide) (by decide)))) (hnr.mono (hF H (by simp))) (qBU _ _ _) 0 1 1 1 (by decide) rfl (qBp (by decide) (by decide)) (by decide) (by decide) (by decide) (by decide) (qBR 1 0 1) (qDI (by decide) (by decide) (by decide) (by decide)) none 0 0 [] Sl.nil (by decide) (fun i hi => absurd hi (Nat.not_lt_zero i))))) (Wan.is rfl rfl rfl rfl rfl) rfl rfl (by simp) ?_
 intro g35 _
 refine J.b8 rfl ((qAd rfl rfl rfl).yes (qGl)) rfl rfl <| J.f4 ?_
 refine J.c0 ?_
 refine J.b4 <| J.q (J.H hK11 ?_)
 refine J.A 0 ?_
 exact J.D <| J.L hw0 rfl () rfl trivial [1] rfl (by decide)
end Go.Proofs.YtfldiegfenndjaaGreatDoor
namespace Go.Proofs.YtfldiegfenndjaaGreatDoor
open Go Go.Fw Go.Proofs.Tryz
set_option maxRecDepth 100000
set_option maxHeartbeats 1000000
theorem ent40 : qAC prog 40 := qAC.of func40 rfl (by kernel_rfl)
namespace Wn
open Sha
def swN (ws : List Nat) (a : Nat) : Nat → List Nat
 | 0 => List.range a
 | k + 1 => ((swN ws a k).set k ((swN ws a k).getD (k + ws.getD k 0 % (a - k)) 0)).set (k + ws.getD k 0 % (a - k)) ((swN ws a k).getD k 0)
theorem swN_len (ws : List Nat) (a : Nat) : ∀ k, (swN ws a k).length = a
 | 0 => List.length_range
 | k + 1 => by rw [swN, List.length_set, List.length_set]; exact swN_len ws a k
theorem getD_mapI (l : List Nat) (k : Nat) : (l.map fun i : Nat => (i : Int)).getD k 0 = ((l.getD k 0 : Nat) : Int) := by
 rw [List.getD_eq_getElem?_getD, List.getD_eq_getElem?_getD, List.getElem?_map]
 cases l[k]? <;> rfl
theorem swW_swN (ws : List Nat) (a : Nat) : ∀ k, swW ws a k = (swN ws a k).map fun i : Nat => (i : Int)
 | 0 => rfl
 | k + 1 => by
  have ih := swW_swN ws a k
  rw [swW, swN, ih]
  unfold swL
  rw [getD_mapI, getD_mapI, List.map_set, List.map_set]
def fl (S : List UInt8) (q : Nat) : List UInt8 := (sum (S ++ numB (UInt64.ofNat (q / 4)) 4)).drop (8 * (q % 4))
def lf (S : List UInt8) (q : Nat) : List UInt8 := if q % 4 = 0 then [] else fl S q
theorem fl_len (S : List UInt8) (q : Nat) : (fl S q).length = 32 - 8 * (q % 4) := by unfold fl; rw [List.length_drop, sum_length]
theorem lf_nil {S : List UInt8} {q : Nat} : lf S q = [] ↔ q % 4 = 0 := by
  unfold lf
  split
  · rename_i h; exact ⟨fun _ => h, fun _ => rfl⟩
  · rename_i h
    refine ⟨fun e => ?_, fun e => absurd e h⟩
    have := congrArg List.length e
    rw [fl_len, List.length_nil] at this
    omega
theorem fl_zero {S : List UInt8} {q : Nat} (h : q % 4 = 0) : fl S q = sum (S ++ numB (UInt64.ofNat ((q + 3) / 4)) 4) := by
 unfold fl
 rw [h, show (q + 3) / 4 = q / 4 by omega]; rfl
theorem lf_fl {S : List UInt8} {q : Nat} (h : ¬ q % 4 = 0) : lf S q = fl S q := if_neg h
theorem fl_next (S : List UInt8) (q : Nat) : (fl S q).drop 8 = lf S (q + 1) := by
  unfold lf
  split
  · exact List.drop_of_length_le (by rw [fl_len]; omega)
  · unfold fl
    rw [List.drop_drop, show (q + 1) / 4 = q / 4 by omega, show 8 * (q % 4) + 8 = 8 * ((q + 1) % 4) by omega]
theorem fl_word (S : List UInt8) (hs : S.length ≤ 1000000) {q : Nat} (hq : q < 1000000) : valN ((fl S q).map UInt8.toNat) 8 = wordN (S.map UInt8.toNat) q := by
 unfold fl wordN
 rw [List.map_drop]
 have := SN.sumN_eq (S ++ numB (UInt64.ofNat (q / 4)) 4) (by rw [List.length_append, numB_length]; omega)
 rw [List.map_append, ← SN.bytes4_eq _ (by omega)] at this
 rw [this]
theorem okW_at {ws : List Nat} {a k m : Nat} (h : okW ws a m = true) (hk : k < m) (h2 : 2 ≤ a - k) : ws.getD k 0 < 18446744073709551615 - 18446744073709551615 % (a - k) := by
 have h1 := okW_le (show k + 1 ≤ m by omega) h
 rw [okW, Bool.and_eq_true, Bool.or_eq_true, decide_eq_true_eq, decide_eq_true_eq] at h1
 rcases h1.2 with h3 | h3
 · omega
 · exact h3
end Wn
theorem qSU (F : Hp) (seed : List UInt8) (hseed : seed.length ≤ 1000000) (b a sl : Nat) (ha : a ≤ 64) (h1 : 1 ≤ sl) (hsl : sl ≤ a) (ws : List Nat) (hw : ∀ k, k < a → ws.getD k 0 = Wn.wordN ((Wd.seedOf seed b).map UInt8.toNat) k) (hok : Wn.okW ws a a = true) :
    Ct prog 10 [Str seed, I ((b : Nat) : Int), I ((a : Nat) : Int), I ((sl : Nat) : Int)] [F] (fun x : Option Addr × Nat × Hp => .slice x.1 sl x.2.1) (fun x => Row x.2.2 3 1 x.1 a x.2.1 (qAu (Wn.swN ws a sl))) (fun x => [F, x.2.2]) := by
  have hp7 : (256 : Nat) ^ 7 = 72057594037927936 := by decide
  have hS : (Wd.seedOf seed b).length = 16 := Sha.tagged_length _ _
  refine Ct.walk func10 rfl ntmps10 rfl (fun w0 hw0 => ?_)
  change J _ [(0, _), (1, _), (2, _), (3, _)] _ _ _
  refine J.g fun K1 hK1 => J.b rfl <| J.c hK1 <| J.W 0 1 2 3 ?_
  refine J.g fun K2 hK2 => J.p 2 rfl <| J.f (qAe (m := b) rfl rfl u3_ u5_) rfl <| J.u (qAH (l := [.tmp 22]) (xs := [[B8 (UInt8.ofNat b)]]) rfl rfl rfl rfl qBP el5 rfl (by decide) (by decide) (by simp)) rfl fun g23 _ => ?_
  change J _ _ _ [F, blk g23 [B8 (UInt8.ofNat b)] 5] _
  refine J.f (qBB (l := [UInt8.ofNat b]) rfl rfl qBP u5_ u9_ (m := blk g23 [B8 (UInt8.ofNat b)] 5) (by simp) ((qA8 (q := True) (qAX [UInt8.ofNat b]) rfl (by simp [qAX]) rfl).sl)) rfl <| J.u (qAH (l := [.tmp 20, .tmp 24]) (xs := [[Str (seed)], [Str ([UInt8.ofNat b])]]) rfl rfl rfl rfl qAn el9 rfl (by decide) (by decide) (by simp)) rfl fun g25 _ => ?_
  change J _ _ _ [_, _, blk g25 [Str (seed), Str ([UInt8.ofNat b])] 9] _
  refine J.u (qAB rfl rfl ent40 (Ct.use0 (fun F' hF => qKw F' 17 (some ⟨g25, 0, none⟩) 2 2 [seed, [UInt8.ofNat b]] ((slS [seed, [UInt8.ofNat b]] rfl).mono (hF (blk g25 [Str seed, Str [UInt8.ofNat b]] 9) (by simp))) (by simp; omega) (by decide)))) rfl fun g26 _ => J.b rfl <| J.c hK2 <| J.V 2 3 9 ?_
  refine J.g fun K3 hK3 => J.p 2 rfl <| J.c hK3 <| J.a3 2 3 9 10 11 ?_
  refine J.g fun K4 hK4 => J.b rfl <| J.c hK4 <| J.a9 2 3 9 10 11 12 ?_
  refine J.k fun K5 hK5 => J.g fun K6 hK6 => J.b rfl <| J.c hK6 <| J.b9 2 3 9 10 11 12 13 ?_
  refine J.T <| J.b2 (X := Nat × Option Addr × Nat × Hp) (fun ζ => [(2, I ((a : Nat) : Int)), (3, I ((sl : Nat) : Int)), (9, Str ((Wd.seedOf seed b))), (10, Str ([])), (11, I ((0 : Nat) : Int)), (12, .slice ζ.2.1 ζ.1 ζ.2.2.1), (13, I ((ζ.1 : Nat) : Int))]) (fun ζ => [F, ζ.2.2.2]) (fun ζ => ζ.1 ≤ a ∧ Row ζ.2.2.2 3 1 ζ.2.1 ζ.1 ζ.2.2.1 (qAu (List.range ζ.1))) (fun ζ => a - ζ.1) (0, none, 0, (fun _ => none)) (⟨Nat.zero_le _, qB5.nil⟩) ⟨rfl, rfl, rfl, rfl, rfl, rfl, rfl, trivial⟩ (fun _ h => h.empty.pick [0, 3] (by decide)) ?_
  rintro ⟨i, Ar, cr, mr⟩ ⟨hi, hrw⟩ I0 hI0
  dsimp only at hi hrw ⊢
  refine J.k fun K7 hK7 => J.g fun K8 hK8 => J.p 2 rfl <| J.f (qAS rfl rfl rfl) rfl <| J.c hK8 <| J.d2 2 3 9 10 11 12 13 29 ?_
  refine J.a0 rfl (fun h29 => ?_) (fun h29 => ?_)
  ·
    refine J.a1 hK7 <| J.b9 2 3 9 10 11 12 13 ?_
    refine J.k fun K9 hK9 => J.T <| J.E <| J.p 2 rfl <| J.u (qAH (l := [.tmp 33]) (xs := [[I ((i : Nat) : Int)]]) rfl rfl rfl rfl qB1 el3 rfl (by decide) (by decide) (by simp)) rfl fun g34 _ => ?_
    change J _ _ _ [F, mr, blk g34 [I ((i : Nat) : Int)] 3] _
    refine J.u (qAb (i := 1) (xs := qAu (List.range i)) (m2 := blk g34 [I ((i : Nat) : Int)] 3) (ys := [[I ((i : Nat) : Int)]]) rfl rfl rfl qB1 qB1 el3 rfl hrw (by simp) ((qA8 (q := True) (qAu [i]) rfl (by simp [qAu]) rfl).sl) rfl (by first | omega | (rw [List.length_set]; omega)) (by first | omega | (rw [List.length_set]; omega))) rfl ?_
    rintro ⟨A35, c35, m35⟩ h35
    try dsimp only at h35
    change J _ ((35, .slice A35 (i + 1) c35) :: _) _ [_, m35, _] _
    rw [← qCl] at h35
    refine J.b rfl <| J.a2 <| J.a4 <| J.q (J.H hK9 ?_)
    refine J.b9 2 3 9 10 11 12 13 ?_
    exact J.E <| J.b rfl <| J.f ((qAO rfl rfl rfl (by first | omega | (rw [List.length_set]; omega))).nat (i + 1) (by omega)) rfl <| J.b rfl <| J.a2 <| J.q <| J.a6 (i + 1, A35, c35, m35) (fun η (hη : _ ∧ a - η.1 < a - i) => hI0 η hη.1 hη.2) ⟨⟨by dsimp only; omega, by dsimp only; rw [List.range_succ]; exact h35⟩, by first | omega | (dsimp only; omega)⟩ ⟨rfl, rfl, rfl, rfl, rfl, rfl, rfl, trivial⟩ (fun _ h => h.pick [0, 1] (by decide))
  refine J.b0 <| J.Z <| J.Z <| J.b1 ?_
  refine J.q (J.H hK5 ?_)
  refine J.a9 2 3 9 10 11 12 ?_
  refine J.k fun K10 hK10 => J.k fun K11 hK11 => ?_
  obtain rfl : a = i := by omega
  obtain ⟨gr, rfl⟩ := qJi hrw (by omega)
  refine J.E <| J.b rfl <| J.c hK11 <| J.b9 2 3 9 10 11 12 14 ?_
  refine J.T <| J.b2 (X := Nat × List UInt8 × Nat × Hp) (fun ζ => [(2, I ((a : Nat) : Int)), (3, I ((sl : Nat) : Int)), (9, Str ((Wd.seedOf seed b))), (10, Str (ζ.2.1)), (11, I ((ζ.2.2.1 : Nat) : Int)), (12, .slice (some ⟨gr, 0, none⟩) a cr), (14, I ((ζ.1 : Nat) : Int))]) (fun ζ => [F, ζ.2.2.2]) (fun ζ => ζ.1 ≤ sl ∧ (ζ.1 < a → ζ.2.1 = Wn.lf (Wd.seedOf seed b) ζ.1 ∧ ζ.2.2.1 = (ζ.1 + 3) / 4) ∧ Row ζ.2.2.2 3 1 (some ⟨gr, 0, none⟩) a cr (qAu (Wn.swN ws a ζ.1))) (fun ζ => sl - ζ.1) (0, [], 0, mr) (⟨Nat.zero_le _, fun _ => ⟨rfl, (by show (0 : Nat) = (0 + 3) / 4; decide)⟩, hrw⟩) ⟨rfl, rfl, rfl, rfl, rfl, rfl, rfl, trivial⟩ (fun _ h => h) ?_
  rintro ⟨k, Lf, C, mr⟩ ⟨hk, hst, hrw⟩ I2 hI2
  dsimp only at hk hst hrw ⊢
  refine J.k fun K12 hK12 => J.g fun K13 hK13 => J.p 2 rfl <| J.f (qAS rfl rfl rfl) rfl <| J.c hK13 <| J.d2 2 3 9 10 11 12 14 38 ?_
  refine J.a0 rfl (fun h38 => ?_) (fun h38 => ?_)
  ·
    refine J.a1 hK12 <| J.b9 2 3 9 10 11 12 14 ?_
    refine J.k fun K14 hK14 => J.T <| J.k fun K15 hK15 => ?_
    obtain ⟨rfl, rfl⟩ := hst (by omega)
    refine J.E <| J.p 2 rfl <| J.f ((qAs rfl rfl rfl (by omega)).nat (a - k) (by omega)) rfl <| J.f (qCg (m := a - k) rfl rfl u3_ qDu (by first | omega | (rw [List.length_set]; omega))) rfl <| J.b rfl <| J.c hK15 <| J.d2 2 3 9 10 11 12 14 15 ?_
    refine J.g fun K16 hK16 => J.b rfl <| J.c hK16 <| J.d8 2 3 9 10 11 12 14 15 16 ?_
    refine J.e5 (X := List UInt8 × Nat × Nat) (fun ζ => [(2, I ((a : Nat) : Int)), (3, I ((sl : Nat) : Int)), (9, Str ((Wd.seedOf seed b))), (10, Str (ζ.1)), (11, I ((ζ.2.1 : Nat) : Int)), (12, .slice (some ⟨gr, 0, none⟩) a cr), (14, I ((k : Nat) : Int)), (16, N64 (ζ.2.2))]) (fun ζ => [F, mr]) (fun ζ => ζ.2.2 = ws.getD k 0 % (a - k) ∧ (2 ≤ a - k → ζ.1 = Wn.lf (Wd.seedOf seed b) (k + 1) ∧ ζ.2.1 = (k + 1 + 3) / 4)) (fun K17 hK17 => ?_) ?_
    ·
      refine J.T <| J.b2 (X := Nat) (fun ζ => [(2, I ((a : Nat) : Int)), (3, I ((sl : Nat) : Int)), (9, Str ((Wd.seedOf seed b))), (10, Str (Wn.lf (Wd.seedOf seed b) k)), (11, I (((k + 3) / 4 : Nat) : Int)), (12, .slice (some ⟨gr, 0, none⟩) a cr), (14, I ((k : Nat) : Int)), (15, N64 (a - k)), (16, N64 (0))]) (fun ζ => [F, mr]) (fun ζ => ζ = 0) (fun ζ => 1) 0 (rfl) ⟨rfl, rfl, rfl, rfl, rfl, rfl, rfl, rfl, rfl, trivial⟩ (fun _ h => h) ?_
      rintro u hu I4 hI4
      refine J.k fun K18 hK18 => J.g fun K19 hK19 => J.b rfl <| J.f (qBJ rfl rfl rfl) rfl <| J.c hK19 <| J.e0 2 3 9 10 11 12 14 15 16 46 ?_
      refine J.a0 rfl (fun h46 => ?_) (fun h46 => ?_)
      ·
        refine J.a1 hK18 <| J.d8 2 3 9 10 11 12 14 15 16 ?_
        refine J.T <| J.e5 (X := List UInt8 × Nat) (fun ζ => [(2, I ((a : Nat) : Int)), (3, I ((sl : Nat) : Int)), (9, Str ((Wd.seedOf seed b))), (10, Str (ζ.1)), (11, I ((ζ.2 : Nat) : Int)), (12, .slice (some ⟨gr, 0, none⟩) a cr), (14, I ((k : Nat) : Int)), (15, N64 (a - k)), (16, N64 (0))]) (fun ζ => [F, mr]) (fun ζ => ζ.1 = Wn.fl (Wd.seedOf seed b) k ∧ ζ.2 = k / 4 + 1) (fun K20 hK20 => ?_) ?_
        ·
          refine J.g fun K21 hK21 => J.b rfl <| J.f (qBM rfl rfl rfl) rfl <| J.c hK21 <| J.e0 2 3 9 10 11 12 14 15 16 48 ?_
          refine J.a0 rfl (fun h48 => ?_) (fun h48 => ?_)
          ·
            refine J.k fun K22 hK22 => ?_
            have hk4 : k % 4 = 0 := Wn.lf_nil.1 h48
            have hnb : (Sha.numB (UInt64.ofNat ((k + 3) / 4)) 4).length = 4 := Sha.numB_length _ _
            refine J.E <| J.p 2 rfl <| J.u (qAB rfl rfl ent42 (Ct.use0 (fun F' hF => qNm F' ((k + 3) / 4) (by omega)))) rfl fun g51 _ => J.f (qBZ (a := (Wd.seedOf seed b)) (b := Sha.numB (UInt64.ofNat ((k + 3) / 4)) 4) rfl rfl rfl (by first | omega | (rw [List.length_set]; omega))) rfl <| J.u (qAB rfl rfl ent41 (Ct.use0 (fun F' hF => qMQ F' ((Wd.seedOf seed b) ++ Sha.numB (UInt64.ofNat ((k + 3) / 4)) 4) (by rw [List.length_append, Sha.numB_length]; omega)))) rfl fun g53 _ => ?_
            rw [show Sha.sum ((Wd.seedOf seed b) ++ Sha.numB (UInt64.ofNat ((k + 3) / 4)) 4) = Wn.fl (Wd.seedOf seed b) k from (Wn.fl_zero hk4).symm]
            refine J.b rfl <| J.c hK22 <| J.d8 2 3 9 10 11 12 14 15 16 ?_
            exact J.E <| J.b rfl <| J.f ((qAO rfl rfl rfl (by first | omega | (rw [List.length_set]; omega))).nat ((k + 3) / 4 + 1) (by omega)) rfl <| J.b rfl <| J.a2 <| J.q <| J.a6 (Wn.fl (Wd.seedOf seed b) k, (k + 3) / 4 + 1) hK20 (⟨rfl, by dsimp only; omega⟩) ⟨rfl, rfl, rfl, rfl, rfl, rfl, rfl, rfl, rfl, trivial⟩ (fun _ h => h)
          exact J.b7 <| J.q <| J.a6 (Wn.lf (Wd.seedOf seed b) k, (k + 3) / 4) hK20 (⟨Wn.lf_fl (fun h => h48 (Wn.lf_nil.2 h)), by dsimp only; have : ¬ k % 4 = 0 := fun h => h48 (Wn.lf_nil.2 h); omega⟩) ⟨rfl, rfl, rfl, rfl, rfl, rfl, rfl, rfl, rfl, trivial⟩ (fun _ h => h)
        rintro ⟨L3, C3⟩ ⟨hl3, hc3⟩
        dsimp only at hl3 hc3 ⊢
        obtain rfl := hl3
        obtain rfl := hc3
        refine J.g fun K23 hK23 => J.b rfl <| J.c hK23 <| J.e0 2 3 9 10 11 12 14 15 16 17 ?_
        refine J.k fun K24 hK24 => J.g fun K25 hK25 => J.b rfl <| J.c hK25 <| J.d5 2 3 9 10 11 12 14 15 16 17 18 ?_
        refine J.T <| J.b2 (X := Nat) (fun ζ => [(2, I ((a : Nat) : Int)), (3, I ((sl : Nat) : Int)), (9, Str ((Wd.seedOf seed b))), (10, Str (Wn.fl (Wd.seedOf seed b) k)), (11, I ((k / 4 + 1 : Nat) : Int)), (12, .slice (some ⟨gr, 0, none⟩) a cr), (14, I ((k : Nat) : Int)), (15, N64 (a - k)), (16, N64 (0)), (17, N64 (Wn.valN ((Wn.fl (Wd.seedOf seed b) k).map UInt8.toNat) ζ)), (18, I ((ζ : Nat) : Int))]) (fun ζ => [F, mr]) (fun ζ => ζ ≤ 8) (fun ζ => 8 - ζ) 0 (Nat.zero_le _) ⟨rfl, rfl, rfl, rfl, rfl, rfl, rfl, rfl, rfl, rfl, rfl, trivial⟩ (fun _ h => h) ?_
        rintro j hj I6 hI6
        refine J.k fun K26 hK26 => J.g fun K27 hK27 => J.b rfl <| J.f (qAS rfl rfl rfl) rfl <| J.c hK27 <| J.e2 2 3 9 10 11 12 14 15 16 17 18 57 ?_
        refine J.a0 rfl (fun h57 => ?_) (fun h57 => ?_)
        ·
          refine J.a1 hK26 <| J.d5 2 3 9 10 11 12 14 15 16 17 18 ?_
          refine J.k fun K28 hK28 => J.T ?_
          have hvl := Wn.valN_lt (Wn.fl (Wd.seedOf seed b) k) j
          have hp : 256 ^ j ≤ 256 ^ 7 := Nat.pow_le_pow_right (by decide) (by omega)
          have hfl := Wn.fl_len (Wd.seedOf seed b) k
          have hby := ((Wn.fl (Wd.seedOf seed b) k).getD j 0).toNat_lt
          refine J.E <| J.b rfl <| J.f (qDA (a := 256) (b := Wn.valN ((Wn.fl (Wd.seedOf seed b) k).map UInt8.toNat) j) rfl rfl rfl (by first | omega | (rw [List.length_set]; omega))) rfl <| J.p 2 rfl <| J.f (qBS (c := (Wn.fl (Wd.seedOf seed b) k).getD j 0) u9_ rfl rfl rfl (qAi 0 (by first | omega | (rw [List.length_set]; omega)))) rfl <| J.f (qH2 rfl rfl u5_ qDu) rfl <| J.f (qA4 (a := 256 * (Wn.valN ((Wn.fl (Wd.seedOf seed b) k).map UInt8.toNat) j)) (b := ((Wn.fl (Wd.seedOf seed b) k).getD j 0).toNat) rfl rfl rfl (by first | omega | (rw [List.length_set]; omega))) rfl <| J.b rfl <| J.a2 <| J.a4 <| J.q (J.H hK28 ?_)
          refine J.d5 2 3 9 10 11 12 14 15 16 17 18 ?_
          exact J.E <| J.b rfl <| J.f ((qAO rfl rfl rfl (by first | omega | (rw [List.length_set]; omega))).nat (j + 1) (by omega)) rfl <| J.b rfl <| J.a2 <| J.q <| J.a6 (j + 1) (fun η (hη : _ ∧ 8 - η < 8 - j) => hI6 η hη.1 hη.2) ⟨by omega, by first | omega | (dsimp only; omega)⟩ ⟨rfl, rfl, rfl, rfl, rfl, rfl, rfl, rfl, rfl, (by show some (N64 _) = some (N64 _); rw [Wn.valN, SN.getD_map, Nat.mul_comm]), rfl, trivial⟩ (fun _ h => h)
        refine J.b0 <| J.Z <| J.Z <| J.b1 ?_
        refine J.q (J.H hK24 ?_)
        refine J.e0 2 3 9 10 11 12 14 15 16 17 ?_
        refine J.k fun K29 hK29 => ?_
        obtain rfl : j = 8 := by omega
        have hfl := Wn.fl_len (Wd.seedOf seed b) k
        have hxw : Wn.valN ((Wn.fl (Wd.seedOf seed b) k).map UInt8.toNat) 8 = ws.getD k 0 := by rw [Wn.fl_word _ (by omega) (by omega), hw k (by omega)]
        have hwk := Wn.okW_at hok (show k < a by omega) (by omega)
        rw [hxw]
        refine J.E <| J.b rfl <| J.f ((qCC (a := Wn.fl (Wd.seedOf seed b) k) (l := 8) (h := (Wn.fl (Wd.seedOf seed b) k).length) u9_ rfl rfl rfl rfl ⟨by first | omega | (rw [List.length_set]; omega), by first | omega | (rw [List.length_set]; omega)⟩).as (v' := Str ((Wn.fl (Wd.seedOf seed b) k).drop 8)) (by rw [List.take_length])) rfl ?_
        rw [Wn.fl_next]
        refine J.b rfl <| J.c hK29 <| J.e0 2 3 9 10 11 12 14 15 16 17 ?_
        refine J.g fun K30 hK30 => J.p 2 rfl <| J.f ((qBa (a := 18446744073709551615) (b := a - k) rfl rfl rfl (by omega))) rfl <| J.f ((qIu (a := 18446744073709551615) (b := 18446744073709551615 % (a - k)) rfl rfl rfl (by omega))) rfl <| J.f ((qAS rfl rfl rfl).yes (Int.ofNat_lt.2 hwk)) rfl <| J.c hK30 <| J.d5 2 3 9 10 11 12 14 15 16 17 73 ?_
        refine J.d1 ?_
        refine J.g fun K31 hK31 => J.p 2 rfl <| J.f ((qBa (a := ws.getD k 0) (b := a - k) rfl rfl rfl (by omega))) rfl <| J.b rfl <| J.c hK31 <| J.d2 2 3 9 10 11 12 14 16 ?_
        refine J.b0 <| J.h4 rfl ?_
        refine J.Z <| J.b1 ?_
        exact J.q <| J.a6 (Wn.lf (Wd.seedOf seed b) (k + 1), k / 4 + 1, ws.getD k 0 % (a - k)) hK17 (⟨rfl, fun _ => ⟨rfl, by dsimp only; omega⟩⟩) ⟨rfl, rfl, rfl, rfl, rfl, rfl, rfl, rfl, trivial⟩ (fun _ h => h)
      refine J.b0 <| J.Z <| J.Z <| J.b1 ?_
      exact J.q <| J.a6 (Wn.lf (Wd.seedOf seed b) k, (k + 3) / 4, 0) hK17 (⟨by dsimp only; rw [show a - k = 1 by omega, Nat.mod_one], fun h => absurd h (by omega)⟩) ⟨rfl, rfl, rfl, rfl, rfl, rfl, rfl, rfl, trivial⟩ (fun _ h => h)
    rintro ⟨L2, C2, at_⟩ ⟨hat, hst2⟩
    dsimp only at hat hst2 ⊢
    refine J.k fun K32 hK32 => ?_
    have hsl2 := Wn.swN_len ws a k
    have hat2 : at_ < a - k := by rw [hat]; exact Nat.mod_lt _ (by omega)
    refine J.E <| J.p 2 rfl <| J.f (qLN (a := at_) rfl rfl qDu u3_ (by first | omega | (rw [List.length_set]; omega))) rfl <| J.f ((qAO rfl rfl rfl (by first | omega | (rw [List.length_set]; omega))).nat (k + at_) (by omega)) rfl <| J.b rfl <| J.c hK32 <| J.d2 2 3 9 10 11 12 14 19 ?_
    refine J.b5 [F, mr] [13, 14, 15, 100002, 100003] (.y 0 (.y 1 (.y 2 (.y 3 (.y 4 (.y 5 (.y 6 (.y 7 (.y 8 (.y 9 (.y 10 (.y 11 (.y 12 (.e 13 (.e 14 (.e 15 .nil)))))))))))))))) Tryz.wide (by decide +kernel) (by simp) ?_
    refine J.G ?_
    refine J.G ?_
    refine J.e3 rfl (qAj rfl rfl) rfl rfl rfl ?_
    refine J.e3 rfl (qAj rfl rfl) rfl rfl rfl ?_
    refine J.G ?_
    refine J.G ?_
    refine J.j rfl (qAJ (i := k + at_) (j := 0 + (k + at_) * 1) rfl rfl rfl qB1 z3_ (by first | omega | (rw [List.length_set]; omega)) (by omega)) rfl rfl <| J.j rfl (qAK rfl rfl b3_ (m := mr) (by simp) (hrw.sl.cells (qBA (by first | omega | (rw [List.length_set]; omega))))) rfl rfl <| J.G ?_
    refine J.G ?_
    refine J.j rfl (qAJ (i := k) (j := 0 + k * 1) rfl rfl rfl qB1 z3_ (by first | omega | (rw [List.length_set]; omega)) (by omega)) rfl rfl <| J.j rfl (qAK rfl rfl b3_ (m := mr) (by simp) (hrw.sl.cells (qBA (by first | omega | (rw [List.length_set]; omega))))) rfl rfl <| J.j rfl (qAJ (i := k) (j := 0 + k * 1) rfl rfl rfl qB1 z3_ (by first | omega | (rw [List.length_set]; omega)) (by omega)) rfl rfl <| J.c8 rfl (qA9 (i := 1) (k := k) (off := 0) (b := [I (((Wn.swN ws a k).getD (k + at_) 0 : Nat) : Int)]) rfl rfl rfl rfl hrw (vs := [I (((Wn.swN ws a k).getD (k + at_) 0 : Nat) : Int)]) rfl z3_ rfl (by omega) (qBA (by first | omega | (rw [List.length_set]; omega))) rfl (Nat.le_refl _)) rfl rfl rfl ?_
    rintro m26_1 hm26_1
    change J _ _ _ [F, m26_1] _
    rw [qEA] at hm26_1
    refine J.e1 rfl (YOp.eop (qAJ (i := k + at_) (j := 0 + (k + at_) * 1) rfl rfl rfl qB1 z3_ (by first | omega | (rw [List.length_set]; omega)) (by omega))) rfl rfl rfl rfl ?_
    intro _ _
    refine J.c8 rfl (qA9 (i := 1) (k := k + at_) (off := 0) (b := [I (((Wn.swN ws a k).getD k 0 : Nat) : Int)]) rfl rfl rfl rfl hm26_1 (vs := [I (((Wn.swN ws a k).getD k 0 : Nat) : Int)]) rfl z3_ rfl (by omega) (qBA (by first | omega | (rw [List.length_set]; omega))) rfl (Nat.le_refl _)) rfl rfl rfl ?_
    rintro m26_2 hm26_2
    change J _ _ _ [_, m26_2] _
    rw [qEA] at hm26_2
    refine J.b4 <| J.a4 <| J.q (J.H hK14 ?_)
    refine J.b9 2 3 9 10 11 12 14 ?_
    exact J.E <| J.b rfl <| J.f ((qAO rfl rfl rfl (by first | omega | (rw [List.length_set]; omega))).nat (k + 1) (by omega)) rfl <| J.b rfl <| J.a2 <| J.q <| J.a6 (k + 1, L2, C2, m26_2) (fun η (hη : _ ∧ sl - η.1 < sl - k) => hI2 η hη.1 hη.2) ⟨⟨by dsimp only; omega, fun h => hst2 (by dsimp only at h; omega), by dsimp only; rw [Wn.swN, ← hat]; exact hm26_2⟩, by first | omega | (dsimp only; omega)⟩ ⟨rfl, rfl, rfl, rfl, rfl, rfl, rfl, trivial⟩ (fun _ h => h)
  refine J.b0 <| J.Z <| J.Z <| J.b1 ?_
  refine J.q (J.H hK10 ?_)
  refine J.M 3 12 ?_
  refine J.k fun K33 hK33 => ?_
  obtain rfl : sl = k := by omega
  refine J.E <| J.p 2 rfl <| J.f (qCe (h := sl) rfl rfl qB1 z3_ rfl (by have := hrw.2.2.1; omega)) rfl <| J.b rfl <| J.c hK33 <| J.A 8 ?_
  exact J.D <| J.L hw0 rfl ((some ⟨gr, 0, none⟩), cr, mr) rfl hrw [0, 1] rfl (by decide)
theorem qKP {l : List Nat} {j b : Nat} (h : j < l.length) : ((l.take (j + 1)).filter fun y => decide (y = b)).length = ((l.take j).filter fun y => decide (y = b)).length + if l.getD j 0 = b then 1 else 0 := by
 rw [List.take_succ_eq_append_getElem h, List.filter_append, List.length_append, List.filter_cons, List.filter_nil, List.getD_eq_getElem?_getD, List.getElem?_eq_getElem h]
 show _ + (if decide (l[j] = b) = true then [l[j]] else []).length = _ + if l[j] = b then 1 else 0
 by_cases e : l[j] = b
 · rw [if_pos (decide_eq_true e), if_pos e]; rfl
 · rw [if_neg (by simpa using e), if_neg e]; rfl
theorem qJD (F : Hp) (A : Option Addr) (n c : Nat) (l : List Nat) (hsl : Sl F 1 A n c (qAu l)) (hn : n ≤ 1000000) (bs nd : Nat) (hbs : bs ≤ 16) : Ct prog 14 [.slice A n c, I ((bs : Nat) : Int), I ((nd : Nat) : Int)] [F] (fun _ : Unit => .bool (decide (∀ b, b < bs → nd ≤ (l.filter fun x => decide (x = b)).length))) (fun _ => True) (fun _ => [F]) := by
 have hln : l.length = n := by have := hsl.1; simpa [qAu] using this
 refine Ct.walk func14 rfl ntmps14 rfl (fun w0 hw0 => ?_)
 change J _ [(0, _), (1, _), (2, _)] _ _ _
 refine J.g fun K1 hK1 => J.b rfl <| J.c hK1 <| J.V 0 1 2 ?_
 refine J.k fun K2 hK2 => J.g fun K3 hK3 => J.b rfl <| J.c hK3 <| J.W 0 1 2 7 ?_
 refine J.T <| J.b2 (X := Nat) (fun ζ => [(0, .slice A n c), (1, I ((bs : Nat) : Int)), (2, I ((nd : Nat) : Int)), (7, I ((ζ : Nat) : Int))]) (fun ζ => [F]) (fun ζ => ζ ≤ bs ∧ ∀ x, x < ζ → nd ≤ (l.filter fun y => decide (y = x)).length) (fun ζ => bs - ζ) 0 (⟨Nat.zero_le _, fun x h => absurd h (Nat.not_lt_zero x)⟩) ⟨rfl, rfl, rfl, rfl, trivial⟩ (fun _ h => h) ?_
 rintro b ⟨hb, hall⟩ I0 hI0
 refine J.k fun K4 hK4 => J.g fun K5 hK5 => J.p 2 rfl <| J.f (qAS rfl rfl rfl) rfl <| J.c hK5 <| J.a3 0 1 2 7 12 ?_
 refine J.a0 rfl (fun h12 => ?_) (fun h12 => ?_)
 ·
  refine J.a1 hK4 <| J.W 0 1 2 7 ?_
  refine J.k fun K6 hK6 => J.T <| J.g fun K7 hK7 => J.b rfl <| J.c hK7 <| J.a3 0 1 2 7 8 ?_
  refine J.k fun K8 hK8 => J.g fun K9 hK9 => J.b rfl <| J.c hK9 <| J.a9 0 1 2 7 8 9 ?_
  refine J.T <| J.b2 (X := Nat) (fun ζ => [(0, .slice A n c), (1, I ((bs : Nat) : Int)), (2, I ((nd : Nat) : Int)), (7, I ((b : Nat) : Int)), (8, I ((((l.take ζ).filter fun y => decide (y = b)).length : Nat) : Int)), (9, I ((ζ : Nat) : Int))]) (fun ζ => [F]) (fun ζ => ζ ≤ n) (fun ζ => n - ζ) 0 (Nat.zero_le _) ⟨rfl, rfl, rfl, rfl, rfl, rfl, trivial⟩ (fun _ h => h) ?_
  rintro j hj I2 hI2
  refine J.k fun K10 hK10 => J.g fun K11 hK11 => J.p 2 rfl <| J.f (qAZ qB1 rfl rfl) rfl <| J.f (qAS rfl rfl rfl) rfl <| J.c hK11 <| J.b9 0 1 2 7 8 9 18 ?_
  refine J.a0 rfl (fun h18 => ?_) (fun h18 => ?_)
  ·
   refine J.a1 hK10 <| J.a9 0 1 2 7 8 9 ?_
   refine J.e5 (X := Unit) (fun ζ => [(0, .slice A n c), (1, I ((bs : Nat) : Int)), (2, I ((nd : Nat) : Int)), (7, I ((b : Nat) : Int)), (8, I ((((l.take (j + 1)).filter fun y => decide (y = b)).length : Nat) : Int)), (9, I ((j : Nat) : Int))]) (fun ζ => [F]) (fun ζ => True) (fun K12 hK12 => ?_) ?_
   ·
    refine J.T <| J.k fun K13 hK13 => ?_
    have hjl : j < l.length := by omega
    have hcl : ((l.take j).filter fun y => decide (y = b)).length ≤ j := Nat.le_trans (List.length_filter_le _ _) (by rw [List.length_take]; omega)
    refine J.E <| J.p 2 rfl <| J.f (qAG (i := j) rfl rfl rfl qB1 z3_ hsl (by omega)) rfl <| J.f (qAK rfl rfl b3_ (m := F) (by simp) (hsl.elem (qBA (by omega)))) rfl <| J.b rfl <| J.f (qAd rfl rfl rfl) rfl <| J.c hK13 <| J.b9 0 1 2 7 8 9 26 ?_
    refine J.a0 rfl (fun h26 => ?_) (fun h26 => ?_)
    ·
     exact J.E <| J.b rfl <| J.f ((qAO rfl rfl rfl (by omega)).as (v' := I ((((l.take j).filter fun y => decide (y = b)).length + 1 : Nat) : Int)) (congrArg I (by omega))) rfl <| J.b rfl <| J.a2 <| J.a4 <| J.q <| J.a6 () hK12 (trivial) ⟨rfl, rfl, rfl, rfl, (by show some (I _) = some (I _); rw [qKP hjl, if_pos (by omega)]), rfl, trivial⟩ (fun _ h => h)
    exact J.b7 <| J.a4 <| J.q <| J.a6 () hK12 (trivial) ⟨rfl, rfl, rfl, rfl, (by show some (I _) = some (I _); rw [qKP hjl, if_neg (by omega), Nat.add_zero]), rfl, trivial⟩ (fun _ h => h)
   rintro _ _
   exact J.E <| J.b rfl <| J.f ((qAO rfl rfl rfl (by omega)).nat (j + 1) (by omega)) rfl <| J.b rfl <| J.a2 <| J.q <| J.a6 (j + 1) (fun η (hη : _ ∧ n - η < n - j) => hI2 η hη.1 hη.2) ⟨by omega, by first | omega | (dsimp only; omega)⟩ ⟨rfl, rfl, rfl, rfl, rfl, rfl, trivial⟩ (fun _ h => h)
  refine J.b0 <| J.Z <| J.Z <| J.b1 ?_
  refine J.q (J.H hK8 ?_)
  refine J.a3 0 1 2 7 8 ?_
  refine J.k fun K14 hK14 => ?_
  have hjn : n = j := by omega
  rw [List.take_of_length_le (by omega)]
  refine J.E <| J.p 2 rfl <| J.f (qAS rfl rfl rfl) rfl <| J.c hK14 <| J.a3 0 1 2 7 31 ?_
  refine J.a0 rfl (fun h31 => ?_) (fun h31 => ?_)
  ·
   refine J.g fun K15 hK15 => J.b rfl <| J.c hK15 <| J.A 6 ?_
   exact J.D <| J.b3 <| J.a5 <| J.a5 <| J.b3 <| J.a5 <| J.L hw0 rfl () (by rw [decide_eq_false]; intro h; have := h b (by omega); omega) trivial [0] rfl (by decide)
  refine J.b7 <| J.a4 <| J.q (J.H hK6 ?_)
  refine J.W 0 1 2 7 ?_
  exact J.E <| J.b rfl <| J.f ((qAO rfl rfl rfl (by omega)).nat (b + 1) (by omega)) rfl <| J.b rfl <| J.a2 <| J.q <| J.a6 (b + 1) (fun η (hη : _ ∧ bs - η < bs - b) => hI0 η hη.1 hη.2) ⟨⟨by omega, fun x hx => by rcases Nat.lt_succ_iff_lt_or_eq.1 hx with h | rfl; exact hall x h; omega⟩, by first | omega | (dsimp only; omega)⟩ ⟨rfl, rfl, rfl, rfl, trivial⟩ (fun _ h => h)
 refine J.b0 <| J.Z <| J.Z <| J.b1 ?_
 refine J.q (J.H hK2 ?_)
 refine J.c6 [] trivial <| J.g fun K16 hK16 => J.b rfl <| J.c hK16 <| J.A 6 ?_
 exact J.D <| J.L hw0 rfl () (by rw [decide_eq_true]; intro x hx; exact hall x (by omega)) trivial [0] rfl (by decide)
end Go.Proofs.YtfldiegfenndjaaGreatDoor
