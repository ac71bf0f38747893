/- A part of the proof. -/
import Derived.Test.YtfldiegfenndjaaGreatDoorTopAkG7
import Derived.Test.YtfldiegfenndjaaGreatDoorTopAkG21
import Derived.Test.YtfldiegfenndjaaGreatDoorTopAkG26
set_option linter.unusedSimpArgs false
set_option linter.unusedVariables false
namespace Go.Proofs.YtfldiegfenndjaaGreatDoor
open Go Go.Fw Go.Proofs.Tryz
set_option maxRecDepth 100000
set_option maxHeartbeats 1000000
theorem ent52 : qAE prog 52 := qAE.of func52 rfl (by kernel_rfl)
structure AoR where
 gk : Nat
 kk : Hp
 gb : Nat
 Ab : Option Addr
 cb : Nat
 mb : Hp
 gs : Nat
 gq : Nat
 Aq : Option Addr
 cq : Nat
 mq : Hp
 gm : Nat
 ga : Nat
structure AoP (seed : List UInt8) (kh f0 v : Nat) (X2 : Hlf) (r : AoR) : Prop where
 hk : qJM r.kk r.gk seed kh
 hb : Row r.mb 9 1 r.Ab (XG f0 v).R.length r.cb (qAI (XG f0 v).R)
 hq : Row r.mq 9 1 r.Aq X2.R.length r.cq (qAI X2.R)
theorem qKK (F : Hp) (hK : KF F) (gd : Nat) (d : Dk) (f0 n v : Nat) (O : Nat → List UInt8) (h : DG f0 n O d v) (h8 : v ≤ 8) (ho : d.off = false) (hn : n ≤ 1024) (hf : f0 ≤ 1000) (A : Option Addr) (c : Nat) (B : Option Addr) (e : Nat) (C : Option Addr) (f : Nat) (hc : qAQ F ⟨gd, 0, none⟩ (d.cells A c B e C f)) (hL : Sl F 1 A d.last.length c (qAI d.last)) (hW : Sl F 2 B d.wait.length e (qB2 d.wait)) (seed : List UInt8) (hsd : seed.length ≤ 1048576) (kh : Nat) (h6 : kh ≤ 6) (cn : Nat) (hcn : 16 ≤ cn) (hfc : f0 + cn ≤ n) (X2 : Hlf) (hX2 : hst d (f0 + 8) ((cn - 8) / 2) 2 = X2) (h0 : X2.R = []) : Ct prog 17 [Ptr gd, I ((f0 : Nat) : Int), I ((cn : Nat) : Int), Str seed, I ((kh : Nat) : Int)] [F] (fun r : AoR => .tuple #[Ptr r.ga, I ((0 : Nat) : Int)]) (AoP seed kh f0 v X2) (fun r => [F, r.kk, blk r.gb (bkC gd f0 (8 / 2) (XG f0 v) r.Ab r.cb false) 223, r.mb, blk r.gs [Ptr r.gk, Ptr r.gb, I ((v : Nat) : Int)] 216, blk r.gq (bkC gd (f0 + 8) ((cn - 8) / 2) X2 r.Aq r.cq false) 223, r.mq, qAK r.gm (.map #[] 0), blk r.ga [Ptr r.gs, I ((2 ^ kh : Nat) : Int), Ptr r.gq, .map (some r.gm)] 145]) := by
 have hp64 := Xm.pow_le kh h6
 have hfit8 := h.fits
 have hlen := h.len
 have hwl := qM7 h
 have h0l : X2.R.length = 0 := by rw [h0]; rfl
 refine Ct.walk func17 rfl ntmps17 rfl (fun w0 hw0 => ?_)
 change J _ [(0, _), (1, _), (2, _), (3, _), (4, _)] _ _ _
 refine J.g fun K1 hK1 => J.j 2 rfl <| J.c hK1 <| J.a0 0 1 2 3 4 ?_
 refine J.g fun K2 hK2 => J.j 3 rfl <| J.f ((qDX rfl rfl rfl).nat (8) (by omega)) rfl <| J.j 2 rfl <| J.p (qAB rfl rfl ent52 (Ct.use (new := fun x : (Nat × Hp) × (Nat × Option Addr × Nat × Hp) × Nat => [x.1.2, blk x.2.1.1 (bkC gd f0 (8 / 2) (XG f0 v) x.2.1.2.1 x.2.1.2.2.1 false) 223, x.2.1.2.2.2, blk x.2.2 [Ptr x.1.1, Ptr x.2.1.1, I ((v : Nat) : Int)] 216]) (fun F' hF => qPF F' (hK.mo hF) gd d f0 n v O h h8 ho seed hsd kh h6 A c B e C f (hc.mono (hF F (by simp))) (hL.mono (hF F (by simp))) (hW.mono (hF F (by simp)))))) rfl ?_
 rintro ⟨⟨gk, mk⟩, ⟨gb, Ab, cb, mb⟩, gs⟩ ⟨hk, hb⟩
 change J _ ((28, .tuple #[Ptr gs, I ((0 : Nat) : Int)]) :: _) _ [F, mk, blk gb (bkC gd f0 (8 / 2) (XG f0 v) Ab cb false) 223, mb, blk gs [Ptr gk, Ptr gb, I ((v : Nat) : Int)] 216] _
 dsimp only at hk hb
 refine J.j 5 rfl <| J.c hK2 <| J.a0 0 1 2 12 13 ?_
 refine J.k fun K3 hK3 => J.g fun K4 hK4 => J.b rfl <| J.f ((qAY rfl rfl rfl).no (by decide)) rfl <| J.c hK4 <| J.b3 0 1 2 12 13 32 ?_
 refine J.a8 ?_
 refine J.W hK3 <| J.M 0 1 2 12 ?_
 refine J.g fun K5 hK5 => J.j 2 rfl <| J.f ((qAR rfl rfl rfl (by omega)).nat (f0 + 8) (by omega)) rfl <| J.b rfl <| J.f ((qAp rfl rfl rfl (by omega)).nat (cn - 8) (by omega)) rfl <| J.p (qAB rfl rfl ent53 (Ct.use (new := fun x : Nat × Option Addr × Nat × Hp => [blk x.1 (bkC gd (f0 + 8) ((cn - 8) / 2) X2 x.2.1 x.2.2.1 false) 223, x.2.2.2]) (fun F' hF => by have := qHG F' (hK.mo hF) gd d h.ok A c B e C f (hc.mono (hF F (by simp))) (hL.mono (hF F (by simp))) (hW.mono (hF F (by simp))) (by omega) (f0 + 8) (cn - 8) (by omega) (by omega) ho; rw [hX2] at this; exact this))) rfl ?_
 rintro ⟨gq, Aq, cq, mq⟩ hq
 try dsimp only at hq
 change J _ ((40, .tuple #[Ptr gq, I ((0 : Nat) : Int)]) :: _) _ [_, _, _, _, _, blk gq (bkC gd (f0 + 8) ((cn - 8) / 2) X2 Aq cq false) 223, mq] _
 refine J.j 5 rfl <| J.c hK5 <| J.H 12 13 14 ?_
 refine J.k fun K6 hK6 => J.g fun K7 hK7 => J.b rfl <| J.f ((qAY rfl rfl rfl).no (by decide)) rfl <| J.c hK7 <| J.M 12 13 14 44 ?_
 refine J.a8 ?_
 refine J.W hK6 <| J.E 12 14 ?_
 refine J.g fun K8 hK8 => J.j 2 rfl <| J.p (qAB rfl rfl ent54 (Ct.use0 (fun F' hF => qLo F' gs gk gb v (qAQ.blk0.mono (hF (blk gs [Ptr gk, Ptr gb, I ((v : Nat) : Int)] 216) (by simp))) seed kh (hk.mono (hF mk (by simp))) hsd h6))) rfl fun g48 _ => J.f (qOH (v := I ((kh : Nat) : Int)) rfl rfl qNT rfl b3_ rfl) rfl <| J.f ((qGq (a := 1) (m := kh) rfl rfl rfl ⟨by omega, by omega⟩).as (v' := I ((2 ^ kh : Nat) : Int)) (by rw [Nat.one_mul])) rfl <| J.b rfl <| J.p (qGD rfl) rfl ?_
 rintro g52 _
 change J _ ((52, .map (some g52)) :: _) _ [_, _, _, _, _, _, _, qAK g52 (.map #[] 0)] _
 refine J.f (qAM (l := [(0, .tmp 46), (1, .tmp 50), (2, .tmp 51), (3, .tmp 52)]) (vs := [Ptr gs, I ((2 ^ kh : Nat) : Int), Ptr gq, .map (some g52)]) (places := [(0, 1), (1, 1), (2, 1), (3, 1)]) (r := [Ptr gs, I ((2 ^ kh : Nat) : Int), Ptr gq, .map (some g52)]) rfl rfl rfl qFC zeroValue145 (fun _ => by kernel_rfl) rfl) rfl <| J.p (qAf (l := [Ptr gs, I ((2 ^ kh : Nat) : Int), Ptr gq, .map (some g52)]) rfl rfl rfl) rfl fun g54 _ => ?_
 change J _ _ _ [_, _, _, _, _, _, _, _, blk g54 [Ptr gs, I ((2 ^ kh : Nat) : Int), Ptr gq, .map (some g52)] 145] _
 refine J.b rfl <| J.c hK8 <| J.E 14 15 ?_
 refine J.k fun K9 hK9 => J.g fun K10 hK10 => J.b rfl <| J.p (qAB rfl rfl ent55 (Ct.use (new := fun x : Option Addr × Nat × Hp => [x.2.2]) (fun F' hF => qEN F' gq gd (((f0 + 8 : Nat)) : Int) ((cn - 8) / 2) ((X2.at_ : Nat) : Int) X2.t ((X2.e : Nat) : Int) Aq X2.R.length cq false (qAQ.blk0.mono (hF (blk gq (bkC gd (f0 + 8) ((cn - 8) / 2) X2 Aq cq false) 223) (by simp))) X2.R rfl (hq.sl.mono (hF mq (by simp))) (by omega)))) rfl ?_
 rintro ⟨A56, c56, m56⟩ h56
 try dsimp only at h56
 change J _ ((56, .slice A56 X2.R.length c56) :: _) _ [_, _, _, _, _, _, _, _, _, m56] _
 refine J.f (qAa qAh rfl rfl) rfl <| J.b rfl <| J.c hK10 <| J.M 15 56 57 58 ?_
 refine J.a1 <| J.c0 (X := Nat) (fun ζ => [(15, Ptr g54), (56, .slice A56 X2.R.length c56), (57, I ((X2.R.length : Nat) : Int)), (58, I ((ζ : Nat) : Int))]) (fun ζ => [F, mk, blk gb (bkC gd f0 (8 / 2) (XG f0 v) Ab cb false) 223, mb, blk gs [Ptr gk, Ptr gb, I ((v : Nat) : Int)] 216, blk gq (bkC gd (f0 + 8) ((cn - 8) / 2) X2 Aq cq false) 223, mq, qAK g52 (.map #[] 0), blk g54 [Ptr gs, I ((2 ^ kh : Nat) : Int), Ptr gq, .map (some g52)] 145, m56]) (fun ζ => ζ = 0) (fun ζ => 0) 0 (rfl) ⟨rfl, rfl, rfl, rfl, trivial⟩ (fun _ h => h) ?_
 rintro i hi I0 hI0
 refine J.g fun K11 hK11 => J.f ((qAW rfl rfl rfl).no (by omega)) rfl <| J.c hK11 <| J.a0 15 56 57 58 59 ?_
 refine J.k fun K12 hK12 => J.a8 ?_
 refine J.b7 <| J.a6 <| J.a6 <| J.b8 ?_
 refine J.A (J.L hK9 ?_)
 refine J.u 15 ?_
 refine J.g fun K13 hK13 => J.j 3 rfl <| J.c hK13 <| J.E 10 11 ?_
 exact J.D <| J.b4 hw0 (fun _ _ h => h) (qCq rfl rfl rfl) (qAj (⟨gk, mk, gb, Ab, cb, mb, gs, gq, Aq, cq, mq, g52, g54⟩ : AoR) rfl ⟨hk, hb, hq⟩ [0, 1, 2, 3, 4, 5, 6, 7, 8] rfl (by decide))
theorem qKL (F : Hp) (hK : KF F) (gd : Nat) (d : Dk) (f0 n v : Nat) (O : Nat → List UInt8) (h : DG f0 n O d v) (h8 : v ≤ 8) (ho : d.off = false) (hn : n ≤ 1024) (hf : f0 ≤ 1000) (A : Option Addr) (c : Nat) (B : Option Addr) (e : Nat) (C : Option Addr) (f : Nat) (hc : qAQ F ⟨gd, 0, none⟩ (d.cells A c B e C f)) (hL : Sl F 1 A d.last.length c (qAI d.last)) (hW : Sl F 2 B d.wait.length e (qB2 d.wait)) (seed : List UInt8) (hsd : seed.length ≤ 1048576) (kh : Nat) (h6 : kh ≤ 6) (cn : Nat) (hcn : 8 ≤ cn) (hcn2 : cn < 16) : Ct prog 17 [Ptr gd, I ((f0 : Nat) : Int), I ((cn : Nat) : Int), Str seed, I ((kh : Nat) : Int)] [F] (fun _ : Unit => .tuple #[.pointer none, I 1]) (fun _ => True) (fun _ => [F]) := by
 have hp64 := Xm.pow_le kh h6
 have hfit8 := h.fits
 have hlen := h.len
 have hwl := qM7 h
 refine Ct.walk func17 rfl ntmps17 rfl (fun w0 hw0 => ?_)
 change J _ [(0, _), (1, _), (2, _), (3, _), (4, _)] _ _ _
 refine J.g fun K1 hK1 => J.j 2 rfl <| J.c hK1 <| J.a0 0 1 2 3 4 ?_
 refine J.g fun K2 hK2 => J.j 3 rfl <| J.f ((qDX rfl rfl rfl).nat (8) (by omega)) rfl <| J.j 2 rfl <| J.p (qAB rfl rfl ent52 (Ct.use (new := fun x : (Nat × Hp) × (Nat × Option Addr × Nat × Hp) × Nat => [x.1.2, blk x.2.1.1 (bkC gd f0 (8 / 2) (XG f0 v) x.2.1.2.1 x.2.1.2.2.1 false) 223, x.2.1.2.2.2, blk x.2.2 [Ptr x.1.1, Ptr x.2.1.1, I ((v : Nat) : Int)] 216]) (fun F' hF => qPF F' (hK.mo hF) gd d f0 n v O h h8 ho seed hsd kh h6 A c B e C f (hc.mono (hF F (by simp))) (hL.mono (hF F (by simp))) (hW.mono (hF F (by simp)))))) rfl ?_
 rintro ⟨⟨gk, mk⟩, ⟨gb, Ab, cb, mb⟩, gs⟩ ⟨hk, hb⟩
 change J _ ((28, .tuple #[Ptr gs, I ((0 : Nat) : Int)]) :: _) _ [F, mk, blk gb (bkC gd f0 (8 / 2) (XG f0 v) Ab cb false) 223, mb, blk gs [Ptr gk, Ptr gb, I ((v : Nat) : Int)] 216] _
 dsimp only at hk hb
 refine J.j 5 rfl <| J.c hK2 <| J.a0 0 1 2 12 13 ?_
 refine J.k fun K3 hK3 => J.g fun K4 hK4 => J.b rfl <| J.f ((qAY rfl rfl rfl).no (by decide)) rfl <| J.c hK4 <| J.b3 0 1 2 12 13 32 ?_
 refine J.a8 ?_
 refine J.W hK3 <| J.M 0 1 2 12 ?_
 refine J.g fun K5 hK5 => J.j 2 rfl <| J.f ((qAR rfl rfl rfl (by omega)).nat (f0 + 8) (by omega)) rfl <| J.b rfl <| J.f ((qAp rfl rfl rfl (by omega)).nat (cn - 8) (by omega)) rfl <| J.p (qAB rfl rfl ent53 (Ct.use0 (fun F' hF => qKo F' gd d A c B e C f (hc.mono (hF F (by simp))) ((f0 + 8 : Nat) : Int) ((cn - 8 : Nat) : Int) (by omega) (by omega) (by omega) (by omega)))) rfl fun g40 _ => J.j 5 rfl <| J.c hK5 <| J.H 12 13 14 ?_
 refine J.k fun K6 hK6 => J.g fun K7 hK7 => J.b rfl <| J.f ((qAY rfl rfl rfl).yes (by decide)) rfl <| J.c hK7 <| J.M 12 13 14 44 ?_
 refine J.c6 ?_
 refine J.g fun K8 hK8 => J.j 3 rfl <| J.c hK8 <| J.E 10 11 ?_
 exact J.D <| J.a3 <| J.b4 hw0 (fun _ _ h => h) (qCq rfl rfl rfl) (qAj () rfl trivial [0] rfl (by decide))
end Go.Proofs.YtfldiegfenndjaaGreatDoor
