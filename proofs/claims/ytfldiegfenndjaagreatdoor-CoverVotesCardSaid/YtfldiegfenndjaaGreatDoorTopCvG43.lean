/- A part of the proof. -/
import Derived.Test.YtfldiegfenndjaaGreatDoorTopCvG8
import Derived.Test.YtfldiegfenndjaaGreatDoorTopCvG42
set_option linter.unusedSimpArgs false
set_option linter.unusedVariables false
namespace Go.Proofs.YtfldiegfenndjaaGreatDoor
open Go Go.Fw Go.Proofs.Tryz
set_option maxRecDepth 100000
set_option maxHeartbeats 1000000
theorem ent7 : qAF prog 7 := qAF.of func7 rfl (by kernel_rfl)
def hd0 : Hd := ⟨0, [], 0, 0, []⟩
theorem qSR : hd0.dig = [] := qSa.2 (by rw [qGW (x := hd0) (.inr (.inl (by decide)))]; decide)
theorem qPo : hd0.good := ⟨by decide, by decide, by decide⟩
def yW (ep : Nat) : Hd := ⟨ep, (pW 4 0).dig, ((0 : Nat) : Int), ((4 : Nat) : Int), qAI (qAB 4) 0⟩
theorem qQ0 {ep : Nat} (h : ep ≤ 2) : (yW ep).good := ⟨by show ep < _; omega, by show (pW 4 0).dig.length ≤ _; rw [qAx (by decide) (by decide)]; decide, by have := qDk 4 (d := 0) (by decide); show (qAI (qAB 4) 0).length ≤ _; omega⟩
theorem qQ9 (j : Nat) : ([0, 1, 1, 0] : List Nat).getD j 0 ≤ 1000000 := by
 match j with
 | 0 => decide
 | 1 => decide
 | 2 => decide
 | 3 => decide
 | j + 4 => exact Nat.zero_le _
theorem qGj {va vb v : VtD} {k : Nat} (hk : k < 2) (hv : v = [va, vb].getD k qAN) : (k = 0 ∧ v = va) ∨ (k = 1 ∧ v = vb) := by
 rcases (show k = 0 ∨ k = 1 by omega) with rfl | rfl
 · exact .inl ⟨rfl, hv⟩
 · exact .inr ⟨rfl, hv⟩
theorem qTM {m : Hp} {g n c k : Nat} {l : List VtD} {v : VtD} (h : Row m 60 15 (some ⟨g, 0, none⟩) n c (qBE l)) (hv : (qBE l)[k]? = some v.cells) : qAS m ⟨g, k * 15 + 0 + 4 + 0, none⟩ [I ((v.i : Nat) : Int)] := by
 have h1 := h.sl.part hv 4 1
 unfold qFd at h1
 rw [Option.getD_some, Addr.add_lit, Addr.add_lit, Nat.zero_add] at h1
 exact h1
attribute [local irreducible] qBp qAB Hd.dig Sm.nd Xm.root Wo.opn
theorem qNF (F : Hp) (hK : KF F) (hA : qAS F ⟨1, 0, none⟩ qBo) (hT : qCP F) (how seed : UInt8) : Ct prog 4 [B8 (how), B8 (seed)] [F] (fun _ : Unit => .bool true) (fun _ => True) (fun _ => [F]) := by
  obtain ⟨k, hk⟩ : ∃ k, k = seed.toNat % 2 := ⟨_, rfl⟩
  have hk2 : k < 2 := by omega
  refine Ct.walk func4 rfl ntmps4 rfl (fun w0 hw0 => ?_)
  change J _ [(0, _), (1, _)] _ _ _
  refine J.g fun K1 hK1 => J.b rfl <| J.c hK1 <| J.G 0 1 ?_
  refine J.p fun K2 hK2 => J.g fun K3 hK3 => J.q (qAC rfl rfl ent7 (Ct.use0 (fun F' hF => qIr F' (hK.mo hF) (hA.mono (hF F (by simp))) (hT.mono (hF F (by simp)))))) rfl fun g20 _ => J.f (qA3 rfl rfl) rfl <| J.c hK3 <| J.O 0 1 21 ?_
  refine J.b2 ?_
  refine J.a1 hK2 <| J.G 0 1 ?_
  refine J.g fun K4 hK4 => J.q (qAC rfl rfl ent8 (Ct.use (new := fun r : WdH => [r.mr, r.mu, r.H]) (fun F' hF => qEj F' (hK.mo hF) (hA.mono (hF F (by simp))) (hT.mono (hF F (by simp))) 4 0 (by decide) (by decide) (by decide)))) rfl ?_
  rintro ⟨gw, gt, gr, gs, kA, kc, nA, nc, gu, uc, mr, mu, H⟩ hw
  try dsimp only at hw
  change J _ ((22, Ptr gw) :: _) _ [F, mr, mu, H] _
  obtain ⟨hw, hgl, hkr, hks, hro, hur, hTr, hnr⟩ := hw
  dsimp only at hw hgl hkr hks hro hur hTr hnr
  refine J.b rfl <| J.c hK4 <| J.O 0 1 5 ?_
  refine J.g fun K5 hK5 => J.f (qAL (l := [(0, .const ((Value.int IntKind.i64 2))), (1, .const ((Value.int IntKind.i64 2)))]) (vs := [I ((2 : Nat) : Int), I ((2 : Nat) : Int)]) (places := [(0, 1), (1, 1)]) (r := [I ((2 : Nat) : Int), I ((2 : Nat) : Int)]) rfl rfl rfl qHg qPu (fun _ => by kernel_rfl) (by kernel_rfl)) rfl <| J.q (qAe (l := [I 0, I 0]) rfl qPu rfl) rfl fun g6 _ => ?_
  change J _ _ _ [_, _, _, _, blk g6 [I 0, I 0] 26] _
  refine J.b4 (qAP (i := 4) (l := [I 0, I 0]) (vs := [I ((2 : Nat) : Int), I ((2 : Nat) : Int)]) rfl rfl rfl rfl rfl qId rfl rfl) rfl rfl fun _ _ => ?_
  change J _ _ _ [_, _, _, _, blk g6 [I ((2 : Nat) : Int), I ((2 : Nat) : Int)] 26] _
  refine J.c hK5 <| J.T 0 1 5 6 ?_
  refine J.p fun K6 hK6 => J.c0 [H, blk g6 [I ((2 : Nat) : Int), I ((2 : Nat) : Int)] 26] [] (.y 0 (.y 1 (.y 2 (.y 3 (.y 4 (.e 5 (.y 6 (.y 7 (.y 8 (.y 9 (.y 10 .nil))))))))))) Tryz.wide (by decide +kernel) (by simp) ?_
  refine J.V ?_
  refine J.k rfl (qAD rfl rfl) rfl rfl <| J.k rfl (qAA (j := 3) rfl rfl qCf rfl qBf rfl) rfl rfl <| J.k rfl (qAd (vs := [N64 0, Str (qA8), I ((0 : Nat) : Int), I ((4 : Nat) : Int), .slice nA ((qAI (qAB 4) 0).length) nc]) rfl rfl qDR qBf (m := H) (by simp) (hw.sub 3 5) rfl) rfl rfl <| J.k rfl (qAg 1 rfl rfl rfl qLf qId rfl) rfl rfl <| J.a2 rfl (qAC rfl rfl ent9 (Ct.use (new := fun r : WnR => [r.mr, r.G]) (fun F' hF => qF6 F' (hK.mo hF) (pW 4 0) nA nc (qBr 4 (by decide)) (hnr.mono (hF H (by simp))) 0 4 2 2 (by decide) rfl (qBP (by decide) (by decide)) (by decide) (by decide) (by decide) (by decide) WV (qCn (by decide) (by decide) (by decide) (by decide))))) rfl (by simp) ?_
  rintro ⟨wA, wc, wm, wG, ws⟩ hp
  try dsimp only at hp
  change J _ ((30, .tuple #[.slice wA ws.length wc, I 0]) :: _) _ [_, _, _, _, _, wm, wG] _
  obtain ⟨hwl, hwr, hwk⟩ := hp
  dsimp only at hwl hwr hwk
  refine J.V ?_
  refine J.d4 (.slice wA ws.length wc) ?_
  refine J.d4 (I ((0 : Nat) : Int)) ?_
  refine J.c1 ?_
  refine J.c1 ?_
  refine J.b3 <| J.A (J.L hK6 ?_)
  refine J.b1 0 1 5 6 7 8 ?_
  refine J.p fun K7 hK7 => J.g fun K8 hK8 => J.b rfl <| J.f ((qAz rfl rfl rfl).no (by decide)) rfl <| J.c hK8 <| J.b1 0 1 5 6 7 34 ?_
  refine J.b2 ?_
  refine J.a1 hK7 <| J.a3 0 1 5 6 7 ?_
  refine J.g fun K9 hK9 => J.b rfl <| J.f (qAK (i := 0) rfl rfl rfl qRB qLh hwr.sl (by first | omega | (simp only [List.length_append, List.length_cons, List.length_nil, List.length_take, List.length_drop] at *; omega))) rfl <| J.f (qAQ (v := .slice (ws.getD 0 qB0).lA (ws.getD 0 qB0).l.length (ws.getD 0 qB0).lc) rfl rfl isAgg40 (m := wm) (by simp) (hwr.sl.elem (qJU (k := 0) (by omega)))) rfl ?_
  obtain ⟨hx1, hx2, hx3⟩ := hwk 0 (by omega)
  have hx4 : (ws.getD 0 qB0).l = [2, 1] := hx1.trans qS4
  rw [hx4] at hx3 ⊢
  refine J.b rfl <| J.c hK9 <| J.a3 0 1 5 6 9 ?_
  refine J.g fun K10 hK10 => J.b rfl <| J.c hK10 <| J.b1 0 1 5 6 9 10 ?_
  refine J.p fun K11 hK11 => J.W <| J.b6 (X := Nat) (fun ζ => [(0, B8 (how)), (1, B8 (seed)), (5, Ptr gw), (6, Ptr g6), (9, .slice ((ws.getD 0 qB0).lA) (([2, 1] : List Int).length) ((ws.getD 0 qB0).lc)), (10, I ((ζ : Nat) : Int))]) (fun ζ => [F, mr, mu, H, blk g6 [I ((2 : Nat) : Int), I ((2 : Nat) : Int)] 26, wm, wG]) (fun ζ => ζ = 0) (fun ζ => 1) 0 (rfl) ⟨rfl, rfl, rfl, rfl, rfl, rfl, trivial⟩ (fun _ h => h) ?_
  rintro o ho I0 hI0
  obtain rfl := ho
  refine J.p fun K12 hK12 => J.g fun K13 hK13 => J.j 2 rfl <| J.f (qAK (i := 0) rfl rfl rfl qCQ z3_ hx3 (by first | omega | (simp only [List.length_append, List.length_cons, List.length_nil, List.length_take, List.length_drop] at *; omega))) rfl <| J.f (qAQ rfl rfl b3_ (m := wG) (by simp) (hx3.elem (qDO (by first | omega | (simp only [List.length_append, List.length_cons, List.length_nil, List.length_take, List.length_drop] at *; omega))))) rfl <| J.f ((qAa rfl rfl rfl).no (by decide)) rfl <| J.j 3 rfl <| J.E (qAK (i := 1) rfl rfl rfl qCQ z3_ hx3 (by first | omega | (simp only [List.length_append, List.length_cons, List.length_nil, List.length_take, List.length_drop] at *; omega))) rfl <| J.E (qAQ rfl rfl b3_ (m := wG) (by simp) (hx3.elem (qDO (by first | omega | (simp only [List.length_append, List.length_cons, List.length_nil, List.length_take, List.length_drop] at *; omega))))) rfl <| J.E ((qAa rfl rfl rfl).no (by decide)) rfl <| J.b rfl <| J.c hK13 <| J.c3 0 1 5 6 9 10 49 ?_
  refine J.b2 ?_
  refine J.b5 <| J.a4 <| J.a4 <| J.b7 ?_
  refine J.A (J.L hK11 ?_)
  refine J.b1 0 1 5 6 9 10 ?_
  refine J.e5 (X := Nat × Nat × VtD × VtD × Hp × Hp × Hp × Hp) (fun ζ => [(0, B8 (how)), (1, B8 (seed)), (5, Ptr gw), (6, Ptr g6), (10, I ((0 : Nat) : Int)), (11, Ptr ζ.1)]) (fun ζ => [ζ.2.2.2.2.1, ζ.2.2.2.2.2.1, F, H, wm, wG, blk g6 [I ((2 : Nat) : Int), I ((2 : Nat) : Int)] 26, ζ.2.2.2.2.2.2.1, ζ.2.2.2.2.2.2.2, blk ζ.1 [N64 1, Str (pW 4 0).dig, I ((0 : Nat) : Int), I ((4 : Nat) : Int), .slice nA ((qAI (qAB 4) 0).length) nc, .slice (some ⟨ζ.2.1, 0, none⟩) 2 2] 45]) (fun ζ => GV ζ.2.2.1 ∧ GV ζ.2.2.2.1 ∧ ζ.2.2.1.nm = 2 ∧ ζ.2.2.2.1.nm = 1 ∧ ζ.2.2.1.ht = 2 ∧ ζ.2.2.2.1.ht = 2 ∧ qJP ζ.2.2.2.2.1 gr (wL 4) ∧ Row ζ.2.2.2.2.2.1 3 1 (some ⟨gu, 0, none⟩) 4 uc (qA9 [0, 1, 1, 0]) ∧ Row ζ.2.2.2.2.2.2.1 60 15 (some ⟨ζ.2.1, 0, none⟩) 2 2 (qBE [ζ.2.2.1, ζ.2.2.2.1]) ∧ qCb ζ.2.2.2.2.2.2.2 ζ.2.2.1 ∧ qCb ζ.2.2.2.2.2.2.2 ζ.2.2.2.1) (fun K14 hK14 => ?_) ?_
  ·
    refine J.c4 [1, 2, 0, 3, 5, 6, 4] [mr, mu, F, H, wm, wG, blk g6 [I ((2 : Nat) : Int), I ((2 : Nat) : Int)] 26] rfl (by decide) <| J.c0 [H, wG] [17] (.y 0 (.y 1 (.y 2 (.y 3 (.y 4 (.y 5 (.y 6 (.y 7 (.y 9 (.y 10 (.y 11 (.y 12 (.br (.e 8 (.br (.e 13 (.br (.e 14 (.y 15 (.e 16 (.e 17 .nil)))) (.e 16 (.e 14 (.y 15 (.e 17 .nil)))))) (.e 16 (.e 13 (.e 14 (.y 15 (.e 17 .nil))))))) (.e 16 (.e 8 (.e 13 (.e 14 (.y 15 (.e 17 .nil))))))))))))))))))) Tryz.wide (by decide +kernel) (by simp) ?_
    refine J.V ?_
    refine J.k rfl (qAD rfl rfl) rfl rfl <| J.k rfl (qAA (j := 8) rfl rfl qCf rfl qBf rfl) rfl rfl <| J.k rfl (qAd (vs := [N64 1, Str ((pW 4 0).dig), I ((0 : Nat) : Int), I ((4 : Nat) : Int), .slice nA ((qAI (qAB 4) 0).length) nc]) rfl rfl qDR qBf (m := H) (by simp) (hw.sub 8 5) rfl) rfl rfl <| J.V ?_
    refine J.V ?_
    refine J.k rfl (qAK (i := 0) rfl rfl rfl qCQ z3_ hx3 (by first | omega | (simp only [List.length_append, List.length_cons, List.length_nil, List.length_take, List.length_drop] at *; omega))) rfl rfl <| J.k rfl (qAQ rfl rfl b3_ (m := wG) (by simp) (hx3.elem (qDO (by first | omega | (simp only [List.length_append, List.length_cons, List.length_nil, List.length_take, List.length_drop] at *; omega))))) rfl rfl ?_
    change J _ ((59, I ((2 : Nat) : Int)) :: _) _ _ _
    refine J.V ?_
    refine J.V ?_
    refine J.k rfl (qAK (i := 1) rfl rfl rfl qCQ z3_ hx3 (by first | omega | (simp only [List.length_append, List.length_cons, List.length_nil, List.length_take, List.length_drop] at *; omega))) rfl rfl <| J.k rfl (qAQ rfl rfl b3_ (m := wG) (by simp) (hx3.elem (qDO (by first | omega | (simp only [List.length_append, List.length_cons, List.length_nil, List.length_take, List.length_drop] at *; omega))))) rfl rfl ?_
    change J _ ((64, I ((1 : Nat) : Int)) :: _) _ _ _
    refine J.d9 ?_ ?_
    ·
      refine J.a2 rfl (qAC rfl rfl ent12 (Ct.useA [mr, mu] [F, H, wm, wG, blk g6 [I ((2 : Nat) : Int), I ((2 : Nat) : Int)] 26] (A' := fun r : VoR => [r.mr, r.mu]) (new := fun r : VoR => [r.m1, r.m2, r.m3]) (fun F' hF => qCz F' mr mu (hK.mo hF) 4 0 2 0 gw gt gr kc (qAI (qAB 4) 0).length nc uc gu kA nA gs (List.replicate 4 0) (by decide) (by decide) (by decide) (by decide) (qAs (qBP (by decide) (by decide))) (qAs (qB8 (by decide) (by decide))) (hw.mono (hF H (by simp))) hgl (hkr.mono (hF H (by simp))) (hks.mono (hF H (by simp))) hro rfl (fun j => qIo j) hur (hTr.mono (hF H (by simp))) rfl (hnr.mono (hF H (by simp)))))) rfl (by simp) ?_
      rintro ⟨A1a, c1a, m1a, A2a, c2a, m2a, s3a, A3a, c3a, m3a, mra, mua⟩ hva
      try dsimp only at hva
      change J _ ((60, .agg (vtW 4 0 2 0 (List.replicate 4 0) ⟨A1a, c1a, m1a, A2a, c2a, m2a, s3a, A3a, c3a, m3a, mra, mua⟩).cells.toArray) :: _) _ [mra, mua, F, H, wm, wG, blk g6 [I ((2 : Nat) : Int), I ((2 : Nat) : Int)] 26, m1a, m2a, m3a] _
      obtain ⟨va, hva_⟩ : ∃ v, v = vtW 4 0 2 0 (List.replicate 4 0) ⟨A1a, c1a, m1a, A2a, c2a, m2a, s3a, A3a, c3a, m3a, mra, mua⟩ := ⟨_, rfl⟩
      rw [← hva_]
      refine J.d9 ?_ ?_
      ·
        refine J.a2 rfl (qAC rfl rfl ent12 (Ct.useA [mra, mua] [F, H, wm, wG, blk g6 [I ((2 : Nat) : Int), I ((2 : Nat) : Int)] 26, m1a, m2a, m3a] (A' := fun r : VoR => [r.mr, r.mu]) (new := fun r : VoR => [r.m1, r.m2, r.m3]) (fun F' hF => qCz F' mra mua (hK.mo hF) 4 0 1 0 gw gt gr kc (qAI (qAB 4) 0).length nc uc gu kA nA gs ((List.replicate 4 0).set 2 1) (by decide) (by decide) (by decide) (by decide) (qAs (qBP (by decide) (by decide))) (qAs (qB8 (by decide) (by decide))) (hw.mono (hF H (by simp))) hgl (hkr.mono (hF H (by simp))) (hks.mono (hF H (by simp))) hva.ro rfl (qL2 qIo (by decide)) hva.ur (hTr.mono (hF H (by simp))) rfl (hnr.mono (hF H (by simp)))))) rfl (by simp) ?_
        rintro ⟨A1b, c1b, m1b, A2b, c2b, m2b, s3b, A3b, c3b, m3b, mrb, mub⟩ hvb
        try dsimp only at hvb
        change J _ ((65, .agg (vtW 4 0 1 0 ((List.replicate 4 0).set 2 1) ⟨A1b, c1b, m1b, A2b, c2b, m2b, s3b, A3b, c3b, m3b, mrb, mub⟩).cells.toArray) :: _) _ [mrb, mub, _, _, _, _, _, _, _, _, m1b, m2b, m3b] _
        obtain ⟨vb, hvb_⟩ : ∃ v, v = vtW 4 0 1 0 ((List.replicate 4 0).set 2 1) ⟨A1b, c1b, m1b, A2b, c2b, m2b, s3b, A3b, c3b, m3b, mrb, mub⟩ := ⟨_, rfl⟩
        rw [← hvb_]
        refine J.d9 ?_ ?_
        ·
          refine J.a2 rfl (qAH (l := [.tmp 60, .tmp 65]) (xs := qBE [va, vb]) rfl rfl rfl rfl qEJ el60 rfl (by decide) (by decide) (fun x hx => qBc hx)) rfl (by simp) ?_
          rintro g66 _
          change J _ ((66, .slice (some ⟨g66, 0, none⟩) 2 2) :: _) _ [_, _, _, _, _, _, _, _, _, _, _, _, _, blk g66 (qBE [va, vb]).flatten 60] _
          refine J.k rfl (qAL (l := [(0, .tmp 55), (1, .tmp 66)]) (vs := [.agg #[N64 1, Str (pW 4 0).dig, I ((0 : Nat) : Int), I ((4 : Nat) : Int), .slice nA ((qAI (qAB 4) 0).length) nc], .slice (some ⟨g66, 0, none⟩) 2 2]) (places := [(0, 5), (5, 1)]) (r := [N64 1, Str (pW 4 0).dig, I ((0 : Nat) : Int), I ((4 : Nat) : Int), .slice nA ((qAI (qAB 4) 0).length) nc, .slice (some ⟨g66, 0, none⟩) 2 2]) rfl rfl rfl qF8 qIH (fun _ => by kernel_rfl) (by kernel_rfl)) rfl rfl <| J.a2 rfl (qAe (l := [.int .u64 0, Str [], I 0, I 0, .slice none 0 0, .slice none 0 0]) rfl qIH rfl) rfl (by simp) fun g11 _ => ?_
          change J _ _ _ [_, _, _, _, _, _, _, _, _, _, _, _, _, _, blk g11 [.int .u64 0, Str [], I 0, I 0, .slice none 0 0, .slice none 0 0] 45] _
          refine J.c8 rfl (qAP (i := 14) (l := [.int .u64 0, Str [], I 0, I 0, .slice none 0 0, .slice none 0 0]) (vs := [N64 1, Str (pW 4 0).dig, I ((0 : Nat) : Int), I ((4 : Nat) : Int), .slice nA ((qAI (qAB 4) 0).length) nc, .slice (some ⟨g66, 0, none⟩) 2 2]) rfl rfl rfl rfl rfl qLb rfl rfl) rfl rfl rfl fun _ _ => ?_
          change J _ _ _ [_, _, _, _, _, _, _, _, _, _, _, _, _, _, blk g11 [N64 1, Str (pW 4 0).dig, I ((0 : Nat) : Int), I ((4 : Nat) : Int), .slice nA ((qAI (qAB 4) 0).length) nc, .slice (some ⟨g66, 0, none⟩) 2 2] 45] _
          refine J.c4 [7, 8, 9, 10, 11, 12, 2, 3, 0, 1, 4, 5, 6, 13, 14] [m1a, m2a, m3a, m1b, m2b, m3b, F, H, mrb, mub, wm, wG, blk g6 [I ((2 : Nat) : Int), I ((2 : Nat) : Int)] 26, blk g66 (qBE [va, vb]).flatten 60, blk g11 [N64 1, Str (pW 4 0).dig, I ((0 : Nat) : Int), I ((4 : Nat) : Int), .slice nA ((qAI (qAB 4) 0).length) nc, .slice (some ⟨g66, 0, none⟩) 2 2] 45] rfl (by decide) <| J.c6 (fun hj1 => ?_)
          refine J.c6 (fun hj2 => ?_)
          refine J.c6 (fun hj3 => ?_)
          refine J.c6 (fun hj4 => ?_)
          refine J.c6 (fun hj5 => ?_)
          exact J.b3 <| J.A <| J.a8 (g11, g66, va, vb, mrb, mub, blk g66 (qBE [va, vb]).flatten 60, U [U [U [U [U [m1a, m2a], m3a], m1b], m2b], m3b]) hK14 (⟨by rw [hva_]; exact qEf (.inr rfl) rfl hva, by rw [hvb_]; exact qEf (.inl rfl) rfl hvb, by rw [hva_]; rfl, by rw [hvb_]; rfl, by rw [hva_]; rfl, by rw [hvb_]; rfl, hvb.ro, hvb.ur, (qAn (q := True) (g := g66) (e := 60) (sz := 15) (xs := qBE [va, vb]) rfl (fun x hx => qBc hx)), by rw [hva_]; exact qCt (by decide) (by decide) (by decide) (by decide) hva (((((qBL hj1).trans (qBL hj2)).trans (qBL hj3)).trans (qBL hj4)).trans (qBL hj5)) (((((qDV hj1).trans (qBL hj2)).trans (qBL hj3)).trans (qBL hj4)).trans (qBL hj5)) ((((qDV hj2).trans (qBL hj3)).trans (qBL hj4)).trans (qBL hj5)), by rw [hvb_]; exact qCt (by decide) (by decide) (by decide) (by decide) hvb (((qDV hj3).trans (qBL hj4)).trans (qBL hj5)) ((qDV hj4).trans (qBL hj5)) (qDV hj5)⟩) ⟨rfl, rfl, rfl, rfl, rfl, rfl, trivial⟩ (fun _ h => h.pick [3, 4, 1, 2, 5, 6, 7, 8, 0, 9] (by decide))
        refine J.a2 rfl (qAe (l := [.int .u64 0, Str [], I 0, I 0, .slice none 0 0, .slice none 0 0]) rfl qIH rfl) rfl (by simp) fun g11 _ => ?_
        change J _ _ _ [mrb, mub, F, H, wm, wG, blk g6 [I ((2 : Nat) : Int), I ((2 : Nat) : Int)] 26, m1a, m2a, m3a, m1b, m2b, m3b, blk g11 [.int .u64 0, Str [], I 0, I 0, .slice none 0 0, .slice none 0 0] 45] _
        refine J.a2 rfl (qAH (l := [.tmp 60, .tmp 65]) (xs := qBE [va, vb]) rfl rfl rfl rfl qEJ el60 rfl (by decide) (by decide) (fun x hx => qBc hx)) rfl (by simp) ?_
        rintro g66 _
        change J _ ((66, .slice (some ⟨g66, 0, none⟩) 2 2) :: _) _ [_, _, _, _, _, _, _, _, _, _, _, _, _, _, blk g66 (qBE [va, vb]).flatten 60] _
        refine J.k rfl (qAL (l := [(0, .tmp 55), (1, .tmp 66)]) (vs := [.agg #[N64 1, Str (pW 4 0).dig, I ((0 : Nat) : Int), I ((4 : Nat) : Int), .slice nA ((qAI (qAB 4) 0).length) nc], .slice (some ⟨g66, 0, none⟩) 2 2]) (places := [(0, 5), (5, 1)]) (r := [N64 1, Str (pW 4 0).dig, I ((0 : Nat) : Int), I ((4 : Nat) : Int), .slice nA ((qAI (qAB 4) 0).length) nc, .slice (some ⟨g66, 0, none⟩) 2 2]) rfl rfl rfl qF8 qIH (fun _ => by kernel_rfl) (by kernel_rfl)) rfl rfl <| J.c8 rfl (qAP (i := 13) (l := [.int .u64 0, Str [], I 0, I 0, .slice none 0 0, .slice none 0 0]) (vs := [N64 1, Str (pW 4 0).dig, I ((0 : Nat) : Int), I ((4 : Nat) : Int), .slice nA ((qAI (qAB 4) 0).length) nc, .slice (some ⟨g66, 0, none⟩) 2 2]) rfl rfl rfl rfl rfl qLb rfl rfl) rfl rfl rfl fun _ _ => ?_
        change J _ _ _ [_, _, _, _, _, _, _, _, _, _, _, _, _, blk g11 [N64 1, Str (pW 4 0).dig, I ((0 : Nat) : Int), I ((4 : Nat) : Int), .slice nA ((qAI (qAB 4) 0).length) nc, .slice (some ⟨g66, 0, none⟩) 2 2] 45, _] _
        refine J.c4 [7, 8, 9, 10, 11, 12, 2, 3, 0, 1, 4, 5, 6, 14, 13] [m1a, m2a, m3a, m1b, m2b, m3b, F, H, mrb, mub, wm, wG, blk g6 [I ((2 : Nat) : Int), I ((2 : Nat) : Int)] 26, blk g66 (qBE [va, vb]).flatten 60, blk g11 [N64 1, Str (pW 4 0).dig, I ((0 : Nat) : Int), I ((4 : Nat) : Int), .slice nA ((qAI (qAB 4) 0).length) nc, .slice (some ⟨g66, 0, none⟩) 2 2] 45] rfl (by decide) <| J.c6 (fun hj1 => ?_)
        refine J.c6 (fun hj2 => ?_)
        refine J.c6 (fun hj3 => ?_)
        refine J.c6 (fun hj4 => ?_)
        refine J.c6 (fun hj5 => ?_)
        exact J.b3 <| J.A <| J.a8 (g11, g66, va, vb, mrb, mub, blk g66 (qBE [va, vb]).flatten 60, U [U [U [U [U [m1a, m2a], m3a], m1b], m2b], m3b]) hK14 (⟨by rw [hva_]; exact qEf (.inr rfl) rfl hva, by rw [hvb_]; exact qEf (.inl rfl) rfl hvb, by rw [hva_]; rfl, by rw [hvb_]; rfl, by rw [hva_]; rfl, by rw [hvb_]; rfl, hvb.ro, hvb.ur, (qAn (q := True) (g := g66) (e := 60) (sz := 15) (xs := qBE [va, vb]) rfl (fun x hx => qBc hx)), by rw [hva_]; exact qCt (by decide) (by decide) (by decide) (by decide) hva (((((qBL hj1).trans (qBL hj2)).trans (qBL hj3)).trans (qBL hj4)).trans (qBL hj5)) (((((qDV hj1).trans (qBL hj2)).trans (qBL hj3)).trans (qBL hj4)).trans (qBL hj5)) ((((qDV hj2).trans (qBL hj3)).trans (qBL hj4)).trans (qBL hj5)), by rw [hvb_]; exact qCt (by decide) (by decide) (by decide) (by decide) hvb (((qDV hj3).trans (qBL hj4)).trans (qBL hj5)) ((qDV hj4).trans (qBL hj5)) (qDV hj5)⟩) ⟨rfl, rfl, rfl, rfl, rfl, rfl, trivial⟩ (fun _ h => h.pick [3, 4, 1, 2, 5, 6, 7, 8, 0, 9] (by decide))
      refine J.a2 rfl (qAe (l := [.int .u64 0, Str [], I 0, I 0, .slice none 0 0, .slice none 0 0]) rfl qIH rfl) rfl (by simp) fun g11 _ => ?_
      change J _ _ _ [mra, mua, F, H, wm, wG, blk g6 [I ((2 : Nat) : Int), I ((2 : Nat) : Int)] 26, m1a, m2a, m3a, blk g11 [.int .u64 0, Str [], I 0, I 0, .slice none 0 0, .slice none 0 0] 45] _
      refine J.a2 rfl (qAC rfl rfl ent12 (Ct.useA [mra, mua] [F, H, wm, wG, blk g6 [I ((2 : Nat) : Int), I ((2 : Nat) : Int)] 26, m1a, m2a, m3a, blk g11 [.int .u64 0, Str [], I 0, I 0, .slice none 0 0, .slice none 0 0] 45] (A' := fun r : VoR => [r.mr, r.mu]) (new := fun r : VoR => [r.m1, r.m2, r.m3]) (fun F' hF => qCz F' mra mua (hK.mo hF) 4 0 1 0 gw gt gr kc (qAI (qAB 4) 0).length nc uc gu kA nA gs ((List.replicate 4 0).set 2 1) (by decide) (by decide) (by decide) (by decide) (qAs (qBP (by decide) (by decide))) (qAs (qB8 (by decide) (by decide))) (hw.mono (hF H (by simp))) hgl (hkr.mono (hF H (by simp))) (hks.mono (hF H (by simp))) hva.ro rfl (qL2 qIo (by decide)) hva.ur (hTr.mono (hF H (by simp))) rfl (hnr.mono (hF H (by simp)))))) rfl (by simp) ?_
      rintro ⟨A1b, c1b, m1b, A2b, c2b, m2b, s3b, A3b, c3b, m3b, mrb, mub⟩ hvb
      try dsimp only at hvb
      change J _ ((65, .agg (vtW 4 0 1 0 ((List.replicate 4 0).set 2 1) ⟨A1b, c1b, m1b, A2b, c2b, m2b, s3b, A3b, c3b, m3b, mrb, mub⟩).cells.toArray) :: _) _ [mrb, mub, _, _, _, _, _, _, _, _, _, m1b, m2b, m3b] _
      obtain ⟨vb, hvb_⟩ : ∃ v, v = vtW 4 0 1 0 ((List.replicate 4 0).set 2 1) ⟨A1b, c1b, m1b, A2b, c2b, m2b, s3b, A3b, c3b, m3b, mrb, mub⟩ := ⟨_, rfl⟩
      rw [← hvb_]
      refine J.a2 rfl (qAH (l := [.tmp 60, .tmp 65]) (xs := qBE [va, vb]) rfl rfl rfl rfl qEJ el60 rfl (by decide) (by decide) (fun x hx => qBc hx)) rfl (by simp) ?_
      rintro g66 _
      change J _ ((66, .slice (some ⟨g66, 0, none⟩) 2 2) :: _) _ [_, _, _, _, _, _, _, _, _, _, _, _, _, _, blk g66 (qBE [va, vb]).flatten 60] _
      refine J.k rfl (qAL (l := [(0, .tmp 55), (1, .tmp 66)]) (vs := [.agg #[N64 1, Str (pW 4 0).dig, I ((0 : Nat) : Int), I ((4 : Nat) : Int), .slice nA ((qAI (qAB 4) 0).length) nc], .slice (some ⟨g66, 0, none⟩) 2 2]) (places := [(0, 5), (5, 1)]) (r := [N64 1, Str (pW 4 0).dig, I ((0 : Nat) : Int), I ((4 : Nat) : Int), .slice nA ((qAI (qAB 4) 0).length) nc, .slice (some ⟨g66, 0, none⟩) 2 2]) rfl rfl rfl qF8 qIH (fun _ => by kernel_rfl) (by kernel_rfl)) rfl rfl <| J.c8 rfl (qAP (i := 10) (l := [.int .u64 0, Str [], I 0, I 0, .slice none 0 0, .slice none 0 0]) (vs := [N64 1, Str (pW 4 0).dig, I ((0 : Nat) : Int), I ((4 : Nat) : Int), .slice nA ((qAI (qAB 4) 0).length) nc, .slice (some ⟨g66, 0, none⟩) 2 2]) rfl rfl rfl rfl rfl qLb rfl rfl) rfl rfl rfl fun _ _ => ?_
      change J _ _ _ [_, _, _, _, _, _, _, _, _, _, blk g11 [N64 1, Str (pW 4 0).dig, I ((0 : Nat) : Int), I ((4 : Nat) : Int), .slice nA ((qAI (qAB 4) 0).length) nc, .slice (some ⟨g66, 0, none⟩) 2 2] 45, _, _, _, _] _
      refine J.c4 [7, 8, 9, 11, 12, 13, 2, 3, 0, 1, 4, 5, 6, 14, 10] [m1a, m2a, m3a, m1b, m2b, m3b, F, H, mrb, mub, wm, wG, blk g6 [I ((2 : Nat) : Int), I ((2 : Nat) : Int)] 26, blk g66 (qBE [va, vb]).flatten 60, blk g11 [N64 1, Str (pW 4 0).dig, I ((0 : Nat) : Int), I ((4 : Nat) : Int), .slice nA ((qAI (qAB 4) 0).length) nc, .slice (some ⟨g66, 0, none⟩) 2 2] 45] rfl (by decide) <| J.c6 (fun hj1 => ?_)
      refine J.c6 (fun hj2 => ?_)
      refine J.c6 (fun hj3 => ?_)
      refine J.c6 (fun hj4 => ?_)
      refine J.c6 (fun hj5 => ?_)
      exact J.b3 <| J.A <| J.a8 (g11, g66, va, vb, mrb, mub, blk g66 (qBE [va, vb]).flatten 60, U [U [U [U [U [m1a, m2a], m3a], m1b], m2b], m3b]) hK14 (⟨by rw [hva_]; exact qEf (.inr rfl) rfl hva, by rw [hvb_]; exact qEf (.inl rfl) rfl hvb, by rw [hva_]; rfl, by rw [hvb_]; rfl, by rw [hva_]; rfl, by rw [hvb_]; rfl, hvb.ro, hvb.ur, (qAn (q := True) (g := g66) (e := 60) (sz := 15) (xs := qBE [va, vb]) rfl (fun x hx => qBc hx)), by rw [hva_]; exact qCt (by decide) (by decide) (by decide) (by decide) hva (((((qBL hj1).trans (qBL hj2)).trans (qBL hj3)).trans (qBL hj4)).trans (qBL hj5)) (((((qDV hj1).trans (qBL hj2)).trans (qBL hj3)).trans (qBL hj4)).trans (qBL hj5)) ((((qDV hj2).trans (qBL hj3)).trans (qBL hj4)).trans (qBL hj5)), by rw [hvb_]; exact qCt (by decide) (by decide) (by decide) (by decide) hvb (((qDV hj3).trans (qBL hj4)).trans (qBL hj5)) ((qDV hj4).trans (qBL hj5)) (qDV hj5)⟩) ⟨rfl, rfl, rfl, rfl, rfl, rfl, trivial⟩ (fun _ h => h.pick [3, 4, 1, 2, 5, 6, 7, 8, 0, 9] (by decide))
    refine J.a2 rfl (qAe (l := [.int .u64 0, Str [], I 0, I 0, .slice none 0 0, .slice none 0 0]) rfl qIH rfl) rfl (by simp) fun g11 _ => ?_
    change J _ _ _ [mr, mu, F, H, wm, wG, blk g6 [I ((2 : Nat) : Int), I ((2 : Nat) : Int)] 26, blk g11 [.int .u64 0, Str [], I 0, I 0, .slice none 0 0, .slice none 0 0] 45] _
    refine J.a2 rfl (qAC rfl rfl ent12 (Ct.useA [mr, mu] [F, H, wm, wG, blk g6 [I ((2 : Nat) : Int), I ((2 : Nat) : Int)] 26, blk g11 [.int .u64 0, Str [], I 0, I 0, .slice none 0 0, .slice none 0 0] 45] (A' := fun r : VoR => [r.mr, r.mu]) (new := fun r : VoR => [r.m1, r.m2, r.m3]) (fun F' hF => qCz F' mr mu (hK.mo hF) 4 0 2 0 gw gt gr kc (qAI (qAB 4) 0).length nc uc gu kA nA gs (List.replicate 4 0) (by decide) (by decide) (by decide) (by decide) (qAs (qBP (by decide) (by decide))) (qAs (qB8 (by decide) (by decide))) (hw.mono (hF H (by simp))) hgl (hkr.mono (hF H (by simp))) (hks.mono (hF H (by simp))) hro rfl (fun j => qIo j) hur (hTr.mono (hF H (by simp))) rfl (hnr.mono (hF H (by simp)))))) rfl (by simp) ?_
    rintro ⟨A1a, c1a, m1a, A2a, c2a, m2a, s3a, A3a, c3a, m3a, mra, mua⟩ hva
    try dsimp only at hva
    change J _ ((60, .agg (vtW 4 0 2 0 (List.replicate 4 0) ⟨A1a, c1a, m1a, A2a, c2a, m2a, s3a, A3a, c3a, m3a, mra, mua⟩).cells.toArray) :: _) _ [mra, mua, _, _, _, _, _, _, m1a, m2a, m3a] _
    obtain ⟨va, hva_⟩ : ∃ v, v = vtW 4 0 2 0 (List.replicate 4 0) ⟨A1a, c1a, m1a, A2a, c2a, m2a, s3a, A3a, c3a, m3a, mra, mua⟩ := ⟨_, rfl⟩
    rw [← hva_]
    refine J.a2 rfl (qAC rfl rfl ent12 (Ct.useA [mra, mua] [F, H, wm, wG, blk g6 [I ((2 : Nat) : Int), I ((2 : Nat) : Int)] 26, blk g11 [.int .u64 0, Str [], I 0, I 0, .slice none 0 0, .slice none 0 0] 45, m1a, m2a, m3a] (A' := fun r : VoR => [r.mr, r.mu]) (new := fun r : VoR => [r.m1, r.m2, r.m3]) (fun F' hF => qCz F' mra mua (hK.mo hF) 4 0 1 0 gw gt gr kc (qAI (qAB 4) 0).length nc uc gu kA nA gs ((List.replicate 4 0).set 2 1) (by decide) (by decide) (by decide) (by decide) (qAs (qBP (by decide) (by decide))) (qAs (qB8 (by decide) (by decide))) (hw.mono (hF H (by simp))) hgl (hkr.mono (hF H (by simp))) (hks.mono (hF H (by simp))) hva.ro rfl (qL2 qIo (by decide)) hva.ur (hTr.mono (hF H (by simp))) rfl (hnr.mono (hF H (by simp)))))) rfl (by simp) ?_
    rintro ⟨A1b, c1b, m1b, A2b, c2b, m2b, s3b, A3b, c3b, m3b, mrb, mub⟩ hvb
    try dsimp only at hvb
    change J _ ((65, .agg (vtW 4 0 1 0 ((List.replicate 4 0).set 2 1) ⟨A1b, c1b, m1b, A2b, c2b, m2b, s3b, A3b, c3b, m3b, mrb, mub⟩).cells.toArray) :: _) _ [mrb, mub, _, _, _, _, _, _, _, _, _, m1b, m2b, m3b] _
    obtain ⟨vb, hvb_⟩ : ∃ v, v = vtW 4 0 1 0 ((List.replicate 4 0).set 2 1) ⟨A1b, c1b, m1b, A2b, c2b, m2b, s3b, A3b, c3b, m3b, mrb, mub⟩ := ⟨_, rfl⟩
    rw [← hvb_]
    refine J.a2 rfl (qAH (l := [.tmp 60, .tmp 65]) (xs := qBE [va, vb]) rfl rfl rfl rfl qEJ el60 rfl (by decide) (by decide) (fun x hx => qBc hx)) rfl (by simp) ?_
    rintro g66 _
    change J _ ((66, .slice (some ⟨g66, 0, none⟩) 2 2) :: _) _ [_, _, _, _, _, _, _, _, _, _, _, _, _, _, blk g66 (qBE [va, vb]).flatten 60] _
    refine J.k rfl (qAL (l := [(0, .tmp 55), (1, .tmp 66)]) (vs := [.agg #[N64 1, Str (pW 4 0).dig, I ((0 : Nat) : Int), I ((4 : Nat) : Int), .slice nA ((qAI (qAB 4) 0).length) nc], .slice (some ⟨g66, 0, none⟩) 2 2]) (places := [(0, 5), (5, 1)]) (r := [N64 1, Str (pW 4 0).dig, I ((0 : Nat) : Int), I ((4 : Nat) : Int), .slice nA ((qAI (qAB 4) 0).length) nc, .slice (some ⟨g66, 0, none⟩) 2 2]) rfl rfl rfl qF8 qIH (fun _ => by kernel_rfl) (by kernel_rfl)) rfl rfl <| J.c8 rfl (qAP (i := 7) (l := [.int .u64 0, Str [], I 0, I 0, .slice none 0 0, .slice none 0 0]) (vs := [N64 1, Str (pW 4 0).dig, I ((0 : Nat) : Int), I ((4 : Nat) : Int), .slice nA ((qAI (qAB 4) 0).length) nc, .slice (some ⟨g66, 0, none⟩) 2 2]) rfl rfl rfl rfl rfl qLb rfl rfl) rfl rfl rfl fun _ _ => ?_
    change J _ _ _ [_, _, _, _, _, _, _, blk g11 [N64 1, Str (pW 4 0).dig, I ((0 : Nat) : Int), I ((4 : Nat) : Int), .slice nA ((qAI (qAB 4) 0).length) nc, .slice (some ⟨g66, 0, none⟩) 2 2] 45, _, _, _, _, _, _, _] _
    refine J.c4 [8, 9, 10, 11, 12, 13, 2, 3, 0, 1, 4, 5, 6, 14, 7] [m1a, m2a, m3a, m1b, m2b, m3b, F, H, mrb, mub, wm, wG, blk g6 [I ((2 : Nat) : Int), I ((2 : Nat) : Int)] 26, blk g66 (qBE [va, vb]).flatten 60, blk g11 [N64 1, Str (pW 4 0).dig, I ((0 : Nat) : Int), I ((4 : Nat) : Int), .slice nA ((qAI (qAB 4) 0).length) nc, .slice (some ⟨g66, 0, none⟩) 2 2] 45] rfl (by decide) <| J.c6 (fun hj1 => ?_)
    refine J.c6 (fun hj2 => ?_)
    refine J.c6 (fun hj3 => ?_)
    refine J.c6 (fun hj4 => ?_)
    refine J.c6 (fun hj5 => ?_)
    exact J.b3 <| J.A <| J.a8 (g11, g66, va, vb, mrb, mub, blk g66 (qBE [va, vb]).flatten 60, U [U [U [U [U [m1a, m2a], m3a], m1b], m2b], m3b]) hK14 (⟨by rw [hva_]; exact qEf (.inr rfl) rfl hva, by rw [hvb_]; exact qEf (.inl rfl) rfl hvb, by rw [hva_]; rfl, by rw [hvb_]; rfl, by rw [hva_]; rfl, by rw [hvb_]; rfl, hvb.ro, hvb.ur, (qAn (q := True) (g := g66) (e := 60) (sz := 15) (xs := qBE [va, vb]) rfl (fun x hx => qBc hx)), by rw [hva_]; exact qCt (by decide) (by decide) (by decide) (by decide) hva (((((qBL hj1).trans (qBL hj2)).trans (qBL hj3)).trans (qBL hj4)).trans (qBL hj5)) (((((qDV hj1).trans (qBL hj2)).trans (qBL hj3)).trans (qBL hj4)).trans (qBL hj5)) ((((qDV hj2).trans (qBL hj3)).trans (qBL hj4)).trans (qBL hj5)), by rw [hvb_]; exact qCt (by decide) (by decide) (by decide) (by decide) hvb (((qDV hj3).trans (qBL hj4)).trans (qBL hj5)) ((qDV hj4).trans (qBL hj5)) (qDV hj5)⟩) ⟨rfl, rfl, rfl, rfl, rfl, rfl, trivial⟩ (fun _ h => h.pick [3, 4, 1, 2, 5, 6, 7, 8, 0, 9] (by decide))
  rintro ⟨g11, g66, va, vb, mr3, mu3, mv, G⟩ ⟨hga, hgb, hna, hnb, hha, hhb, hro3, hur3, hrv, hoa, hob⟩
  dsimp only at hga hgb hna hnb hha hhb hro3 hur3 hrv hoa hob ⊢
  refine J.p fun K15 hK15 => J.p fun K16 hK16 => J.c0 [H, blk g6 [I ((2 : Nat) : Int), I ((2 : Nat) : Int)] 26, blk g11 [N64 1, Str (pW 4 0).dig, I ((0 : Nat) : Int), I ((4 : Nat) : Int), .slice nA ((qAI (qAB 4) 0).length) nc, .slice (some ⟨g66, 0, none⟩) 2 2] 45] [] (.y 0 (.y 1 (.y 2 (.y 3 (.y 4 (.y 5 (.e 6 (.y 7 .nil)))))))) Tryz.wide (by decide +kernel) (by simp) ?_
  refine J.k rfl (qAg 2 rfl rfl rfl isAgg45 qLb rfl) rfl rfl <| J.V ?_
  refine J.k rfl (qAD rfl rfl) rfl rfl <| J.k rfl (qAA (j := 3) rfl rfl qCf rfl qBf rfl) rfl rfl <| J.k rfl (qAd (vs := [N64 0, Str (qA8), I ((0 : Nat) : Int), I ((4 : Nat) : Int), .slice nA ((qAI (qAB 4) 0).length) nc]) rfl rfl qDR qBf (m := H) (by simp) (hw.sub 3 5) rfl) rfl rfl <| J.k rfl (qAg 1 rfl rfl rfl qLf qId rfl) rfl rfl <| J.a2 rfl (qAC rfl rfl ent13 (Ct.use0 (fun F' hF => qBz F' (hK.mo hF) (pW 4 0) nA nc (qBr 4 (by decide)) (hnr.mono (hF H (by simp))) (nW 4 0) nA nc (qDA 4 (by decide) (qAs (qBP (by decide) (by decide)))) (hnr.mono (hF H (by simp))) (qBJ _ _ _) 0 4 2 2 (by decide) rfl (qBP (by decide) (by decide)) (by decide) (by decide) (by decide) (by decide) (qDS 4 0 2) (qCn (by decide) (by decide) (by decide) (by decide)) (some ⟨g66, 0, none⟩) 2 2 [va, vb] (hrv.sl.mono (hF mv (by simp))) (by decide) (fun i hi => (qCg hoa hob i hi).mono (hF G (by simp)))))) rfl (by simp) fun g74 _ => J.k rfl ((qAz rfl rfl rfl).no (fun h => h (qTE hga hgb hna hnb))) rfl rfl <| J.b3 <| J.A (J.L hK16 ?_)
  refine J.c3 0 1 5 6 10 11 75 ?_
  refine J.b2 ?_
  refine J.a1 hK15 <| J.b1 0 1 5 6 10 11 ?_
  refine J.g fun K17 hK17 => J.a7 5 qF8 qN9 rfl rfl rfl rfl rfl <| J.f (qAE 9 (v := .slice (some ⟨g66, 0, none⟩) 2 2) rfl rfl rfl isAgg43 rfl) rfl <| J.b rfl <| J.f (qCG rfl rfl u5_ u3_) rfl <| J.f ((qG6 1 rfl rfl rfl (by decide) (by decide)).nat (k) (by omega)) rfl <| J.f (qAV (i := k) (j := k * 15) rfl rfl rfl qEJ qIg (by omega) (by omega)) rfl <| J.b rfl <| J.c hK17 <| J.b1 0 5 6 10 11 12 ?_
  refine J.p fun K18 hK18 => ?_
  obtain ⟨v, hv⟩ : ∃ v, v = [va, vb].getD k qAN := ⟨_, rfl⟩
  have hvg : (qBE [va, vb])[k]? = some v.cells := by rw [hv]; exact qGg hk2
  have hgv : GV v := by rcases qGj hk2 hv with ⟨_, h⟩ | ⟨_, h⟩ <;> rw [h] <;> assumption
  have hov : qCb G v := by rcases qGj hk2 hv with ⟨_, h⟩ | ⟨_, h⟩ <;> rw [h] <;> assumption
  have hhv : v.ht = 2 := by rcases qGj hk2 hv with ⟨_, h⟩ | ⟨_, h⟩ <;> rw [h] <;> assumption
  have hsv : k = 1 → qBN va ≠ qBN v := fun h1 e => by
    rcases qGj hk2 hv with ⟨h, _⟩ | ⟨_, h⟩
    · omega
    · rw [h] at e
      have := congrArg Prod.snd e
      unfold qBN at this
      dsimp only at this
      omega
  have hiv : v.i < 4 := by have := hov.hi; rw [hhv] at this; exact this
  refine J.M <| J.b rfl <| J.c hK18 <| J.b1 0 5 6 10 11 12 ?_
  refine J.e5 (X := Nat × List VtD × Option Addr × Nat × Nat × Hp × Hp × Nat) (fun ζ => [(5, Ptr gw), (6, Ptr g6), (11, Ptr g11), (13, I ((ζ.2.2.2.2.2.2.2 : Nat) : Int))]) (fun ζ => [F, H, blk g6 [I ((2 : Nat) : Int), I ((2 : Nat) : Int)] 26, blk g11 [N64 ζ.1, Str (pW 4 0).dig, I ((0 : Nat) : Int), I ((4 : Nat) : Int), .slice nA ((qAI (qAB 4) 0).length) nc, .slice ζ.2.2.1 ζ.2.2.2.1 ζ.2.2.2.2.1] 45, ζ.2.2.2.2.2.1, ζ.2.2.2.2.2.2.1]) (fun ζ => ζ.1 ≤ 2 ∧ Sl ζ.2.2.2.2.2.1 15 ζ.2.2.1 ζ.2.2.2.1 ζ.2.2.2.2.1 (qBE ζ.2.1) ∧ ζ.2.2.2.1 ≤ 3 ∧ (∀ i, i < ζ.2.1.length → qCb ζ.2.2.2.2.2.2.1 (ζ.2.1.getD i qAN)) ∧ qCo (pW 4 0) (yW ζ.1) (qDS 4 0 2) 2 (2 ^ 0) 2 ζ.2.1 = ((ζ.2.2.2.2.2.2.2 : Nat) : Int)) (fun K19 hK19 => ?_) ?_
  ·
    refine J.g fun K20 hK20 => J.b rfl <| J.f ((qHz rfl rfl rfl ⟨by omega, by decide⟩).as (v' := .int .u8 ((how.toNat % 9 : Nat) : Int)) (congrArg (Value.int .u8) (by show (how.toNat : Int) % 9 = _; omega))) rfl <| J.c hK20 <| J.b1 5 6 10 11 12 83 ?_
    refine J.W <| J.g fun K21 hK21 => J.f (qAa rfl rfl rfl) rfl <| J.b rfl <| J.c hK21 <| J.c3 5 6 10 11 12 83 86 ?_
    refine J.a0 rfl (fun h86 => ?_) (fun h86 => ?_)
    ·
      refine J.M <| J.j 3 rfl <| J.q (qAC rfl rfl ent12 (Ct.useA [mr3, mu3] [F, H, wm, wG, blk g6 [I ((2 : Nat) : Int), I ((2 : Nat) : Int)] 26, mv, G, blk g11 [N64 1, Str (pW 4 0).dig, I ((0 : Nat) : Int), I ((4 : Nat) : Int), .slice nA ((qAI (qAB 4) 0).length) nc, .slice (some ⟨g66, 0, none⟩) 2 2] 45] (A' := fun r : VoR => [r.mr, r.mu]) (new := fun r : VoR => [r.m1, r.m2, r.m3]) (fun F' hF => qCz F' mr3 mu3 (hK.mo hF) 4 0 0 0 gw gt gr kc (qAI (qAB 4) 0).length nc uc gu kA nA gs [0, 1, 1, 0] (by decide) (by decide) (by decide) (by decide) (qAs (qBP (by decide) (by decide))) (qAs (qB8 (by decide) (by decide))) (hw.mono (hF H (by simp))) hgl (hkr.mono (hF H (by simp))) (hks.mono (hF H (by simp))) hro3 rfl qQ9 hur3 (hTr.mono (hF H (by simp))) rfl (hnr.mono (hF H (by simp)))))) rfl ?_
      rintro ⟨A1c, c1c, m1c, A2c, c2c, m2c, s3c, A3c, c3c, m3c, mrc, muc⟩ hvc
      try dsimp only at hvc
      change J _ ((91, .agg (vtW 4 0 0 0 [0, 1, 1, 0] ⟨A1c, c1c, m1c, A2c, c2c, m2c, s3c, A3c, c3c, m3c, mrc, muc⟩).cells.toArray) :: _) _ [mrc, muc, F, H, wm, wG, blk g6 [I ((2 : Nat) : Int), I ((2 : Nat) : Int)] 26, mv, G, blk g11 [N64 1, Str (pW 4 0).dig, I ((0 : Nat) : Int), I ((4 : Nat) : Int), .slice nA ((qAI (qAB 4) 0).length) nc, .slice (some ⟨g66, 0, none⟩) 2 2] 45, m1c, m2c, m3c] _
      obtain ⟨vc, hvc_⟩ : ∃ v, v = vtW 4 0 0 0 [0, 1, 1, 0] ⟨A1c, c1c, m1c, A2c, c2c, m2c, s3c, A3c, c3c, m3c, mrc, muc⟩ := ⟨_, rfl⟩
      rw [← hvc_]
      refine J.f (qAD rfl rfl) rfl <| J.b4 (qAu (i := 7) (k := k) (off := 0) (b := vc.cells) rfl rfl rfl rfl hrv (vs := vc.cells) rfl qIg rfl rfl hvg rfl (Nat.le_of_ble_eq_true rfl)) rfl rfl ?_
      rintro m20_1 h20_1
      change J _ _ _ [_, _, _, _, _, _, _, m20_1, _, _, _, _, _] _
      rw [qCd] at h20_1
      refine J.b rfl <| J.c4 [8, 10, 11, 12, 2, 3, 6, 9, 7] [G, m1c, m2c, m3c, F, H, blk g6 [I ((2 : Nat) : Int), I ((2 : Nat) : Int)] 26, blk g11 [N64 1, Str (pW 4 0).dig, I ((0 : Nat) : Int), I ((4 : Nat) : Int), .slice nA ((qAI (qAB 4) 0).length) nc, .slice (some ⟨g66, 0, none⟩) 2 2] 45, m20_1] rfl (by decide) <| J.c6 (fun hq1 => ?_)
      refine J.c6 (fun hq2 => ?_)
      refine J.c6 (fun hq3 => ?_)
      exact J.a6 <| J.a5 <| J.A <| J.a8 (1, ([va, vb].set k vc), (some (⟨g66, 0, none⟩ : Addr)), 2, 2, m20_1, U [U [U [G, m1c], m2c], m3c], 17) hK19 (⟨by show (1 : Nat) ≤ 2; decide, h20_1.sl, by show (2 : Nat) ≤ 3; decide, qDe (fun i hi => (qCg hoa hob i hi).mono (((qBL hq1).trans (qBL hq2)).trans (qBL hq3))) (by rw [hvc_]; exact qCt (by decide) (by decide) (by decide) (by decide) hvc (((qDV hq1).trans (qBL hq2)).trans (qBL hq3)) ((qDV hq2).trans (qBL hq3)) (qDV hq3)), qDc (e := 17) hk2 hga (qT9 (by rw [hvc_]; rfl) (by rw [hvc_]; rfl) (by rw [hvc_]; show qDd WV 2 (2 ^ 0) 0 0 = false; decide +kernel)) (by decide) (fun hk1 => (fun e => by have := congrArg Prod.snd e; rw [hvc_] at this; unfold qBN at this; dsimp only at this; rw [hna] at this; exact absurd this (by show ¬ 2 = 0; decide)))⟩) ⟨rfl, rfl, rfl, rfl, trivial⟩ (fun _ h => h.pick [1, 2, 3, 4, 5, 0] (by decide))
    refine J.g fun K22 hK22 => J.f (qAa rfl rfl rfl) rfl <| J.b rfl <| J.c hK22 <| J.b1 5 6 11 12 83 93 ?_
    refine J.a0 rfl (fun h93 => ?_) (fun h93 => ?_)
    ·
      refine J.M <| J.b rfl <| J.f (qAD rfl rfl) rfl <| J.f (qAA rfl rfl qEs rfl qEd rfl) rfl <| J.f (qAA rfl rfl qEI rfl z3_ rfl) rfl <| J.b4 (qAu (i := 7) (k := k) (off := 1) (b := ({ v with b := 1 } : VtD).cells) rfl rfl rfl rfl hrv (vs := [I ((1 : Nat) : Int)]) rfl z3_ rfl rfl hvg rfl (Nat.le_of_ble_eq_true rfl)) rfl rfl ?_
      rintro m22_1 h22_1
      change J _ _ _ [mr3, mu3, F, H, wm, wG, blk g6 [I ((2 : Nat) : Int), I ((2 : Nat) : Int)] 26, m22_1, G, blk g11 [N64 1, Str (pW 4 0).dig, I ((0 : Nat) : Int), I ((4 : Nat) : Int), .slice nA ((qAI (qAB 4) 0).length) nc, .slice (some ⟨g66, 0, none⟩) 2 2] 45] _
      rw [qCd] at h22_1
      exact J.b rfl <| J.a6 <| J.a5 <| J.A <| J.a8 (1, ([va, vb].set k ({ v with b := 1 } : VtD)), (some (⟨g66, 0, none⟩ : Addr)), 2, 2, m22_1, G, 17) hK19 (⟨by show (1 : Nat) ≤ 2; decide, h22_1.sl, by show (2 : Nat) ≤ 3; decide, qDe (qCg hoa hob) hov.mb, qDc (e := 17) hk2 hga (qT9 hgv.ep hgv.hd rfl) (by decide) (fun hk1 => (fun e => by have := congrArg Prod.fst e; unfold qBN at this; dsimp only at this; rw [hga.b] at this; exact absurd this (by decide)))⟩) ⟨rfl, rfl, rfl, rfl, trivial⟩ (fun _ h => h.pick [2, 3, 6, 9, 7, 8] (by decide))
    refine J.g fun K23 hK23 => J.f (qAa rfl rfl rfl) rfl <| J.b rfl <| J.c hK23 <| J.b1 5 6 11 12 83 99 ?_
    refine J.a0 rfl (fun h99 => ?_) (fun h99 => ?_)
    ·
      refine J.M <| J.j 2 rfl <| J.f (qAD rfl rfl) rfl <| J.a7 3 qCf qBf rfl rfl rfl rfl rfl <| J.f (qAd (vs := [N64 0, Str (qA8), I ((0 : Nat) : Int), I ((4 : Nat) : Int), .slice nA ((qAI (qAB 4) 0).length) nc]) rfl rfl qDR qBf (m := H) (by simp) (hw.sub 3 5) rfl) rfl <| J.q (qAC rfl rfl ent11 (Ct.use0 (fun F' hF => qBV F' (hK.mo hF) (pW 4 0) nA nc (qBr 4 (by decide)) (hnr.mono (hF H (by simp)))))) rfl fun g106 _ => J.f (qAD rfl rfl) rfl <| J.f (qAA rfl rfl qEs rfl qEd rfl) rfl <| J.f (qAA rfl rfl qEI rfl z9_ rfl) rfl <| J.b4 (qAu (i := 7) (k := k) (off := 2) (b := ({ v with hd := (pW 4 0).dig } : VtD).cells) rfl rfl rfl rfl hrv (vs := [Str (pW 4 0).dig]) rfl z9_ rfl rfl hvg rfl (Nat.le_of_ble_eq_true rfl)) rfl rfl ?_
      rintro m24_1 h24_1
      change J _ _ _ [mr3, mu3, F, H, wm, wG, blk g6 [I ((2 : Nat) : Int), I ((2 : Nat) : Int)] 26, m24_1, G, blk g11 [N64 1, Str (pW 4 0).dig, I ((0 : Nat) : Int), I ((4 : Nat) : Int), .slice nA ((qAI (qAB 4) 0).length) nc, .slice (some ⟨g66, 0, none⟩) 2 2] 45] _
      rw [qCd] at h24_1
      exact J.b rfl <| J.a6 <| J.a5 <| J.A <| J.a8 (1, ([va, vb].set k ({ v with hd := (pW 4 0).dig } : VtD)), (some (⟨g66, 0, none⟩ : Addr)), 2, 2, m24_1, G, 15) hK19 (⟨by show (1 : Nat) ≤ 2; decide, h24_1.sl, by show (2 : Nat) ≤ 3; decide, qDe (qCg hoa hob) (hov.mh (qAx (by decide) (by decide))), qDc (e := 15) hk2 hga (qUA (.inr qPv.symm)) (by decide) (fun hk1 => hsv hk1)⟩) ⟨rfl, rfl, rfl, rfl, trivial⟩ (fun _ h => h.pick [2, 3, 6, 9, 7, 8] (by decide))
    refine J.g fun K24 hK24 => J.f (qAa rfl rfl rfl) rfl <| J.b rfl <| J.c hK24 <| J.b1 5 6 11 12 83 110 ?_
    refine J.a0 rfl (fun h110 => ?_) (fun h110 => ?_)
    ·
      refine J.M <| J.b rfl <| J.f (qAD rfl rfl) rfl <| J.f (qAA rfl rfl qEs rfl qEd rfl) rfl <| J.f (qAA rfl rfl qEI rfl qGc rfl) rfl <| J.b4 (qAu (i := 7) (k := k) (off := 0) (b := ({ v with ep := 2 } : VtD).cells) rfl rfl rfl rfl hrv (vs := [N64 2]) rfl qGc rfl rfl hvg rfl (Nat.le_of_ble_eq_true rfl)) rfl rfl ?_
      rintro m26_1 h26_1
      change J _ _ _ [mr3, mu3, F, H, wm, wG, blk g6 [I ((2 : Nat) : Int), I ((2 : Nat) : Int)] 26, m26_1, G, blk g11 [N64 1, Str (pW 4 0).dig, I ((0 : Nat) : Int), I ((4 : Nat) : Int), .slice nA ((qAI (qAB 4) 0).length) nc, .slice (some ⟨g66, 0, none⟩) 2 2] 45] _
      rw [qCd] at h26_1
      exact J.b rfl <| J.a6 <| J.a5 <| J.A <| J.a8 (1, ([va, vb].set k ({ v with ep := 2 } : VtD)), (some (⟨g66, 0, none⟩ : Addr)), 2, 2, m26_1, G, 15) hK19 (⟨by show (1 : Nat) ≤ 2; decide, h26_1.sl, by show (2 : Nat) ≤ 3; decide, qDe (qCg hoa hob) hov.me, qDc (e := 15) hk2 hga (qUA (.inl (show (2 : Nat) ≠ 1 by decide))) (by decide) (fun hk1 => hsv hk1)⟩) ⟨rfl, rfl, rfl, rfl, trivial⟩ (fun _ h => h.pick [2, 3, 6, 9, 7, 8] (by decide))
    refine J.g fun K25 hK25 => J.f (qAa rfl rfl rfl) rfl <| J.b rfl <| J.c hK25 <| J.b1 5 6 11 12 83 116 ?_
    refine J.a0 rfl (fun h116 => ?_) (fun h116 => ?_)
    ·
      refine J.M <| J.b rfl <| J.f (qAD rfl rfl) rfl <| J.f (qAA rfl rfl qEs rfl qEr rfl) rfl <| J.f (qAA rfl rfl qIe rfl z9_ rfl) rfl <| J.b4 (qAu (i := 7) (k := k) (off := 7) (b := ({ v with an := [111, 116, 104, 101, 114] } : VtD).cells) rfl rfl rfl rfl hrv (vs := [Str [111, 116, 104, 101, 114]]) rfl z9_ rfl rfl hvg rfl (Nat.le_of_ble_eq_true rfl)) rfl rfl ?_
      rintro m28_1 h28_1
      change J _ _ _ [mr3, mu3, F, H, wm, wG, blk g6 [I ((2 : Nat) : Int), I ((2 : Nat) : Int)] 26, m28_1, G, blk g11 [N64 1, Str (pW 4 0).dig, I ((0 : Nat) : Int), I ((4 : Nat) : Int), .slice nA ((qAI (qAB 4) 0).length) nc, .slice (some ⟨g66, 0, none⟩) 2 2] 45] _
      rw [qCd] at h28_1
      exact J.b rfl <| J.a6 <| J.a5 <| J.A <| J.a8 (1, ([va, vb].set k ({ v with an := [111, 116, 104, 101, 114] } : VtD)), (some (⟨g66, 0, none⟩ : Addr)), 2, 2, m28_1, G, 18) hK19 (⟨by show (1 : Nat) ≤ 2; decide, h28_1.sl, by show (2 : Nat) ≤ 3; decide, qDe (qCg hoa hob) hov.ma, qDc (e := 18) hk2 hga (qT8 hgv.ep hgv.hd (by show qDd WV 2 (2 ^ 0) v.b v.nm = true; rw [hgv.b]; exact qGo hgv.nm) hgv.other) (by decide) (fun hk1 => hsv hk1)⟩) ⟨rfl, rfl, rfl, rfl, trivial⟩ (fun _ h => h.pick [2, 3, 6, 9, 7, 8] (by decide))
    refine J.g fun K26 hK26 => J.f (qAa rfl rfl rfl) rfl <| J.b rfl <| J.c hK26 <| J.b1 5 6 11 12 83 122 ?_
    refine J.a0 rfl (fun h122 => ?_) (fun h122 => ?_)
    ·
      refine J.M <| J.b rfl <| J.f (qAL (l := []) (vs := []) (places := [(0, 1), (1, 1), (2, 1), (3, 1)]) (r := [.slice none 0 0, .bool false, Str [], Str []]) rfl rfl rfl qDT qS3 (fun _ => by kernel_rfl) (by kernel_rfl)) rfl <| J.f (qAD rfl rfl) rfl <| J.f (qAA rfl rfl qEs rfl qFr rfl) rfl <| J.b4 (qAu (i := 7) (k := k) (off := 11) (b := ({ v with bsA := none, bsc := 0, bs := [], th := false, pk := [], pv := [] } : VtD).cells) rfl rfl rfl rfl hrv (vs := [.slice none 0 0, .bool false, Str [], Str []]) rfl qFr rfl rfl hvg rfl (Nat.le_of_ble_eq_true rfl)) rfl rfl ?_
      rintro m30_1 h30_1
      change J _ _ _ [mr3, mu3, F, H, wm, wG, blk g6 [I ((2 : Nat) : Int), I ((2 : Nat) : Int)] 26, m30_1, G, blk g11 [N64 1, Str (pW 4 0).dig, I ((0 : Nat) : Int), I ((4 : Nat) : Int), .slice nA ((qAI (qAB 4) 0).length) nc, .slice (some ⟨g66, 0, none⟩) 2 2] 45] _
      rw [qCd] at h30_1
      exact J.b rfl <| J.a6 <| J.a5 <| J.A <| J.a8 (1, ([va, vb].set k ({ v with bsA := none, bsc := 0, bs := [], th := false, pk := [], pv := [] } : VtD)), (some (⟨g66, 0, none⟩ : Addr)), 2, 2, m30_1, G, 18) hK19 (⟨by show (1 : Nat) ≤ 2; decide, h30_1.sl, by show (2 : Nat) ≤ 3; decide, qDe (qCg hoa hob) hov.mp, qDc (e := 18) hk2 hga (qT8 hgv.ep hgv.hd (by show qDd WV 2 (2 ^ 0) v.b v.nm = true; rw [hgv.b]; exact qGo hgv.nm) rfl) (by decide) (fun hk1 => hsv hk1)⟩) ⟨rfl, rfl, rfl, rfl, trivial⟩ (fun _ h => h.pick [2, 3, 6, 9, 7, 8] (by decide))
    refine J.g fun K27 hK27 => J.f (qAa rfl rfl rfl) rfl <| J.b rfl <| J.c hK27 <| J.b1 5 6 11 12 83 128 ?_
    refine J.a0 rfl (fun h128 => ?_) (fun h128 => ?_)
    ·
      refine J.M <| J.j 2 rfl <| J.f (qAD rfl rfl) rfl <| J.f (qAA rfl rfl qEs rfl qEd rfl) rfl <| J.f (qAA rfl rfl qEI rfl qQM rfl) rfl <| J.f (qAA rfl rfl qL3 rfl z3_ rfl) rfl <| J.f (qAQ (v := I ((v.i : Nat) : Int)) rfl rfl b3_ (m := mv) (by simp) (qTM hrv hvg)) rfl <| J.f (qMr (a := v.i) (b := 1) rfl rfl rfl (by have := hiv; omega)) rfl <| J.f (qAD rfl rfl) rfl <| J.f (qAA rfl rfl qEs rfl qEd rfl) rfl <| J.f (qAA rfl rfl qEI rfl qQM rfl) rfl <| J.f (qAA rfl rfl qL3 rfl z3_ rfl) rfl <| J.b4 (qAu (i := 7) (k := k) (off := 4) (b := ({ v with i := v.i ^^^ 1 } : VtD).cells) rfl rfl rfl rfl hrv (vs := [I ((v.i ^^^ 1 : Nat) : Int)]) rfl z3_ rfl rfl hvg rfl (Nat.le_of_ble_eq_true rfl)) rfl rfl ?_
      rintro m32_1 h32_1
      change J _ _ _ [mr3, mu3, F, H, wm, wG, blk g6 [I ((2 : Nat) : Int), I ((2 : Nat) : Int)] 26, m32_1, G, blk g11 [N64 1, Str (pW 4 0).dig, I ((0 : Nat) : Int), I ((4 : Nat) : Int), .slice nA ((qAI (qAB 4) 0).length) nc, .slice (some ⟨g66, 0, none⟩) 2 2] 45] _
      rw [qCd] at h32_1
      exact J.b rfl <| J.a6 <| J.a5 <| J.A <| J.a8 (1, ([va, vb].set k ({ v with i := v.i ^^^ 1 } : VtD)), (some (⟨g66, 0, none⟩ : Addr)), 2, 2, m32_1, G, 12) hK19 (⟨by show (1 : Nat) ≤ 2; decide, h32_1.sl, by show (2 : Nat) ≤ 3; decide, qDe (qCg hoa hob) (hov.mi hhv), qDc (e := 12) hk2 hga (bad12 hgv.ep hgv.hd (by show qDd WV 2 (2 ^ 0) v.b v.nm = true; rw [hgv.b]; exact qGo hgv.nm) hgv.has hgv.turn) (by decide) (fun hk1 => hsv hk1)⟩) ⟨rfl, rfl, rfl, rfl, trivial⟩ (fun _ h => h.pick [2, 3, 6, 9, 7, 8] (by decide))
    refine J.g fun K28 hK28 => J.f (qAa rfl rfl rfl) rfl <| J.b rfl <| J.c hK28 <| J.T 5 6 11 142 ?_
    refine J.a0 rfl (fun h142 => ?_) (fun h142 => ?_)
    ·
      refine J.c0 [mv, blk g11 [N64 1, Str (pW 4 0).dig, I ((0 : Nat) : Int), I ((4 : Nat) : Int), .slice nA ((qAI (qAB 4) 0).length) nc, .slice (some ⟨g66, 0, none⟩) 2 2] 45] [11, 12] (.y 1 (.y 2 (.y 4 (.y 5 (.y 6 (.y 7 (.br (.e 0 (.br (.e 3 (.e 8 (.e 9 (.y 10 (.e 11 (.e 12 .nil)))))) (.e 8 (.e 3 (.e 9 (.y 10 (.e 11 (.e 12 .nil)))))))) (.e 8 (.e 0 (.e 3 (.e 9 (.y 10 (.e 11 (.e 12 .nil)))))))))))))) Tryz.wide (by decide +kernel) (by simp) ?_
      refine J.k rfl (qAA (j := 5) rfl rfl qF8 rfl qN9 rfl) rfl rfl <| J.k rfl (qAE 1 (v := .slice (some ⟨g66, 0, none⟩) 2 2) rfl rfl rfl isAgg43 rfl) rfl rfl <| J.k rfl (qAA (j := 5) rfl rfl qF8 rfl qN9 rfl) rfl rfl <| J.k rfl (qAE 1 (v := .slice (some ⟨g66, 0, none⟩) 2 2) rfl rfl rfl isAgg43 rfl) rfl rfl <| J.k rfl (qAK (i := 0) rfl rfl rfl qEJ qIg hrv.sl (by first | omega | (simp only [List.length_append, List.length_cons, List.length_nil, List.length_take, List.length_drop] at *; omega))) rfl rfl <| J.k rfl (qAd (vs := [N64 ((([va, vb]).getD 0 qAN).ep), I (((([va, vb]).getD 0 qAN).b : Nat) : Int), Str ((([va, vb]).getD 0 qAN).hd), I (((([va, vb]).getD 0 qAN).nm : Nat) : Int), I (((([va, vb]).getD 0 qAN).i : Nat) : Int), .slice (([va, vb]).getD 0 qAN).chA (([va, vb]).getD 0 qAN).ch.length (([va, vb]).getD 0 qAN).chc, .slice (([va, vb]).getD 0 qAN).ptA (([va, vb]).getD 0 qAN).pt.length (([va, vb]).getD 0 qAN).ptc, Str ((([va, vb]).getD 0 qAN).an), Str ((([va, vb]).getD 0 qAN).op), Str ((([va, vb]).getD 0 qAN).rt), I (((([va, vb]).getD 0 qAN).ht : Nat) : Int), .slice (([va, vb]).getD 0 qAN).bsA (([va, vb]).getD 0 qAN).bs.length (([va, vb]).getD 0 qAN).bsc, .bool ((([va, vb]).getD 0 qAN).th), Str ((([va, vb]).getD 0 qAN).pk), Str ((([va, vb]).getD 0 qAN).pv)]) rfl rfl isAgg60 qIg (m := mv) (by simp) (hrv.sl.elem (qGg (by first | omega | (simp only [List.length_append, List.length_cons, List.length_nil, List.length_take, List.length_drop] at *; omega)))) rfl) rfl rfl <| J.d9 ?_ ?_
      ·
        refine J.a2 rfl (qCN rfl qEJ el60) rfl (by simp) fun g144 _ => ?_
        change J _ _ _ [mr3, mu3, F, H, wm, wG, blk g6 [I ((2 : Nat) : Int), I ((2 : Nat) : Int)] 26, mv, G, blk g11 [N64 1, Str (pW 4 0).dig, I ((0 : Nat) : Int), I ((4 : Nat) : Int), .slice nA ((qAI (qAB 4) 0).length) nc, .slice (some ⟨g66, 0, none⟩) 2 2] 45, blk g144 [] 60] _
        refine J.d9 ?_ ?_
        ·
          refine J.a2 rfl (qAY (i := 10) (xs := qBE ([])) (m2 := mv) (ys := qBE ([va, vb])) rfl rfl rfl qEJ qEJ el60 rfl (qAn (q := True) (xs := qBE ([])) rfl (by intro x hx; first | exact absurd hx (List.not_mem_nil) | (rw [List.mem_singleton.1 hx]; rfl))) (by simp) (hrv.sl) (qEQ _) (by first | omega | (simp only [List.length_append, List.length_cons, List.length_nil, List.length_take, List.length_drop] at *; omega)) (by first | omega | (simp only [List.length_append, List.length_cons, List.length_nil, List.length_take, List.length_drop] at *; omega))) rfl (by simp) ?_
          rintro ⟨A147, c147, m147⟩ h147
          try dsimp only at h147
          change J _ ((147, .slice A147 (0 + 2) c147) :: _) _ [_, _, _, _, _, _, _, _, _, _, m147] _
          replace h147 : Row m147 60 15 A147 (0 + 2) c147 (qBE ([va, vb])) := h147
          refine J.a2 rfl (qAH (l := [.tmp 151]) (xs := qBE [va]) rfl rfl rfl rfl qEJ el60 rfl (by decide) (by decide) (fun x hx => qBc hx)) rfl (by simp) ?_
          rintro g152 _
          change J _ ((152, .slice (some ⟨g152, 0, none⟩) 1 1) :: _) _ [_, _, _, _, _, _, _, _, _, _, _, blk g152 (qBE [va]).flatten 60] _
          refine J.a2 rfl (qAY (i := 10) (xs := qBE ([va, vb])) (m2 := blk g152 (qBE [va]).flatten 60) (ys := qBE ([va])) rfl rfl rfl qEJ qEJ el60 rfl h147 (by simp) ((qAn (q := True) (g := g152) (e := 60) (sz := 15) (xs := qBE [va]) rfl (fun x hx => qBc hx)).sl) (qEQ _) (by first | omega | (simp only [List.length_append, List.length_cons, List.length_nil, List.length_take, List.length_drop] at *; omega)) (by first | omega | (simp only [List.length_append, List.length_cons, List.length_nil, List.length_take, List.length_drop] at *; omega))) rfl (by simp) ?_
          rintro ⟨A153, c153, m153⟩ h153
          try dsimp only at h153
          change J _ ((153, .slice A153 ((0 + 2) + 1) c153) :: _) _ [_, _, _, _, _, _, _, _, _, _, m153, _] _
          rw [← qGh] at h153
          refine J.k rfl (qAA (j := 5) rfl rfl qF8 rfl qN9 rfl) rfl rfl <| J.c8 rfl (qAc (i := 9) (l := [N64 1, Str (pW 4 0).dig, I ((0 : Nat) : Int), I ((4 : Nat) : Int), .slice nA ((qAI (qAB 4) 0).length) nc, .slice (some ⟨g66, 0, none⟩) 2 2]) (vs := [.slice A153 ((0 + 2) + 1) c153]) rfl rfl rfl rfl rfl qN9 rfl (by simp)) rfl rfl rfl fun _ _ => ?_
          change J _ _ _ [_, _, _, _, _, _, _, _, _, blk g11 [N64 1, Str (pW 4 0).dig, I ((0 : Nat) : Int), I ((4 : Nat) : Int), .slice nA ((qAI (qAB 4) 0).length) nc, .slice A153 ((0 + 2) + 1) c153] 45, _, _] _
          refine J.d7 rfl (YOp.eop (qBl rfl rfl)) rfl rfl rfl rfl ?_
          intro _ _
          exact J.b3 <| J.a5 <| J.A <| J.a8 (1, [va, vb, va], A153, 3, c153, m153, G, 19) hK19 (⟨by show (1 : Nat) ≤ 2; decide, h153.sl, by show (3 : Nat) ≤ 3; decide, fun i hi => by have : i < 3 := hi; rcases (show i = 0 ∨ i = 1 ∨ i = 2 by omega) with rfl | rfl | rfl; exact hoa; exact hob; exact hoa, qE9 hga hgb hna hnb⟩) ⟨rfl, rfl, rfl, rfl, trivial⟩ (fun _ h => h.pick [2, 3, 6, 9, 10, 8] (by decide))
        refine J.a2 rfl (qAH (l := [.tmp 151]) (xs := qBE [va]) rfl rfl rfl rfl qEJ el60 rfl (by decide) (by decide) (fun x hx => qBc hx)) rfl (by simp) ?_
        rintro g152 _
        change J _ ((152, .slice (some ⟨g152, 0, none⟩) 1 1) :: _) _ [_, _, _, _, _, _, _, _, _, _, _, blk g152 (qBE [va]).flatten 60] _
        refine J.a2 rfl (qAY (i := 10) (xs := qBE ([])) (m2 := mv) (ys := qBE ([va, vb])) rfl rfl rfl qEJ qEJ el60 rfl (qAn (q := True) (xs := qBE ([])) rfl (by intro x hx; first | exact absurd hx (List.not_mem_nil) | (rw [List.mem_singleton.1 hx]; rfl))) (by simp) (hrv.sl) (qEQ _) (by first | omega | (simp only [List.length_append, List.length_cons, List.length_nil, List.length_take, List.length_drop] at *; omega)) (by first | omega | (simp only [List.length_append, List.length_cons, List.length_nil, List.length_take, List.length_drop] at *; omega))) rfl (by simp) ?_
        rintro ⟨A147, c147, m147⟩ h147
        try dsimp only at h147
        change J _ ((147, .slice A147 (0 + 2) c147) :: _) _ [_, _, _, _, _, _, _, _, _, _, m147, _] _
        replace h147 : Row m147 60 15 A147 (0 + 2) c147 (qBE ([va, vb])) := h147
        refine J.a2 rfl (qAY (i := 10) (xs := qBE ([va, vb])) (m2 := blk g152 (qBE [va]).flatten 60) (ys := qBE ([va])) rfl rfl rfl qEJ qEJ el60 rfl h147 (by simp) ((qAn (q := True) (g := g152) (e := 60) (sz := 15) (xs := qBE [va]) rfl (fun x hx => qBc hx)).sl) (qEQ _) (by first | omega | (simp only [List.length_append, List.length_cons, List.length_nil, List.length_take, List.length_drop] at *; omega)) (by first | omega | (simp only [List.length_append, List.length_cons, List.length_nil, List.length_take, List.length_drop] at *; omega))) rfl (by simp) ?_
        rintro ⟨A153, c153, m153⟩ h153
        try dsimp only at h153
        change J _ ((153, .slice A153 ((0 + 2) + 1) c153) :: _) _ [_, _, _, _, _, _, _, _, _, _, m153, _] _
        rw [← qGh] at h153
        refine J.k rfl (qAA (j := 5) rfl rfl qF8 rfl qN9 rfl) rfl rfl <| J.c8 rfl (qAc (i := 9) (l := [N64 1, Str (pW 4 0).dig, I ((0 : Nat) : Int), I ((4 : Nat) : Int), .slice nA ((qAI (qAB 4) 0).length) nc, .slice (some ⟨g66, 0, none⟩) 2 2]) (vs := [.slice A153 ((0 + 2) + 1) c153]) rfl rfl rfl rfl rfl qN9 rfl (by simp)) rfl rfl rfl fun _ _ => ?_
        change J _ _ _ [_, _, _, _, _, _, _, _, _, blk g11 [N64 1, Str (pW 4 0).dig, I ((0 : Nat) : Int), I ((4 : Nat) : Int), .slice nA ((qAI (qAB 4) 0).length) nc, .slice A153 ((0 + 2) + 1) c153] 45, _, _] _
        refine J.d7 rfl (YOp.eop (qBl rfl rfl)) rfl rfl rfl rfl ?_
        intro _ _
        exact J.b3 <| J.a5 <| J.A <| J.a8 (1, [va, vb, va], A153, 3, c153, m153, G, 19) hK19 (⟨by show (1 : Nat) ≤ 2; decide, h153.sl, by show (3 : Nat) ≤ 3; decide, fun i hi => by have : i < 3 := hi; rcases (show i = 0 ∨ i = 1 ∨ i = 2 by omega) with rfl | rfl | rfl; exact hoa; exact hob; exact hoa, qE9 hga hgb hna hnb⟩) ⟨rfl, rfl, rfl, rfl, trivial⟩ (fun _ h => h.pick [2, 3, 6, 9, 10, 8] (by decide))
      refine J.a2 rfl (qAH (l := [.tmp 151]) (xs := qBE [va]) rfl rfl rfl rfl qEJ el60 rfl (by decide) (by decide) (fun x hx => qBc hx)) rfl (by simp) ?_
      rintro g152 _
      change J _ ((152, .slice (some ⟨g152, 0, none⟩) 1 1) :: _) _ [mr3, mu3, F, H, wm, wG, blk g6 [I ((2 : Nat) : Int), I ((2 : Nat) : Int)] 26, mv, G, blk g11 [N64 1, Str (pW 4 0).dig, I ((0 : Nat) : Int), I ((4 : Nat) : Int), .slice nA ((qAI (qAB 4) 0).length) nc, .slice (some ⟨g66, 0, none⟩) 2 2] 45, blk g152 (qBE [va]).flatten 60] _
      refine J.a2 rfl (qCN rfl qEJ el60) rfl (by simp) fun g144 _ => ?_
      change J _ _ _ [_, _, _, _, _, _, _, _, _, _, _, blk g144 [] 60] _
      refine J.a2 rfl (qAY (i := 11) (xs := qBE ([])) (m2 := mv) (ys := qBE ([va, vb])) rfl rfl rfl qEJ qEJ el60 rfl (qAn (q := True) (xs := qBE ([])) rfl (by intro x hx; first | exact absurd hx (List.not_mem_nil) | (rw [List.mem_singleton.1 hx]; rfl))) (by simp) (hrv.sl) (qEQ _) (by first | omega | (simp only [List.length_append, List.length_cons, List.length_nil, List.length_take, List.length_drop] at *; omega)) (by first | omega | (simp only [List.length_append, List.length_cons, List.length_nil, List.length_take, List.length_drop] at *; omega))) rfl (by simp) ?_
      rintro ⟨A147, c147, m147⟩ h147
      try dsimp only at h147
      change J _ ((147, .slice A147 (0 + 2) c147) :: _) _ [_, _, _, _, _, _, _, _, _, _, _, m147] _
      replace h147 : Row m147 60 15 A147 (0 + 2) c147 (qBE ([va, vb])) := h147
      refine J.a2 rfl (qAY (i := 11) (xs := qBE ([va, vb])) (m2 := blk g152 (qBE [va]).flatten 60) (ys := qBE ([va])) rfl rfl rfl qEJ qEJ el60 rfl h147 (by simp) ((qAn (q := True) (g := g152) (e := 60) (sz := 15) (xs := qBE [va]) rfl (fun x hx => qBc hx)).sl) (qEQ _) (by first | omega | (simp only [List.length_append, List.length_cons, List.length_nil, List.length_take, List.length_drop] at *; omega)) (by first | omega | (simp only [List.length_append, List.length_cons, List.length_nil, List.length_take, List.length_drop] at *; omega))) rfl (by simp) ?_
      rintro ⟨A153, c153, m153⟩ h153
      try dsimp only at h153
      change J _ ((153, .slice A153 ((0 + 2) + 1) c153) :: _) _ [_, _, _, _, _, _, _, _, _, _, _, m153] _
      rw [← qGh] at h153
      refine J.k rfl (qAA (j := 5) rfl rfl qF8 rfl qN9 rfl) rfl rfl <| J.c8 rfl (qAc (i := 9) (l := [N64 1, Str (pW 4 0).dig, I ((0 : Nat) : Int), I ((4 : Nat) : Int), .slice nA ((qAI (qAB 4) 0).length) nc, .slice (some ⟨g66, 0, none⟩) 2 2]) (vs := [.slice A153 ((0 + 2) + 1) c153]) rfl rfl rfl rfl rfl qN9 rfl (by simp)) rfl rfl rfl fun _ _ => ?_
      change J _ _ _ [_, _, _, _, _, _, _, _, _, blk g11 [N64 1, Str (pW 4 0).dig, I ((0 : Nat) : Int), I ((4 : Nat) : Int), .slice nA ((qAI (qAB 4) 0).length) nc, .slice A153 ((0 + 2) + 1) c153] 45, _, _] _
      refine J.d7 rfl (YOp.eop (qBl rfl rfl)) rfl rfl rfl rfl ?_
      intro _ _
      exact J.b3 <| J.a5 <| J.A <| J.a8 (1, [va, vb, va], A153, 3, c153, m153, G, 19) hK19 (⟨by show (1 : Nat) ≤ 2; decide, h153.sl, by show (3 : Nat) ≤ 3; decide, fun i hi => by have : i < 3 := hi; rcases (show i = 0 ∨ i = 1 ∨ i = 2 by omega) with rfl | rfl | rfl; exact hoa; exact hob; exact hoa, qE9 hga hgb hna hnb⟩) ⟨rfl, rfl, rfl, rfl, trivial⟩ (fun _ h => h.pick [2, 3, 6, 9, 11, 8] (by decide))
    refine J.M <| J.a7 0 qF8 qBf rfl rfl rfl rfl rfl <| J.a7 0 qDy qGc rfl rfl rfl rfl rfl <| J.b4 (qAc (i := 9) (l := [N64 1, Str (pW 4 0).dig, I ((0 : Nat) : Int), I ((4 : Nat) : Int), .slice nA ((qAI (qAB 4) 0).length) nc, .slice (some ⟨g66, 0, none⟩) 2 2]) (vs := [N64 (2)]) rfl rfl rfl rfl rfl qGc rfl (by simp)) rfl rfl fun _ _ => ?_
    change J _ _ _ [mr3, mu3, F, H, wm, wG, blk g6 [I ((2 : Nat) : Int), I ((2 : Nat) : Int)] 26, mv, G, blk g11 [N64 (2), Str (pW 4 0).dig, I ((0 : Nat) : Int), I ((4 : Nat) : Int), .slice nA ((qAI (qAB 4) 0).length) nc, .slice (some ⟨g66, 0, none⟩) 2 2] 45] _
    exact J.b rfl <| J.a6 <| J.a5 <| J.A <| J.a8 (2, [va, vb], (some (⟨g66, 0, none⟩ : Addr)), 2, 2, mv, G, 14) hK19 (⟨by show (2 : Nat) ≤ 2; decide, hrv.sl, by show (2 : Nat) ≤ 3; decide, qCg hoa hob, qL6⟩) ⟨rfl, rfl, rfl, rfl, trivial⟩ (fun _ h => h.pick [2, 3, 6, 9, 7, 8] (by decide))
  rintro ⟨ep, vs, Av, nv, cv, mv, G, w⟩ ⟨hep, hsv, hn3, hvo, hcert⟩
  dsimp only at hep hsv hn3 hvo hcert ⊢
  refine J.g fun K29 hK29 => J.f (qAL (l := []) (vs := []) (places := [(0, 1), (1, 1), (2, 1), (3, 1), (4, 1)]) (r := [.int .u64 0, Str [], I 0, I 0, .slice none 0 0]) rfl rfl rfl qDy zeroValue39 (fun _ => by kernel_rfl) (by kernel_rfl)) rfl <| J.c5 2 qLf qId rfl rfl rfl rfl rfl <| J.q (qAC rfl rfl ent9 (Ct.use0 (fun F' hF => qGf F' (hK.mo hF) hd0 none 0 qPo Sl.nil 4 2 2 qSR))) rfl fun g158 _ => J.j 5 rfl <| J.c hK29 <| J.a3 5 6 11 13 15 ?_
  refine J.p fun K30 hK30 => J.c0 [H, blk g6 [I ((2 : Nat) : Int), I ((2 : Nat) : Int)] 26] [] (.y 0 (.y 1 (.y 2 (.y 3 (.y 4 (.e 5 (.y 6 (.y 7 (.y 8 (.y 9 (.y 10 .nil))))))))))) Tryz.wide (by decide +kernel) (by simp) ?_
  refine J.V ?_
  refine J.k rfl (qAD rfl rfl) rfl rfl <| J.k rfl (qAA (j := 3) rfl rfl qCf rfl qBf rfl) rfl rfl <| J.k rfl (qAd (vs := [N64 0, Str (qA8), I ((0 : Nat) : Int), I ((4 : Nat) : Int), .slice nA ((qAI (qAB 4) 0).length) nc]) rfl rfl qDR qBf (m := H) (by simp) (hw.sub 3 5) rfl) rfl rfl <| J.k rfl (qAg 1 rfl rfl rfl qLf qId rfl) rfl rfl <| J.a2 rfl (qAC rfl rfl ent9 (Ct.use0 (fun F' hF => qIk F' (hK.mo hF) (pW 4 0) nA nc (qBr 4 (by decide)) (hnr.mono (hF H (by simp))) 0 1 2 2 (by decide) rfl (qBP (by decide) (by decide)) (by decide) (by decide) (by decide) (by decide)))) rfl (by simp) fun g167 _ => J.V ?_
  refine J.d4 (.slice none 0 0) ?_
  refine J.d4 (I ((22 : Nat) : Int)) ?_
  refine J.c1 ?_
  refine J.c1 ?_
  refine J.b3 <| J.A (J.L hK30 ?_)
  refine J.b1 5 6 11 13 15 17 ?_
  refine J.g fun K31 hK31 => J.b rfl <| J.f (qAD rfl rfl) rfl <| J.a7 3 qCf qBf rfl rfl rfl rfl rfl <| J.f (qAd (vs := [N64 0, Str (qA8), I ((0 : Nat) : Int), I ((4 : Nat) : Int), .slice nA ((qAI (qAB 4) 0).length) nc]) rfl rfl qDR qBf (m := H) (by simp) (hw.sub 3 5) rfl) rfl <| J.f (qAL (l := [(0, .const ((Value.int IntKind.i64 2))), (1, .const ((Value.int IntKind.i64 3)))]) (vs := [I ((2 : Nat) : Int), I ((3 : Nat) : Int)]) (places := [(0, 1), (1, 1)]) (r := [I ((2 : Nat) : Int), I ((3 : Nat) : Int)]) rfl rfl rfl qHg qPu (fun _ => by kernel_rfl) (by kernel_rfl)) rfl <| J.q (qAC rfl rfl ent9 (Ct.use0 (fun F' hF => qHc F' (hK.mo hF) (pW 4 0) nA nc (qBr 4 (by decide)) (hnr.mono (hF H (by simp))) 4 2 3 (qBP (by decide) (by decide)) (by decide) (by decide)))) rfl fun g176 _ => J.j 5 rfl <| J.c hK31 <| J.c3 5 6 11 13 15 17 19 ?_
  refine J.p fun K32 hK32 => J.c0 [H, blk g6 [I ((2 : Nat) : Int), I ((2 : Nat) : Int)] 26, blk g11 [N64 ep, Str (pW 4 0).dig, I ((0 : Nat) : Int), I ((4 : Nat) : Int), .slice nA ((qAI (qAB 4) 0).length) nc, .slice Av nv cv] 45] [] (.y 0 (.y 1 (.y 2 (.y 3 (.y 4 (.y 5 (.y 7 (.e 6 (.y 8 (.y 9 (.y 10 (.y 11 (.y 12 (.y 13 (.y 14 (.y 15 (.y 16 (.y 17 (.y 18 (.y 19 (.y 20 (.y 21 .nil)))))))))))))))))))))) Tryz.wide (by decide +kernel) (by simp) ?_
  refine J.k rfl (qAg 2 rfl rfl rfl isAgg45 qLb rfl) rfl rfl <| J.V ?_
  refine J.k rfl (qAD rfl rfl) rfl rfl <| J.k rfl (qAA (j := 3) rfl rfl qCf rfl qBf rfl) rfl rfl <| J.k rfl (qAd (vs := [N64 0, Str (qA8), I ((0 : Nat) : Int), I ((4 : Nat) : Int), .slice nA ((qAI (qAB 4) 0).length) nc]) rfl rfl qDR qBf (m := H) (by simp) (hw.sub 3 5) rfl) rfl rfl <| J.k rfl (qAg 1 rfl rfl rfl qLf qId rfl) rfl rfl <| J.V ?_
  refine J.a2 rfl (qAC rfl rfl ent13 (Ct.use0 (fun F' hF => qBz F' (hK.mo hF) (pW 4 0) nA nc (qBr 4 (by first | omega | decide)) (hnr.mono (hF H (by simp))) (yW ep) nA nc (qQ0 hep) (hnr.mono (hF H (by simp))) (qBJ _ _ _) 0 4 2 2 (by first | omega | decide) rfl (qBP (by first | omega | decide) (by first | omega | decide)) (by first | omega | decide) (by first | omega | decide) (by first | omega | decide) (by first | omega | decide) (qDS 4 0 2) (qCn (by first | omega | decide) (by first | omega | decide) (by first | omega | decide) (by first | omega | decide)) Av nv cv vs (hsv.mono (hF mv (by simp))) (by first | omega | decide) (fun i hi => (hvo i hi).mono (hF G (by simp)))))) rfl (by simp) fun g185 _ => J.k rfl ((qAa rfl rfl rfl).yes (hcert)) rfl rfl <| J.V ?_
  refine J.b0 rfl (qAv rfl rfl) rfl rfl <| J.b0 rfl ((qAa rfl rfl rfl).yes (rfl)) rfl rfl <| J.e3 ?_
  refine J.V ?_
  refine J.b0 rfl (qAv rfl rfl) rfl rfl <| J.b0 rfl ((qAa rfl rfl rfl).yes (rfl)) rfl rfl <| J.e3 ?_
  refine J.V ?_
  refine J.b0 rfl (qAv rfl rfl) rfl rfl <| J.b0 rfl ((qAa rfl rfl rfl).yes (rfl)) rfl rfl <| J.e3 ?_
  refine J.c1 ?_
  refine J.b3 <| J.A (J.L hK32 ?_)
  refine J.u 4 ?_
  exact J.D <| J.H hw0 rfl () rfl trivial [0] rfl (by decide)
end Go.Proofs.YtfldiegfenndjaaGreatDoor
