/- A part of the proof: contracts of functions of the program, each for every state of the heaps that it names. -/
import Derived.Test.YtlopnfgacopkbaaDoorAtt
set_option linter.unusedSimpArgs false
set_option linter.unusedVariables false
namespace Go.Proofs.YtlopnfgacopkbaaDoor
open Go Go.Fw
set_option maxRecDepth 100000
set_option maxHeartbeats 1000000
theorem ent13 : Enters Tryd.prog 13 := Enters.of Tryd.func13 rfl (by kernel_rfl)
theorem ent15 : Enters Tryd.prog 15 := Enters.of Tryd.func15 rfl (by kernel_rfl)
theorem ent16 : Enters Tryd.prog 16 := Enters.of Tryd.func16 rfl (by kernel_rfl)
theorem ent51 : Enters Tryd.prog 51 := Enters.of Tryd.func51 rfl (by kernel_rfl)
theorem ent52 : Enters Tryd.prog 52 := Enters.of Tryd.func52 rfl (by kernel_rfl)
theorem ent53 : Enters Tryd.prog 53 := Enters.of Tryd.func53 rfl (by kernel_rfl)
theorem ent54 : Enters Tryd.prog 54 := Enters.of Tryd.func54 rfl (by kernel_rfl)
theorem ent86 : Enters Tryd.prog 86 := Enters.of Tryd.func86 rfl (by kernel_rfl)

theorem sg_facts (sd mg : List UInt8) : (∀ s ∈ (Wo.signs sd 0 (Wo.digs (Xm.digest (Wo.opn sd) 0 mg)) 35), s.length = 16) ∧ (Wo.signs sd 0 (Wo.digs (Xm.digest (Wo.opn sd) 0 mg)) 35).length = 35 ∧ (∀ s ∈ (Mk.path (Xm.leaves sd (2 ^ 0)) 0 0), s.length = 16) ∧ (Mk.path (Xm.leaves sd (2 ^ 0)) 0 0).length = 0 := ⟨Wo.signs_16 _ _ _ _, Wo.signs_len _ _ _, Mk.path_16 _ _ _ (Xm.leaves_16 _ _) (Xm.leaves_length _ _) (by decide), Mk.path_length _ _ _⟩
def sgX (sd mg : List UInt8) : List UInt8 := sgB 0 (Wo.signs sd 0 (Wo.digs (Xm.digest (Wo.opn sd) 0 mg)) 35) (Mk.path (Xm.leaves sd (2 ^ 0)) 0 0)
theorem sgX_len (sd mg : List UInt8) : (sgX sd mg).length = 562 := by
  obtain ⟨h1, h2, h3, h4⟩ := sg_facts sd mg
  unfold sgX
  rw [sgB_len h1 h3 h2, h4]
theorem sgX_why (sd mg : List UInt8) : whyE (sgX sd mg) = 0 ∧ natB ((⟨sgX sd mg, 0⟩ : RS).out 1) = 0 ∧ dN (sgX sd mg) = 0 ∧ ((⟨sgX sd mg, 0⟩ : RS).take 1).os 16 35 = (Wo.signs sd 0 (Wo.digs (Xm.digest (Wo.opn sd) 0 mg)) 35) ∧ ((dA (sgX sd mg)).take 1).os 16 0 = (Mk.path (Xm.leaves sd (2 ^ 0)) 0 0) := by
  obtain ⟨h1, h2, h3, h4⟩ := sg_facts sd mg
  have := why_sgB (i := 0) (by omega) h1 h3 h2 (by omega)
  rw [h4] at this
  exact this
theorem climb_ok (sd mg : List UInt8) : Mk.climb (Wo.publicOf (Wo.opn sd) 0 (Wo.ends (Wo.opn sd) 0 (Wo.digs (Xm.digest (Wo.opn sd) 0 mg)) (Wo.signs sd 0 (Wo.digs (Xm.digest (Wo.opn sd) 0 mg)) 35) 35)) 0 (Mk.path (Xm.leaves sd (2 ^ 0)) 0 0) = Xm.root sd 0 := by
  rw [Wo.recPub sd 0 (Xm.digest (Wo.opn sd) 0 mg) (by rw [Xm.digest_length]; decide)]
  exact Mk.climb_root3 sd 0 0 (by decide)

theorem signed_ct (F : Hp) (hK : Cells F ⟨0, 0, none⟩ (Sha.K.map W32)) (sd : List UInt8) (hs : sd.length ≤ 1048576) (ep bd nm : Nat) (hd : List UInt8) (h1 : ep ≤ 4294967295) (h2 : bd < 16) (h3 : nm < 64) (h4 : hd.length = 16) :
    Ct Tryd.prog 52 [Str sd, .agg #[N64 ep, I (bd : Nat), Str hd, I (nm : Nat), I 0, .slice none 0 0, .slice none 0 0]] [F] (fun x : (Option Addr × Nat × Hp) × (Option Addr × Nat × Hp) => .tuple #[.agg #[N64 ep, I (bd : Nat), Str hd, I (nm : Nat), I (0 : Nat), .slice x.1.1 35 x.1.2.1, .slice x.2.1 0 x.2.2.1], .agg #[Str (Wo.opn sd), Str (Xm.root sd 0), I (0 : Nat)]]) (fun x => Row x.1.2.2 9 1 x.1.1 35 x.1.2.1 (strsV (Wo.signs sd 0 (Wo.digs (Xm.digest (Wo.opn sd) 0 (atM ep bd nm hd))) 35)) ∧ Row x.2.2.2 9 1 x.2.1 0 x.2.2.1 (strsV (Mk.path (Xm.leaves sd (2 ^ 0)) 0 0))) (fun x => [F, x.1.2.2, x.2.2.2]) := by
  have hml := atM_len ep bd nm hd
  refine Ct.walk Tryd.func52 rfl Tryd.ntmps52 rfl (fun w0 => ?_)
  change J _ [(0, _), (1, _)] _ _ _
  refine J.seq (fun K1 hK1 => ?_)
  refine J.region ?_
  refine J.e (op_box rfl rfl (l := [N64 ep, I (bd : Nat), Str hd, I (nm : Nat), I 0, .slice none 0 0, .slice none 0 0]) rfl) rfl rfl rfl ?_
  intro g3 _
  change J _ _ _ [F, blk g3 [N64 ep, I (bd : Nat), Str hd, I (nm : Nat), I 0, .slice none 0 0, .slice none 0 0] 94] _
  refine J.e (op_alloc rfl Tryd.zeroValue94 rfl) rfl rfl rfl ?_
  intro g4 _
  change J _ _ _ [F, blk g3 [N64 ep, I (bd : Nat), Str hd, I (nm : Nat), I 0, .slice none 0 0, .slice none 0 0] 94, blk g4 _ 94] _
  refine J.e (op_alloc rfl Tryd.zeroValue36 rfl) rfl rfl rfl ?_
  intro g5 _
  change J _ _ _ [F, blk g3 [N64 ep, I (bd : Nat), Str hd, I (nm : Nat), I 0, .slice none 0 0, .slice none 0 0] 94, blk g4 _ 94, blk g5 _ 36] _
  refine J.nil ?_
  refine J.then_n (J.k hK1 ?_)
  refine J.keepE [(0, _), (3, _), (4, _), (5, _)] ⟨rfl, rfl, rfl, rfl, trivial⟩ ?_
  refine J.seq (fun K2 hK2 => ?_)
  refine J.region ?_
  refine J.y (op_move rfl rfl) rfl rfl rfl ?_
  refine J.e (op_call rfl rfl ent13 (Ct.use (fun F' hF => (xnew_ct F' (hK.mono (hF _ (by simp))) sd 0 hs (by omega)).mono (φ2 := fun x : Nat × Hp => Keyed x.2 x.1 sd 0) (val2 := fun x : Nat × Hp => .tuple #[Ptr x.1, I 0]) (ms2 := fun x : Nat × Hp => F' :: [x.2]) id (fun _ _ => rfl) (fun _ h => h) (fun x w0 w _ h => h.pick [1, 0] (by decide))))) rfl rfl rfl ?_
  rintro ⟨gk, mk⟩ hk6
  try dsimp only at hk6
  change J _ ((10, .tuple #[Ptr gk, I 0]) :: _) _ [F, blk g3 [N64 ep, I (bd : Nat), Str hd, I (nm : Nat), I 0, .slice none 0 0, .slice none 0 0] 94, blk g4 _ 94, blk g5 _ 36, mk] _
  obtain ⟨AK, cK, hcK, hsK⟩ := hk6.see
  refine J.y (op_move rfl rfl) rfl rfl rfl ?_
  refine J.y (op_extract (v := Ptr gk) rfl rfl rfl) rfl rfl rfl ?_
  refine J.y (op_extract (v := I 0) rfl rfl rfl) rfl rfl rfl ?_
  refine J.y (op_assign rfl rfl) rfl rfl rfl ?_
  refine J.y (op_assign rfl rfl) rfl rfl rfl ?_
  refine J.nil ?_
  refine J.then_n (J.k hK2 ?_)
  refine J.keepE [(3, _), (4, _), (5, _), (6, _)] ⟨rfl, rfl, rfl, rfl, trivial⟩ ?_
  refine J.seq (fun K3 hK3 => ?_)
  refine J.region ?_
  refine J.y (op_move rfl rfl) rfl rfl rfl ?_
  refine J.y (op_loadBA 1 rfl rfl rfl Tryd.isAgg94 Tryd.sizeOf94 rfl) rfl rfl rfl ?_
  refine J.e (op_call rfl rfl ent55 (Ct.use0 (fun F' hF => amessage_ct F' (hK.mono (hF _ (by simp))) ep bd nm hd 0 none none 0 0 0 0 h1 h2 h3 h4))) rfl rfl rfl ?_
  intro g16 _
  refine J.e (op_call rfl rfl ent15 (Ct.use (fun F' hF => xsign_ct F' (hK.mono (hF _ (by simp))) gk sd 0 AK cK (hcK.mono (hF mk (by simp))) (hsK.mono (hF mk (by simp))) hs (by omega) (atM ep bd nm hd) (by omega) 0 (by decide)))) rfl rfl rfl ?_
  rintro ⟨⟨A1, c1, m1⟩, ⟨A2, c2, m2⟩⟩ ⟨h1r, h2r⟩
  change J _ ((17, .tuple #[.agg #[I (0 : Nat), .slice A1 35 c1, .slice A2 0 c2], I 0]) :: _) _ [F, blk g3 [N64 ep, I (bd : Nat), Str hd, I (nm : Nat), I 0, .slice none 0 0, .slice none 0 0] 94, blk g4 _ 94, blk g5 _ 36, mk, m1, m2] _
  dsimp only at h1r h2r
  refine J.y (op_move rfl rfl) rfl rfl rfl ?_
  refine J.y (op_extract (v := .agg #[I (0 : Nat), .slice A1 35 c1, .slice A2 0 c2]) rfl rfl rfl) rfl rfl rfl ?_
  refine J.y (op_extract (v := I 0) rfl rfl rfl) rfl rfl rfl ?_
  refine J.y (op_fieldAddr (j := 4) rfl rfl Tryd.underlying94 rfl Tryd.sizeOf32 rfl) rfl rfl rfl ?_
  refine J.s (op_store (i := 1) (vs := [I (0 : Nat), .slice A1 35 c1, .slice A2 0 c2]) rfl rfl rfl rfl rfl Tryd.sizeOf32 rfl (by simp)) rfl rfl (fun _ _ => ?_)
  change J _ _ _ [F, blk g3 [N64 ep, I (bd : Nat), Str hd, I (nm : Nat), I (0 : Nat), .slice A1 35 c1, .slice A2 0 c2] 94, blk g4 _ 94, blk g5 _ 36, mk, m1, m2] _
  refine J.nil ?_
  refine J.then_n (J.k hK3 ?_)
  refine J.keepE [(3, _), (4, _), (5, _), (6, _)] ⟨rfl, rfl, rfl, rfl, trivial⟩ ?_
  refine J.seq (fun K4 hK4 => ?_)
  refine J.draw [blk g3 [N64 ep, I (bd : Nat), Str hd, I (nm : Nat), I (0 : Nat), .slice A1 35 c1, .slice A2 0 c2] 94] [3, 4] (.y 0 (.y 1 (.e 2 (.e 3 (.e 4 .nil))))) Tryd.wide (by decide +kernel) (by simp) ?_
  refine J.dy rfl (op_loadBA 0 rfl rfl rfl Tryd.isAgg94 Tryd.sizeOf94 rfl) rfl rfl rfl rfl ?_
  refine J.dy rfl (op_move rfl rfl) rfl rfl rfl rfl ?_
  refine J.de rfl (op_call rfl rfl ent16 (Ct.use0 (fun F' hF => xpublic_ct F' gk sd (Wo.opn sd) (Xm.root sd 0) 0 AK (2 ^ 0) cK (hcK.mono (hF mk (by simp)))))) rfl rfl rfl (by simp) ?_
  intro g23 _
  refine J.ds rfl (op_storeAll (l := [N64 0, I 0, Str [], I 0, I 0, .slice none 0 0, .slice none 0 0]) (i := 2) (vs := [N64 ep, I (bd : Nat), Str hd, I (nm : Nat), I (0 : Nat), .slice A1 35 c1, .slice A2 0 c2]) rfl rfl rfl rfl rfl Tryd.sizeOf94 rfl rfl) rfl rfl rfl (fun _ _ => ?_)
  change J _ _ _ [F, blk g3 [N64 ep, I (bd : Nat), Str hd, I (nm : Nat), I (0 : Nat), .slice A1 35 c1, .slice A2 0 c2] 94, blk g4 [N64 ep, I (bd : Nat), Str hd, I (nm : Nat), I (0 : Nat), .slice A1 35 c1, .slice A2 0 c2] 94, blk g5 _ 36, mk, m1, m2] _
  refine J.ds rfl (op_storeAll (l := [Str [], Str [], I 0]) (i := 3) (vs := [Str (Wo.opn sd), Str (Xm.root sd 0), I (0 : Nat)]) rfl rfl rfl rfl rfl Tryd.sizeOf36 rfl rfl) rfl rfl rfl (fun _ _ => ?_)
  change J _ _ _ [F, blk g3 [N64 ep, I (bd : Nat), Str hd, I (nm : Nat), I (0 : Nat), .slice A1 35 c1, .slice A2 0 c2] 94, blk g4 [N64 ep, I (bd : Nat), Str hd, I (nm : Nat), I (0 : Nat), .slice A1 35 c1, .slice A2 0 c2] 94, blk g5 [Str (Wo.opn sd), Str (Xm.root sd 0), I (0 : Nat)] 36, mk, m1, m2] _
  refine J.dnil ?_
  refine J.then_n (J.k hK4 ?_)
  refine J.keepE [(4, _), (5, _)] ⟨rfl, rfl, trivial⟩ ?_
  refine J.ret ?_
  exact J.done (fun _ _ h => h) (rv2 rfl (RV.blkA 2 rfl rfl Tryd.isAgg94 Tryd.sizeOf94) (RV.blkA 3 rfl rfl Tryd.isAgg36 Tryd.sizeOf36)) (retOk ((A1, c1, m1), (A2, c2, m2)) rfl ⟨h1r, h2r⟩ [0, 5, 6] rfl (by decide))

theorem speaks22_ct (F : Hp) (hK : Cells F ⟨0, 0, none⟩ (Sha.K.map W32)) : Ct Tryd.prog 51 [] [F] (fun _ : Unit => .bool true) (fun _ => True) (fun _ => [F]) := by
  obtain ⟨f1, f2, f3, f4⟩ := sg_facts [97] (atM 3 1 2 noughts)
  obtain ⟨w1, w2, w3, w4, w5⟩ := sgX_why [97] (atM 3 1 2 noughts)
  have hsl := sgX_len [97] (atM 3 1 2 noughts)
  obtain ⟨X, hX⟩ : ∃ X, X = atB 3 1 2 noughts (sgX [97] (atM 3 1 2 noughts)) := ⟨_, rfl⟩
  obtain ⟨⟨r1, r2, r3⟩, q1, q2, q3, q4, q5⟩ := at_read (ep := 3) (bd := 1) (nm := 2) (hd := noughts) (s := (sgX [97] (atM 3 1 2 noughts))) (by omega) (by omega) (by omega) rfl (by omega) w1
  rw [← hX] at r1 r2 r3 q1 q2 q3 q4 q5
  refine Ct.walk Tryd.func51 rfl Tryd.ntmps51 rfl (fun w0 => ?_)
  change J _ [] _ _ _
  refine J.seq (fun K1 hK1 => ?_)
  refine J.region ?_
  refine J.y (op_assign rfl rfl) rfl rfl rfl ?_
  refine J.nil ?_
  refine J.then_n (J.k hK1 ?_)
  refine J.keepE [] trivial ?_
  refine J.seq (fun K2 hK2 => ?_)
  refine J.region ?_
  refine J.y (op_buildStruct (l := [(0, .const (.int .u64 3)), (1, .const (.int .i64 1)), (2, .const (.string (ByteArray.mk #[0, 0, 0, 0, 0, 0, 0, 0, 0, 0, 0, 0, 0, 0, 0, 0]))), (3, .const (.int .i64 2))]) (vs := [N64 3, I (1 : Nat), Str noughts, I (2 : Nat)]) (places := [(0, 1), (1, 1), (2, 1), (3, 1), (4, 3)]) (r := [N64 3, I (1 : Nat), Str noughts, I (2 : Nat), I 0, .slice none 0 0, .slice none 0 0]) rfl rfl rfl Tryd.underlying94 Tryd.zeroValue94 (fun _ => by kernel_rfl) rfl) rfl rfl rfl ?_
  refine J.e (op_call rfl rfl ent52 (Ct.use (fun F' hF => signed_ct F' (hK.mono (hF _ (by simp))) [97] (by decide) 3 1 2 noughts (by omega) (by omega) (by omega) rfl))) rfl rfl rfl ?_
  rintro ⟨⟨A1, c1, m1⟩, ⟨A2, c2, m2⟩⟩ ⟨h1r, h2r⟩
  change J _ ((9, .tuple #[.agg #[N64 3, I (1 : Nat), Str noughts, I (2 : Nat), I (0 : Nat), .slice A1 35 c1, .slice A2 0 c2], .agg #[Str (Wo.opn [97]), Str (Xm.root [97] 0), I (0 : Nat)]]) :: _) _ [F, m1, m2] _
  dsimp only at h1r h2r
  refine J.y (op_move rfl rfl) rfl rfl rfl ?_
  refine J.y (op_extract (v := .agg #[N64 3, I (1 : Nat), Str noughts, I (2 : Nat), I (0 : Nat), .slice A1 35 c1, .slice A2 0 c2]) rfl rfl rfl) rfl rfl rfl ?_
  refine J.y (op_extract (v := .agg #[Str (Wo.opn [97]), Str (Xm.root [97] 0), I (0 : Nat)]) rfl rfl rfl) rfl rfl rfl ?_
  refine J.e (op_alloc rfl Tryd.zeroValue94 rfl) rfl rfl rfl ?_
  intro g1 _
  change J _ _ _ [F, m1, m2, blk g1 _ 94] _
  refine J.e (op_alloc rfl Tryd.zeroValue36 rfl) rfl rfl rfl ?_
  intro g2 _
  change J _ _ _ [F, m1, m2, blk g1 _ 94, blk g2 _ 36] _
  refine J.s (op_storeAll (l := [N64 0, I 0, Str [], I 0, I 0, .slice none 0 0, .slice none 0 0]) (i := 3) (vs := [N64 3, I (1 : Nat), Str noughts, I (2 : Nat), I (0 : Nat), .slice A1 35 c1, .slice A2 0 c2]) rfl rfl rfl rfl rfl Tryd.sizeOf94 rfl rfl) rfl rfl (fun _ _ => ?_)
  change J _ _ _ [F, m1, m2, blk g1 [N64 3, I (1 : Nat), Str noughts, I (2 : Nat), I (0 : Nat), .slice A1 35 c1, .slice A2 0 c2] 94, blk g2 _ 36] _
  refine J.s (op_storeAll (l := [Str [], Str [], I 0]) (i := 4) (vs := [Str (Wo.opn [97]), Str (Xm.root [97] 0), I (0 : Nat)]) rfl rfl rfl rfl rfl Tryd.sizeOf36 rfl rfl) rfl rfl (fun _ _ => ?_)
  change J _ _ _ [F, m1, m2, blk g1 [N64 3, I (1 : Nat), Str noughts, I (2 : Nat), I (0 : Nat), .slice A1 35 c1, .slice A2 0 c2] 94, blk g2 [Str (Wo.opn [97]), Str (Xm.root [97] 0), I (0 : Nat)] 36] _
  refine J.nil ?_
  refine J.then_n (J.k hK2 ?_)
  refine J.keepE [(1, _), (2, _)] ⟨rfl, rfl, trivial⟩ ?_
  refine J.seq (fun K3 hK3 => ?_)
  refine J.region ?_
  refine J.y (op_loadBA 3 rfl rfl rfl Tryd.isAgg94 Tryd.sizeOf94 rfl) rfl rfl rfl ?_
  refine J.e (op_call rfl rfl ent53 (Ct.use0 (fun F' hF => (aencode_ct F' 3 1 2 noughts (by omega) (by omega) (by omega) rfl 0 A1 c1 (Wo.signs [97] 0 (Wo.digs (Xm.digest (Wo.opn [97]) 0 (atM 3 1 2 noughts))) 35) (h1r.sl.mono (hF m1 (by simp))) f1 A2 0 c2 (Mk.path (Xm.leaves [97] (2 ^ 0)) 0 0) (h2r.sl.mono (hF m2 (by simp))) f3 (by omega) (by omega)).mono (φ2 := fun _ => True) (val2 := fun _ : Unit => .tuple #[Str X, I 0]) id (fun _ _ => by rw [hX]; rfl) (fun _ _ => trivial) (fun _ _ _ _ h => h)))) rfl rfl rfl ?_
  intro g14 _
  refine J.y (op_move rfl rfl) rfl rfl rfl ?_
  refine J.y (op_extract (v := Str X) rfl rfl rfl) rfl rfl rfl ?_
  refine J.y (op_extract (v := I 0) rfl rfl rfl) rfl rfl rfl ?_
  refine J.y (op_assign rfl rfl) rfl rfl rfl ?_
  refine J.y (op_assign rfl rfl) rfl rfl rfl ?_
  refine J.nil ?_
  refine J.then_n (J.k hK3 ?_)
  refine J.keepE [(1, _), (2, _), (3, _), (4, _)] ⟨rfl, rfl, rfl, rfl, trivial⟩ ?_
  refine J.seq (fun K4 hK4 => ?_)
  refine J.region ?_
  refine J.y (op_move rfl rfl) rfl rfl rfl ?_
  refine J.e (op_call rfl rfl ent54 (Ct.use (fun F' hF => adecode_ok F' X r1 r2 r3))) rfl rfl rfl ?_
  rintro ⟨⟨A3, c3, m3⟩, ⟨A4, c4, m4⟩⟩ ⟨h3r, h4r⟩
  change J _ ((19, .tuple #[.agg #[N64 (natB ((⟨X, 0⟩ : RS).out 4)), I (natB (((⟨X, 0⟩ : RS).take 4).out 1) : Nat), Str ((((((⟨X, 0⟩ : RS).take 4).take 1).take 2).out 16)), I (natB ((((⟨X, 0⟩ : RS).take 4).take 1).out 2) : Nat), I (natB ((⟨(a4 X).textS, 0⟩ : RS).out 1) : Nat), .slice A3 35 c3, .slice A4 (dN (a4 X).textS) c4], I 0]) :: _) _ [F, m1, m2, blk g1 [N64 3, I (1 : Nat), Str noughts, I (2 : Nat), I (0 : Nat), .slice A1 35 c1, .slice A2 0 c2] 94, blk g2 [Str (Wo.opn [97]), Str (Xm.root [97] 0), I (0 : Nat)] 36, m3, m4] _
  dsimp only at h3r h4r
  rw [q5, w4] at h3r
  rw [q5, w3, Nat.zero_min, w5] at h4r
  rw [q1, q2, q3, q4, q5, w2, w3]
  refine J.y (op_move rfl rfl) rfl rfl rfl ?_
  refine J.y (op_extract (v := .agg #[N64 3, I (1 : Nat), Str noughts, I (2 : Nat), I (0 : Nat), .slice A3 35 c3, .slice A4 0 c4]) rfl rfl rfl) rfl rfl rfl ?_
  refine J.y (op_extract (v := I 0) rfl rfl rfl) rfl rfl rfl ?_
  refine J.e (op_alloc rfl Tryd.zeroValue94 rfl) rfl rfl rfl ?_
  intro g5 _
  change J _ _ _ [F, m1, m2, blk g1 [N64 3, I (1 : Nat), Str noughts, I (2 : Nat), I (0 : Nat), .slice A1 35 c1, .slice A2 0 c2] 94, blk g2 [Str (Wo.opn [97]), Str (Xm.root [97] 0), I (0 : Nat)] 36, m3, m4, blk g5 _ 94] _
  refine J.s (op_storeAll (l := [N64 0, I 0, Str [], I 0, I 0, .slice none 0 0, .slice none 0 0]) (i := 7) (vs := [N64 3, I (1 : Nat), Str noughts, I (2 : Nat), I (0 : Nat), .slice A3 35 c3, .slice A4 0 c4]) rfl rfl rfl rfl rfl Tryd.sizeOf94 rfl rfl) rfl rfl (fun _ _ => ?_)
  change J _ _ _ [F, m1, m2, blk g1 [N64 3, I (1 : Nat), Str noughts, I (2 : Nat), I (0 : Nat), .slice A1 35 c1, .slice A2 0 c2] 94, blk g2 [Str (Wo.opn [97]), Str (Xm.root [97] 0), I (0 : Nat)] 36, m3, m4, blk g5 [N64 3, I (1 : Nat), Str noughts, I (2 : Nat), I (0 : Nat), .slice A3 35 c3, .slice A4 0 c4] 94] _
  refine J.y (op_assign rfl rfl) rfl rfl rfl ?_
  refine J.nil ?_
  refine J.then_n (J.k hK4 ?_)
  refine J.keepE [(1, _), (2, _), (4, _), (5, _), (6, _)] ⟨rfl, rfl, rfl, rfl, rfl, trivial⟩ ?_
  refine J.seq (fun K5 hK5 => ?_)
  refine J.region ?_
  refine J.y (op_loadBA 3 rfl rfl rfl Tryd.isAgg94 Tryd.sizeOf94 rfl) rfl rfl rfl ?_
  refine J.y (op_loadBA 4 rfl rfl rfl Tryd.isAgg36 Tryd.sizeOf36 rfl) rfl rfl rfl ?_
  refine J.e (op_call rfl rfl ent86 (Ct.use0 (fun F' hF => (averify_ct F' (hK.mono (hF _ (by simp))) 3 1 2 noughts (by omega) (by omega) (by omega) rfl (Wo.opn [97]) (Xm.root [97] 0) 0 A1 c1 (Wo.signs [97] 0 (Wo.digs (Xm.digest (Wo.opn [97]) 0 (atM 3 1 2 noughts))) 35) (h1r.sl.mono (hF m1 (by simp))) f1 A2 0 c2 (Mk.path (Xm.leaves [97] (2 ^ 0)) 0 0) (h2r.sl.mono (hF m2 (by simp))) f3 (by rw [Wo.opn_length]; decide) (by omega) (by decide)).mono (φ2 := fun _ => True) (val2 := fun _ : Unit => .bool true) id (fun _ _ => congrArg Value.bool (decide_eq_true (climb_ok [97] (atM 3 1 2 noughts)))) (fun _ _ => trivial) (fun _ _ _ _ h => h)))) rfl rfl rfl ?_
  intro g24 _
  refine J.y (op_move rfl rfl) rfl rfl rfl ?_
  refine J.yg (Wan.is rfl rfl rfl rfl rfl) (op_move rfl rfl) rfl rfl ?_
  refine J.yg (Wan.is rfl rfl rfl rfl rfl) ((op_eql rfl rfl rfl).as (v' := .bool true) (congrArg Value.bool (decide_eq_true (by decide)))) rfl rfl ?_
  refine J.y (op_pickT rfl rfl rfl) rfl rfl rfl ?_
  refine J.y (op_move rfl rfl) rfl rfl rfl ?_
  refine J.yg (Wan.is rfl rfl rfl rfl rfl) (op_move rfl rfl) rfl rfl ?_
  refine J.yg (Wan.is rfl rfl rfl rfl rfl) ((op_eql rfl rfl rfl).as (v' := .bool true) (congrArg Value.bool (decide_eq_true (by decide)))) rfl rfl ?_
  refine J.y (op_pickT rfl rfl rfl) rfl rfl rfl ?_
  refine J.y (op_move rfl rfl) rfl rfl rfl ?_
  refine J.yg (Wan.is rfl rfl rfl rfl rfl) (op_loadBA 7 rfl rfl rfl Tryd.isAgg94 Tryd.sizeOf94 rfl) rfl rfl ?_
  refine J.yg (Wan.is rfl rfl rfl rfl rfl) (op_loadBA 4 rfl rfl rfl Tryd.isAgg36 Tryd.sizeOf36 rfl) rfl rfl ?_
  refine J.eg (Wan.is rfl rfl rfl rfl rfl) (op_call rfl rfl ent86 (Ct.use0 (fun F' hF => (averify_ct F' (hK.mono (hF _ (by simp))) 3 1 2 noughts (by omega) (by omega) (by omega) rfl (Wo.opn [97]) (Xm.root [97] 0) 0 A3 c3 (Wo.signs [97] 0 (Wo.digs (Xm.digest (Wo.opn [97]) 0 (atM 3 1 2 noughts))) 35) (h3r.sl.mono (hF m3 (by simp))) f1 A4 0 c4 (Mk.path (Xm.leaves [97] (2 ^ 0)) 0 0) (h4r.sl.mono (hF m4 (by simp))) f3 (by rw [Wo.opn_length]; decide) (by omega) (by decide)).mono (φ2 := fun _ => True) (val2 := fun _ : Unit => .bool true) id (fun _ _ => congrArg Value.bool (decide_eq_true (climb_ok [97] (atM 3 1 2 noughts)))) (fun _ _ => trivial) (fun _ _ _ _ h => h)))) rfl rfl ?_
  intro g36 _
  refine J.y (op_pickT rfl rfl rfl) rfl rfl rfl ?_
  refine J.y (op_move rfl rfl) rfl rfl rfl ?_
  refine J.yg (Wan.is rfl rfl rfl rfl rfl) (op_fieldAddr (j := 0) rfl rfl Tryd.underlying94 rfl Tryd.sizeOf47 rfl) rfl rfl ?_
  refine J.yg (Wan.is rfl rfl rfl rfl rfl) (op_loadB 7 rfl rfl rfl Tryd.isAgg47 rfl) rfl rfl ?_
  refine J.yg (Wan.is rfl rfl rfl rfl rfl) ((op_eql rfl rfl rfl).as (v' := .bool true) (congrArg Value.bool (decide_eq_true (by decide)))) rfl rfl ?_
  refine J.y (op_pickT rfl rfl rfl) rfl rfl rfl ?_
  refine J.y (op_assign rfl rfl) rfl rfl rfl ?_
  refine J.nil ?_
  refine J.then_n (J.k hK5 ?_)
  refine J.keepE [(0, _)] ⟨rfl, trivial⟩ ?_
  refine J.ret ?_
  exact J.done (fun _ _ h => h) (res1 rfl rfl) (retOk () rfl trivial [0] rfl (by decide))

theorem and63 (a : UInt8) : (a &&& 63).toNat < 64 := by
  have : (a &&& 63).toNat ≤ 63 := by rw [UInt8.toNat_and]; exact Nat.and_le_right
  omega
theorem and15' (a : UInt8) : (a &&& 15).toNat < 16 := by
  have : (a &&& 15).toNat ≤ 15 := by rw [UInt8.toNat_and]; exact Nat.and_le_right
  omega
/-- the spoilt bytes of the law -/
def atS (a0 : UInt32) (b0 b1 : UInt8) (x0 x1 : Nat) : List UInt8 :=
  let X := atB a0.toNat (b0 &&& 15).toNat (b1 &&& 63).toNat noughts (sgX [98] (atM a0.toNat (b0 &&& 15).toNat (b1 &&& 63).toNat noughts))
  X.set (x0 % X.length) (X.getD (x0 % X.length) 0 ^^^ UInt8.ofNat (1 + x1 % 255))

theorem attestParses_ok (F : Hp) (hK : Cells F ⟨0, 0, none⟩ (Sha.K.map W32)) (a0 : UInt32) (b0 b1 : UInt8) (x0 x1 : Nat) (hx0 : x0 < 65536) (hx1 : x1 < 65536) (hz : atE (atS a0 b0 b1 x0 x1) = 0) :
    Ct Tryd.prog 11 [W32 a0, .agg #[B8 b0, B8 b1], .agg #[.int .u16 ((x0 : Nat) : Int), .int .u16 ((x1 : Nat) : Int)]] [F] (fun _ : Unit => .bool true) (fun _ => True) (fun _ => [F]) := by
  obtain ⟨ep, hep⟩ : ∃ e, e = a0.toNat := ⟨_, rfl⟩
  obtain ⟨bd, hbd⟩ : ∃ e, e = (b0 &&& 15).toNat := ⟨_, rfl⟩
  obtain ⟨nm, hnm⟩ : ∃ e, e = (b1 &&& 63).toNat := ⟨_, rfl⟩
  have he1 := a0.toNat_lt
  have hb1 := and15' b0
  have hn1 := and63 b1
  obtain ⟨f1, f2, f3, f4⟩ := sg_facts [98] (atM ep bd nm noughts)
  obtain ⟨w1, w2, w3, w4, w5⟩ := sgX_why [98] (atM ep bd nm noughts)
  have hsl := sgX_len [98] (atM ep bd nm noughts)
  obtain ⟨X, hX⟩ : ∃ X, X = atB ep bd nm noughts (sgX [98] (atM ep bd nm noughts)) := ⟨_, rfl⟩
  have hXl : X.length = 587 := by rw [hX, atB_len rfl, hsl]
  obtain ⟨c, hc⟩ : ∃ c, c = x0 % 587 := ⟨_, rfl⟩
  have hcl : c < 587 := by rw [hc]; exact Nat.mod_lt _ (by decide)
  have hc2 : (c : Int) = (x0 : Int) % 587 := by omega
  have hcut : atE (X.take c) = 3 := by rw [hX]; exact at_cut rfl (by omega) (by omega)
  have hlong : atE (X ++ [120]) = 2 := by rw [hX]; exact at_long rfl (by omega)
  obtain ⟨Y, hY⟩ : ∃ Y, Y = X.set c (X.getD c 0 ^^^ UInt8.ofNat (1 + x1 % 255)) := ⟨_, rfl⟩
  have hYl : Y.length = 587 := by rw [hY, List.length_set, hXl]
  have hYe : atS a0 b0 b1 x0 x1 = Y := by
    unfold atS
    rw [← hep, ← hbd, ← hnm, ← hX]
    dsimp only
    rw [hXl, ← hc, hY]
  rw [hYe] at hz
  obtain ⟨y1, y2, y3⟩ := at_facts hz
  obtain ⟨u1, u2, u3, u4, u5⟩ := at_write hz
  obtain ⟨z1, z2, z3, z4, z5, z6, z7⟩ := why_ok y2
  refine Ct.walk Tryd.func11 rfl Tryd.ntmps11 rfl (fun w0 => ?_)
  change J _ [(0, _), (1, _), (2, _)] _ _ _
  refine J.seq (fun K1 hK1 => ?_)
  refine J.region ?_
  refine J.e (op_box rfl rfl (l := [B8 b0, B8 b1]) rfl) rfl rfl rfl ?_
  intro g4 _
  change J _ _ _ [F, blk g4 [B8 b0, B8 b1] 78] _
  refine J.e (op_box rfl rfl (l := [.int .u16 ((x0 : Nat) : Int), .int .u16 ((x1 : Nat) : Int)]) rfl) rfl rfl rfl ?_
  intro g5 _
  change J _ _ _ [F, blk g4 [B8 b0, B8 b1] 78, blk g5 [.int .u16 ((x0 : Nat) : Int), .int .u16 ((x1 : Nat) : Int)] 92] _
  refine J.y (op_assign rfl rfl) rfl rfl rfl ?_
  refine J.nil ?_
  refine J.then_n (J.k hK1 ?_)
  refine J.keepE [(0, _), (4, _), (5, _)] ⟨rfl, rfl, rfl, trivial⟩ ?_
  refine J.seq (fun K2 hK2 => ?_)
  refine J.seq (fun K3 hK3 => ?_)
  refine J.region ?_
  refine J.e (op_call rfl rfl ent51 (Ct.use0 (fun F' hF => speaks22_ct F' (hK.mono (hF _ (by simp)))))) rfl rfl rfl ?_
  intro g20 _
  refine J.y ((op_not rfl rfl).as (v' := .bool false) rfl) rfl rfl rfl ?_
  refine J.nil ?_
  refine J.then_n (J.k hK3 ?_)
  refine J.keepE [(0, _), (4, _), (5, _), (21, _)] ⟨rfl, rfl, rfl, rfl, trivial⟩ ?_
  refine J.condF rfl rfl ?_
  refine J.skip ?_
  refine J.then_n (J.k hK2 ?_)
  refine J.keepE [(0, _), (4, _), (5, _)] ⟨rfl, rfl, rfl, trivial⟩ ?_
  refine J.seq (fun K4 hK4 => ?_)
  refine J.region ?_
  refine J.y (op_move rfl rfl) rfl rfl rfl ?_
  refine J.y ((op_cv_u32_u64 rfl rfl Tryd.underlying90 Tryd.underlying47).as (v' := N64 ep) (by rw [hep]; show Value.int .u64 _ = Value.int .u64 _; rw [UInt32.toNat_toUInt64])) rfl rfl rfl ?_
  refine J.y (op_indexAddrJ (i := 0) (j := 0) rfl rfl rfl Tryd.underlying78 Tryd.sizeOf5 (by decide) (by decide)) rfl rfl rfl ?_
  refine J.y (op_loadB 1 rfl rfl rfl Tryd.isAgg5 rfl) rfl rfl rfl ?_
  refine J.y (op_and8 (b := 15) rfl rfl rfl) rfl rfl rfl ?_
  refine J.y ((op_cv_u8_i64 rfl rfl Tryd.underlying5 Tryd.underlying3).as (v' := I (bd : Nat)) (by rw [hbd])) rfl rfl rfl ?_
  refine J.y (op_indexAddrJ (i := 1) (j := 1) rfl rfl rfl Tryd.underlying78 Tryd.sizeOf5 (by decide) (by decide)) rfl rfl rfl ?_
  refine J.y (op_loadB 1 rfl rfl rfl Tryd.isAgg5 rfl) rfl rfl rfl ?_
  refine J.y (op_and8 (b := 63) rfl rfl rfl) rfl rfl rfl ?_
  refine J.y ((op_cv_u8_i64 rfl rfl Tryd.underlying5 Tryd.underlying3).as (v' := I (nm : Nat)) (by rw [hnm])) rfl rfl rfl ?_
  refine J.y (op_buildStruct (l := [(0, .tmp 24), (1, .tmp 28), (2, .const (.string (ByteArray.mk #[0, 0, 0, 0, 0, 0, 0, 0, 0, 0, 0, 0, 0, 0, 0, 0]))), (3, .tmp 32)]) (vs := [N64 ep, I (bd : Nat), Str noughts, I (nm : Nat)]) (places := [(0, 1), (1, 1), (2, 1), (3, 1), (4, 3)]) (r := [N64 ep, I (bd : Nat), Str noughts, I (nm : Nat), I 0, .slice none 0 0, .slice none 0 0]) rfl rfl rfl Tryd.underlying94 Tryd.zeroValue94 (fun _ => by kernel_rfl) rfl) rfl rfl rfl ?_
  refine J.e (op_call rfl rfl ent52 (Ct.use (fun F' hF => signed_ct F' (hK.mono (hF _ (by simp))) [98] (by decide) ep bd nm noughts (by omega) (by omega) (by omega) rfl))) rfl rfl rfl ?_
  rintro ⟨⟨A1, c1, m1⟩, ⟨A2, c2, m2⟩⟩ ⟨h1r, h2r⟩
  change J _ ((34, .tuple #[.agg #[N64 ep, I (bd : Nat), Str noughts, I (nm : Nat), I (0 : Nat), .slice A1 35 c1, .slice A2 0 c2], .agg #[Str (Wo.opn [98]), Str (Xm.root [98] 0), I (0 : Nat)]]) :: _) _ [F, blk g4 [B8 b0, B8 b1] 78, blk g5 [.int .u16 ((x0 : Nat) : Int), .int .u16 ((x1 : Nat) : Int)] 92, m1, m2] _
  dsimp only at h1r h2r
  refine J.y (op_move rfl rfl) rfl rfl rfl ?_
  refine J.y (op_extract (v := .agg #[N64 ep, I (bd : Nat), Str noughts, I (nm : Nat), I (0 : Nat), .slice A1 35 c1, .slice A2 0 c2]) rfl rfl rfl) rfl rfl rfl ?_
  refine J.y (op_extract (v := .agg #[Str (Wo.opn [98]), Str (Xm.root [98] 0), I (0 : Nat)]) rfl rfl rfl) rfl rfl rfl ?_
  refine J.e (op_alloc rfl Tryd.zeroValue94 rfl) rfl rfl rfl ?_
  intro g7 _
  change J _ _ _ [F, blk g4 [B8 b0, B8 b1] 78, blk g5 [.int .u16 ((x0 : Nat) : Int), .int .u16 ((x1 : Nat) : Int)] 92, m1, m2, blk g7 _ 94] _
  refine J.e (op_alloc rfl Tryd.zeroValue36 rfl) rfl rfl rfl ?_
  intro g8 _
  change J _ _ _ [F, blk g4 [B8 b0, B8 b1] 78, blk g5 [.int .u16 ((x0 : Nat) : Int), .int .u16 ((x1 : Nat) : Int)] 92, m1, m2, blk g7 _ 94, blk g8 _ 36] _
  refine J.s (op_storeAll (l := [N64 0, I 0, Str [], I 0, I 0, .slice none 0 0, .slice none 0 0]) (i := 5) (vs := [N64 ep, I (bd : Nat), Str noughts, I (nm : Nat), I (0 : Nat), .slice A1 35 c1, .slice A2 0 c2]) rfl rfl rfl rfl rfl Tryd.sizeOf94 rfl rfl) rfl rfl (fun _ _ => ?_)
  change J _ _ _ [F, blk g4 [B8 b0, B8 b1] 78, blk g5 [.int .u16 ((x0 : Nat) : Int), .int .u16 ((x1 : Nat) : Int)] 92, m1, m2, blk g7 [N64 ep, I (bd : Nat), Str noughts, I (nm : Nat), I (0 : Nat), .slice A1 35 c1, .slice A2 0 c2] 94, blk g8 _ 36] _
  refine J.s (op_storeAll (l := [Str [], Str [], I 0]) (i := 6) (vs := [Str (Wo.opn [98]), Str (Xm.root [98] 0), I (0 : Nat)]) rfl rfl rfl rfl rfl Tryd.sizeOf36 rfl rfl) rfl rfl (fun _ _ => ?_)
  change J _ _ _ [F, blk g4 [B8 b0, B8 b1] 78, blk g5 [.int .u16 ((x0 : Nat) : Int), .int .u16 ((x1 : Nat) : Int)] 92, m1, m2, blk g7 [N64 ep, I (bd : Nat), Str noughts, I (nm : Nat), I (0 : Nat), .slice A1 35 c1, .slice A2 0 c2] 94, blk g8 [Str (Wo.opn [98]), Str (Xm.root [98] 0), I (0 : Nat)] 36] _
  refine J.nil ?_
  refine J.then_n (J.k hK4 ?_)
  refine J.keepE [(5, _), (7, _)] ⟨rfl, rfl, trivial⟩ ?_
  refine J.seq (fun K5 hK5 => ?_)
  refine J.region ?_
  refine J.y (op_loadBA 5 rfl rfl rfl Tryd.isAgg94 Tryd.sizeOf94 rfl) rfl rfl rfl ?_
  refine J.e (op_call rfl rfl ent53 (Ct.use0 (fun F' hF => (aencode_ct F' ep bd nm noughts (by omega) (by omega) (by omega) rfl 0 A1 c1 (Wo.signs [98] 0 (Wo.digs (Xm.digest (Wo.opn [98]) 0 (atM ep bd nm noughts))) 35) (h1r.sl.mono (hF m1 (by simp))) f1 A2 0 c2 (Mk.path (Xm.leaves [98] (2 ^ 0)) 0 0) (h2r.sl.mono (hF m2 (by simp))) f3 (by omega) (by omega)).mono (φ2 := fun _ => True) (val2 := fun _ : Unit => .tuple #[Str X, I 0]) id (fun _ _ => by rw [hX]; rfl) (fun _ _ => trivial) (fun _ _ _ _ h => h)))) rfl rfl rfl ?_
  intro g39 _
  refine J.y (op_move rfl rfl) rfl rfl rfl ?_
  refine J.y (op_extract (v := Str X) rfl rfl rfl) rfl rfl rfl ?_
  refine J.y (op_extract (v := I 0) rfl rfl rfl) rfl rfl rfl ?_
  refine J.y (op_assign rfl rfl) rfl rfl rfl ?_
  refine J.y (op_assign rfl rfl) rfl rfl rfl ?_
  refine J.nil ?_
  refine J.then_n (J.k hK5 ?_)
  refine J.keepE [(5, _), (9, _), (10, _)] ⟨rfl, rfl, rfl, trivial⟩ ?_
  refine J.seq (fun K6 hK6 => ?_)
  refine J.seq (fun K7 hK7 => ?_)
  refine J.region ?_
  refine J.y (op_move rfl rfl) rfl rfl rfl ?_
  refine J.y ((op_neq rfl rfl rfl).as (v' := .bool false) (congrArg Value.bool (decide_eq_false (by decide)))) rfl rfl rfl ?_
  refine J.nil ?_
  refine J.then_n (J.k hK7 ?_)
  refine J.keepE [(5, _), (9, _), (43, _)] ⟨rfl, rfl, rfl, trivial⟩ ?_
  refine J.condF rfl rfl ?_
  refine J.skip ?_
  refine J.then_n (J.k hK6 ?_)
  refine J.keepE [(5, _), (9, _)] ⟨rfl, rfl, trivial⟩ ?_
  refine J.seq (fun K8 hK8 => ?_)
  refine J.region ?_
  refine J.y (op_move rfl rfl) rfl rfl rfl ?_
  refine J.y (op_indexAddrJ (i := 0) (j := 0) rfl rfl rfl Tryd.underlying92 Tryd.sizeOf91 (by decide) (by decide)) rfl rfl rfl ?_
  refine J.y (op_loadB 2 rfl rfl rfl Tryd.isAgg91 rfl) rfl rfl rfl ?_
  refine J.y ((op_cvt rfl rfl Tryd.underlying91 Tryd.underlying3 (wrap64_of (by omega)) : YOp _ _ _ _ (I (x0 : Nat)))) rfl rfl rfl ?_
  refine J.y (op_move rfl rfl) rfl rfl rfl ?_
  refine J.y (op_slen Tryd.underlying9 rfl rfl) rfl rfl rfl ?_
  refine J.y ((op_rem rfl rfl rfl (by omega)).as (v' := I (c : Nat)) (congrArg I (by rw [hXl]; omega))) rfl rfl rfl ?_
  refine J.y ((op_sslice (l := 0) (h := c) Tryd.underlying9 rfl rfl rfl rfl ⟨by omega, by omega⟩).as (congrArg Str List.drop_zero)) rfl rfl rfl ?_
  refine J.e (op_call rfl rfl ent54 (Ct.use0 (fun F' hF => (adecode_no F' (X.take c) (by rw [hcut]; decide)).mono (φ2 := fun _ => True) (val2 := fun _ : Unit => .tuple #[.agg #[N64 0, I 0, Str [], I 0, I 0, .slice none 0 0, .slice none 0 0], I 3]) id (fun _ _ => by rw [hcut]) (fun _ _ => trivial) (fun _ _ _ _ h => h)))) rfl rfl rfl ?_
  intro g53 _
  refine J.y (op_move rfl rfl) rfl rfl rfl ?_
  refine J.y (op_extract (v := .agg #[N64 0, I 0, Str [], I 0, I 0, .slice none 0 0, .slice none 0 0]) rfl rfl rfl) rfl rfl rfl ?_
  refine J.y (op_extract (v := I 3) rfl rfl rfl) rfl rfl rfl ?_
  refine J.e (op_alloc rfl Tryd.zeroValue94 rfl) rfl rfl rfl ?_
  intro g11 _
  change J _ _ _ [F, blk g4 [B8 b0, B8 b1] 78, blk g5 [.int .u16 ((x0 : Nat) : Int), .int .u16 ((x1 : Nat) : Int)] 92, m1, m2, blk g7 [N64 ep, I (bd : Nat), Str noughts, I (nm : Nat), I (0 : Nat), .slice A1 35 c1, .slice A2 0 c2] 94, blk g8 [Str (Wo.opn [98]), Str (Xm.root [98] 0), I (0 : Nat)] 36, blk g11 _ 94] _
  refine J.s (op_storeAll (l := [N64 0, I 0, Str [], I 0, I 0, .slice none 0 0, .slice none 0 0]) (i := 7) (vs := [N64 0, I 0, Str [], I 0, I 0, .slice none 0 0, .slice none 0 0]) rfl rfl rfl rfl rfl Tryd.sizeOf94 rfl rfl) rfl rfl (fun _ _ => ?_)
  change J _ _ _ [F, blk g4 [B8 b0, B8 b1] 78, blk g5 [.int .u16 ((x0 : Nat) : Int), .int .u16 ((x1 : Nat) : Int)] 92, m1, m2, blk g7 [N64 ep, I (bd : Nat), Str noughts, I (nm : Nat), I (0 : Nat), .slice A1 35 c1, .slice A2 0 c2] 94, blk g8 [Str (Wo.opn [98]), Str (Xm.root [98] 0), I (0 : Nat)] 36, blk g11 [N64 0, I 0, Str [], I 0, I 0, .slice none 0 0, .slice none 0 0] 94] _
  refine J.y (op_assign rfl rfl) rfl rfl rfl ?_
  refine J.nil ?_
  refine J.then_n (J.k hK8 ?_)
  refine J.keepE [(5, _), (9, _), (12, _)] ⟨rfl, rfl, rfl, trivial⟩ ?_
  refine J.seq (fun K9 hK9 => ?_)
  refine J.region ?_
  refine J.y (op_move rfl rfl) rfl rfl rfl ?_
  refine J.y (op_sadd (b := [120]) rfl rfl rfl (by rw [hXl]; decide)) rfl rfl rfl ?_
  refine J.e (op_call rfl rfl ent54 (Ct.use0 (fun F' hF => (adecode_no F' (X ++ [120]) (by rw [hlong]; decide)).mono (φ2 := fun _ => True) (val2 := fun _ : Unit => .tuple #[.agg #[N64 0, I 0, Str [], I 0, I 0, .slice none 0 0, .slice none 0 0], I 2]) id (fun _ _ => by rw [hlong]) (fun _ _ => trivial) (fun _ _ _ _ h => h)))) rfl rfl rfl ?_
  intro g59 _
  refine J.y (op_move rfl rfl) rfl rfl rfl ?_
  refine J.y (op_extract (v := .agg #[N64 0, I 0, Str [], I 0, I 0, .slice none 0 0, .slice none 0 0]) rfl rfl rfl) rfl rfl rfl ?_
  refine J.y (op_extract (v := I 2) rfl rfl rfl) rfl rfl rfl ?_
  refine J.e (op_alloc rfl Tryd.zeroValue94 rfl) rfl rfl rfl ?_
  intro g13 _
  change J _ _ _ [F, blk g4 [B8 b0, B8 b1] 78, blk g5 [.int .u16 ((x0 : Nat) : Int), .int .u16 ((x1 : Nat) : Int)] 92, m1, m2, blk g7 [N64 ep, I (bd : Nat), Str noughts, I (nm : Nat), I (0 : Nat), .slice A1 35 c1, .slice A2 0 c2] 94, blk g8 [Str (Wo.opn [98]), Str (Xm.root [98] 0), I (0 : Nat)] 36, blk g11 [N64 0, I 0, Str [], I 0, I 0, .slice none 0 0, .slice none 0 0] 94, blk g13 _ 94] _
  refine J.s (op_storeAll (l := [N64 0, I 0, Str [], I 0, I 0, .slice none 0 0, .slice none 0 0]) (i := 8) (vs := [N64 0, I 0, Str [], I 0, I 0, .slice none 0 0, .slice none 0 0]) rfl rfl rfl rfl rfl Tryd.sizeOf94 rfl rfl) rfl rfl (fun _ _ => ?_)
  change J _ _ _ [F, blk g4 [B8 b0, B8 b1] 78, blk g5 [.int .u16 ((x0 : Nat) : Int), .int .u16 ((x1 : Nat) : Int)] 92, m1, m2, blk g7 [N64 ep, I (bd : Nat), Str noughts, I (nm : Nat), I (0 : Nat), .slice A1 35 c1, .slice A2 0 c2] 94, blk g8 [Str (Wo.opn [98]), Str (Xm.root [98] 0), I (0 : Nat)] 36, blk g11 [N64 0, I 0, Str [], I 0, I 0, .slice none 0 0, .slice none 0 0] 94, blk g13 [N64 0, I 0, Str [], I 0, I 0, .slice none 0 0, .slice none 0 0] 94] _
  refine J.y (op_assign rfl rfl) rfl rfl rfl ?_
  refine J.nil ?_
  refine J.then_n (J.k hK9 ?_)
  refine J.keepE [(5, _), (9, _), (12, _), (14, _)] ⟨rfl, rfl, rfl, rfl, trivial⟩ ?_
  refine J.seq (fun K10 hK10 => ?_)
  refine J.region ?_
  refine J.y (op_move rfl rfl) rfl rfl rfl ?_
  refine J.e (op_toBytes rfl rfl Tryd.underlying9 Tryd.underlying99 Tryd.underlying5) rfl rfl rfl ?_
  rintro ⟨A63, c63, m63⟩ h63
  try dsimp only at h63
  change J _ _ _ [F, blk g4 [B8 b0, B8 b1] 78, blk g5 [.int .u16 ((x0 : Nat) : Int), .int .u16 ((x1 : Nat) : Int)] 92, m1, m2, blk g7 [N64 ep, I (bd : Nat), Str noughts, I (nm : Nat), I (0 : Nat), .slice A1 35 c1, .slice A2 0 c2] 94, blk g8 [Str (Wo.opn [98]), Str (Xm.root [98] 0), I (0 : Nat)] 36, blk g11 [N64 0, I 0, Str [], I 0, I 0, .slice none 0 0, .slice none 0 0] 94, blk g13 [N64 0, I 0, Str [], I 0, I 0, .slice none 0 0, .slice none 0 0] 94, m63] _
  refine J.y (op_assign rfl rfl) rfl rfl rfl ?_
  refine J.nil ?_
  refine J.then_n (J.k hK10 ?_)
  refine J.keepE [(5, _), (12, _), (14, _), (15, _)] ⟨rfl, rfl, rfl, rfl, trivial⟩ ?_
  refine J.seq (fun K11 hK11 => ?_)
  refine J.draw [m63, blk g5 [.int .u16 ((x0 : Nat) : Int), .int .u16 ((x1 : Nat) : Int)] 92] [16] (.y 0 (.y 1 (.y 2 (.y 3 (.y 4 (.y 5 (.y 6 (.y 7 (.y 8 (.y 9 (.y 10 (.y 11 (.y 12 (.y 13 (.y 14 (.y 15 (.e 16 .nil))))))))))))))))) Tryd.wide (by decide +kernel) (by simp) ?_
  refine J.dy rfl (op_move rfl rfl) rfl rfl rfl rfl ?_
  refine J.dy rfl (op_indexAddrJ (i := 0) (j := 0) rfl rfl rfl Tryd.underlying92 Tryd.sizeOf91 (by decide) (by decide)) rfl rfl rfl rfl ?_
  refine J.dy rfl (op_loadB 1 rfl rfl rfl Tryd.isAgg91 rfl) rfl rfl rfl rfl ?_
  refine J.dy rfl ((op_cvt rfl rfl Tryd.underlying91 Tryd.underlying3 (wrap64_of (by omega)) : YOp _ _ _ _ (I (x0 : Nat)))) rfl rfl rfl rfl ?_
  refine J.dy rfl (op_move rfl rfl) rfl rfl rfl rfl ?_
  refine J.dy rfl (op_len Tryd.underlying99 rfl rfl) rfl rfl rfl rfl ?_
  refine J.dy rfl ((op_rem rfl rfl rfl (by omega)).as (v' := I (c : Nat)) (congrArg I (by rw [hXl]; omega))) rfl rfl rfl rfl ?_
  refine J.dy rfl (op_indexAddrS (i := c) (j := c) rfl rfl rfl Tryd.underlying99 Tryd.sizeOf5 (by omega) (by omega)) rfl rfl rfl rfl ?_
  refine J.dy rfl (op_load rfl rfl Tryd.isAgg5 (m := m63) (by simp) (v := B8 (X.getD c 0)) (by have := h63.sl.cells (bytesV_get (getSome 0 (show c < X.length by omega))); rw [Nat.zero_add, Nat.mul_one] at this; exact this)) rfl rfl rfl rfl ?_
  refine J.dy rfl (op_indexAddrJ (i := 1) (j := 1) rfl rfl rfl Tryd.underlying92 Tryd.sizeOf91 (by decide) (by decide)) rfl rfl rfl rfl ?_
  refine J.dy rfl (op_loadB 1 rfl rfl rfl Tryd.isAgg91 rfl) rfl rfl rfl rfl ?_
  refine J.dy rfl ((op_rem rfl rfl rfl ⟨by omega, by decide⟩).as (v' := .int .u16 ((x1 % 255 : Nat) : Int)) (by show Value.int _ _ = Value.int _ _; congr 1)) rfl rfl rfl rfl ?_
  refine J.dy rfl (op_arw (op := .add) (r := ((1 + x1 % 255 : Nat) : Int)) rfl rfl rfl (by show _ = IntKind.u16.wrap _; simp [IntKind.wrap, IntKind.bits, IntKind.signed]; omega)) rfl rfl rfl rfl ?_
  refine J.dy rfl ((op_cvt (r := (((UInt8.ofNat (1 + x1 % 255)).toNat : Nat) : Int)) rfl rfl Tryd.underlying91 Tryd.underlying5 (by rw [UInt8.toNat_ofNat', wrapU8]) : YOp _ _ _ _ (B8 (UInt8.ofNat (1 + x1 % 255))))) rfl rfl rfl rfl ?_
  refine J.dy rfl (op_xor8 rfl rfl rfl) rfl rfl rfl rfl ?_
  refine J.dy rfl (op_indexAddrS (i := c) (j := c) rfl rfl rfl Tryd.underlying99 Tryd.sizeOf5 (by omega) (by omega)) rfl rfl rfl rfl ?_
  refine J.ds rfl (op_storeRow (i := 9) (k := c) (off := 0) (b := [B8 (X.getD c 0 ^^^ UInt8.ofNat (1 + x1 % 255))]) rfl rfl rfl rfl h63 (vs := [B8 (X.getD c 0 ^^^ UInt8.ofNat (1 + x1 % 255))]) rfl Tryd.sizeOf5 rfl (by omega) (bytesV_get (getSome 0 (by omega))) rfl (Nat.le_refl _)) rfl rfl rfl ?_
  rintro m79 h79
  change J _ _ _ [F, blk g4 [B8 b0, B8 b1] 78, blk g5 [.int .u16 ((x0 : Nat) : Int), .int .u16 ((x1 : Nat) : Int)] 92, m1, m2, blk g7 [N64 ep, I (bd : Nat), Str noughts, I (nm : Nat), I (0 : Nat), .slice A1 35 c1, .slice A2 0 c2] 94, blk g8 [Str (Wo.opn [98]), Str (Xm.root [98] 0), I (0 : Nat)] 36, blk g11 [N64 0, I 0, Str [], I 0, I 0, .slice none 0 0, .slice none 0 0] 94, blk g13 [N64 0, I 0, Str [], I 0, I 0, .slice none 0 0, .slice none 0 0] 94, m79] _
  rw [show (bytesV X).set c [B8 (X.getD c 0 ^^^ UInt8.ofNat (1 + x1 % 255))] = bytesV Y by rw [hY]; unfold bytesV; rw [List.map_set]] at h79
  refine J.dnil ?_
  refine J.then_n (J.k hK11 ?_)
  refine J.keepE [(12, _), (14, _), (15, _)] ⟨rfl, rfl, rfl, trivial⟩ ?_
  refine J.seq (fun K12 hK12 => ?_)
  refine J.region ?_
  refine J.y (op_move rfl rfl) rfl rfl rfl ?_
  refine J.y (op_toStr (l := Y) rfl rfl Tryd.underlying99 Tryd.underlying5 Tryd.underlying9 (m := m79) (by simp) h79.sl) rfl rfl rfl ?_
  refine J.e (op_call rfl rfl ent54 (Ct.use (fun F' hF => adecode_ok F' Y y1 y2 y3))) rfl rfl rfl ?_
  rintro ⟨⟨A3, c3, m3⟩, ⟨A4, c4, m4⟩⟩ ⟨h3r, h4r⟩
  change J _ ((83, .tuple #[.agg #[N64 (natB ((⟨Y, 0⟩ : RS).out 4)), I (natB (((⟨Y, 0⟩ : RS).take 4).out 1) : Nat), Str ((((((⟨Y, 0⟩ : RS).take 4).take 1).take 2).out 16)), I (natB ((((⟨Y, 0⟩ : RS).take 4).take 1).out 2) : Nat), I (natB ((⟨(a4 Y).textS, 0⟩ : RS).out 1) : Nat), .slice A3 35 c3, .slice A4 (dN (a4 Y).textS) c4], I 0]) :: _) _ [F, blk g4 [B8 b0, B8 b1] 78, blk g5 [.int .u16 ((x0 : Nat) : Int), .int .u16 ((x1 : Nat) : Int)] 92, m1, m2, blk g7 [N64 ep, I (bd : Nat), Str noughts, I (nm : Nat), I (0 : Nat), .slice A1 35 c1, .slice A2 0 c2] 94, blk g8 [Str (Wo.opn [98]), Str (Xm.root [98] 0), I (0 : Nat)] 36, blk g11 [N64 0, I 0, Str [], I 0, I 0, .slice none 0 0, .slice none 0 0] 94, blk g13 [N64 0, I 0, Str [], I 0, I 0, .slice none 0 0, .slice none 0 0] 94, m79, m3, m4] _
  dsimp only at h3r h4r
  rw [z6] at h3r
  rw [z4, Nat.min_eq_left z1, z7] at h4r
  rw [z5, z4]
  refine J.y (op_move rfl rfl) rfl rfl rfl ?_
  refine J.y (op_extract (v := .agg #[N64 (natB ((⟨Y, 0⟩ : RS).out 4)), I ((natB (((⟨Y, 0⟩ : RS).take 4).out 1)) : Nat), Str ((((((⟨Y, 0⟩ : RS).take 4).take 1).take 2).out 16)), I ((natB ((((⟨Y, 0⟩ : RS).take 4).take 1).out 2)) : Nat), I ((a4 Y).textS.getD 0 0).toNat, .slice A3 35 c3, .slice A4 ((a4 Y).textS.getD 561 0).toNat c4]) rfl rfl rfl) rfl rfl rfl ?_
  refine J.y (op_extract (v := I 0) rfl rfl rfl) rfl rfl rfl ?_
  refine J.e (op_alloc rfl Tryd.zeroValue94 rfl) rfl rfl rfl ?_
  intro g16 _
  change J _ _ _ [F, blk g4 [B8 b0, B8 b1] 78, blk g5 [.int .u16 ((x0 : Nat) : Int), .int .u16 ((x1 : Nat) : Int)] 92, m1, m2, blk g7 [N64 ep, I (bd : Nat), Str noughts, I (nm : Nat), I (0 : Nat), .slice A1 35 c1, .slice A2 0 c2] 94, blk g8 [Str (Wo.opn [98]), Str (Xm.root [98] 0), I (0 : Nat)] 36, blk g11 [N64 0, I 0, Str [], I 0, I 0, .slice none 0 0, .slice none 0 0] 94, blk g13 [N64 0, I 0, Str [], I 0, I 0, .slice none 0 0, .slice none 0 0] 94, m79, m3, m4, blk g16 _ 94] _
  refine J.s (op_storeAll (l := [N64 0, I 0, Str [], I 0, I 0, .slice none 0 0, .slice none 0 0]) (i := 12) (vs := [N64 (natB ((⟨Y, 0⟩ : RS).out 4)), I ((natB (((⟨Y, 0⟩ : RS).take 4).out 1)) : Nat), Str ((((((⟨Y, 0⟩ : RS).take 4).take 1).take 2).out 16)), I ((natB ((((⟨Y, 0⟩ : RS).take 4).take 1).out 2)) : Nat), I ((a4 Y).textS.getD 0 0).toNat, .slice A3 35 c3, .slice A4 ((a4 Y).textS.getD 561 0).toNat c4]) rfl rfl rfl rfl rfl Tryd.sizeOf94 rfl rfl) rfl rfl (fun _ _ => ?_)
  change J _ _ _ [F, blk g4 [B8 b0, B8 b1] 78, blk g5 [.int .u16 ((x0 : Nat) : Int), .int .u16 ((x1 : Nat) : Int)] 92, m1, m2, blk g7 [N64 ep, I (bd : Nat), Str noughts, I (nm : Nat), I (0 : Nat), .slice A1 35 c1, .slice A2 0 c2] 94, blk g8 [Str (Wo.opn [98]), Str (Xm.root [98] 0), I (0 : Nat)] 36, blk g11 [N64 0, I 0, Str [], I 0, I 0, .slice none 0 0, .slice none 0 0] 94, blk g13 [N64 0, I 0, Str [], I 0, I 0, .slice none 0 0, .slice none 0 0] 94, m79, m3, m4, blk g16 [N64 (natB ((⟨Y, 0⟩ : RS).out 4)), I ((natB (((⟨Y, 0⟩ : RS).take 4).out 1)) : Nat), Str ((((((⟨Y, 0⟩ : RS).take 4).take 1).take 2).out 16)), I ((natB ((((⟨Y, 0⟩ : RS).take 4).take 1).out 2)) : Nat), I ((a4 Y).textS.getD 0 0).toNat, .slice A3 35 c3, .slice A4 ((a4 Y).textS.getD 561 0).toNat c4] 94] _
  refine J.y (op_assign rfl rfl) rfl rfl rfl ?_
  refine J.nil ?_
  refine J.then_n (J.k hK12 ?_)
  refine J.keepE [(12, _), (14, _), (15, _), (16, _), (17, _)] ⟨rfl, rfl, rfl, rfl, rfl, trivial⟩ ?_
  refine J.seq (fun K13 hK13 => ?_)
  refine J.seq (fun K14 hK14 => ?_)
  refine J.region ?_
  refine J.y (op_move rfl rfl) rfl rfl rfl ?_
  refine J.y ((op_neq rfl rfl rfl).as (v' := .bool false) (congrArg Value.bool (decide_eq_false (by decide)))) rfl rfl rfl ?_
  refine J.y (op_move rfl rfl) rfl rfl rfl ?_
  refine J.yg (Wan.is rfl rfl rfl rfl rfl) (op_move rfl rfl) rfl rfl ?_
  refine J.yg (Wan.is rfl rfl rfl rfl rfl) ((op_neq rfl rfl rfl).as (v' := .bool false) (congrArg Value.bool (decide_eq_false (by decide)))) rfl rfl ?_
  refine J.y (op_pickF rfl rfl rfl) rfl rfl rfl ?_
  refine J.nil ?_
  refine J.then_n (J.k hK14 ?_)
  refine J.keepE [(15, _), (16, _), (17, _), (91, _)] ⟨rfl, rfl, rfl, rfl, trivial⟩ ?_
  refine J.condF rfl rfl ?_
  refine J.skip ?_
  refine J.then_n (J.k hK13 ?_)
  refine J.keepE [(15, _), (16, _), (17, _)] ⟨rfl, rfl, rfl, trivial⟩ ?_
  refine J.seq (fun K15 hK15 => ?_)
  refine J.seq (fun K16 hK16 => ?_)
  refine J.region ?_
  refine J.y (op_move rfl rfl) rfl rfl rfl ?_
  refine J.y ((op_neq rfl rfl rfl).as (v' := .bool false) (congrArg Value.bool (decide_eq_false (fun h => h rfl)))) rfl rfl rfl ?_
  refine J.nil ?_
  refine J.then_n (J.k hK16 ?_)
  refine J.keepE [(15, _), (16, _), (93, _)] ⟨rfl, rfl, rfl, trivial⟩ ?_
  refine J.condF rfl rfl ?_
  refine J.skip ?_
  refine J.then_n (J.k hK15 ?_)
  refine J.keepE [(15, _), (16, _)] ⟨rfl, rfl, trivial⟩ ?_
  refine J.seq (fun K17 hK17 => ?_)
  refine J.region ?_
  refine J.y (op_loadBA 12 rfl rfl rfl Tryd.isAgg94 Tryd.sizeOf94 rfl) rfl rfl rfl ?_
  refine J.e (op_call rfl rfl ent53 (Ct.use0 (fun F' hF => (aencode_ct F' (natB ((⟨Y, 0⟩ : RS).out 4)) (natB (((⟨Y, 0⟩ : RS).take 4).out 1)) (natB ((((⟨Y, 0⟩ : RS).take 4).take 1).out 2)) (((((⟨Y, 0⟩ : RS).take 4).take 1).take 2).out 16) u2 u3 u4 u1 ((a4 Y).textS.getD 0 0).toNat A3 c3 (ck ((a4 Y).textS.drop 1) 16 35) (h3r.sl.mono (hF m3 (by simp))) (ck_16 (by rw [List.length_drop]; omega)) A4 ((a4 Y).textS.getD 561 0).toNat c4 (ck ((a4 Y).textS.drop 562) 16 ((a4 Y).textS.getD 561 0).toNat) (h4r.sl.mono (hF m4 (by simp))) (ck_16 (by rw [List.length_drop]; omega)) (by omega) (by omega)).mono (φ2 := fun _ => True) (val2 := fun _ : Unit => .tuple #[Str Y, I 0]) id (fun _ _ => by rw [sgB_why y2, u5]) (fun _ _ => trivial) (fun _ _ _ _ h => h)))) rfl rfl rfl ?_
  intro g106 _
  refine J.y (op_move rfl rfl) rfl rfl rfl ?_
  refine J.y (op_extract (v := Str Y) rfl rfl rfl) rfl rfl rfl ?_
  refine J.y (op_extract (v := I 0) rfl rfl rfl) rfl rfl rfl ?_
  refine J.y (op_assign rfl rfl) rfl rfl rfl ?_
  refine J.y (op_assign rfl rfl) rfl rfl rfl ?_
  refine J.nil ?_
  refine J.then_n (J.k hK17 ?_)
  refine J.keepE [(15, _), (18, _), (19, _)] ⟨rfl, rfl, rfl, trivial⟩ ?_
  refine J.seq (fun K18 hK18 => ?_)
  refine J.region ?_
  refine J.y (op_move rfl rfl) rfl rfl rfl ?_
  refine J.y ((op_eql rfl rfl rfl).as (v' := .bool true) (congrArg Value.bool (decide_eq_true (by decide)))) rfl rfl rfl ?_
  refine J.y (op_move rfl rfl) rfl rfl rfl ?_
  refine J.yg (Wan.is rfl rfl rfl rfl rfl) (op_move rfl rfl) rfl rfl ?_
  refine J.yg (Wan.is rfl rfl rfl rfl rfl) (op_move rfl rfl) rfl rfl ?_
  refine J.yg (Wan.is rfl rfl rfl rfl rfl) (op_toStr (l := Y) rfl rfl Tryd.underlying99 Tryd.underlying5 Tryd.underlying9 (m := m79) (by simp) h79.sl) rfl rfl ?_
  refine J.yg (Wan.is rfl rfl rfl rfl rfl) ((op_seq rfl rfl rfl).as (v' := .bool true) (congrArg Value.bool (decide_eq_true (rfl)))) rfl rfl ?_
  refine J.y (op_pickT rfl rfl rfl) rfl rfl rfl ?_
  refine J.y (op_assign rfl rfl) rfl rfl rfl ?_
  refine J.nil ?_
  refine J.then_n (J.k hK18 ?_)
  refine J.keepE [(6, _)] ⟨rfl, trivial⟩ ?_
  refine J.ret ?_
  exact J.done (fun _ _ h => h) (res1 rfl rfl) (retOk () rfl trivial [0] rfl (by decide))

theorem attestParses_no (F : Hp) (hK : Cells F ⟨0, 0, none⟩ (Sha.K.map W32)) (a0 : UInt32) (b0 b1 : UInt8) (x0 x1 : Nat) (hx0 : x0 < 65536) (hx1 : x1 < 65536) (hz : ¬ atE (atS a0 b0 b1 x0 x1) = 0) :
    Ct Tryd.prog 11 [W32 a0, .agg #[B8 b0, B8 b1], .agg #[.int .u16 ((x0 : Nat) : Int), .int .u16 ((x1 : Nat) : Int)]] [F] (fun _ : Unit => .bool true) (fun _ => True) (fun _ => [F]) := by
  obtain ⟨ep, hep⟩ : ∃ e, e = a0.toNat := ⟨_, rfl⟩
  obtain ⟨bd, hbd⟩ : ∃ e, e = (b0 &&& 15).toNat := ⟨_, rfl⟩
  obtain ⟨nm, hnm⟩ : ∃ e, e = (b1 &&& 63).toNat := ⟨_, rfl⟩
  have he1 := a0.toNat_lt
  have hb1 := and15' b0
  have hn1 := and63 b1
  obtain ⟨f1, f2, f3, f4⟩ := sg_facts [98] (atM ep bd nm noughts)
  obtain ⟨w1, w2, w3, w4, w5⟩ := sgX_why [98] (atM ep bd nm noughts)
  have hsl := sgX_len [98] (atM ep bd nm noughts)
  obtain ⟨X, hX⟩ : ∃ X, X = atB ep bd nm noughts (sgX [98] (atM ep bd nm noughts)) := ⟨_, rfl⟩
  have hXl : X.length = 587 := by rw [hX, atB_len rfl, hsl]
  obtain ⟨c, hc⟩ : ∃ c, c = x0 % 587 := ⟨_, rfl⟩
  have hcl : c < 587 := by rw [hc]; exact Nat.mod_lt _ (by decide)
  have hc2 : (c : Int) = (x0 : Int) % 587 := by omega
  have hcut : atE (X.take c) = 3 := by rw [hX]; exact at_cut rfl (by omega) (by omega)
  have hlong : atE (X ++ [120]) = 2 := by rw [hX]; exact at_long rfl (by omega)
  obtain ⟨Y, hY⟩ : ∃ Y, Y = X.set c (X.getD c 0 ^^^ UInt8.ofNat (1 + x1 % 255)) := ⟨_, rfl⟩
  have hYl : Y.length = 587 := by rw [hY, List.length_set, hXl]
  have hYe : atS a0 b0 b1 x0 x1 = Y := by
    unfold atS
    rw [← hep, ← hbd, ← hnm, ← hX]
    dsimp only
    rw [hXl, ← hc, hY]
  rw [hYe] at hz
  refine Ct.walk Tryd.func11 rfl Tryd.ntmps11 rfl (fun w0 => ?_)
  change J _ [(0, _), (1, _), (2, _)] _ _ _
  refine J.seq (fun K1 hK1 => ?_)
  refine J.region ?_
  refine J.e (op_box rfl rfl (l := [B8 b0, B8 b1]) rfl) rfl rfl rfl ?_
  intro g4 _
  change J _ _ _ [F, blk g4 [B8 b0, B8 b1] 78] _
  refine J.e (op_box rfl rfl (l := [.int .u16 ((x0 : Nat) : Int), .int .u16 ((x1 : Nat) : Int)]) rfl) rfl rfl rfl ?_
  intro g5 _
  change J _ _ _ [F, blk g4 [B8 b0, B8 b1] 78, blk g5 [.int .u16 ((x0 : Nat) : Int), .int .u16 ((x1 : Nat) : Int)] 92] _
  refine J.y (op_assign rfl rfl) rfl rfl rfl ?_
  refine J.nil ?_
  refine J.then_n (J.k hK1 ?_)
  refine J.keepE [(0, _), (4, _), (5, _)] ⟨rfl, rfl, rfl, trivial⟩ ?_
  refine J.seq (fun K2 hK2 => ?_)
  refine J.seq (fun K3 hK3 => ?_)
  refine J.region ?_
  refine J.e (op_call rfl rfl ent51 (Ct.use0 (fun F' hF => speaks22_ct F' (hK.mono (hF _ (by simp)))))) rfl rfl rfl ?_
  intro g20 _
  refine J.y ((op_not rfl rfl).as (v' := .bool false) rfl) rfl rfl rfl ?_
  refine J.nil ?_
  refine J.then_n (J.k hK3 ?_)
  refine J.keepE [(0, _), (4, _), (5, _), (21, _)] ⟨rfl, rfl, rfl, rfl, trivial⟩ ?_
  refine J.condF rfl rfl ?_
  refine J.skip ?_
  refine J.then_n (J.k hK2 ?_)
  refine J.keepE [(0, _), (4, _), (5, _)] ⟨rfl, rfl, rfl, trivial⟩ ?_
  refine J.seq (fun K4 hK4 => ?_)
  refine J.region ?_
  refine J.y (op_move rfl rfl) rfl rfl rfl ?_
  refine J.y ((op_cv_u32_u64 rfl rfl Tryd.underlying90 Tryd.underlying47).as (v' := N64 ep) (by rw [hep]; show Value.int .u64 _ = Value.int .u64 _; rw [UInt32.toNat_toUInt64])) rfl rfl rfl ?_
  refine J.y (op_indexAddrJ (i := 0) (j := 0) rfl rfl rfl Tryd.underlying78 Tryd.sizeOf5 (by decide) (by decide)) rfl rfl rfl ?_
  refine J.y (op_loadB 1 rfl rfl rfl Tryd.isAgg5 rfl) rfl rfl rfl ?_
  refine J.y (op_and8 (b := 15) rfl rfl rfl) rfl rfl rfl ?_
  refine J.y ((op_cv_u8_i64 rfl rfl Tryd.underlying5 Tryd.underlying3).as (v' := I (bd : Nat)) (by rw [hbd])) rfl rfl rfl ?_
  refine J.y (op_indexAddrJ (i := 1) (j := 1) rfl rfl rfl Tryd.underlying78 Tryd.sizeOf5 (by decide) (by decide)) rfl rfl rfl ?_
  refine J.y (op_loadB 1 rfl rfl rfl Tryd.isAgg5 rfl) rfl rfl rfl ?_
  refine J.y (op_and8 (b := 63) rfl rfl rfl) rfl rfl rfl ?_
  refine J.y ((op_cv_u8_i64 rfl rfl Tryd.underlying5 Tryd.underlying3).as (v' := I (nm : Nat)) (by rw [hnm])) rfl rfl rfl ?_
  refine J.y (op_buildStruct (l := [(0, .tmp 24), (1, .tmp 28), (2, .const (.string (ByteArray.mk #[0, 0, 0, 0, 0, 0, 0, 0, 0, 0, 0, 0, 0, 0, 0, 0]))), (3, .tmp 32)]) (vs := [N64 ep, I (bd : Nat), Str noughts, I (nm : Nat)]) (places := [(0, 1), (1, 1), (2, 1), (3, 1), (4, 3)]) (r := [N64 ep, I (bd : Nat), Str noughts, I (nm : Nat), I 0, .slice none 0 0, .slice none 0 0]) rfl rfl rfl Tryd.underlying94 Tryd.zeroValue94 (fun _ => by kernel_rfl) rfl) rfl rfl rfl ?_
  refine J.e (op_call rfl rfl ent52 (Ct.use (fun F' hF => signed_ct F' (hK.mono (hF _ (by simp))) [98] (by decide) ep bd nm noughts (by omega) (by omega) (by omega) rfl))) rfl rfl rfl ?_
  rintro ⟨⟨A1, c1, m1⟩, ⟨A2, c2, m2⟩⟩ ⟨h1r, h2r⟩
  change J _ ((34, .tuple #[.agg #[N64 ep, I (bd : Nat), Str noughts, I (nm : Nat), I (0 : Nat), .slice A1 35 c1, .slice A2 0 c2], .agg #[Str (Wo.opn [98]), Str (Xm.root [98] 0), I (0 : Nat)]]) :: _) _ [F, blk g4 [B8 b0, B8 b1] 78, blk g5 [.int .u16 ((x0 : Nat) : Int), .int .u16 ((x1 : Nat) : Int)] 92, m1, m2] _
  dsimp only at h1r h2r
  refine J.y (op_move rfl rfl) rfl rfl rfl ?_
  refine J.y (op_extract (v := .agg #[N64 ep, I (bd : Nat), Str noughts, I (nm : Nat), I (0 : Nat), .slice A1 35 c1, .slice A2 0 c2]) rfl rfl rfl) rfl rfl rfl ?_
  refine J.y (op_extract (v := .agg #[Str (Wo.opn [98]), Str (Xm.root [98] 0), I (0 : Nat)]) rfl rfl rfl) rfl rfl rfl ?_
  refine J.e (op_alloc rfl Tryd.zeroValue94 rfl) rfl rfl rfl ?_
  intro g7 _
  change J _ _ _ [F, blk g4 [B8 b0, B8 b1] 78, blk g5 [.int .u16 ((x0 : Nat) : Int), .int .u16 ((x1 : Nat) : Int)] 92, m1, m2, blk g7 _ 94] _
  refine J.e (op_alloc rfl Tryd.zeroValue36 rfl) rfl rfl rfl ?_
  intro g8 _
  change J _ _ _ [F, blk g4 [B8 b0, B8 b1] 78, blk g5 [.int .u16 ((x0 : Nat) : Int), .int .u16 ((x1 : Nat) : Int)] 92, m1, m2, blk g7 _ 94, blk g8 _ 36] _
  refine J.s (op_storeAll (l := [N64 0, I 0, Str [], I 0, I 0, .slice none 0 0, .slice none 0 0]) (i := 5) (vs := [N64 ep, I (bd : Nat), Str noughts, I (nm : Nat), I (0 : Nat), .slice A1 35 c1, .slice A2 0 c2]) rfl rfl rfl rfl rfl Tryd.sizeOf94 rfl rfl) rfl rfl (fun _ _ => ?_)
  change J _ _ _ [F, blk g4 [B8 b0, B8 b1] 78, blk g5 [.int .u16 ((x0 : Nat) : Int), .int .u16 ((x1 : Nat) : Int)] 92, m1, m2, blk g7 [N64 ep, I (bd : Nat), Str noughts, I (nm : Nat), I (0 : Nat), .slice A1 35 c1, .slice A2 0 c2] 94, blk g8 _ 36] _
  refine J.s (op_storeAll (l := [Str [], Str [], I 0]) (i := 6) (vs := [Str (Wo.opn [98]), Str (Xm.root [98] 0), I (0 : Nat)]) rfl rfl rfl rfl rfl Tryd.sizeOf36 rfl rfl) rfl rfl (fun _ _ => ?_)
  change J _ _ _ [F, blk g4 [B8 b0, B8 b1] 78, blk g5 [.int .u16 ((x0 : Nat) : Int), .int .u16 ((x1 : Nat) : Int)] 92, m1, m2, blk g7 [N64 ep, I (bd : Nat), Str noughts, I (nm : Nat), I (0 : Nat), .slice A1 35 c1, .slice A2 0 c2] 94, blk g8 [Str (Wo.opn [98]), Str (Xm.root [98] 0), I (0 : Nat)] 36] _
  refine J.nil ?_
  refine J.then_n (J.k hK4 ?_)
  refine J.keepE [(5, _), (7, _)] ⟨rfl, rfl, trivial⟩ ?_
  refine J.seq (fun K5 hK5 => ?_)
  refine J.region ?_
  refine J.y (op_loadBA 5 rfl rfl rfl Tryd.isAgg94 Tryd.sizeOf94 rfl) rfl rfl rfl ?_
  refine J.e (op_call rfl rfl ent53 (Ct.use0 (fun F' hF => (aencode_ct F' ep bd nm noughts (by omega) (by omega) (by omega) rfl 0 A1 c1 (Wo.signs [98] 0 (Wo.digs (Xm.digest (Wo.opn [98]) 0 (atM ep bd nm noughts))) 35) (h1r.sl.mono (hF m1 (by simp))) f1 A2 0 c2 (Mk.path (Xm.leaves [98] (2 ^ 0)) 0 0) (h2r.sl.mono (hF m2 (by simp))) f3 (by omega) (by omega)).mono (φ2 := fun _ => True) (val2 := fun _ : Unit => .tuple #[Str X, I 0]) id (fun _ _ => by rw [hX]; rfl) (fun _ _ => trivial) (fun _ _ _ _ h => h)))) rfl rfl rfl ?_
  intro g39 _
  refine J.y (op_move rfl rfl) rfl rfl rfl ?_
  refine J.y (op_extract (v := Str X) rfl rfl rfl) rfl rfl rfl ?_
  refine J.y (op_extract (v := I 0) rfl rfl rfl) rfl rfl rfl ?_
  refine J.y (op_assign rfl rfl) rfl rfl rfl ?_
  refine J.y (op_assign rfl rfl) rfl rfl rfl ?_
  refine J.nil ?_
  refine J.then_n (J.k hK5 ?_)
  refine J.keepE [(5, _), (9, _), (10, _)] ⟨rfl, rfl, rfl, trivial⟩ ?_
  refine J.seq (fun K6 hK6 => ?_)
  refine J.seq (fun K7 hK7 => ?_)
  refine J.region ?_
  refine J.y (op_move rfl rfl) rfl rfl rfl ?_
  refine J.y ((op_neq rfl rfl rfl).as (v' := .bool false) (congrArg Value.bool (decide_eq_false (by decide)))) rfl rfl rfl ?_
  refine J.nil ?_
  refine J.then_n (J.k hK7 ?_)
  refine J.keepE [(5, _), (9, _), (43, _)] ⟨rfl, rfl, rfl, trivial⟩ ?_
  refine J.condF rfl rfl ?_
  refine J.skip ?_
  refine J.then_n (J.k hK6 ?_)
  refine J.keepE [(5, _), (9, _)] ⟨rfl, rfl, trivial⟩ ?_
  refine J.seq (fun K8 hK8 => ?_)
  refine J.region ?_
  refine J.y (op_move rfl rfl) rfl rfl rfl ?_
  refine J.y (op_indexAddrJ (i := 0) (j := 0) rfl rfl rfl Tryd.underlying92 Tryd.sizeOf91 (by decide) (by decide)) rfl rfl rfl ?_
  refine J.y (op_loadB 2 rfl rfl rfl Tryd.isAgg91 rfl) rfl rfl rfl ?_
  refine J.y ((op_cvt rfl rfl Tryd.underlying91 Tryd.underlying3 (wrap64_of (by omega)) : YOp _ _ _ _ (I (x0 : Nat)))) rfl rfl rfl ?_
  refine J.y (op_move rfl rfl) rfl rfl rfl ?_
  refine J.y (op_slen Tryd.underlying9 rfl rfl) rfl rfl rfl ?_
  refine J.y ((op_rem rfl rfl rfl (by omega)).as (v' := I (c : Nat)) (congrArg I (by rw [hXl]; omega))) rfl rfl rfl ?_
  refine J.y ((op_sslice (l := 0) (h := c) Tryd.underlying9 rfl rfl rfl rfl ⟨by omega, by omega⟩).as (congrArg Str List.drop_zero)) rfl rfl rfl ?_
  refine J.e (op_call rfl rfl ent54 (Ct.use0 (fun F' hF => (adecode_no F' (X.take c) (by rw [hcut]; decide)).mono (φ2 := fun _ => True) (val2 := fun _ : Unit => .tuple #[.agg #[N64 0, I 0, Str [], I 0, I 0, .slice none 0 0, .slice none 0 0], I 3]) id (fun _ _ => by rw [hcut]) (fun _ _ => trivial) (fun _ _ _ _ h => h)))) rfl rfl rfl ?_
  intro g53 _
  refine J.y (op_move rfl rfl) rfl rfl rfl ?_
  refine J.y (op_extract (v := .agg #[N64 0, I 0, Str [], I 0, I 0, .slice none 0 0, .slice none 0 0]) rfl rfl rfl) rfl rfl rfl ?_
  refine J.y (op_extract (v := I 3) rfl rfl rfl) rfl rfl rfl ?_
  refine J.e (op_alloc rfl Tryd.zeroValue94 rfl) rfl rfl rfl ?_
  intro g11 _
  change J _ _ _ [F, blk g4 [B8 b0, B8 b1] 78, blk g5 [.int .u16 ((x0 : Nat) : Int), .int .u16 ((x1 : Nat) : Int)] 92, m1, m2, blk g7 [N64 ep, I (bd : Nat), Str noughts, I (nm : Nat), I (0 : Nat), .slice A1 35 c1, .slice A2 0 c2] 94, blk g8 [Str (Wo.opn [98]), Str (Xm.root [98] 0), I (0 : Nat)] 36, blk g11 _ 94] _
  refine J.s (op_storeAll (l := [N64 0, I 0, Str [], I 0, I 0, .slice none 0 0, .slice none 0 0]) (i := 7) (vs := [N64 0, I 0, Str [], I 0, I 0, .slice none 0 0, .slice none 0 0]) rfl rfl rfl rfl rfl Tryd.sizeOf94 rfl rfl) rfl rfl (fun _ _ => ?_)
  change J _ _ _ [F, blk g4 [B8 b0, B8 b1] 78, blk g5 [.int .u16 ((x0 : Nat) : Int), .int .u16 ((x1 : Nat) : Int)] 92, m1, m2, blk g7 [N64 ep, I (bd : Nat), Str noughts, I (nm : Nat), I (0 : Nat), .slice A1 35 c1, .slice A2 0 c2] 94, blk g8 [Str (Wo.opn [98]), Str (Xm.root [98] 0), I (0 : Nat)] 36, blk g11 [N64 0, I 0, Str [], I 0, I 0, .slice none 0 0, .slice none 0 0] 94] _
  refine J.y (op_assign rfl rfl) rfl rfl rfl ?_
  refine J.nil ?_
  refine J.then_n (J.k hK8 ?_)
  refine J.keepE [(5, _), (9, _), (12, _)] ⟨rfl, rfl, rfl, trivial⟩ ?_
  refine J.seq (fun K9 hK9 => ?_)
  refine J.region ?_
  refine J.y (op_move rfl rfl) rfl rfl rfl ?_
  refine J.y (op_sadd (b := [120]) rfl rfl rfl (by rw [hXl]; decide)) rfl rfl rfl ?_
  refine J.e (op_call rfl rfl ent54 (Ct.use0 (fun F' hF => (adecode_no F' (X ++ [120]) (by rw [hlong]; decide)).mono (φ2 := fun _ => True) (val2 := fun _ : Unit => .tuple #[.agg #[N64 0, I 0, Str [], I 0, I 0, .slice none 0 0, .slice none 0 0], I 2]) id (fun _ _ => by rw [hlong]) (fun _ _ => trivial) (fun _ _ _ _ h => h)))) rfl rfl rfl ?_
  intro g59 _
  refine J.y (op_move rfl rfl) rfl rfl rfl ?_
  refine J.y (op_extract (v := .agg #[N64 0, I 0, Str [], I 0, I 0, .slice none 0 0, .slice none 0 0]) rfl rfl rfl) rfl rfl rfl ?_
  refine J.y (op_extract (v := I 2) rfl rfl rfl) rfl rfl rfl ?_
  refine J.e (op_alloc rfl Tryd.zeroValue94 rfl) rfl rfl rfl ?_
  intro g13 _
  change J _ _ _ [F, blk g4 [B8 b0, B8 b1] 78, blk g5 [.int .u16 ((x0 : Nat) : Int), .int .u16 ((x1 : Nat) : Int)] 92, m1, m2, blk g7 [N64 ep, I (bd : Nat), Str noughts, I (nm : Nat), I (0 : Nat), .slice A1 35 c1, .slice A2 0 c2] 94, blk g8 [Str (Wo.opn [98]), Str (Xm.root [98] 0), I (0 : Nat)] 36, blk g11 [N64 0, I 0, Str [], I 0, I 0, .slice none 0 0, .slice none 0 0] 94, blk g13 _ 94] _
  refine J.s (op_storeAll (l := [N64 0, I 0, Str [], I 0, I 0, .slice none 0 0, .slice none 0 0]) (i := 8) (vs := [N64 0, I 0, Str [], I 0, I 0, .slice none 0 0, .slice none 0 0]) rfl rfl rfl rfl rfl Tryd.sizeOf94 rfl rfl) rfl rfl (fun _ _ => ?_)
  change J _ _ _ [F, blk g4 [B8 b0, B8 b1] 78, blk g5 [.int .u16 ((x0 : Nat) : Int), .int .u16 ((x1 : Nat) : Int)] 92, m1, m2, blk g7 [N64 ep, I (bd : Nat), Str noughts, I (nm : Nat), I (0 : Nat), .slice A1 35 c1, .slice A2 0 c2] 94, blk g8 [Str (Wo.opn [98]), Str (Xm.root [98] 0), I (0 : Nat)] 36, blk g11 [N64 0, I 0, Str [], I 0, I 0, .slice none 0 0, .slice none 0 0] 94, blk g13 [N64 0, I 0, Str [], I 0, I 0, .slice none 0 0, .slice none 0 0] 94] _
  refine J.y (op_assign rfl rfl) rfl rfl rfl ?_
  refine J.nil ?_
  refine J.then_n (J.k hK9 ?_)
  refine J.keepE [(5, _), (9, _), (12, _), (14, _)] ⟨rfl, rfl, rfl, rfl, trivial⟩ ?_
  refine J.seq (fun K10 hK10 => ?_)
  refine J.region ?_
  refine J.y (op_move rfl rfl) rfl rfl rfl ?_
  refine J.e (op_toBytes rfl rfl Tryd.underlying9 Tryd.underlying99 Tryd.underlying5) rfl rfl rfl ?_
  rintro ⟨A63, c63, m63⟩ h63
  try dsimp only at h63
  change J _ _ _ [F, blk g4 [B8 b0, B8 b1] 78, blk g5 [.int .u16 ((x0 : Nat) : Int), .int .u16 ((x1 : Nat) : Int)] 92, m1, m2, blk g7 [N64 ep, I (bd : Nat), Str noughts, I (nm : Nat), I (0 : Nat), .slice A1 35 c1, .slice A2 0 c2] 94, blk g8 [Str (Wo.opn [98]), Str (Xm.root [98] 0), I (0 : Nat)] 36, blk g11 [N64 0, I 0, Str [], I 0, I 0, .slice none 0 0, .slice none 0 0] 94, blk g13 [N64 0, I 0, Str [], I 0, I 0, .slice none 0 0, .slice none 0 0] 94, m63] _
  refine J.y (op_assign rfl rfl) rfl rfl rfl ?_
  refine J.nil ?_
  refine J.then_n (J.k hK10 ?_)
  refine J.keepE [(5, _), (12, _), (14, _), (15, _)] ⟨rfl, rfl, rfl, rfl, trivial⟩ ?_
  refine J.seq (fun K11 hK11 => ?_)
  refine J.draw [m63, blk g5 [.int .u16 ((x0 : Nat) : Int), .int .u16 ((x1 : Nat) : Int)] 92] [16] (.y 0 (.y 1 (.y 2 (.y 3 (.y 4 (.y 5 (.y 6 (.y 7 (.y 8 (.y 9 (.y 10 (.y 11 (.y 12 (.y 13 (.y 14 (.y 15 (.e 16 .nil))))))))))))))))) Tryd.wide (by decide +kernel) (by simp) ?_
  refine J.dy rfl (op_move rfl rfl) rfl rfl rfl rfl ?_
  refine J.dy rfl (op_indexAddrJ (i := 0) (j := 0) rfl rfl rfl Tryd.underlying92 Tryd.sizeOf91 (by decide) (by decide)) rfl rfl rfl rfl ?_
  refine J.dy rfl (op_loadB 1 rfl rfl rfl Tryd.isAgg91 rfl) rfl rfl rfl rfl ?_
  refine J.dy rfl ((op_cvt rfl rfl Tryd.underlying91 Tryd.underlying3 (wrap64_of (by omega)) : YOp _ _ _ _ (I (x0 : Nat)))) rfl rfl rfl rfl ?_
  refine J.dy rfl (op_move rfl rfl) rfl rfl rfl rfl ?_
  refine J.dy rfl (op_len Tryd.underlying99 rfl rfl) rfl rfl rfl rfl ?_
  refine J.dy rfl ((op_rem rfl rfl rfl (by omega)).as (v' := I (c : Nat)) (congrArg I (by rw [hXl]; omega))) rfl rfl rfl rfl ?_
  refine J.dy rfl (op_indexAddrS (i := c) (j := c) rfl rfl rfl Tryd.underlying99 Tryd.sizeOf5 (by omega) (by omega)) rfl rfl rfl rfl ?_
  refine J.dy rfl (op_load rfl rfl Tryd.isAgg5 (m := m63) (by simp) (v := B8 (X.getD c 0)) (by have := h63.sl.cells (bytesV_get (getSome 0 (show c < X.length by omega))); rw [Nat.zero_add, Nat.mul_one] at this; exact this)) rfl rfl rfl rfl ?_
  refine J.dy rfl (op_indexAddrJ (i := 1) (j := 1) rfl rfl rfl Tryd.underlying92 Tryd.sizeOf91 (by decide) (by decide)) rfl rfl rfl rfl ?_
  refine J.dy rfl (op_loadB 1 rfl rfl rfl Tryd.isAgg91 rfl) rfl rfl rfl rfl ?_
  refine J.dy rfl ((op_rem rfl rfl rfl ⟨by omega, by decide⟩).as (v' := .int .u16 ((x1 % 255 : Nat) : Int)) (by show Value.int _ _ = Value.int _ _; congr 1)) rfl rfl rfl rfl ?_
  refine J.dy rfl (op_arw (op := .add) (r := ((1 + x1 % 255 : Nat) : Int)) rfl rfl rfl (by show _ = IntKind.u16.wrap _; simp [IntKind.wrap, IntKind.bits, IntKind.signed]; omega)) rfl rfl rfl rfl ?_
  refine J.dy rfl ((op_cvt (r := (((UInt8.ofNat (1 + x1 % 255)).toNat : Nat) : Int)) rfl rfl Tryd.underlying91 Tryd.underlying5 (by rw [UInt8.toNat_ofNat', wrapU8]) : YOp _ _ _ _ (B8 (UInt8.ofNat (1 + x1 % 255))))) rfl rfl rfl rfl ?_
  refine J.dy rfl (op_xor8 rfl rfl rfl) rfl rfl rfl rfl ?_
  refine J.dy rfl (op_indexAddrS (i := c) (j := c) rfl rfl rfl Tryd.underlying99 Tryd.sizeOf5 (by omega) (by omega)) rfl rfl rfl rfl ?_
  refine J.ds rfl (op_storeRow (i := 9) (k := c) (off := 0) (b := [B8 (X.getD c 0 ^^^ UInt8.ofNat (1 + x1 % 255))]) rfl rfl rfl rfl h63 (vs := [B8 (X.getD c 0 ^^^ UInt8.ofNat (1 + x1 % 255))]) rfl Tryd.sizeOf5 rfl (by omega) (bytesV_get (getSome 0 (by omega))) rfl (Nat.le_refl _)) rfl rfl rfl ?_
  rintro m79 h79
  change J _ _ _ [F, blk g4 [B8 b0, B8 b1] 78, blk g5 [.int .u16 ((x0 : Nat) : Int), .int .u16 ((x1 : Nat) : Int)] 92, m1, m2, blk g7 [N64 ep, I (bd : Nat), Str noughts, I (nm : Nat), I (0 : Nat), .slice A1 35 c1, .slice A2 0 c2] 94, blk g8 [Str (Wo.opn [98]), Str (Xm.root [98] 0), I (0 : Nat)] 36, blk g11 [N64 0, I 0, Str [], I 0, I 0, .slice none 0 0, .slice none 0 0] 94, blk g13 [N64 0, I 0, Str [], I 0, I 0, .slice none 0 0, .slice none 0 0] 94, m79] _
  rw [show (bytesV X).set c [B8 (X.getD c 0 ^^^ UInt8.ofNat (1 + x1 % 255))] = bytesV Y by rw [hY]; unfold bytesV; rw [List.map_set]] at h79
  refine J.dnil ?_
  refine J.then_n (J.k hK11 ?_)
  refine J.keepE [(12, _), (14, _), (15, _)] ⟨rfl, rfl, rfl, trivial⟩ ?_
  refine J.seq (fun K12 hK12 => ?_)
  refine J.region ?_
  refine J.y (op_move rfl rfl) rfl rfl rfl ?_
  refine J.y (op_toStr (l := Y) rfl rfl Tryd.underlying99 Tryd.underlying5 Tryd.underlying9 (m := m79) (by simp) h79.sl) rfl rfl rfl ?_
  refine J.e (op_call rfl rfl ent54 (Ct.use0 (fun F' hF => adecode_no F' Y hz))) rfl rfl rfl ?_
  intro g83 _
  refine J.y (op_move rfl rfl) rfl rfl rfl ?_
  refine J.y (op_extract (v := .agg #[N64 0, I 0, Str [], I 0, I 0, .slice none 0 0, .slice none 0 0]) rfl rfl rfl) rfl rfl rfl ?_
  refine J.y (op_extract (v := I (atE Y)) rfl rfl rfl) rfl rfl rfl ?_
  refine J.e (op_alloc rfl Tryd.zeroValue94 rfl) rfl rfl rfl ?_
  intro g16 _
  change J _ _ _ [F, blk g4 [B8 b0, B8 b1] 78, blk g5 [.int .u16 ((x0 : Nat) : Int), .int .u16 ((x1 : Nat) : Int)] 92, m1, m2, blk g7 [N64 ep, I (bd : Nat), Str noughts, I (nm : Nat), I (0 : Nat), .slice A1 35 c1, .slice A2 0 c2] 94, blk g8 [Str (Wo.opn [98]), Str (Xm.root [98] 0), I (0 : Nat)] 36, blk g11 [N64 0, I 0, Str [], I 0, I 0, .slice none 0 0, .slice none 0 0] 94, blk g13 [N64 0, I 0, Str [], I 0, I 0, .slice none 0 0, .slice none 0 0] 94, m79, blk g16 _ 94] _
  refine J.s (op_storeAll (l := [N64 0, I 0, Str [], I 0, I 0, .slice none 0 0, .slice none 0 0]) (i := 10) (vs := [N64 0, I 0, Str [], I 0, I 0, .slice none 0 0, .slice none 0 0]) rfl rfl rfl rfl rfl Tryd.sizeOf94 rfl rfl) rfl rfl (fun _ _ => ?_)
  change J _ _ _ [F, blk g4 [B8 b0, B8 b1] 78, blk g5 [.int .u16 ((x0 : Nat) : Int), .int .u16 ((x1 : Nat) : Int)] 92, m1, m2, blk g7 [N64 ep, I (bd : Nat), Str noughts, I (nm : Nat), I (0 : Nat), .slice A1 35 c1, .slice A2 0 c2] 94, blk g8 [Str (Wo.opn [98]), Str (Xm.root [98] 0), I (0 : Nat)] 36, blk g11 [N64 0, I 0, Str [], I 0, I 0, .slice none 0 0, .slice none 0 0] 94, blk g13 [N64 0, I 0, Str [], I 0, I 0, .slice none 0 0, .slice none 0 0] 94, m79, blk g16 [N64 0, I 0, Str [], I 0, I 0, .slice none 0 0, .slice none 0 0] 94] _
  refine J.y (op_assign rfl rfl) rfl rfl rfl ?_
  refine J.nil ?_
  refine J.then_n (J.k hK12 ?_)
  refine J.keepE [(12, _), (14, _), (15, _), (16, _), (17, _)] ⟨rfl, rfl, rfl, rfl, rfl, trivial⟩ ?_
  refine J.seq (fun K13 hK13 => ?_)
  refine J.seq (fun K14 hK14 => ?_)
  refine J.region ?_
  refine J.y (op_move rfl rfl) rfl rfl rfl ?_
  refine J.y ((op_neq rfl rfl rfl).as (v' := .bool false) (congrArg Value.bool (decide_eq_false (by decide)))) rfl rfl rfl ?_
  refine J.y (op_move rfl rfl) rfl rfl rfl ?_
  refine J.yg (Wan.is rfl rfl rfl rfl rfl) (op_move rfl rfl) rfl rfl ?_
  refine J.yg (Wan.is rfl rfl rfl rfl rfl) ((op_neq rfl rfl rfl).as (v' := .bool false) (congrArg Value.bool (decide_eq_false (by decide)))) rfl rfl ?_
  refine J.y (op_pickF rfl rfl rfl) rfl rfl rfl ?_
  refine J.nil ?_
  refine J.then_n (J.k hK14 ?_)
  refine J.keepE [(15, _), (16, _), (17, _), (91, _)] ⟨rfl, rfl, rfl, rfl, trivial⟩ ?_
  refine J.condF rfl rfl ?_
  refine J.skip ?_
  refine J.then_n (J.k hK13 ?_)
  refine J.keepE [(15, _), (16, _), (17, _)] ⟨rfl, rfl, rfl, trivial⟩ ?_
  refine J.seq (fun K15 hK15 => ?_)
  refine J.seq (fun K16 hK16 => ?_)
  refine J.region ?_
  refine J.y (op_move rfl rfl) rfl rfl rfl ?_
  refine J.y ((op_neq rfl rfl rfl).as (v' := .bool true) (congrArg Value.bool (decide_eq_true (hz)))) rfl rfl rfl ?_
  refine J.nil ?_
  refine J.then_n (J.k hK16 ?_)
  refine J.keepE [(15, _), (16, _), (93, _)] ⟨rfl, rfl, rfl, trivial⟩ ?_
  refine J.condT rfl rfl ?_
  refine J.seq (fun K17 hK17 => ?_)
  refine J.region ?_
  refine J.y (op_loadBA 10 rfl rfl rfl Tryd.isAgg94 Tryd.sizeOf94 rfl) rfl rfl rfl ?_
  refine J.e (op_call rfl rfl ent55 (Ct.use0 (fun F' hF => amessage_no F' 0 0 [] 0 0 none none 0 0 0 0 (by decide)))) rfl rfl rfl ?_
  intro g95 _
  refine J.y ((op_seq rfl rfl rfl).as (v' := .bool true) (congrArg Value.bool (decide_eq_true (rfl)))) rfl rfl rfl ?_
  refine J.y (op_move rfl rfl) rfl rfl rfl ?_
  refine J.yg (Wan.is rfl rfl rfl rfl rfl) (op_fieldAddr (j := 4) rfl rfl Tryd.underlying94 rfl Tryd.sizeOf32 rfl) rfl rfl ?_
  refine J.yg (Wan.is rfl rfl rfl rfl rfl) (op_fieldAddr (j := 5) rfl rfl Tryd.underlying32 rfl Tryd.sizeOf30 rfl) rfl rfl ?_
  refine J.yg (Wan.is rfl rfl rfl rfl rfl) (op_loadB 10 rfl rfl rfl Tryd.isAgg30 rfl) rfl rfl ?_
  refine J.yg (Wan.is rfl rfl rfl rfl rfl) (op_len Tryd.underlying30 rfl rfl) rfl rfl ?_
  refine J.yg (Wan.is rfl rfl rfl rfl rfl) ((op_eql rfl rfl rfl).as (v' := .bool true) (congrArg Value.bool (decide_eq_true (by decide)))) rfl rfl ?_
  refine J.y (op_pickT rfl rfl rfl) rfl rfl rfl ?_
  refine J.y (op_assign rfl rfl) rfl rfl rfl ?_
  refine J.nil ?_
  refine J.then_n (J.k hK17 ?_)
  refine J.keepE [(6, _)] ⟨rfl, trivial⟩ ?_
  refine J.ret ?_
  refine J.then_r ?_
  exact J.done (fun _ _ h => h) (res1 rfl rfl) (retOk () rfl trivial [0] rfl (by decide))

theorem attestParses_ct (F : Hp) (hK : Cells F ⟨0, 0, none⟩ (Sha.K.map W32)) (a0 : UInt32) (b0 b1 : UInt8) (x0 x1 : Nat) (hx0 : x0 < 65536) (hx1 : x1 < 65536) :
    Ct Tryd.prog 11 [W32 a0, .agg #[B8 b0, B8 b1], .agg #[.int .u16 ((x0 : Nat) : Int), .int .u16 ((x1 : Nat) : Int)]] [F] (fun _ : Unit => .bool true) (fun _ => True) (fun _ => [F]) := by
  by_cases hz : atE (atS a0 b0 b1 x0 x1) = 0
  · exact attestParses_ok F hK a0 b0 b1 x0 x1 hx0 hx1 hz
  · exact attestParses_no F hK a0 b0 b1 x0 x1 hx0 hx1 hz

end Go.Proofs.YtlopnfgacopkbaaDoor
