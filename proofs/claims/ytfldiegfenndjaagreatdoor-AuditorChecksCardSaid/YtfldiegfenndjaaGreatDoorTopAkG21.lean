/- A part of the proof. -/
import Derived.Test.YtfldiegfenndjaaGreatDoorTopAkG7
import Derived.Test.YtfldiegfenndjaaGreatDoorTopAkG16
import Derived.Test.YtfldiegfenndjaaGreatDoorTopAkG19
import Derived.Test.YtfldiegfenndjaaGreatDoorTopAkG20
import Derived.Test.YtfldiegfenndjaaGreatDoorTopAkG10
set_option linter.unusedSimpArgs false
set_option linter.unusedVariables false
namespace Go.Proofs.YtfldiegfenndjaaGreatDoor
open Go Go.Fw Go.Proofs.Tryz
set_option maxRecDepth 100000
set_option maxHeartbeats 1000000
theorem ent54 : qAE prog 54 := qAE.of func54 rfl (by kernel_rfl)
theorem ent62 : qAE prog 62 := qAE.of func62 rfl (by kernel_rfl)
def plK (p : Nat × Int) : Value := .agg #[N64 p.1, I p.2]
theorem qO7 (a b : Nat) : (((a : Int) == (b : Int)) = decide (a = b)) := by
 by_cases h : a = b
 · simp [h]
 · rw [decide_eq_false h, beq_eq_false_iff_ne]; omega
theorem eqPl (x y : Nat × Int) (w : World) : (Op.equalIn 10000 148 (plK x) (plK y)).run prog w = .ok (decide (x = y)) w := by
 have uu := qEm
 have au := qDN
 have u3 := u3_
 have a3 := b3_
 have hS : prog.underlying 148 = some (.struct (prog.fieldsOf 148)) := by kernel_rfl
 have hp : prog.stoodInHeld 148 = false := by kernel_rfl
 unfold plK
 rw [show (10000 : Nat) = 9999 + 1 from rfl, run_equalIn_struct w 9999 148 _ _ hS hp]
 simp only [Program.fieldsOf, qHV]
 obtain ⟨v, b⟩ := x
 obtain ⟨v', b'⟩ := y
 have hi : ∀ (a b : Int) (w : World), (Op.equalIn 9999 36 (.int .u64 a) (.int .u64 b)).run prog w = .ok (a == b) w := fun a b w => run_equalIn_int w 9998 36 .u64 .u64 a b uu
 have hj : ∀ (a b : Int) (w : World), (Op.equalIn 9999 3 (.int .i64 a) (.int .i64 b)).run prog w = .ok (a == b) w := fun a b w => run_equalIn_int w 9998 3 .i64 .i64 a b u3
 simp only [Op.eqFields]
 simp [part, au, a3, hi, hj, qO7]
 by_cases h1 : v = v' <;> by_cases h2 : b = b' <;> simp [h1, h2]
theorem ckPl (x : Nat × Int) (e : Bool) (w : World) : (Instr.checkKey e 10000 148 (plK x)).run prog w = .ok () w := by
 have au := qDN
 have a3 := b3_
 have us := run_underlying (w := w) qHV
 have c1 : ∀ (v : Int), (Instr.checkKey e 9999 36 (.int .u64 v)).run prog w = .ok () w := fun v => MapKept.run_checkKey (d := .int .u64) qEm (k := .int .u64 v) (show IntKind.u64 = IntKind.u64 from rfl) e 9998
 have c2 : ∀ (v : Int), (Instr.checkKey e 9999 3 (.int .i64 v)).run prog w = .ok () w := fun v => MapKept.run_checkKey (d := .int .i64) u3_ (k := .int .i64 v) (show IntKind.i64 = IntKind.i64 from rfl) e 9998
 unfold plK
 rw [show (10000 : Nat) = 9999 + 1 from rfl]
 unfold Instr.checkKey
 simp only [Sem.run_bind, us, Result.andThen_ok]
 rw [← Array.forIn_toList]
 simp [part, au, a3, c1, c2, Result.andThen]
theorem qMr : qO9 plK prog 148 where
 wide := by kernel_rfl
 ck := ckPl
 eq a b w := eqPl a b w
 inj a b h := by
  unfold plK at h
  obtain ⟨v, b1⟩ := a
  obtain ⟨v', b2⟩ := b
  simp at h
  exact Prod.ext (by dsimp only; omega) (by dsimp only; omega)
abbrev Mrk := List ((Nat × Int) × List UInt8)
def mkV (l : Mrk) : List ((Nat × Int) × Value) := l.map fun p => (p.1, Str p.2)
def qDR : Mrk → Nat × Int → Option (List UInt8)
 | [], _ => none
 | p :: r, k => if p.1 = k then some p.2 else qDR r k
theorem qES : ∀ (l : Mrk) (k : Nat × Int), qK4 (mkV l) k = (qDR l k).map Str
 | [], _ => rfl
 | p :: r, k => by
  show (if p.1 = k then some (Str p.2) else qK4 (mkV r) k) = _
  rw [qDR]
  by_cases h : p.1 = k
  · rw [if_pos h, if_pos h]; rfl
  · rw [if_neg h, if_neg h]; exact qES r k
theorem qOR (l : Mrk) (k : Nat × Int) (s : List UInt8) : mkV l ++ [(k, Str s)] = mkV (l ++ [(k, s)]) := by unfold mkV; rw [List.map_append]; rfl
theorem qJ6 (o : Option (List UInt8)) : (o.map Str).getD (Str []) = Str (o.getD []) := by cases o <;> rfl
def mkB (ep b : Nat) (dg : List UInt8) : List UInt8 := Sha.numB (UInt64.ofNat ep) 4 ++ Sha.numB (UInt64.ofNat b) 1 ++ dg
theorem qIy (ep b : Nat) (dg : List UInt8) : (mkB ep b dg).length = 5 + dg.length := by unfold mkB; simp only [List.length_append, Sha.numB_length]
def qFm (x y : Hd) (ck : Int) (b : Nat) (dp : Int) (old nw : List UInt8) : Int := if x.next y ≠ 0 then x.next y else if ck ≠ 0 then ck else if dp = y.dep ∧ old = x.nodes.getD b [] ∧ nw = y.nodes.getD b [] then 0 else 15
theorem qRN {x y : Hd} {ck : Int} {b : Nat} {dp : Int} {old nw : List UInt8} (h : x.next y ≠ 0) : qFm x y ck b dp old nw = x.next y := if_pos h
theorem qO5 {x y : Hd} {ck : Int} {b : Nat} {dp : Int} {old nw : List UInt8} (h : ¬ x.next y ≠ 0) (h2 : ck ≠ 0) : qFm x y ck b dp old nw = ck := by unfold qFm; rw [if_neg h, if_pos h2]
theorem qEC {x y : Hd} {ck : Int} {b : Nat} {dp : Int} {old nw : List UInt8} (h : ¬ x.next y ≠ 0) (h2 : ¬ ck ≠ 0) (h3 : ¬ (dp = y.dep ∧ old = x.nodes.getD b [] ∧ nw = y.nodes.getD b [])) : qFm x y ck b dp old nw = 15 := by unfold qFm; rw [if_neg h, if_neg h2, if_neg h3]
theorem qNM {x y : Hd} {ck : Int} {b : Nat} {dp : Int} {old nw : List UInt8} (h : ¬ x.next y ≠ 0) (h2 : ¬ ck ≠ 0) (h3 : dp = y.dep ∧ old = x.nodes.getD b [] ∧ nw = y.nodes.getD b []) : qFm x y ck b dp old nw = 0 := by unfold qFm; rw [if_neg h, if_neg h2, if_pos h3]
theorem qDP (F : Hp) (ga gs gq cnt gm : Nat) (hA : qAQ F ⟨ga, 0, none⟩ [Ptr gs, I ((cnt : Nat) : Int), Ptr gq, .map (some gm)]) (gk gb nx : Nat) (hS : qAQ F ⟨gs, 0, none⟩ [Ptr gk, Ptr gb, I ((nx : Nat) : Int)]) (hcn : cnt ≤ 1000) (hnx : nx ≤ 100000) : Ct prog 21 [Ptr ga] [F] (fun _ : Unit => I ((cnt - nx : Nat) : Int)) (fun _ => True) (fun _ => [F]) := by
 refine Ct.walk func21 rfl ntmps21 rfl (fun w0 hw0 => ?_)
 change J _ [(0, _)] _ _ _
 refine J.g fun K1 hK1 => J.b rfl <| J.c hK1 <| J.u 0 ?_
 refine J.k fun K2 hK2 => J.g fun K3 hK3 => J.b rfl <| J.f ((qAu qNS rfl rfl rfl).as (v' := .bool false) rfl) rfl <| J.c hK3 <| J.E 0 4 ?_
 refine J.a8 ?_
 refine J.W hK2 <| J.u 0 ?_
 refine J.k fun K4 hK4 => J.c1 [F] [] (.y 0 (.y 1 (.y 2 (.y 3 (.y 4 (.y 5 (.y 6 (.y 7 (.e 8 (.y 9 (.y 10 (.y 11 .nil)))))))))))) Tryz.wide (by decide +kernel) (by simp) ?_
 refine J.O ?_
 refine J.q rfl (qAD rfl rfl) rfl rfl <| J.q rfl (qAA (j := 1) rfl rfl qFC rfl z3_ rfl) rfl rfl <| J.q rfl (qAN (v := I ((cnt : Nat) : Int)) rfl rfl b3_ (m := F) (by simp) (hA.at (i := 1) rfl)) rfl rfl <| J.O ?_
 refine J.q rfl (qAD rfl rfl) rfl rfl <| J.q rfl (qAA (j := 0) rfl rfl qFC rfl sizeOf137 rfl) rfl rfl <| J.q rfl (qAN (v := Ptr gs) rfl rfl isAgg137 (m := F) (by simp) (hA.at (i := 0) rfl)) rfl rfl <| J.b2 rfl (qAB rfl rfl ent62 (Ct.use0 (fun F' hF => qNo F' gs gk gb nx (hS.mono (hF F (by simp)))))) rfl (by simp) fun g13 _ => J.q rfl (qAp rfl rfl rfl (by omega)) rfl rfl <| J.q rfl ((qHp rfl rfl rfl).nat (cnt - nx) (by omega)) rfl rfl <| J.b9 ?_
 refine J.b5 <| J.A (J.L hK4 ?_)
 refine J.u 2 ?_
 exact J.D <| J.V hw0 rfl () rfl trivial [0] rfl (by decide)
theorem qIR (F : Hp)  : Ct prog 21 [.pointer none] [F] (fun _ : Unit => I ((0 : Nat) : Int)) (fun _ => True) (fun _ => [F]) := by
 refine Ct.walk func21 rfl ntmps21 rfl (fun w0 hw0 => ?_)
 change J _ [(0, _)] _ _ _
 refine J.g fun K1 hK1 => J.b rfl <| J.c hK1 <| J.u 0 ?_
 refine J.k fun K2 hK2 => J.g fun K3 hK3 => J.b rfl <| J.f ((qAu qNS rfl rfl rfl).as (v' := .bool true) rfl) rfl <| J.c hK3 <| J.E 0 4 ?_
 refine J.c6 ?_
 refine J.g fun K4 hK4 => J.b rfl <| J.c hK4 <| J.u 2 ?_
 exact J.D <| J.a3 <| J.V hw0 rfl () rfl trivial [0] rfl (by decide)
theorem qGV (F : Hp) (ga gs gq cnt gm : Nat) (hA : qAQ F ⟨ga, 0, none⟩ [Ptr gs, I ((cnt : Nat) : Int), Ptr gq, .map (some gm)]) (Ms : Mrk) (hM : qIZ plK F gm (mkV Ms)) (ep : Nat) (bz : Int) : Ct prog 20 [Ptr ga, N64 (ep), I (bz)] [F] (fun _ : Unit => .tuple #[Str ((qDR Ms (ep, bz)).getD []), .bool ((qDR Ms (ep, bz)).isSome)]) (fun _ => True) (fun _ => [F]) := by
 refine Ct.walk func20 rfl ntmps20 rfl (fun w0 hw0 => ?_)
 change J _ [(0, _), (1, _), (2, _)] _ _ _
 refine J.g fun K1 hK1 => J.j 2 rfl <| J.c hK1 <| J.H 0 1 2 ?_
 refine J.k fun K2 hK2 => J.g fun K3 hK3 => J.b rfl <| J.f ((qAu qNS rfl rfl rfl).as (v' := .bool false) rfl) rfl <| J.c hK3 <| J.M 0 1 2 11 ?_
 refine J.a8 ?_
 refine J.W hK2 <| J.H 0 1 2 ?_
 refine J.g fun K4 hK4 => J.b rfl <| J.f (qAD rfl rfl) rfl <| J.a2 3 qFC sizeOf143 rfl rfl rfl rfl rfl <| J.f (qAN (v := .map (some gm)) rfl rfl isAgg143 (m := F) (by simp) (hA.at (i := 3) rfl)) rfl <| J.j 2 rfl <| J.f (qAM (l := [(0, .tmp 17), (1, .tmp 18)]) (vs := [N64 (ep), I (bz)]) (places := [(0, 1), (1, 1)]) (r := [N64 (ep), I (bz)]) rfl rfl rfl qHV qJB (fun _ => by kernel_rfl) rfl) rfl <| J.f ((qCe (K := plK) (l := mkV Ms) (s := (ep, bz)) qMr rfl rfl rfl qLb e9_ (m := F) (by simp) hM).as (v' := .tuple #[Str ((qDR Ms (ep, bz)).getD []), .bool (qDR Ms (ep, bz)).isSome]) (by rw [qES, qJ6, Option.isSome_map])) rfl <| J.j 5 rfl <| J.c hK4 <| J.E 8 9 ?_
 refine J.g fun K5 hK5 => J.j 4 rfl <| J.c hK5 <| J.E 6 7 ?_
 exact J.D <| J.b4 hw0 (fun _ _ h => h) (qCq rfl rfl rfl) (qAj () rfl trivial [0] rfl (by decide))
theorem qFj (F : Hp) (ep : Nat) (bz : Int) : Ct prog 20 [.pointer none, N64 (ep), I (bz)] [F] (fun _ : Unit => .tuple #[Str ([]), .bool false]) (fun _ => True) (fun _ => [F]) := by
 refine Ct.walk func20 rfl ntmps20 rfl (fun w0 hw0 => ?_)
 change J _ [(0, _), (1, _), (2, _)] _ _ _
 refine J.g fun K1 hK1 => J.j 2 rfl <| J.c hK1 <| J.H 0 1 2 ?_
 refine J.k fun K2 hK2 => J.g fun K3 hK3 => J.b rfl <| J.f ((qAu qNS rfl rfl rfl).as (v' := .bool true) rfl) rfl <| J.c hK3 <| J.M 0 1 2 11 ?_
 refine J.c6 ?_
 refine J.g fun K4 hK4 => J.j 2 rfl <| J.c hK4 <| J.E 6 7 ?_
 exact J.D <| J.a3 <| J.b4 hw0 (fun _ _ h => h) (qCq rfl rfl rfl) (qAj () rfl trivial [0] rfl (by decide))
theorem qNK (F : Hp) (ga gs gq cnt gm : Nat) (hA : qAQ F ⟨ga, 0, none⟩ [Ptr gs, I ((cnt : Nat) : Int), Ptr gq, .map (some gm)]) (gk gb nx : Nat) (hS : qAQ F ⟨gs, 0, none⟩ [Ptr gk, Ptr gb, I ((nx : Nat) : Int)]) (seed : List UInt8) (kh : Nat) (hk : qJM F gk seed kh) (hsd : seed.length ≤ 1048576) (h6 : kh ≤ 6) : Ct prog 26 [Ptr ga] [F] (fun _ : Unit => .agg #[Str (Wo.opn (seed)), Str (Xm.root (seed) (kh)), I ((kh : Nat) : Int)]) (fun _ => True) (fun _ => [F]) := by
 refine Ct.walk func26 rfl ntmps26 rfl (fun w0 hw0 => ?_)
 change J _ [(0, _)] _ _ _
 refine J.g fun K1 hK1 => J.p (qAO (l := [Str [], Str [], I 0]) rfl zeroValue54 rfl) rfl fun g2 _ => ?_
 change J _ _ _ [F, blk g2 [Str [], Str [], I 0] 54] _
 refine J.c hK1 <| J.E 0 2 ?_
 refine J.k fun K2 hK2 => J.g fun K3 hK3 => J.b rfl <| J.f ((qAu qNS rfl rfl rfl).as (v' := .bool false) rfl) rfl <| J.c hK3 <| J.H 0 2 4 ?_
 refine J.a8 ?_
 refine J.W hK2 <| J.E 0 2 ?_
 refine J.g fun K4 hK4 => J.b rfl <| J.f (qAD rfl rfl) rfl <| J.a2 0 qFC sizeOf137 rfl rfl rfl rfl rfl <| J.f (qAN (v := Ptr gs) rfl rfl isAgg137 (m := F) (by simp) (hA.at (i := 0) rfl)) rfl <| J.p (qAB rfl rfl ent54 (Ct.use0 (fun F' hF => qLo F' gs gk gb nx (hS.mono (hF F (by simp))) seed kh (hk.mono (hF F (by simp))) hsd h6))) rfl fun g10 _ => J.b1 (qAG (i := 1) (l := [Str [], Str [], I 0]) (vs := [Str (Wo.opn (seed)), Str (Xm.root (seed) (kh)), I ((kh : Nat) : Int)]) rfl rfl rfl rfl rfl qLF rfl rfl) rfl rfl fun _ _ => ?_
 change J _ _ _ [_, blk g2 [Str (Wo.opn (seed)), Str (Xm.root (seed) (kh)), I ((kh : Nat) : Int)] 54] _
 refine J.c hK4 <| J.u 2 ?_
 exact J.D <| J.b4 hw0 (fun _ _ h => h) (rv1 rfl (RV.blkA 1 rfl rfl isAgg54 qLF)) (qAj () rfl trivial [0] rfl (by decide))
theorem qRJ {X : Type} (F B md mm : Hp) (ga gs gq cnt gm : Nat) (hA : qAQ F ⟨ga, 0, none⟩ [Ptr gs, I ((cnt : Nat) : Int), Ptr gq, .map (some gm)]) (ep b : Nat) (h1 : ep ≤ 4294967295) (h2 : b < 16) (dg : List UInt8) (hd : dg.length = 16) (Ms : Mrk) (hM : qDF plK mm gm (mkV Ms)) (hn : qDR Ms (ep, ((b : Nat) : Int)) = none) (φ : X → Prop) (B1 M1 N1 : X → Hp) (hP : ∀ F' : Hp, Le F F' → Ct prog 121 [Ptr gq, Str (mkB ep b dg)] [B, md, F'] (fun _ : X => I (0)) φ (fun x => [B1 x, M1 x, F', N1 x])) : Ct prog 60 [Ptr ga, .agg #[N64 ep, I ((b : Nat) : Int)], Str dg] [B, md, mm, F] (fun _ : X × Hp => I 0) (fun x => φ x.1 ∧ qDF plK x.2 gm (mkV (Ms ++ [((ep, ((b : Nat) : Int)), dg)]))) (fun x => [B1 x.1, M1 x.1, x.2, F, N1 x.1]) := by
 refine Ct.walk func60 rfl ntmps60 rfl (fun w0 hw0 => ?_)
 change J _ [(0, _), (1, _), (2, _)] _ _ _
 refine J.g fun K1 hK1 => J.p (qAf (l := [N64 (ep), I ((b : Nat) : Int)]) rfl rfl rfl) rfl fun g4 _ => ?_
 change J _ _ _ [B, md, mm, F, blk g4 [N64 (ep), I ((b : Nat) : Int)] 148] _
 refine J.b rfl <| J.c hK1 <| J.H 0 2 4 ?_
 refine J.g fun K2 hK2 => J.p (qAO (l := [.pointer none, .slice none 0 0, I 0]) rfl zeroValue188 rfl) rfl fun g7 _ => ?_
 change J _ _ _ [_, _, _, _, _, blk g7 [.pointer none, .slice none 0 0, I 0] 188] _
 refine J.c hK2 <| J.M 0 2 4 7 ?_
 refine J.k fun K3 hK3 => J.c1 [blk g4 [N64 (ep), I ((b : Nat) : Int)] 148] [] (.y 0 (.y 1 (.y 3 (.y 4 (.y 5 (.y 7 (.e 2 (.e 6 (.e 8 (.e 9 (.y 10 (.y 11 (.y 12 (.y 13 (.y 14 .nil))))))))))))))) Tryz.wide (by decide +kernel) (by simp) ?_
 refine J.q rfl (qAA (j := 0) rfl rfl qHV rfl qCm rfl) rfl rfl <| J.q rfl (qAC 0 (v := N64 (ep)) rfl rfl rfl qDN rfl) rfl rfl <| J.q rfl (qAA (j := 1) rfl rfl qHV rfl z3_ rfl) rfl rfl <| J.q rfl (qAC 0 (v := I ((b : Nat) : Int)) rfl rfl rfl b3_ rfl) rfl rfl <| J.q rfl (qEQ (m := b) rfl rfl u3_ qEm (by omega)) rfl rfl <| J.O ?_
 refine J.b2 rfl (qAB rfl rfl ent83 (Ct.use1 5 (m' := fun x : Hp => x) (new := fun _ => []) rfl (fun F' hF => qIu F' (blk g7 [.pointer none, .slice none 0 0, I 0] 188) g7 ([]) (wtrN g7) (by first | decide | omega | (simp only [List.length_append, List.length_cons, List.length_nil, List.length_singleton, Sha.numB_length, qF3] <;> omega)) ep 4 (by decide) (by decide) (by first | decide | omega | assumption)))) rfl (by simp) ?_
 rintro m14 hw14
 change J _ ((14, Ptr g7) :: _) _ [_, _, _, _, _, m14] _
 rw [List.nil_append] at hw14
 refine J.b2 rfl (qAB rfl rfl ent83 (Ct.use1 5 (m' := fun x : Hp => x) (new := fun _ => []) rfl (fun F' hF => qIu F' m14 g7 (Sha.numB (UInt64.ofNat (ep)) 4) hw14 (by first | decide | omega | (simp only [List.length_append, List.length_cons, List.length_nil, List.length_singleton, Sha.numB_length, qF3] <;> omega)) b 1 (by decide) (by decide) (by first | decide | omega | assumption)))) rfl (by simp) ?_
 rintro m18 hw18
 change J _ ((18, Ptr g7) :: _) _ [_, _, _, _, _, m18] _
 refine J.b2 rfl (qAB rfl rfl ent84 (Ct.use1 5 (m' := fun x : Hp => x) (new := fun _ => []) rfl (fun F' hF => qQ6 F' m18 g7 ((Sha.numB (UInt64.ofNat (ep)) 4) ++ Sha.numB (UInt64.ofNat b) 1) hw18 (by first | decide | omega | (simp only [List.length_append, List.length_cons, List.length_nil, List.length_singleton, Sha.numB_length, qF3] <;> omega)) dg 16 (by first | decide | omega | assumption) (by decide)))) rfl (by simp) ?_
 rintro m20 hw20
 change J _ ((20, Ptr g7) :: _) _ [_, _, _, _, _, m20] _
 replace hw20 : Wtr m20 g7 (mkB ep b dg) 0 := hw20
 have hml := qIy ep b dg
 refine J.b2 rfl (qAB rfl rfl ent86 (Ct.use1 5 (m' := fun x : Hp => x) (new := fun _ => []) rfl (fun F' hF => qIM F' m20 g7 (mkB ep b dg) hw20 (by first | decide | omega | (simp only [List.length_append, List.length_cons, List.length_nil, List.length_singleton, Sha.numB_length, qF3] <;> omega)) ))) rfl (by simp) ?_
 rintro m21 hw21
 change J _ ((21, .tuple #[Str (mkB ep b dg), I ((0 : Nat) : Int)]) :: _) _ [_, _, _, _, _, m21] _
 refine J.O ?_
 refine J.d0 (Str (mkB ep b dg)) ?_
 refine J.d0 (I ((0 : Nat) : Int)) ?_
 refine J.b9 ?_
 refine J.b9 ?_
 refine J.b5 <| J.A (J.L hK3 ?_)
 refine J.a0 0 2 4 8 9 ?_
 refine J.k fun K4 hK4 => J.g fun K5 hK5 => J.b rfl <| J.f ((qAY rfl rfl rfl).no (by decide)) rfl <| J.c hK5 <| J.b3 0 2 4 8 9 25 ?_
 refine J.a8 ?_
 refine J.W hK4 <| J.M 0 2 4 8 ?_
 refine J.k fun K6 hK6 => J.g fun K7 hK7 => J.b rfl <| J.f (qAD rfl rfl) rfl <| J.a2 2 qFC sizeOf140 rfl rfl rfl rfl rfl <| J.f (qAN (v := Ptr gq) rfl rfl isAgg140 (m := F) (by simp) (hA.at (i := 2) rfl)) rfl <| J.b rfl <| J.p (qAB rfl rfl ent121 (Ct.useA [B, md] [mm, F, blk g4 [N64 (ep), I ((b : Nat) : Int)] 148, m21] (A' := fun x : X => [B1 x, M1 x]) (new := fun x => [N1 x]) (fun F' hF => hP F' (hF F (by simp))))) rfl ?_
 rintro x32 h32
 change J _ _ _ [B1 x32, M1 x32, _, _, _, _, N1 x32] _
 refine J.b rfl <| J.c hK7 <| J.M 0 2 4 10 ?_
 refine J.g fun K8 hK8 => J.b rfl <| J.f ((qAY rfl rfl rfl).no (by decide)) rfl <| J.c hK8 <| J.a0 0 2 4 10 34 ?_
 refine J.a8 ?_
 refine J.W hK6 <| J.H 0 2 4 ?_
 refine J.k fun K9 hK9 => J.c1 [F, blk g4 [N64 (ep), I ((b : Nat) : Int)] 148] [] (.y 0 (.y 1 (.y 2 (.y 3 (.y 4 (.y 5 (.e 6 .nil))))))) Tryz.wide (by decide +kernel) (by simp) ?_
 refine J.O ?_
 refine J.q rfl (qAD rfl rfl) rfl rfl <| J.q rfl (qAA (j := 3) rfl rfl qFC rfl sizeOf143 rfl) rfl rfl <| J.q rfl (qAN (v := .map (some gm)) rfl rfl isAgg143 (m := F) (by simp) (hA.at (i := 3) rfl)) rfl rfl <| J.q rfl (qAi 1 rfl rfl rfl isAgg148 sizeOf148 rfl) rfl rfl <| J.O ?_
 refine J.e1 rfl (qKq (K := plK) (l := mkV Ms) (s := (ep, ((b : Nat) : Int))) (u := Str dg) qMr rfl rfl rfl rfl qLb (i := 2) rfl hM (by rw [qES, hn]; rfl)) rfl rfl (by simp) ?_
 rintro mr8 hmr8
 change J _ _ _ [_, _, mr8, _, _, _, _] _
 rw [qOR] at hmr8
 refine J.b5 <| J.A (J.L hK9 ?_)
 refine J.c8 [] trivial <| J.g fun K10 hK10 => J.b rfl <| J.c hK10 <| J.u 6 ?_
 exact J.D <| J.V hw0 rfl (x32, mr8) rfl ⟨h32, hmr8⟩ [0, 1, 2, 3, 6] rfl (by decide)
end Go.Proofs.YtfldiegfenndjaaGreatDoor
