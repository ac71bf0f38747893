/- A part of the proof: contracts of functions of the program, each for every state of the heaps that it names. -/
import Derived.Test.YtnkfapecbmmpeaaDoorTopRlG24
import Derived.Test.YtnkfapecbmmpeaaDoorTopRlG19
import Derived.Test.YtnkfapecbmmpeaaDoorTopRlG27
import Derived.Test.YtnkfapecbmmpeaaDoorTopRlG26
import Derived.Test.YtnkfapecbmmpeaaDoorTopRlG8
set_option linter.unusedSimpArgs false
set_option linter.unusedVariables false
namespace Go.Proofs.YtnkfapecbmmpeaaDoor
open Go Go.Fw
set_option maxRecDepth 100000
set_option maxHeartbeats 1000000
theorem ent21 : Enters Tryd.prog 21 := Enters.of Tryd.func21 rfl (by kernel_rfl)
theorem ent23 : Enters Tryd.prog 23 := Enters.of Tryd.func23 rfl (by kernel_rfl)
theorem ent29 : Enters Tryd.prog 29 := Enters.of Tryd.func29 rfl (by kernel_rfl)
theorem ent53 : Enters Tryd.prog 53 := Enters.of Tryd.func53 rfl (by kernel_rfl)
theorem ent57 : Enters Tryd.prog 57 := Enters.of Tryd.func57 rfl (by kernel_rfl)

theorem ofNat_mod (n : Nat) : UInt8.ofNat (n % 256) = UInt8.ofNat n := by
  apply UInt8.toNat_inj.1
  rw [UInt8.toNat_ofNat', UInt8.toNat_ofNat']; omega
theorem Rost.see {m : Hp} {g : Nat} {l : List Aud} (h : Rost m g l) : ∃ A n c, Cells m ⟨g, 0, none⟩ [.slice A n c] ∧ Sl m 4 A n c (audsV l) ∧ l.length = n := by
  obtain ⟨A, n, c, mr, rfl, hd, hr⟩ := h
  have hdd : Djs [blk g [.slice A n c] 92, mr] := Djs_iff.2 (by simpa using hd)
  refine ⟨A, n, c, Cells.blk0.mono (le_U hdd (.head _)), hr.sl.mono (le_U hdd (.tail _ (.head _))), ?_⟩
  have := hr.len
  simpa [audsV] using this

theorem place20_ct (F : Hp) (hK : Cells F ⟨1, 0, none⟩ (Sha.K.map W32)) (n : Nat) (hn : n ≤ 1000000) : Ct Tryd.prog 21 [I ((n : Nat) : Int)] [F] (fun _ : Unit => Str (placeK n)) (fun _ => True) (fun _ => [F]) := by
  refine Ct.walk Tryd.func21 rfl Tryd.ntmps21 rfl (fun w0 hw0 => ?_)
  change J _ [(0, _)] _ _ _
  refine J.seq (fun K1 hK1 => ?_)
  refine J.region ?_
  refine J.y (op_assign rfl rfl) rfl rfl rfl ?_
  refine J.nil ?_
  refine J.then_n (J.k hK1 ?_)
  refine J.keepE [(0, _)] ⟨rfl, trivial⟩ ?_
  refine J.seq (fun K2 hK2 => ?_)
  refine J.region ?_
  refine J.y (op_move rfl rfl) rfl rfl rfl ?_
  refine J.y (op_shrN (a := n) (m := 8) rfl rfl rfl (by first | omega | (simp only [List.length_append, List.length_cons, List.length_nil, List.length_take, List.length_drop] at *; omega))) rfl rfl rfl ?_
  refine J.y (op_cv_i64_u8 (m := n / 2 ^ 8) rfl rfl Tryd.underlying3 Tryd.underlying5) rfl rfl rfl ?_
  refine J.y (op_move rfl rfl) rfl rfl rfl ?_
  refine J.y (op_cv_i64_u8 (m := n) rfl rfl Tryd.underlying3 Tryd.underlying5) rfl rfl rfl ?_
  refine J.e (op_buildSlice (l := [.tmp 5, .tmp 7]) (xs := [[B8 (UInt8.ofNat (n / 2 ^ 8))], [B8 (UInt8.ofNat n)]]) rfl rfl rfl rfl Tryd.underlying30 el5 rfl (by decide) (by decide) (by simp)) rfl rfl rfl ?_
  intro g8 _
  change J _ _ _ [F, blk g8 [B8 (UInt8.ofNat (n / 2 ^ 8)), B8 (UInt8.ofNat n)] 5] _
  refine J.y (op_toStr (l := [UInt8.ofNat (n / 2 ^ 8), UInt8.ofNat n]) rfl rfl Tryd.underlying30 Tryd.underlying5 Tryd.underlying9 (m := blk g8 [B8 (UInt8.ofNat (n / 2 ^ 8)), B8 (UInt8.ofNat n)] 5) (by simp) ((row_lit (q := True) (bytesV [UInt8.ofNat (n / 2 ^ 8), UInt8.ofNat n]) rfl (by simp [bytesV]) rfl).sl)) rfl rfl rfl ?_
  refine J.e (op_buildSlice (l := [.tmp 9]) (xs := [[Str ([UInt8.ofNat (n / 2 ^ 8), UInt8.ofNat n])]]) rfl rfl rfl rfl Tryd.underlying55 el9 rfl (by decide) (by decide) (by simp)) rfl rfl rfl ?_
  intro g10 _
  change J _ _ _ [F, blk g8 [B8 (UInt8.ofNat (n / 2 ^ 8)), B8 (UInt8.ofNat n)] 5, blk g10 [Str ([UInt8.ofNat (n / 2 ^ 8), UInt8.ofNat n])] 9] _
  refine J.e (op_call rfl rfl ent58 (Ct.use0 (fun F' hF => tagged_ct F' (hK.mono (hF F (by simp))) 15 (some ⟨g10, 0, none⟩) 1 1 ([[UInt8.ofNat (n / 2 ^ 8), UInt8.ofNat n]]) (((row_lit (q := True) (strsV [[UInt8.ofNat (n / 2 ^ 8), UInt8.ofNat n]]) rfl (by simp [strsV]) rfl).sl).mono (hF (blk g10 [Str ([UInt8.ofNat (n / 2 ^ 8), UInt8.ofNat n])] 9) (by simp))) (by first | (simp; omega) | (simp; done) | decide) (by omega)))) rfl rfl rfl ?_
  intro g11 _
  refine J.y (op_assign rfl rfl) rfl rfl rfl ?_
  refine J.nil ?_
  refine J.then_n (J.k hK2 ?_)
  refine J.keepE [(2, _)] ⟨rfl, trivial⟩ ?_
  refine J.ret ?_
  exact J.done hw0 (fun _ _ h => h) (res1 rfl rfl) (retOk () (rfl) trivial [0] rfl (by decide))

theorem place20r_ct (F : Hp) (n : Nat) (hn : n ≤ 1000000) : Ct Tryd.prog 19 [I ((n : Nat) : Int)] [F] (fun _ : Unit => Str (placeK n)) (fun _ => True) (fun _ => [F]) := by
  refine Ct.walk Tryd.func19 rfl Tryd.ntmps19 rfl (fun w0 hw0 => ?_)
  change J _ [(0, _)] _ _ _
  refine J.seq (fun K1 hK1 => ?_)
  refine J.region ?_
  refine J.y (op_assign rfl rfl) rfl rfl rfl ?_
  refine J.nil ?_
  refine J.then_n (J.k hK1 ?_)
  refine J.keepE [(0, _)] ⟨rfl, trivial⟩ ?_
  refine J.seq (fun K2 hK2 => ?_)
  refine J.region ?_
  refine J.y (op_move rfl rfl) rfl rfl rfl ?_
  refine J.y ((op_quo rfl rfl rfl (by first | omega | (simp only [List.length_append, List.length_cons, List.length_nil, List.length_take, List.length_drop] at *; omega))).as (v' := I ((n / 256 : Nat) : Int)) (congrArg I (by omega))) rfl rfl rfl ?_
  refine J.y (op_cv_i64_u8 (m := n / 256) rfl rfl Tryd.underlying3 Tryd.underlying5) rfl rfl rfl ?_
  refine J.y (op_move rfl rfl) rfl rfl rfl ?_
  refine J.y ((op_rem rfl rfl rfl (by first | omega | (simp only [List.length_append, List.length_cons, List.length_nil, List.length_take, List.length_drop] at *; omega))).as (v' := I ((n % 256 : Nat) : Int)) (congrArg I (by omega))) rfl rfl rfl ?_
  refine J.y (op_cv_i64_u8 (m := n % 256) rfl rfl Tryd.underlying3 Tryd.underlying5) rfl rfl rfl ?_
  refine J.e (op_buildSlice (l := [.tmp 5, .tmp 8]) (xs := [[B8 (UInt8.ofNat (n / 256))], [B8 (UInt8.ofNat (n % 256))]]) rfl rfl rfl rfl Tryd.underlying30 el5 rfl (by decide) (by decide) (by simp)) rfl rfl rfl ?_
  intro g9 _
  change J _ _ _ [F, blk g9 [B8 (UInt8.ofNat (n / 256)), B8 (UInt8.ofNat (n % 256))] 5] _
  refine J.y (op_toStr (l := [UInt8.ofNat (n / 256), UInt8.ofNat (n % 256)]) rfl rfl Tryd.underlying30 Tryd.underlying5 Tryd.underlying9 (m := blk g9 [B8 (UInt8.ofNat (n / 256)), B8 (UInt8.ofNat (n % 256))] 5) (by simp) ((row_lit (q := True) (bytesV [UInt8.ofNat (n / 256), UInt8.ofNat (n % 256)]) rfl (by simp [bytesV]) rfl).sl)) rfl rfl rfl ?_
  refine J.e (op_buildSlice (l := [.tmp 10]) (xs := [[Str ([UInt8.ofNat (n / 256), UInt8.ofNat (n % 256)])]]) rfl rfl rfl rfl Tryd.underlying55 el9 rfl (by decide) (by decide) (by simp)) rfl rfl rfl ?_
  intro g11 _
  change J _ _ _ [F, blk g9 [B8 (UInt8.ofNat (n / 256)), B8 (UInt8.ofNat (n % 256))] 5, blk g11 [Str ([UInt8.ofNat (n / 256), UInt8.ofNat (n % 256)])] 9] _
  refine J.e (op_call rfl rfl ent57 (Ct.use0 (fun F' hF => tagged6_ct F' 15 (some ⟨g11, 0, none⟩) 1 1 ([[UInt8.ofNat (n / 256), UInt8.ofNat (n % 256)]]) (((row_lit (q := True) (strsV [[UInt8.ofNat (n / 256), UInt8.ofNat (n % 256)]]) rfl (by simp [strsV]) rfl).sl).mono (hF (blk g11 [Str ([UInt8.ofNat (n / 256), UInt8.ofNat (n % 256)])] 9) (by simp))) (by first | (simp; omega) | (simp; done) | decide) (by omega)))) rfl rfl rfl ?_
  intro g12 _
  refine J.y (op_assign rfl rfl) rfl rfl rfl ?_
  refine J.nil ?_
  refine J.then_n (J.k hK2 ?_)
  refine J.keepE [(2, _)] ⟨rfl, trivial⟩ ?_
  refine J.ret ?_
  exact J.done hw0 (fun _ _ h => h) (res1 rfl rfl) (retOk () (by unfold placeK; rw [ofNat_mod]) trivial [0] rfl (by decide))

theorem value20r_ct (F : Hp) (a b : List UInt8) (ha : a.length ≤ 1000000) (hb : b.length ≤ 1000000) : Ct Tryd.prog 20 [Str (a), Str (b)] [F] (fun _ : Unit => Str (Sha.tagged 16 [a, b])) (fun _ => True) (fun _ => [F]) := by
  refine Ct.walk Tryd.func20 rfl Tryd.ntmps20 rfl (fun w0 hw0 => ?_)
  change J _ [(0, _), (1, _)] _ _ _
  refine J.seq (fun K1 hK1 => ?_)
  refine J.region ?_
  refine J.y (op_assign rfl rfl) rfl rfl rfl ?_
  refine J.nil ?_
  refine J.then_n (J.k hK1 ?_)
  refine J.keepE [(0, _), (1, _)] ⟨rfl, rfl, trivial⟩ ?_
  refine J.seq (fun K2 hK2 => ?_)
  refine J.region ?_
  refine J.y (op_move rfl rfl) rfl rfl rfl ?_
  refine J.y (op_move rfl rfl) rfl rfl rfl ?_
  refine J.e (op_buildSlice (l := [.tmp 5, .tmp 6]) (xs := [[Str (a)], [Str (b)]]) rfl rfl rfl rfl Tryd.underlying55 el9 rfl (by decide) (by decide) (by simp)) rfl rfl rfl ?_
  intro g7 _
  change J _ _ _ [F, blk g7 [Str (a), Str (b)] 9] _
  refine J.e (op_call rfl rfl ent57 (Ct.use0 (fun F' hF => tagged6_ct F' 16 (some ⟨g7, 0, none⟩) 2 2 ([a, b]) (((row_lit (q := True) (strsV [a, b]) rfl (by simp [strsV]) rfl).sl).mono (hF (blk g7 [Str (a), Str (b)] 9) (by simp))) (by first | (simp; omega) | (simp; done) | decide) (by omega)))) rfl rfl rfl ?_
  intro g8 _
  refine J.y (op_assign rfl rfl) rfl rfl rfl ?_
  refine J.nil ?_
  refine J.then_n (J.k hK2 ?_)
  refine J.keepE [(4, _)] ⟨rfl, trivial⟩ ?_
  refine J.ret ?_
  exact J.done hw0 (fun _ _ h => h) (res1 rfl rfl) (retOk () rfl trivial [0] rfl (by decide))

theorem aval_ct (F : Hp) (hK : Cells F ⟨1, 0, none⟩ (Sha.K.map W32)) (nm op rt : List UInt8) (ht : Int) (h1 : nm.length ≤ 1000000) (h2 : op.length ≤ 1048576) (h3 : rt.length ≤ 1048576) (hE : pubErr op rt ht = 0) : Ct Tryd.prog 23 [.agg #[Str (nm), Str (op), Str (rt), I (ht)]] [F] (fun _ : Unit => Str (Sha.tagged 16 [nm, pubEnc op rt ht])) (fun _ => True) (fun _ => [F]) := by
  have hpl := pubEnc_len hE
  refine Ct.walk Tryd.func23 rfl Tryd.ntmps23 rfl (fun w0 hw0 => ?_)
  change J _ [(0, _)] _ _ _
  refine J.seq (fun K1 hK1 => ?_)
  refine J.region ?_
  refine J.e (op_box (l := [Str (nm), Str (op), Str (rt), I (ht)]) rfl rfl rfl) rfl rfl rfl ?_
  intro g1 _
  change J _ _ _ [F, blk g1 [Str (nm), Str (op), Str (rt), I (ht)] 35] _
  refine J.y (op_assign rfl rfl) rfl rfl rfl ?_
  refine J.nil ?_
  refine J.then_n (J.k hK1 ?_)
  refine J.keepE [(1, _)] ⟨rfl, trivial⟩ ?_
  refine J.seq (fun K2 hK2 => ?_)
  refine J.region ?_
  refine J.y (op_fieldAddr (j := 1) rfl rfl Tryd.underlying35 rfl Tryd.sizeOf32 rfl) rfl rfl rfl ?_
  refine J.y (op_loadA (vs := [Str (op), Str (rt), I (ht)]) rfl rfl Tryd.isAgg32 Tryd.sizeOf32 (m := blk g1 [Str (nm), Str (op), Str (rt), I (ht)] 35) (by simp) (Cells.blk0.sub 1 3) rfl) rfl rfl rfl ?_
  refine J.e (op_call rfl rfl ent17 (Ct.use0 (fun F' hF => pencode_ct F' op rt ht (by omega) (by omega)))) rfl rfl rfl ?_
  intro g8 _
  refine J.y (op_move rfl rfl) rfl rfl rfl ?_
  refine J.y (op_extract (v := Str (pubEnc op rt ht)) rfl rfl rfl) rfl rfl rfl ?_
  refine J.y (op_extract (v := I (pubErr op rt ht)) rfl rfl rfl) rfl rfl rfl ?_
  refine J.y (op_assign rfl rfl) rfl rfl rfl ?_
  refine J.y (op_assign rfl rfl) rfl rfl rfl ?_
  refine J.nil ?_
  refine J.then_n (J.k hK2 ?_)
  refine J.keepE [(1, _), (3, _), (4, _)] ⟨rfl, rfl, rfl, trivial⟩ ?_
  refine J.seq (fun K3 hK3 => ?_)
  refine J.seq (fun K4 hK4 => ?_)
  refine J.region ?_
  refine J.y (op_move rfl rfl) rfl rfl rfl ?_
  refine J.y ((op_neq rfl rfl rfl).as (v' := .bool false) (congrArg Value.bool (decide_eq_false (by omega)))) rfl rfl rfl ?_
  refine J.nil ?_
  refine J.then_n (J.k hK4 ?_)
  refine J.keepE [(1, _), (3, _), (12, _)] ⟨rfl, rfl, rfl, trivial⟩ ?_
  refine J.condF rfl rfl ?_
  refine J.skip ?_
  refine J.then_n (J.k hK3 ?_)
  refine J.keepE [(1, _), (3, _)] ⟨rfl, rfl, trivial⟩ ?_
  refine J.seq (fun K5 hK5 => ?_)
  refine J.region ?_
  refine J.y (op_fieldAddr (j := 0) rfl rfl Tryd.underlying35 rfl Tryd.sizeOf9 rfl) rfl rfl rfl ?_
  refine J.y (op_loadB 1 (v := Str (nm)) rfl rfl rfl Tryd.isAgg9 rfl) rfl rfl rfl ?_
  refine J.y (op_move rfl rfl) rfl rfl rfl ?_
  refine J.e (op_buildSlice (l := [.tmp 14, .tmp 15]) (xs := [[Str (nm)], [Str (pubEnc op rt ht)]]) rfl rfl rfl rfl Tryd.underlying55 el9 rfl (by decide) (by decide) (by simp)) rfl rfl rfl ?_
  intro g16 _
  change J _ _ _ [F, blk g1 [Str (nm), Str (op), Str (rt), I (ht)] 35, blk g16 [Str (nm), Str (pubEnc op rt ht)] 9] _
  refine J.e (op_call rfl rfl ent58 (Ct.use0 (fun F' hF => tagged_ct F' (hK.mono (hF F (by simp))) 16 (some ⟨g16, 0, none⟩) 2 2 ([nm, pubEnc op rt ht]) (((row_lit (q := True) (strsV [nm, pubEnc op rt ht]) rfl (by simp [strsV]) rfl).sl).mono (hF (blk g16 [Str (nm), Str (pubEnc op rt ht)] 9) (by simp))) (by first | (simp; omega) | (simp; done) | decide) (by omega)))) rfl rfl rfl ?_
  intro g17 _
  refine J.y (op_assign rfl rfl) rfl rfl rfl ?_
  refine J.nil ?_
  refine J.then_n (J.k hK5 ?_)
  refine J.keepE [(2, _)] ⟨rfl, trivial⟩ ?_
  refine J.ret ?_
  exact J.done hw0 (fun _ _ h => h) (res1 rfl rfl) (retOk () rfl trivial [0] rfl (by decide))

theorem avalE_ct (F : Hp) (hK : Cells F ⟨1, 0, none⟩ (Sha.K.map W32)) (nm op rt : List UInt8) (ht : Int) (h2 : op.length ≤ 1048576) (h3 : rt.length ≤ 1048576) (hE : pubErr op rt ht ≠ 0) : Ct Tryd.prog 23 [.agg #[Str (nm), Str (op), Str (rt), I (ht)]] [F] (fun _ : Unit => Str ([])) (fun _ => True) (fun _ => [F]) := by
  refine Ct.walk Tryd.func23 rfl Tryd.ntmps23 rfl (fun w0 hw0 => ?_)
  change J _ [(0, _)] _ _ _
  refine J.seq (fun K1 hK1 => ?_)
  refine J.region ?_
  refine J.e (op_box (l := [Str (nm), Str (op), Str (rt), I (ht)]) rfl rfl rfl) rfl rfl rfl ?_
  intro g1 _
  change J _ _ _ [F, blk g1 [Str (nm), Str (op), Str (rt), I (ht)] 35] _
  refine J.y (op_assign rfl rfl) rfl rfl rfl ?_
  refine J.nil ?_
  refine J.then_n (J.k hK1 ?_)
  refine J.keepE [(1, _)] ⟨rfl, trivial⟩ ?_
  refine J.seq (fun K2 hK2 => ?_)
  refine J.region ?_
  refine J.y (op_fieldAddr (j := 1) rfl rfl Tryd.underlying35 rfl Tryd.sizeOf32 rfl) rfl rfl rfl ?_
  refine J.y (op_loadA (vs := [Str (op), Str (rt), I (ht)]) rfl rfl Tryd.isAgg32 Tryd.sizeOf32 (m := blk g1 [Str (nm), Str (op), Str (rt), I (ht)] 35) (by simp) (Cells.blk0.sub 1 3) rfl) rfl rfl rfl ?_
  refine J.e (op_call rfl rfl ent17 (Ct.use0 (fun F' hF => pencode_ct F' op rt ht (by omega) (by omega)))) rfl rfl rfl ?_
  intro g8 _
  refine J.y (op_move rfl rfl) rfl rfl rfl ?_
  refine J.y (op_extract (v := Str (pubEnc op rt ht)) rfl rfl rfl) rfl rfl rfl ?_
  refine J.y (op_extract (v := I (pubErr op rt ht)) rfl rfl rfl) rfl rfl rfl ?_
  refine J.y (op_assign rfl rfl) rfl rfl rfl ?_
  refine J.y (op_assign rfl rfl) rfl rfl rfl ?_
  refine J.nil ?_
  refine J.then_n (J.k hK2 ?_)
  refine J.keepE [(1, _), (3, _), (4, _)] ⟨rfl, rfl, rfl, trivial⟩ ?_
  refine J.seq (fun K3 hK3 => ?_)
  refine J.seq (fun K4 hK4 => ?_)
  refine J.region ?_
  refine J.y (op_move rfl rfl) rfl rfl rfl ?_
  refine J.y ((op_neq rfl rfl rfl).as (v' := .bool true) (congrArg Value.bool (decide_eq_true (by omega)))) rfl rfl rfl ?_
  refine J.nil ?_
  refine J.then_n (J.k hK4 ?_)
  refine J.keepE [(1, _), (3, _), (12, _)] ⟨rfl, rfl, rfl, trivial⟩ ?_
  refine J.condT rfl rfl ?_
  refine J.seq (fun K5 hK5 => ?_)
  refine J.region ?_
  refine J.y (op_assign rfl rfl) rfl rfl rfl ?_
  refine J.nil ?_
  refine J.then_n (J.k hK5 ?_)
  refine J.keepE [(2, _)] ⟨rfl, trivial⟩ ?_
  refine J.ret ?_
  refine J.then_r ?_
  exact J.done hw0 (fun _ _ h => h) (res1 rfl rfl) (retOk () rfl trivial [0] rfl (by decide))

theorem avalA_ct (F : Hp) (hK : Cells F ⟨1, 0, none⟩ (Sha.K.map W32)) (x : Aud) (h1 : x.nm.length ≤ 1000000) (h2 : x.op.length ≤ 1048576) (h3 : x.rt.length ≤ 1048576) : Ct Tryd.prog 23 [.agg #[Str x.nm, Str x.op, Str x.rt, I x.ht]] [F] (fun _ : Unit => Str (audV x)) (fun _ => True) (fun _ => [F]) := by
  unfold audV
  by_cases hE : pubErr x.op x.rt x.ht = 0
  · rw [if_pos hE]; exact aval_ct F hK x.nm x.op x.rt x.ht h1 h2 h3 hE
  · rw [if_neg hE]; exact avalE_ct F hK x.nm x.op x.rt x.ht h2 h3 hE

theorem cloneA_ct (F : Hp) (A : Option Addr) (n c : Nat) (l : List Aud) (hs : Sl F 4 A n c (audsV l)) (hnb : n ≤ 1073741824) : Ct Tryd.prog 53 [.slice A n c] [F] (fun x : Option Addr × Nat × Hp => .slice x.1 (l).length x.2.1) (fun x => Row x.2.2 35 4 x.1 (l).length x.2.1 (audsV l)) (fun x => [F, x.2.2]) := by
  have hkn : l.length = n := by have := hs.1; simpa [audsV] using this
  refine Ct.walk Tryd.func53 rfl Tryd.ntmps53 rfl (fun w0 hw0 => ?_)
  change J _ [(0, _)] _ _ _
  refine J.seq (fun K1 hK1 => ?_)
  refine J.region ?_
  refine J.y (op_assign rfl rfl) rfl rfl rfl ?_
  refine J.nil ?_
  refine J.then_n (J.k hK1 ?_)
  refine J.keepE [(0, _)] ⟨rfl, trivial⟩ ?_
  refine J.seq (fun K2 hK2 => ?_)
  refine J.seq (fun K3 hK3 => ?_)
  refine J.region ?_
  refine J.y (op_move rfl rfl) rfl rfl rfl ?_
  refine J.y ((op_slNil Tryd.underlying90 rfl rfl rfl).as (v' := .bool (decide (A.isNone = true))) (congrArg Value.bool (by cases A <;> rfl))) rfl rfl rfl ?_
  refine J.nil ?_
  refine J.then_n (J.k hK3 ?_)
  refine J.keepE [(0, _), (4, _)] ⟨rfl, rfl, trivial⟩ ?_
  refine J.ite rfl (fun h4 => ?_) (fun h4 => ?_)
  ·
    refine J.seq (fun K4 hK4 => ?_)
    refine J.region ?_
    refine J.y (op_assign rfl rfl) rfl rfl rfl ?_
    refine J.nil ?_
    refine J.then_n (J.k hK4 ?_)
    refine J.keepE [(2, _)] ⟨rfl, trivial⟩ ?_
    refine J.ret ?_
    refine J.then_r ?_
    have hk0 : l = [] := by
      refine List.eq_nil_of_length_eq_zero ?_
      rcases Nat.eq_zero_or_pos n with h | h
      · omega
      · obtain ⟨g, o, rfl⟩ := hs.at h; cases h4
    refine J.addEmpty [0, 1] [F, (fun _ => none)] rfl (by decide) ?_
    exact J.done hw0 (fun _ _ h => h) (res1 rfl rfl) (retOk (none, 0, (fun _ => none)) (by rw [hk0]; rfl) (by rw [hk0]; exact RowQ.nil) [0, 1] rfl (by decide))
  ·
    refine J.skip ?_
    refine J.then_n (J.k hK2 ?_)
    refine J.keepE [(0, _)] ⟨rfl, trivial⟩ ?_
    refine J.seq (fun K5 hK5 => ?_)
    refine J.region ?_
    refine J.e (op_buildSlice0 rfl Tryd.underlying90 el35) rfl rfl rfl ?_
    intro g5 _
    change J _ _ _ [F, blk g5 [] 35] _
    refine J.y (op_move rfl rfl) rfl rfl rfl ?_
    refine J.e (op_append (i := 1) (xs := audsV ([])) (m2 := F) (ys := audsV l) rfl rfl rfl Tryd.underlying90 Tryd.underlying90 el35 rfl (row_blk (q := True) (xs := audsV ([])) rfl (by intro x hx; first | exact absurd hx (List.not_mem_nil) | (rw [List.mem_singleton.1 hx]; rfl))) (by simp) (hs) (one_auds _) (by first | omega | (simp only [List.length_append, List.length_cons, List.length_nil, List.length_take, List.length_drop] at *; omega)) (by first | omega | (simp only [List.length_append, List.length_cons, List.length_nil, List.length_take, List.length_drop] at *; omega))) rfl rfl rfl ?_
    rintro ⟨A7, c7, m7⟩ h7
    try dsimp only at h7
    change J _ ((7, .slice A7 (0 + n) c7) :: _) _ [F, m7] _
    replace h7 : Row m7 35 4 A7 (0 + n) c7 (audsV (l)) := h7
    refine J.y (op_assign rfl rfl) rfl rfl rfl ?_
    refine J.nil ?_
    refine J.then_n (J.k hK5 ?_)
    refine J.keepE [(2, _)] ⟨rfl, trivial⟩ ?_
    refine J.ret ?_
    rw [show 0 + n = l.length by omega] at h7
    exact J.done hw0 (fun _ _ h => h) (res1 rfl rfl) (retOk (A7, c7, m7) (by rw [← hkn, Nat.zero_add]) h7 [0, 1] rfl (by decide))

theorem rcopy_ct (F : Hp) (g : Nat) (A : Option Addr) (n c : Nat) (l : List Aud) (hs : Sl F 4 A n c (audsV l)) (hnb : n ≤ 1073741824) (hp : Cells F ⟨g, 0, none⟩ [.slice A n c]) : Ct Tryd.prog 13 [Ptr g] [F] (fun x : Nat × Hp => Ptr x.1) (fun x => Rost x.2 x.1 l) (fun x => [x.2, F]) := by
  refine Ct.walk Tryd.func13 rfl Tryd.ntmps13 rfl (fun w0 hw0 => ?_)
  change J _ [(0, _)] _ _ _
  refine J.seq (fun K1 hK1 => ?_)
  refine J.region ?_
  refine J.y (op_assign rfl rfl) rfl rfl rfl ?_
  refine J.nil ?_
  refine J.then_n (J.k hK1 ?_)
  refine J.keepE [(0, _)] ⟨rfl, trivial⟩ ?_
  refine J.seq (fun K2 hK2 => ?_)
  refine J.seq (fun K3 hK3 => ?_)
  refine J.region ?_
  refine J.y (op_move rfl rfl) rfl rfl rfl ?_
  refine J.y ((op_peq Tryd.underlying23 rfl rfl rfl).as (v' := .bool false) rfl) rfl rfl rfl ?_
  refine J.nil ?_
  refine J.then_n (J.k hK3 ?_)
  refine J.keepE [(0, _), (4, _)] ⟨rfl, rfl, trivial⟩ ?_
  refine J.condF rfl rfl ?_
  refine J.skip ?_
  refine J.then_n (J.k hK2 ?_)
  refine J.keepE [(0, _)] ⟨rfl, trivial⟩ ?_
  refine J.seq (fun K4 hK4 => ?_)
  refine J.region ?_
  refine J.y (op_move rfl rfl) rfl rfl rfl ?_
  refine J.y (op_nilCheck rfl rfl) rfl rfl rfl ?_
  refine J.y (op_fieldAddr (j := 0) rfl rfl Tryd.underlying92 rfl Tryd.sizeOf90 rfl) rfl rfl rfl ?_
  refine J.y (op_load (v := .slice A n c) rfl rfl Tryd.isAgg90 (m := F) (by simp) (hp)) rfl rfl rfl ?_
  refine J.e (op_call rfl rfl ent53 (Ct.use (new := fun x : Option Addr × Nat × Hp => [x.2.2]) (fun F' hF => cloneA_ct F' A n c l (hs.mono (hF F (by simp))) (by omega)))) rfl rfl rfl ?_
  rintro ⟨A9, c9, m9⟩ h9
  try dsimp only at h9
  change J _ ((9, .slice A9 (l).length c9) :: _) _ [F, m9] _
  refine J.y (op_buildStruct (l := [(0, .tmp 9)]) (vs := [.slice A9 ((l).length) c9]) (places := [(0, 1)]) (r := [.slice A9 ((l).length) c9]) rfl rfl rfl Tryd.underlying92 Tryd.zeroValue92 (fun _ => by kernel_rfl) rfl) rfl rfl rfl ?_
  refine J.e (op_box (l := [.slice A9 ((l).length) c9]) rfl rfl rfl) rfl rfl rfl ?_
  intro g11 _
  change J _ _ _ [F, m9, blk g11 [.slice A9 ((l).length) c9] 92] _
  refine J.y (op_assign rfl rfl) rfl rfl rfl ?_
  refine J.nil ?_
  refine J.then_n (J.k hK4 ?_)
  refine J.keepE [(2, _)] ⟨rfl, trivial⟩ ?_
  refine J.ret ?_
  exact J.done hw0 (fun _ _ h => h) (res1 rfl rfl) (retOkU (g11, U [blk g11 [.slice A9 ((l).length) c9] 92, m9]) (rfl) (fun hd => ⟨A9, (l).length, c9, m9, rfl, hd, h9⟩) [2, 1, 0] rfl rfl (by decide))

theorem rlay_ct (F m : Hp) (hK : Cells F ⟨1, 0, none⟩ (Sha.K.map W32)) (g : Nat) (A : Option Addr) (n c : Nat) (l : List Aud) (hs : Sl F 4 A n c (audsV l)) (hnb : n ≤ 1073741824) (hp : Cells F ⟨g, 0, none⟩ [.slice A n c]) (gt : Nat) (kv : List Sm.PR) (ht : TreeS m gt kv) (hsm : ∀ x ∈ l, x.nm.length ≤ 1000000 ∧ x.op.length ≤ 1048576 ∧ x.rt.length ≤ 1048576) (hn6 : n ≤ 1000000) : Ct Tryd.prog 14 [Ptr g, Ptr gt] [m, F] (fun _ : Hp => I ((0 : Nat) : Int)) (fun m' => TreeS m' gt (layP kv l n)) (fun m' => [m', F]) := by
  have hkn : l.length = n := by have := hs.1; simpa [audsV] using this
  refine Ct.walk Tryd.func14 rfl Tryd.ntmps14 rfl (fun w0 hw0 => ?_)
  change J _ [(0, _), (1, _)] _ _ _
  refine J.seq (fun K1 hK1 => ?_)
  refine J.region ?_
  refine J.y (op_assign rfl rfl) rfl rfl rfl ?_
  refine J.nil ?_
  refine J.then_n (J.k hK1 ?_)
  refine J.keepE [(0, _), (1, _)] ⟨rfl, rfl, trivial⟩ ?_
  refine J.seq (fun K2 hK2 => ?_)
  refine J.seq (fun K3 hK3 => ?_)
  refine J.region ?_
  refine J.y (op_move rfl rfl) rfl rfl rfl ?_
  refine J.y ((op_peq Tryd.underlying23 rfl rfl rfl).as (v' := .bool false) rfl) rfl rfl rfl ?_
  refine J.y (op_move rfl rfl) rfl rfl rfl ?_
  refine J.yg (Wan.is rfl rfl rfl rfl rfl) (op_move rfl rfl) rfl rfl ?_
  refine J.yg (Wan.is rfl rfl rfl rfl rfl) ((op_peq Tryd.underlying25 rfl rfl rfl).as (v' := .bool false) rfl) rfl rfl ?_
  refine J.y (op_pickF rfl rfl rfl) rfl rfl rfl ?_
  refine J.nil ?_
  refine J.then_n (J.k hK3 ?_)
  refine J.keepE [(0, _), (1, _), (12, _)] ⟨rfl, rfl, rfl, trivial⟩ ?_
  refine J.condF rfl rfl ?_
  refine J.skip ?_
  refine J.then_n (J.k hK2 ?_)
  refine J.keepE [(0, _), (1, _)] ⟨rfl, rfl, trivial⟩ ?_
  refine J.seq (fun K4 hK4 => ?_)
  refine J.seq (fun K5 hK5 => ?_)
  refine J.region ?_
  refine J.y (op_move rfl rfl) rfl rfl rfl ?_
  refine J.y (op_nilCheck rfl rfl) rfl rfl rfl ?_
  refine J.y (op_fieldAddr (j := 0) rfl rfl Tryd.underlying92 rfl Tryd.sizeOf90 rfl) rfl rfl rfl ?_
  refine J.y (op_load (v := .slice A n c) rfl rfl Tryd.isAgg90 (m := F) (by simp) (hp)) rfl rfl rfl ?_
  refine J.y (op_len Tryd.underlying90 rfl rfl) rfl rfl rfl ?_
  refine J.y (op_move rfl rfl) rfl rfl rfl ?_
  refine J.nil ?_
  refine J.then_n (J.k hK5 ?_)
  refine J.keepE [(1, _), (16, _), (17, _), (18, _)] ⟨rfl, rfl, rfl, rfl, trivial⟩ ?_
  refine J.block ?_
  refine J.loop (X := Nat × Hp) (fun ζ => [(1, Ptr gt), (16, .slice A n c), (17, I ((n : Nat) : Int)), (18, I ((ζ.1 : Nat) : Int))]) (fun ζ => [ζ.2, F]) (fun ζ => ζ.1 ≤ n ∧ TreeS ζ.2 gt (layP kv l ζ.1)) (fun ζ => n - ζ.1) (0, m) (⟨Nat.zero_le _, ht⟩) ⟨rfl, rfl, rfl, rfl, trivial⟩ (fun _ h => h) ?_
  rintro ⟨i, mo⟩ ⟨hi, hto⟩ I0 hI0
  dsimp only at hi hto ⊢
  refine J.seq (fun K6 hK6 => ?_)
  refine J.region ?_
  refine J.y (op_lss rfl rfl rfl) rfl rfl rfl ?_
  refine J.nil ?_
  refine J.then_n (J.k hK6 ?_)
  refine J.keepE [(1, _), (16, _), (17, _), (18, _), (19, _)] ⟨rfl, rfl, rfl, rfl, rfl, trivial⟩ ?_
  refine J.seq (fun K7 hK7 => ?_)
  refine J.ite rfl (fun h19 => ?_) (fun h19 => ?_)
  ·
    refine J.skip ?_
    refine J.then_n (J.k hK7 ?_)
    refine J.keepE [(1, _), (16, _), (17, _), (18, _)] ⟨rfl, rfl, rfl, rfl, trivial⟩ ?_
    refine J.seq (fun K8 hK8 => ?_)
    refine J.block ?_
    refine J.seq (fun K9 hK9 => ?_)
    obtain ⟨hx1, hx2, hx3⟩ : (l.getD i noAud).nm.length ≤ 1000000 ∧ (l.getD i noAud).op.length ≤ 1048576 ∧ (l.getD i noAud).rt.length ≤ 1048576 := by
      rw [List.getD_eq_getElem?_getD, List.getElem?_eq_getElem (show i < l.length by omega)]; exact hsm _ (List.getElem_mem _)
    have hpk := placeK_len i
    refine J.region ?_
    refine J.y (op_move rfl rfl) rfl rfl rfl ?_
    refine J.y (op_indexAddr (i := i) rfl rfl rfl Tryd.underlying90 Tryd.sizeOf35 hs (by first | omega | (simp only [List.length_append, List.length_cons, List.length_nil, List.length_take, List.length_drop] at *; omega))) rfl rfl rfl ?_
    refine J.y (op_loadA (vs := [Str ((l.getD i noAud).nm), Str ((l.getD i noAud).op), Str ((l.getD i noAud).rt), I ((l.getD i noAud).ht)]) rfl rfl Tryd.isAgg35 Tryd.sizeOf35 (m := F) (by simp) (hs.elem (audsV_get (by first | omega | (simp only [List.length_append, List.length_cons, List.length_nil, List.length_take, List.length_drop] at *; omega)))) rfl) rfl rfl rfl ?_
    refine J.e (op_alloc (l := [Str [], Str [], Str [], I 0]) rfl Tryd.zeroValue35 rfl) rfl rfl rfl ?_
    intro g6 _
    change J _ _ _ [mo, F, blk g6 [Str [], Str [], Str [], I 0] 35] _
    refine J.y (op_assign rfl rfl) rfl rfl rfl ?_
    refine J.s (op_storeAll (i := 2) (l := [Str [], Str [], Str [], I 0]) (vs := [Str ((l.getD i noAud).nm), Str ((l.getD i noAud).op), Str ((l.getD i noAud).rt), I ((l.getD i noAud).ht)]) rfl rfl rfl rfl rfl Tryd.sizeOf35 rfl rfl) rfl rfl (fun _ _ => ?_)
    change J _ _ _ [mo, F, blk g6 [Str ((l.getD i noAud).nm), Str ((l.getD i noAud).op), Str ((l.getD i noAud).rt), I ((l.getD i noAud).ht)] 35] _
    refine J.nil ?_
    refine J.then_n (J.k hK9 ?_)
    refine J.keepE [(1, _), (5, _), (6, _), (16, _), (17, _), (18, _)] ⟨rfl, rfl, rfl, rfl, rfl, rfl, trivial⟩ ?_
    refine J.draw [blk g6 [Str ((l.getD i noAud).nm), Str ((l.getD i noAud).op), Str ((l.getD i noAud).rt), I ((l.getD i noAud).ht)] 35] [] (.y 0 (.y 1 (.y 3 (.e 2 (.e 4 (.e 5 .nil)))))) Tryd.wide (by decide +kernel) (by simp) ?_
    refine J.dy rfl (op_move rfl rfl) rfl rfl rfl rfl ?_
    refine J.dy rfl (op_move rfl rfl) rfl rfl rfl rfl ?_
    refine J.dy rfl (op_loadBA 0 rfl rfl rfl Tryd.isAgg35 Tryd.sizeOf35 rfl) rfl rfl rfl rfl ?_
    refine J.de rfl (op_call rfl rfl ent21 (Ct.use0 (fun F' hF => place20_ct F' (hK.mono (hF F (by simp))) i (by omega)))) rfl rfl rfl (by simp) ?_
    intro g25 _
    refine J.de rfl (op_call rfl rfl ent23 (Ct.use0 (fun F' hF => avalA_ct F' (hK.mono (hF F (by simp))) (l.getD i noAud) hx1 hx2 hx3))) rfl rfl rfl (by simp) ?_
    intro g27 _
    refine J.de rfl (op_call rfl rfl ent29 (Ct.use1 0 (m' := fun x : Hp => x) (new := fun _ => []) rfl (fun F' hF => tput_ct F' mo gt (layP kv l i) hto (placeK i) (audV (l.getD i noAud)) (by first | omega | rfl | assumption)))) rfl rfl rfl (by simp) ?_
    rintro m28 h28
    change J _ ((28, I ((0 : Nat) : Int)) :: _) _ [m28, F, blk g6 [Str ((l.getD i noAud).nm), Str ((l.getD i noAud).op), Str ((l.getD i noAud).rt), I ((l.getD i noAud).ht)] 35] _
    refine J.dnil ?_
    refine J.blk_n ?_
    refine J.then_n (J.k hK8 ?_)
    refine J.keepE [(1, _), (16, _), (17, _), (18, _)] ⟨rfl, rfl, rfl, rfl, trivial⟩ ?_
    refine J.region ?_
    refine J.y ((op_add rfl rfl rfl (by first | omega | (simp only [List.length_append, List.length_cons, List.length_nil, List.length_take, List.length_drop] at *; omega))).as (v' := I ((i + 1 : Nat) : Int)) (congrArg I (by omega))) rfl rfl rfl ?_
    refine J.y (op_move rfl rfl) rfl rfl rfl ?_
    refine J.nil ?_
    refine J.then_n ?_
    exact J.kk (i + 1, m28) (fun η (hη : _ ∧ n - η.1 < n - i) => hI0 η hη.1 hη.2) ⟨⟨by dsimp only; omega, h28⟩, by dsimp only; omega⟩ ⟨rfl, rfl, rfl, rfl, trivial⟩ (fun _ h => h.pick [0, 1] (by decide))
  ·
    refine J.exit ?_
    refine J.then_x ?_
    refine J.then_x ?_
    refine J.blk_eq ?_
    refine J.then_n (J.k hK4 ?_)
    refine J.keepE [] trivial ?_
    refine J.seq (fun K10 hK10 => ?_)
    refine J.region ?_
    refine J.y (op_assign rfl rfl) rfl rfl rfl ?_
    refine J.nil ?_
    refine J.then_n (J.k hK10 ?_)
    refine J.keepE [(4, _)] ⟨rfl, trivial⟩ ?_
    refine J.ret ?_
    exact J.done hw0 (fun _ _ h => h) (res1 rfl rfl) (retOk mo rfl (by rw [show n = i by omega]; exact hto) [0, 1] rfl (by decide))

theorem raddN_ct (F : Hp) (a b c : List UInt8) (d : Int) : Ct Tryd.prog 11 [.pointer none, .agg #[Str (a), Str (b), Str (c), I (d)]] [F] (fun _ : Unit => .tuple #[I ((0 : Nat) : Int), I ((1 : Nat) : Int)]) (fun _ => True) (fun _ => [F]) := by
  refine Ct.walk Tryd.func11 rfl Tryd.ntmps11 rfl (fun w0 hw0 => ?_)
  change J _ [(0, _), (1, _)] _ _ _
  refine J.seq (fun K1 hK1 => ?_)
  refine J.region ?_
  refine J.e (op_box (l := [Str (a), Str (b), Str (c), I (d)]) rfl rfl rfl) rfl rfl rfl ?_
  intro g3 _
  change J _ _ _ [F, blk g3 [Str (a), Str (b), Str (c), I (d)] 35] _
  refine J.y (op_assign rfl rfl) rfl rfl rfl ?_
  refine J.y (op_assign rfl rfl) rfl rfl rfl ?_
  refine J.nil ?_
  refine J.then_n (J.k hK1 ?_)
  refine J.keepE [(0, _), (3, _)] ⟨rfl, rfl, trivial⟩ ?_
  refine J.seq (fun K2 hK2 => ?_)
  refine J.seq (fun K3 hK3 => ?_)
  refine J.region ?_
  refine J.y (op_move rfl rfl) rfl rfl rfl ?_
  refine J.y ((op_peq Tryd.underlying23 rfl rfl rfl).as (v' := .bool true) rfl) rfl rfl rfl ?_
  refine J.nil ?_
  refine J.then_n (J.k hK3 ?_)
  refine J.keepE [(0, _), (3, _), (8, _)] ⟨rfl, rfl, rfl, trivial⟩ ?_
  refine J.condT rfl rfl ?_
  refine J.seq (fun K4 hK4 => ?_)
  refine J.region ?_
  refine J.y (op_assign rfl rfl) rfl rfl rfl ?_
  refine J.y (op_assign rfl rfl) rfl rfl rfl ?_
  refine J.nil ?_
  refine J.then_n (J.k hK4 ?_)
  refine J.keepE [(4, _), (5, _)] ⟨rfl, rfl, trivial⟩ ?_
  refine J.ret ?_
  refine J.then_r ?_
  exact J.done hw0 (fun _ _ h => h) (res2 rfl rfl rfl) (retOk () rfl trivial [0] rfl (by decide))

theorem rlenN_ct (F : Hp)  : Ct Tryd.prog 16 [.pointer none] [F] (fun _ : Unit => I ((0 : Nat) : Int)) (fun _ => True) (fun _ => [F]) := by
  refine Ct.walk Tryd.func16 rfl Tryd.ntmps16 rfl (fun w0 hw0 => ?_)
  change J _ [(0, _)] _ _ _
  refine J.seq (fun K1 hK1 => ?_)
  refine J.region ?_
  refine J.y (op_assign rfl rfl) rfl rfl rfl ?_
  refine J.nil ?_
  refine J.then_n (J.k hK1 ?_)
  refine J.keepE [(0, _)] ⟨rfl, trivial⟩ ?_
  refine J.seq (fun K2 hK2 => ?_)
  refine J.seq (fun K3 hK3 => ?_)
  refine J.region ?_
  refine J.y (op_move rfl rfl) rfl rfl rfl ?_
  refine J.y ((op_peq Tryd.underlying23 rfl rfl rfl).as (v' := .bool true) rfl) rfl rfl rfl ?_
  refine J.nil ?_
  refine J.then_n (J.k hK3 ?_)
  refine J.keepE [(0, _), (4, _)] ⟨rfl, rfl, trivial⟩ ?_
  refine J.condT rfl rfl ?_
  refine J.seq (fun K4 hK4 => ?_)
  refine J.region ?_
  refine J.y (op_assign rfl rfl) rfl rfl rfl ?_
  refine J.nil ?_
  refine J.then_n (J.k hK4 ?_)
  refine J.keepE [(2, _)] ⟨rfl, trivial⟩ ?_
  refine J.ret ?_
  refine J.then_r ?_
  exact J.done hw0 (fun _ _ h => h) (res1 rfl rfl) (retOk () rfl trivial [0] rfl (by decide))

theorem ratN_ct (F : Hp)  : Ct Tryd.prog 22 [.pointer none, I ((0 : Nat) : Int)] [F] (fun _ : Unit => .tuple #[.agg #[Str [], Str [], Str [], I 0], I ((20 : Nat) : Int)]) (fun _ => True) (fun _ => [F]) := by
  refine Ct.walk Tryd.func22 rfl Tryd.ntmps22 rfl (fun w0 hw0 => ?_)
  change J _ [(0, _), (1, _)] _ _ _
  refine J.seq (fun K1 hK1 => ?_)
  refine J.region ?_
  refine J.e (op_alloc (l := [Str [], Str [], Str [], I 0]) rfl Tryd.zeroValue35 rfl) rfl rfl rfl ?_
  intro g4 _
  change J _ _ _ [F, blk g4 [Str [], Str [], Str [], I 0] 35] _
  refine J.y (op_assign rfl rfl) rfl rfl rfl ?_
  refine J.nil ?_
  refine J.then_n (J.k hK1 ?_)
  refine J.keepE [(0, _), (1, _), (4, _)] ⟨rfl, rfl, rfl, trivial⟩ ?_
  refine J.seq (fun K2 hK2 => ?_)
  refine J.seq (fun K3 hK3 => ?_)
  refine J.region ?_
  refine J.y (op_move rfl rfl) rfl rfl rfl ?_
  refine J.y ((op_lss rfl rfl rfl).as (v' := .bool false) (congrArg Value.bool (decide_eq_false (by decide)))) rfl rfl rfl ?_
  refine J.y (op_move rfl rfl) rfl rfl rfl ?_
  refine J.yg (Wan.is rfl rfl rfl rfl rfl) (op_move rfl rfl) rfl rfl ?_
  refine J.yg (Wan.is rfl rfl rfl rfl rfl) (op_move rfl rfl) rfl rfl ?_
  refine J.eg (Wan.is rfl rfl rfl rfl rfl) (op_call rfl rfl ent16 (Ct.use0 (fun F' hF => rlenN_ct F' ))) rfl rfl ?_
  intro g11 _
  refine J.yg (Wan.is rfl rfl rfl rfl rfl) ((op_geq rfl rfl rfl).as (v' := .bool true) (congrArg Value.bool (decide_eq_true (by decide)))) rfl rfl ?_
  refine J.y (op_pickF rfl rfl rfl) rfl rfl rfl ?_
  refine J.nil ?_
  refine J.then_n (J.k hK3 ?_)
  refine J.keepE [(0, _), (1, _), (4, _), (13, _)] ⟨rfl, rfl, rfl, rfl, trivial⟩ ?_
  refine J.condT rfl rfl ?_
  refine J.seq (fun K4 hK4 => ?_)
  refine J.region ?_
  refine J.y (op_buildStruct (l := []) (vs := []) (places := [(0, 1), (1, 3)]) (r := [Str [], Str [], Str [], I 0]) rfl rfl rfl Tryd.underlying35 Tryd.zeroValue35 (fun _ => by kernel_rfl) rfl) rfl rfl rfl ?_
  refine J.s (op_storeAll (i := 1) (l := [Str [], Str [], Str [], I 0]) (vs := [Str [], Str [], Str [], I 0]) rfl rfl rfl rfl rfl Tryd.sizeOf35 rfl rfl) rfl rfl (fun _ _ => ?_)
  change J _ _ _ [F, blk g4 [Str [], Str [], Str [], I 0] 35] _
  refine J.y (op_assign rfl rfl) rfl rfl rfl ?_
  refine J.nil ?_
  refine J.then_n (J.k hK4 ?_)
  refine J.keepE [(4, _), (5, _)] ⟨rfl, rfl, trivial⟩ ?_
  refine J.ret ?_
  refine J.then_r ?_
  exact J.done hw0 (fun _ _ h => h) (rv2 rfl (RV.blkA 1 rfl rfl Tryd.isAgg35 Tryd.sizeOf35) rfl) (retOk () rfl trivial [0] rfl (by decide))

theorem rcopyN_ct (F : Hp)  : Ct Tryd.prog 13 [.pointer none] [F] (fun _ : Unit => .pointer none) (fun _ => True) (fun _ => [F]) := by
  refine Ct.walk Tryd.func13 rfl Tryd.ntmps13 rfl (fun w0 hw0 => ?_)
  change J _ [(0, _)] _ _ _
  refine J.seq (fun K1 hK1 => ?_)
  refine J.region ?_
  refine J.y (op_assign rfl rfl) rfl rfl rfl ?_
  refine J.nil ?_
  refine J.then_n (J.k hK1 ?_)
  refine J.keepE [(0, _)] ⟨rfl, trivial⟩ ?_
  refine J.seq (fun K2 hK2 => ?_)
  refine J.seq (fun K3 hK3 => ?_)
  refine J.region ?_
  refine J.y (op_move rfl rfl) rfl rfl rfl ?_
  refine J.y ((op_peq Tryd.underlying23 rfl rfl rfl).as (v' := .bool true) rfl) rfl rfl rfl ?_
  refine J.nil ?_
  refine J.then_n (J.k hK3 ?_)
  refine J.keepE [(0, _), (4, _)] ⟨rfl, rfl, trivial⟩ ?_
  refine J.condT rfl rfl ?_
  refine J.seq (fun K4 hK4 => ?_)
  refine J.region ?_
  refine J.y (op_assign rfl rfl) rfl rfl rfl ?_
  refine J.nil ?_
  refine J.then_n (J.k hK4 ?_)
  refine J.keepE [(2, _)] ⟨rfl, trivial⟩ ?_
  refine J.ret ?_
  refine J.then_r ?_
  exact J.done hw0 (fun _ _ h => h) (res1 rfl rfl) (retOk () rfl trivial [0] rfl (by decide))

theorem rlayN_ct (F : Hp) (tv : Nat) : Ct Tryd.prog 14 [.pointer none, Ptr tv] [F] (fun _ : Unit => I ((1 : Nat) : Int)) (fun _ => True) (fun _ => [F]) := by
  refine Ct.walk Tryd.func14 rfl Tryd.ntmps14 rfl (fun w0 hw0 => ?_)
  change J _ [(0, _), (1, _)] _ _ _
  refine J.seq (fun K1 hK1 => ?_)
  refine J.region ?_
  refine J.y (op_assign rfl rfl) rfl rfl rfl ?_
  refine J.nil ?_
  refine J.then_n (J.k hK1 ?_)
  refine J.keepE [(0, _), (1, _)] ⟨rfl, rfl, trivial⟩ ?_
  refine J.seq (fun K2 hK2 => ?_)
  refine J.seq (fun K3 hK3 => ?_)
  refine J.region ?_
  refine J.y (op_move rfl rfl) rfl rfl rfl ?_
  refine J.y ((op_peq Tryd.underlying23 rfl rfl rfl).as (v' := .bool true) rfl) rfl rfl rfl ?_
  refine J.y (op_move rfl rfl) rfl rfl rfl ?_
  refine J.no (Wan.is rfl rfl rfl rfl rfl) rfl rfl ?_
  refine J.no (Wan.is rfl rfl rfl rfl rfl) rfl rfl ?_
  refine J.y (op_pickT rfl rfl rfl) rfl rfl rfl ?_
  refine J.nil ?_
  refine J.then_n (J.k hK3 ?_)
  refine J.keepE [(0, _), (1, _), (12, _)] ⟨rfl, rfl, rfl, trivial⟩ ?_
  refine J.condT rfl rfl ?_
  refine J.seq (fun K4 hK4 => ?_)
  refine J.region ?_
  refine J.y (op_assign rfl rfl) rfl rfl rfl ?_
  refine J.nil ?_
  refine J.then_n (J.k hK4 ?_)
  refine J.keepE [(4, _)] ⟨rfl, trivial⟩ ?_
  refine J.ret ?_
  refine J.then_r ?_
  exact J.done hw0 (fun _ _ h => h) (res1 rfl rfl) (retOk () rfl trivial [0] rfl (by decide))

theorem rlayM_ct (F : Hp) (g : Nat) : Ct Tryd.prog 14 [Ptr g, .pointer none] [F] (fun _ : Unit => I ((1 : Nat) : Int)) (fun _ => True) (fun _ => [F]) := by
  refine Ct.walk Tryd.func14 rfl Tryd.ntmps14 rfl (fun w0 hw0 => ?_)
  change J _ [(0, _), (1, _)] _ _ _
  refine J.seq (fun K1 hK1 => ?_)
  refine J.region ?_
  refine J.y (op_assign rfl rfl) rfl rfl rfl ?_
  refine J.nil ?_
  refine J.then_n (J.k hK1 ?_)
  refine J.keepE [(0, _), (1, _)] ⟨rfl, rfl, trivial⟩ ?_
  refine J.seq (fun K2 hK2 => ?_)
  refine J.seq (fun K3 hK3 => ?_)
  refine J.region ?_
  refine J.y (op_move rfl rfl) rfl rfl rfl ?_
  refine J.y ((op_peq Tryd.underlying23 rfl rfl rfl).as (v' := .bool false) rfl) rfl rfl rfl ?_
  refine J.y (op_move rfl rfl) rfl rfl rfl ?_
  refine J.yg (Wan.is rfl rfl rfl rfl rfl) (op_move rfl rfl) rfl rfl ?_
  refine J.yg (Wan.is rfl rfl rfl rfl rfl) ((op_peq Tryd.underlying25 rfl rfl rfl).as (v' := .bool true) rfl) rfl rfl ?_
  refine J.y (op_pickF rfl rfl rfl) rfl rfl rfl ?_
  refine J.nil ?_
  refine J.then_n (J.k hK3 ?_)
  refine J.keepE [(0, _), (1, _), (12, _)] ⟨rfl, rfl, rfl, trivial⟩ ?_
  refine J.condT rfl rfl ?_
  refine J.seq (fun K4 hK4 => ?_)
  refine J.region ?_
  refine J.y (op_assign rfl rfl) rfl rfl rfl ?_
  refine J.nil ?_
  refine J.then_n (J.k hK4 ?_)
  refine J.keepE [(4, _)] ⟨rfl, trivial⟩ ?_
  refine J.ret ?_
  refine J.then_r ?_
  exact J.done hw0 (fun _ _ h => h) (res1 rfl rfl) (retOk () rfl trivial [0] rfl (by decide))

end Go.Proofs.YtnkfapecbmmpeaaDoor
