/- A part of the proof: contracts of functions of the program, each for every state of the heaps that it names. -/
import Derived.Test.YtnkfapecbmmpeaaDoorTopSiG15
import Derived.Test.YtnkfapecbmmpeaaDoorTopSiG10
set_option linter.unusedSimpArgs false
set_option linter.unusedVariables false
namespace Go.Proofs.YtnkfapecbmmpeaaDoor
open Go Go.Fw
set_option maxRecDepth 100000
set_option maxHeartbeats 1000000
theorem ent79 : Enters Tryd.prog 79 := Enters.of Tryd.func79 rfl (by kernel_rfl)
theorem ent81 : Enters Tryd.prog 81 := Enters.of Tryd.func81 rfl (by kernel_rfl)
theorem ent122 : Enters Tryd.prog 122 := Enters.of Tryd.func122 rfl (by kernel_rfl)
theorem ent123 : Enters Tryd.prog 123 := Enters.of Tryd.func123 rfl (by kernel_rfl)
theorem ent125 : Enters Tryd.prog 125 := Enters.of Tryd.func125 rfl (by kernel_rfl)

/-- texts are written one behind the other until one is refused -/
def wrun (d : Dk) (p : Nat) (t : Nat → List UInt8) : Nat → Dk × Int
  | 0 => (d, 0)
  | k + 1 => if (wrun d p t k).2 = 0 then ((wrun d p t k).1.write ((p + k : Nat) : Int) (t k), (wrun d p t k).1.wErr ((p + k : Nat) : Int) (t k)) else wrun d p t k
theorem wrun_succ {d : Dk} {p : Nat} {t : Nat → List UInt8} {k : Nat} (h : (wrun d p t k).2 = 0) : wrun d p t (k + 1) = ((wrun d p t k).1.write ((p + k : Nat) : Int) (t k), (wrun d p t k).1.wErr ((p + k : Nat) : Int) (t k)) := if_pos h
theorem wrun_stop {d : Dk} {p : Nat} {t : Nat → List UInt8} {k : Nat} (h : ¬ (wrun d p t k).2 = 0) : ∀ n, wrun d p t (k + n) = wrun d p t k
  | 0 => rfl
  | n + 1 => by
    have e := wrun_stop h n
    show (if (wrun d p t (k + n)).2 = 0 then _ else wrun d p t (k + n)) = _
    rw [e, if_neg h]
def wend (d : Dk) (p : Nat) (t : Nat → List UInt8) (n : Nat) : Dk × Int := if (wrun d p t n).2 = 0 then ((wrun d p t n).1.sync, (wrun d p t n).1.sErr) else wrun d p t n
theorem burn_keep (d : Dk) : d.burn.keep = d.keep ∧ d.burn.wait.length ≤ d.wait.length := by
  unfold Dk.burn Dk.cut
  split
  · split
    · exact ⟨rfl, Nat.zero_le _⟩
    · exact ⟨rfl, Nat.le_refl _⟩
  · exact ⟨rfl, Nat.le_refl _⟩
theorem write_keep (d : Dk) (i : Int) (s : List UInt8) : (d.write i s).keep = d.keep ∧ (d.write i s).wait.length ≤ d.wait.length + 1 := by
  have hb := burn_keep d
  unfold Dk.write
  split
  · exact ⟨rfl, Nat.le_succ _⟩
  · split
    · exact ⟨rfl, Nat.le_succ _⟩
    · split
      · exact ⟨hb.1, Nat.le_succ_of_le hb.2⟩
      · refine ⟨hb.1, ?_⟩
        show (d.burn.wait ++ [_]).length ≤ _
        rw [List.length_append]; exact Nat.succ_le_succ hb.2
theorem wrun_ok {d : Dk} (h : d.ok) (p : Nat) (t : Nat → List UInt8) : ∀ k, (wrun d p t k).1.ok ∧ (wrun d p t k).1.wait.length ≤ d.wait.length + k ∧ (wrun d p t k).1.keep = d.keep
  | 0 => ⟨h, Nat.le_refl _, rfl⟩
  | k + 1 => by
    obtain ⟨h1, h2, h3⟩ := wrun_ok h p t k
    by_cases he : (wrun d p t k).2 = 0
    · rw [wrun_succ he]
      have hw := write_keep (wrun d p t k).1 ((p + k : Nat) : Int) (t k)
      exact ⟨h1.write _ _, Nat.le_trans hw.2 (by omega), hw.1.trans h3⟩
    · rw [show k + 1 = k + 1 from rfl, wrun_stop he 1]
      exact ⟨h1, by omega, h3⟩
theorem prt_ok {turn num : UInt64} {s : List UInt8} {n i : Nat} (ht : turn.toNat < 2 ^ (8 * 4)) (hn : num.toNat < 2 ^ (8 * 2)) (h : n ≤ 24) (hi : i < n) : (prt turn num s n i).ok :=
  ⟨ht, hn, by show i < 256; omega, by show n < 256; omega, by show (bname _ _ _).length ≤ 8; rw [bname_len]; exact Nat.le_refl _, by show ((s.drop _).take 39).length ≤ 39; rw [List.length_take]; exact Nat.min_le_left _ _⟩

theorem bwrite_bad_ct (F mm : Hp) (hK : Cells F ⟨1, 0, none⟩ (Sha.K.map W32)) (gb gd : Nat) (first size hat0 : Int) (ht0 : UInt64) (he0 : Int) (Ar0 : Option Addr) (nr0 cr0 : Nat) (bad : Bool) (d : Dk) (C : Option Addr) (f : Nat) (hb : Dsk mm gd d C f) (hok : d.ok) (hn2 : d.wait.length ≤ 1048576) (hKp : Sl F 1 C d.keep.length f (bytesV d.keep)) (hn3 : d.keep.length ≤ 9223372036854775807) (hat : Nat) (hturn : UInt64) (hend : Nat) (Ar : Option Addr) (nr cr : Nat) (R : List (List UInt8)) (hR : R.length = nr) (hRs : Sl F 1 Ar nr cr (strsV R)) (s : List UInt8) (hs : s.length ≤ 900) (n : Nat) (hn : n = partsN s.length) (ht : hturn.toNat < 2 ^ (8 * 4)) (hnr : nr < 65536) (hp : hat + hend ≤ 1048576) (he : ¬ (wend d (hat + hend) (fun i => (prt hturn (UInt64.ofNat nr) s n i).text) n).2 = 0) :
    Ct Tryd.prog 81 [Ptr gb, .agg #[I hat, W64 hturn, I hend, .slice Ar nr cr], Str s] [blk gb [Ptr gd, I first, I size, I hat0, W64 ht0, I he0, .slice Ar0 nr0 cr0, .bool bad] 130, mm, F] (fun _ : Hp => I (wend d (hat + hend) (fun i => (prt hturn (UInt64.ofNat nr) s n i).text) n).2) (fun x => Dsk x gd (wend d (hat + hend) (fun i => (prt hturn (UInt64.ofNat nr) s n i).text) n).1 C f) (fun x => [blk gb [Ptr gd, I first, I size, I hat0, W64 ht0, I he0, .slice Ar0 nr0 cr0, .bool true] 130, x, F]) := by
  have hn24 : n ≤ 24 := hn ▸ partsN_le hs
  have hnum : (UInt64.ofNat nr).toNat < 2 ^ (8 * 2) := by rw [ofNat64 (by omega)]; exact hnr
  refine Ct.walk Tryd.func81 rfl Tryd.ntmps81 rfl (fun w0 hw0 => ?_)
  change J _ [(0, _), (1, _), (2, _)] _ _ _
  refine J.seq (fun K1 hK1 => ?_)
  refine J.region ?_
  refine J.e (op_box (l := [I hat, W64 hturn, I hend, .slice Ar nr cr]) rfl rfl rfl) rfl rfl rfl ?_
  rintro g4 _
  change J _ _ _ [blk gb [Ptr gd, I first, I size, I hat0, W64 ht0, I he0, .slice Ar0 nr0 cr0, .bool bad] 130, mm, F, blk g4 [I hat, W64 hturn, I hend, .slice Ar nr cr] 128] _
  refine J.y (op_assign rfl rfl) rfl rfl rfl ?_
  refine J.nil ?_
  refine J.then_n (J.k hK1 ?_)
  refine J.keepE [(0, _), (2, _), (4, _)] ⟨rfl, rfl, rfl, trivial⟩ ?_
  refine J.seq (fun K2 hK2 => ?_)
  refine J.region ?_
  refine J.y (op_fieldAddr (j := 1) rfl rfl Tryd.underlying128 rfl Tryd.sizeOf108 rfl) rfl rfl rfl ?_
  refine J.y (op_loadB 3 rfl rfl rfl Tryd.isAgg108 rfl) rfl rfl rfl ?_
  refine J.y (op_fieldAddr (j := 3) rfl rfl Tryd.underlying128 rfl Tryd.sizeOf55 rfl) rfl rfl rfl ?_
  refine J.y (op_loadB 3 rfl rfl rfl Tryd.isAgg55 rfl) rfl rfl rfl ?_
  refine J.y (op_len Tryd.underlying55 rfl rfl) rfl rfl rfl ?_
  refine J.y (op_cv_i64_u64 rfl rfl Tryd.underlying3 Tryd.underlying108 (m := nr) (by omega)) rfl rfl rfl ?_
  refine J.y (op_move rfl rfl) rfl rfl rfl ?_
  refine J.e (op_call rfl rfl ent122 (Ct.use (new := fun x : Option Addr × Nat × Hp => [x.2.2]) (fun F' hF => parts_ct F' (hK.mono (hF F (by simp))) hturn (UInt64.ofNat nr) s ht hnum hs n hn))) rfl rfl rfl ?_
  rintro ⟨Ap, cp, mp⟩ hr
  try dsimp only at hr
  change J _ _ _ [blk gb [Ptr gd, I first, I size, I hat0, W64 ht0, I he0, .slice Ar0 nr0 cr0, .bool bad] 130, mm, F, blk g4 [I hat, W64 hturn, I hend, .slice Ar nr cr] 128, mp] _
  refine J.y (op_assign rfl rfl) rfl rfl rfl ?_
  refine J.nil ?_
  refine J.then_n (J.k hK2 ?_)
  refine J.keepE [(0, _), (2, _), (4, _), (7, _)] ⟨rfl, rfl, rfl, rfl, trivial⟩ ?_
  refine J.seq (fun K3 hK3 => ?_)
  refine J.region ?_
  refine J.y (op_assign rfl rfl) rfl rfl rfl ?_
  refine J.nil ?_
  refine J.then_n (J.k hK3 ?_)
  refine J.keepE [(0, _), (2, _), (4, _), (7, _), (8, _)] ⟨rfl, rfl, rfl, rfl, rfl, trivial⟩ ?_
  refine J.cut (fun x : Hp => [(0, Ptr gb), (2, Str s), (4, Ptr g4), (7, .slice Ap n cp), (8, I (wrun d (hat + hend) (fun i => (prt hturn (UInt64.ofNat nr) s n i).text) n).2)]) (fun x => [blk gb [Ptr gd, I first, I size, I hat0, W64 ht0, I he0, .slice Ar0 nr0 cr0, .bool bad] 130, x, F, blk g4 [I hat, W64 hturn, I hend, .slice Ar nr cr] 128, mp]) (fun x => Dsk x gd (wrun d (hat + hend) (fun i => (prt hturn (UInt64.ofNat nr) s n i).text) n).1 C f) (fun K4 hK4 => ?_) ?_
  ·
    refine J.seq (fun K5 hK5 => ?_)
    refine J.region ?_
    refine J.y (op_assign rfl rfl) rfl rfl rfl ?_
    refine J.nil ?_
    refine J.then_n (J.k hK5 ?_)
    refine J.keepE [(0, _), (2, _), (4, _), (7, _), (8, _), (9, _)] ⟨rfl, rfl, rfl, rfl, rfl, rfl, trivial⟩ ?_
    refine J.block ?_
    refine J.loop (X := Nat × Hp) (fun x => [(0, Ptr gb), (2, Str s), (4, Ptr g4), (7, .slice Ap n cp), (8, I (wrun d (hat + hend) (fun i => (prt hturn (UInt64.ofNat nr) s n i).text) x.1).2), (9, I x.1)]) (fun x => [blk gb [Ptr gd, I first, I size, I hat0, W64 ht0, I he0, .slice Ar0 nr0 cr0, .bool bad] 130, x.2, F, blk g4 [I hat, W64 hturn, I hend, .slice Ar nr cr] 128, mp]) (fun x => x.1 ≤ n ∧ Dsk x.2 gd (wrun d (hat + hend) (fun i => (prt hturn (UInt64.ofNat nr) s n i).text) x.1).1 C f) (fun x => n - x.1) (0, mm) (⟨Nat.zero_le _, hb⟩) ⟨rfl, rfl, rfl, rfl, rfl, rfl, trivial⟩ (fun _ h => h) ?_
    rintro ⟨k, m⟩ ⟨hk, hd⟩ I0 hI0
    dsimp only at hk hd ⊢
    refine J.seq (fun K6 hK6 => ?_)
    refine J.seq (fun K7 hK7 => ?_)
    refine J.region ?_
    refine J.y (op_move rfl rfl) rfl rfl rfl ?_
    refine J.y (op_move rfl rfl) rfl rfl rfl ?_
    refine J.y (op_len Tryd.underlying180 rfl rfl) rfl rfl rfl ?_
    refine J.y (op_lss rfl rfl rfl) rfl rfl rfl ?_
    refine J.y (op_move rfl rfl) rfl rfl rfl ?_
    refine J.split (d := 22) rfl (fun h22 => ?_) (fun h22 => ?_)
    ·
      refine J.yg (Wan.is rfl rfl rfl rfl rfl) (op_move rfl rfl) rfl rfl ?_
      refine J.yg (Wan.is rfl rfl rfl rfl rfl) (op_eql rfl rfl rfl) rfl rfl ?_
      refine J.y (op_pickT rfl rfl rfl) rfl rfl rfl ?_
      refine J.nil ?_
      refine J.then_n (J.k hK7 ?_)
      refine J.keepE [(0, _), (2, _), (4, _), (7, _), (8, _), (9, _), (25, _)] ⟨rfl, rfl, rfl, rfl, rfl, rfl, rfl, trivial⟩ ?_
      refine J.ite rfl (fun h25 => ?_) (fun h25 => ?_)
      ·
        refine J.skip ?_
        refine J.then_n (J.k hK6 ?_)
        refine J.keepE [(0, _), (2, _), (4, _), (7, _), (9, _)] ⟨rfl, rfl, rfl, rfl, rfl, trivial⟩ ?_
        refine J.seq (fun K8 hK8 => ?_)
        refine J.block ?_
        have hkn : k < n := by omega
        have hw := wrun_ok hok (hat + hend) (fun i => (prt hturn (UInt64.ofNat nr) s n i).text) k
        refine J.draw [blk gb [Ptr gd, I first, I size, I hat0, W64 ht0, I he0, .slice Ar0 nr0 cr0, .bool bad] 130, blk g4 [I hat, W64 hturn, I hend, .slice Ar nr cr] 128, F, mp] [] (.y 0 (.y 1 (.y 2 (.y 3 (.y 4 (.y 5 (.y 6 (.y 7 (.y 8 (.y 9 (.y 10 (.y 11 (.y 12 (.y 13 (.y 14 (.e 15 (.e 16 (.y 17 .nil)))))))))))))))))) Tryd.wide (by decide +kernel) (by simp) ?_
        refine J.dy rfl (op_move rfl rfl) rfl rfl rfl rfl ?_
        refine J.dy rfl (op_nilCheck rfl rfl) rfl rfl rfl rfl ?_
        refine J.dy rfl (op_fieldAddr (j := 0) rfl rfl Tryd.underlying130 rfl Tryd.sizeOf64 rfl) rfl rfl rfl rfl ?_
        refine J.dy rfl (op_loadB 0 rfl rfl rfl Tryd.isAgg64 rfl) rfl rfl rfl rfl ?_
        refine J.dy rfl (op_fieldAddr (j := 0) rfl rfl Tryd.underlying128 rfl Tryd.sizeOf3 rfl) rfl rfl rfl rfl ?_
        refine J.dy rfl (op_loadB 1 rfl rfl rfl Tryd.isAgg3 rfl) rfl rfl rfl rfl ?_
        refine J.dy rfl (op_fieldAddr (j := 2) rfl rfl Tryd.underlying128 rfl Tryd.sizeOf3 rfl) rfl rfl rfl rfl ?_
        refine J.dy rfl (op_loadB 1 rfl rfl rfl Tryd.isAgg3 rfl) rfl rfl rfl rfl ?_
        refine J.dy rfl ((op_add rfl rfl rfl (by first | omega | (refine ⟨?_, ?_⟩ <;> omega))).as (v' := I ((hat + hend : Nat) : Int)) (congrArg I (by omega))) rfl rfl rfl rfl ?_
        refine J.dy rfl (op_move rfl rfl) rfl rfl rfl rfl ?_
        refine J.dy rfl ((op_add rfl rfl rfl (by first | omega | (refine ⟨?_, ?_⟩ <;> omega))).as (v' := I ((hat + hend + k : Nat) : Int)) (congrArg I (by omega))) rfl rfl rfl rfl ?_
        refine J.dy rfl (op_move rfl rfl) rfl rfl rfl rfl ?_
        refine J.dy rfl (op_move rfl rfl) rfl rfl rfl rfl ?_
        refine J.dy rfl (op_indexAddr (i := k) rfl rfl rfl Tryd.underlying180 Tryd.sizeOf184 hr.sl (by omega)) rfl rfl rfl rfl ?_
        refine J.dy rfl (op_loadA rfl rfl Tryd.isAgg184 Tryd.sizeOf184 (m := mp) (by simp) (vs := (prt hturn (UInt64.ofNat nr) s n k).cells) (hr.sl.elem (prtsV_get hkn)) rfl) rfl rfl rfl rfl ?_
        refine J.de rfl (op_call rfl rfl ent124 (Ct.use0 (fun F' hF => ptext_ct F' (hK.mono (hF F (by simp))) (prt hturn (UInt64.ofNat nr) s n k) (prt_ok ht hnum hn24 hkn)))) rfl rfl rfl (by simp) ?_
        intro g43 _
        refine J.de rfl (op_call rfl rfl ent123 (Ct.use1 1 (m' := fun x : Hp => x) (new := fun _ => []) rfl (fun F' hF => write_ct F' m gd (wrun d (hat + hend) (fun i => (prt hturn (UInt64.ofNat nr) s n i).text) k).1 C f hd hw.1 (by have := hw.2.1; omega) (by rw [hw.2.2]; exact hKp.mono (hF F (by simp))) (by rw [hw.2.2]; exact hn3) ((hat + hend + k : Nat) : Int) (prt hturn (UInt64.ofNat nr) s n k).text (by rw [Prt.text_len (prt_ok ht hnum hn24 hkn)]; decide)))) rfl rfl rfl (by simp) ?_
        rintro m44 hd44
        change J _ _ _ [blk gb [Ptr gd, I first, I size, I hat0, W64 ht0, I he0, .slice Ar0 nr0 cr0, .bool bad] 130, m44, F, blk g4 [I hat, W64 hturn, I hend, .slice Ar nr cr] 128, mp] _
        refine J.dy rfl (op_assign rfl rfl) rfl rfl rfl rfl ?_
        refine J.dnil ?_
        refine J.blk_n ?_
        refine J.then_n (J.k hK8 ?_)
        refine J.keepE [(0, _), (2, _), (4, _), (7, _), (8, _), (9, _)] ⟨rfl, rfl, rfl, rfl, rfl, rfl, trivial⟩ ?_
        refine J.region ?_
        refine J.y (op_move rfl rfl) rfl rfl rfl ?_
        refine J.y ((op_add rfl rfl rfl (by first | omega | (refine ⟨?_, ?_⟩ <;> omega))).as (v' := I ((k + 1 : Nat) : Int)) (congrArg I (by omega))) rfl rfl rfl ?_
        refine J.y (op_assign rfl rfl) rfl rfl rfl ?_
        refine J.nil ?_
        refine J.then_n ?_
        have hsu := wrun_succ (show (wrun d (hat + hend) (fun i => (prt hturn (UInt64.ofNat nr) s n i).text) k).2 = 0 from by omega)
        exact J.kk (k + 1, m44) (fun y (hy : _ ∧ n - y.1 < n - k) => hI0 y hy.1 hy.2) ⟨⟨by dsimp only; omega, by dsimp only; rw [hsu]; exact hd44⟩, by dsimp only; omega⟩ ⟨rfl, rfl, rfl, rfl, by dsimp only; rw [hsu]; rfl, rfl, trivial⟩ (fun _ h => h)
      ·
        refine J.exit ?_
        refine J.then_x ?_
        refine J.then_x ?_
        refine J.blk_eq ?_
        refine J.then_n ?_
        have hst := wrun_stop (d := d) (p := hat + hend) (t := (fun i => (prt hturn (UInt64.ofNat nr) s n i).text)) (k := k) (by omega) (n - k)
        rw [show k + (n - k) = n by omega] at hst
        exact J.kk m hK4 (by rw [hst]; exact hd) ⟨rfl, rfl, rfl, rfl, by rw [hst]; rfl, trivial⟩ (fun _ h => h)
    ·
      refine J.no (Wan.is rfl rfl rfl rfl rfl) rfl rfl ?_
      refine J.no (Wan.is rfl rfl rfl rfl rfl) rfl rfl ?_
      refine J.y (op_pickF rfl rfl rfl) rfl rfl rfl ?_
      refine J.nil ?_
      refine J.then_n (J.k hK7 ?_)
      refine J.keepE [(0, _), (2, _), (4, _), (7, _), (8, _), (9, _), (25, _)] ⟨rfl, rfl, rfl, rfl, rfl, rfl, rfl, trivial⟩ ?_
      refine J.condF rfl rfl ?_
      refine J.exit ?_
      refine J.then_x ?_
      refine J.then_x ?_
      refine J.blk_eq ?_
      refine J.then_n ?_
      have hkk : k = n := by omega
      subst hkk
      exact J.kk m hK4 hd ⟨rfl, rfl, rfl, rfl, rfl, trivial⟩ (fun _ h => h)
  intro m hd
  refine J.cut (fun x : Hp => [(0, Ptr gb), (2, Str s), (4, Ptr g4), (7, .slice Ap n cp), (8, I (wend d (hat + hend) (fun i => (prt hturn (UInt64.ofNat nr) s n i).text) n).2)]) (fun x => [blk gb [Ptr gd, I first, I size, I hat0, W64 ht0, I he0, .slice Ar0 nr0 cr0, .bool bad] 130, x, F, blk g4 [I hat, W64 hturn, I hend, .slice Ar nr cr] 128, mp]) (fun x => Dsk x gd (wend d (hat + hend) (fun i => (prt hturn (UInt64.ofNat nr) s n i).text) n).1 C f) (fun K9 hK9 => ?_) ?_
  ·
    refine J.seq (fun K10 hK10 => ?_)
    have hw := wrun_ok hok (hat + hend) (fun i => (prt hturn (UInt64.ofNat nr) s n i).text) n
    refine J.region ?_
    refine J.y (op_move rfl rfl) rfl rfl rfl ?_
    refine J.y (op_eql rfl rfl rfl) rfl rfl rfl ?_
    refine J.nil ?_
    refine J.then_n (J.k hK10 ?_)
    refine J.keepE [(0, _), (2, _), (4, _), (7, _), (8, _), (46, _)] ⟨rfl, rfl, rfl, rfl, rfl, rfl, trivial⟩ ?_
    refine J.ite rfl (fun h46 => ?_) (fun h46 => ?_)
    ·
      refine J.region ?_
      refine J.y (op_move rfl rfl) rfl rfl rfl ?_
      refine J.y (op_nilCheck rfl rfl) rfl rfl rfl ?_
      refine J.y (op_fieldAddr (j := 0) rfl rfl Tryd.underlying130 rfl Tryd.sizeOf64 rfl) rfl rfl rfl ?_
      refine J.y (op_loadB 0 rfl rfl rfl Tryd.isAgg64 rfl) rfl rfl rfl ?_
      refine J.e (op_call rfl rfl ent125 (Ct.use1 1 (m' := fun x : Hp => x) (new := fun _ => []) rfl (fun F' hF => sync_ct F' m gd (wrun d (hat + hend) (fun i => (prt hturn (UInt64.ofNat nr) s n i).text) n).1 C f hd hw.1 (by have := hw.2.1; omega) (by rw [hw.2.2]; exact hKp.mono (hF F (by simp))) (by rw [hw.2.2]; exact hn3)))) rfl rfl rfl ?_
      rintro m51 hd51
      change J _ _ _ [blk gb [Ptr gd, I first, I size, I hat0, W64 ht0, I he0, .slice Ar0 nr0 cr0, .bool bad] 130, m51, F, blk g4 [I hat, W64 hturn, I hend, .slice Ar nr cr] 128, mp] _
      refine J.y (op_assign rfl rfl) rfl rfl rfl ?_
      refine J.nil ?_
      refine J.then_n ?_
      have hst : (wend d (hat + hend) (fun i => (prt hturn (UInt64.ofNat nr) s n i).text) n) = ((wrun d (hat + hend) (fun i => (prt hturn (UInt64.ofNat nr) s n i).text) n).1.sync, (wrun d (hat + hend) (fun i => (prt hturn (UInt64.ofNat nr) s n i).text) n).1.sErr) := if_pos (by omega)
      exact J.kk m51 hK9 (by rw [hst]; exact hd51) ⟨rfl, rfl, rfl, rfl, by rw [hst]; rfl, trivial⟩ (fun _ h => h)
    ·
      refine J.skip ?_
      refine J.then_n ?_
      have hst : (wend d (hat + hend) (fun i => (prt hturn (UInt64.ofNat nr) s n i).text) n) = (wrun d (hat + hend) (fun i => (prt hturn (UInt64.ofNat nr) s n i).text) n) := if_neg (by omega)
      exact J.kk m hK9 (by rw [hst]; exact hd) ⟨rfl, rfl, rfl, rfl, by rw [hst]; rfl, trivial⟩ (fun _ h => h)
  intro m hd
  refine J.seq (fun K11 hK11 => ?_)
  refine J.seq (fun K12 hK12 => ?_)
  refine J.region ?_
  refine J.y (op_move rfl rfl) rfl rfl rfl ?_
  refine J.y ((op_neq rfl rfl rfl).as (v' := .bool true) (congrArg Value.bool (decide_eq_true (by omega)))) rfl rfl rfl ?_
  refine J.nil ?_
  refine J.then_n (J.k hK12 ?_)
  refine J.keepE [(0, _), (2, _), (4, _), (7, _), (8, _), (53, _)] ⟨rfl, rfl, rfl, rfl, rfl, rfl, trivial⟩ ?_
  refine J.condT rfl rfl ?_
  refine J.seq (fun K13 hK13 => ?_)
  refine J.region ?_
  refine J.y (op_move rfl rfl) rfl rfl rfl ?_
  refine J.y (op_nilCheck rfl rfl) rfl rfl rfl ?_
  refine J.y (op_fieldAddr (j := 7) rfl rfl Tryd.underlying130 rfl Tryd.sizeOf4 rfl) rfl rfl rfl ?_
  refine J.s (op_store (i := 0) (vs := [.bool true]) rfl rfl rfl rfl rfl Tryd.sizeOf4 rfl (by simp)) rfl rfl (fun _ _ => ?_)
  change J _ _ _ [blk gb [Ptr gd, I first, I size, I hat0, W64 ht0, I he0, .slice Ar0 nr0 cr0, .bool true] 130, m, F, blk g4 [I hat, W64 hturn, I hend, .slice Ar nr cr] 128, mp] _
  refine J.nil ?_
  refine J.then_n (J.k hK13 ?_)
  refine J.keepE [(8, _)] ⟨rfl, trivial⟩ ?_
  refine J.seq (fun K14 hK14 => ?_)
  refine J.region ?_
  refine J.y (op_move rfl rfl) rfl rfl rfl ?_
  refine J.y (op_assign rfl rfl) rfl rfl rfl ?_
  refine J.nil ?_
  refine J.then_n (J.k hK14 ?_)
  refine J.keepE [(6, _)] ⟨rfl, trivial⟩ ?_
  refine J.ret ?_
  refine J.then_r ?_
  exact J.done hw0 (fun _ _ h => h) (res1 rfl rfl) (retOk m rfl hd [0, 1, 2] rfl (by decide))

theorem bwrite_good_ct (F mm : Hp) (hK : Cells F ⟨1, 0, none⟩ (Sha.K.map W32)) (gb gd : Nat) (first size hat0 : Int) (ht0 : UInt64) (he0 : Int) (Ar0 : Option Addr) (nr0 cr0 : Nat) (bad : Bool) (d : Dk) (C : Option Addr) (f : Nat) (hb : Dsk mm gd d C f) (hok : d.ok) (hn2 : d.wait.length ≤ 1048576) (hKp : Sl F 1 C d.keep.length f (bytesV d.keep)) (hn3 : d.keep.length ≤ 9223372036854775807) (hat : Nat) (hturn : UInt64) (hend : Nat) (Ar : Option Addr) (nr cr : Nat) (R : List (List UInt8)) (hR : R.length = nr) (hRs : Sl F 1 Ar nr cr (strsV R)) (s : List UInt8) (hs : s.length ≤ 900) (n : Nat) (hn : n = partsN s.length) (ht : hturn.toNat < 2 ^ (8 * 4)) (hnr : nr < 65536) (hp : hat + hend ≤ 1048576) (he : (wend d (hat + hend) (fun i => (prt hturn (UInt64.ofNat nr) s n i).text) n).2 = 0) :
    Ct Tryd.prog 81 [Ptr gb, .agg #[I hat, W64 hturn, I hend, .slice Ar nr cr], Str s] [blk gb [Ptr gd, I first, I size, I hat0, W64 ht0, I he0, .slice Ar0 nr0 cr0, .bool bad] 130, mm, F] (fun _ : Hp × Option Addr × Nat × Hp => I 0) (fun x => Dsk x.1 gd (wend d (hat + hend) (fun i => (prt hturn (UInt64.ofNat nr) s n i).text) n).1 C f ∧ Row x.2.2.2 9 1 x.2.1 (nr + 1) x.2.2.1 (strsV (R ++ [s]))) (fun x => [blk gb [Ptr gd, I first, I size, I hat, W64 hturn, I ((hend + n : Nat) : Int), .slice x.2.1 (nr + 1) x.2.2.1, .bool bad] 130, x.1, F, x.2.2.2]) := by
  have hn24 : n ≤ 24 := hn ▸ partsN_le hs
  have hnum : (UInt64.ofNat nr).toNat < 2 ^ (8 * 2) := by rw [ofNat64 (by omega)]; exact hnr
  refine Ct.walk Tryd.func81 rfl Tryd.ntmps81 rfl (fun w0 hw0 => ?_)
  change J _ [(0, _), (1, _), (2, _)] _ _ _
  refine J.seq (fun K1 hK1 => ?_)
  refine J.region ?_
  refine J.e (op_box (l := [I hat, W64 hturn, I hend, .slice Ar nr cr]) rfl rfl rfl) rfl rfl rfl ?_
  rintro g4 _
  change J _ _ _ [blk gb [Ptr gd, I first, I size, I hat0, W64 ht0, I he0, .slice Ar0 nr0 cr0, .bool bad] 130, mm, F, blk g4 [I hat, W64 hturn, I hend, .slice Ar nr cr] 128] _
  refine J.y (op_assign rfl rfl) rfl rfl rfl ?_
  refine J.nil ?_
  refine J.then_n (J.k hK1 ?_)
  refine J.keepE [(0, _), (2, _), (4, _)] ⟨rfl, rfl, rfl, trivial⟩ ?_
  refine J.seq (fun K2 hK2 => ?_)
  refine J.region ?_
  refine J.y (op_fieldAddr (j := 1) rfl rfl Tryd.underlying128 rfl Tryd.sizeOf108 rfl) rfl rfl rfl ?_
  refine J.y (op_loadB 3 rfl rfl rfl Tryd.isAgg108 rfl) rfl rfl rfl ?_
  refine J.y (op_fieldAddr (j := 3) rfl rfl Tryd.underlying128 rfl Tryd.sizeOf55 rfl) rfl rfl rfl ?_
  refine J.y (op_loadB 3 rfl rfl rfl Tryd.isAgg55 rfl) rfl rfl rfl ?_
  refine J.y (op_len Tryd.underlying55 rfl rfl) rfl rfl rfl ?_
  refine J.y (op_cv_i64_u64 rfl rfl Tryd.underlying3 Tryd.underlying108 (m := nr) (by omega)) rfl rfl rfl ?_
  refine J.y (op_move rfl rfl) rfl rfl rfl ?_
  refine J.e (op_call rfl rfl ent122 (Ct.use (new := fun x : Option Addr × Nat × Hp => [x.2.2]) (fun F' hF => parts_ct F' (hK.mono (hF F (by simp))) hturn (UInt64.ofNat nr) s ht hnum hs n hn))) rfl rfl rfl ?_
  rintro ⟨Ap, cp, mp⟩ hr
  try dsimp only at hr
  change J _ _ _ [blk gb [Ptr gd, I first, I size, I hat0, W64 ht0, I he0, .slice Ar0 nr0 cr0, .bool bad] 130, mm, F, blk g4 [I hat, W64 hturn, I hend, .slice Ar nr cr] 128, mp] _
  refine J.y (op_assign rfl rfl) rfl rfl rfl ?_
  refine J.nil ?_
  refine J.then_n (J.k hK2 ?_)
  refine J.keepE [(0, _), (2, _), (4, _), (7, _)] ⟨rfl, rfl, rfl, rfl, trivial⟩ ?_
  refine J.seq (fun K3 hK3 => ?_)
  refine J.region ?_
  refine J.y (op_assign rfl rfl) rfl rfl rfl ?_
  refine J.nil ?_
  refine J.then_n (J.k hK3 ?_)
  refine J.keepE [(0, _), (2, _), (4, _), (7, _), (8, _)] ⟨rfl, rfl, rfl, rfl, rfl, trivial⟩ ?_
  refine J.cut (fun x : Hp => [(0, Ptr gb), (2, Str s), (4, Ptr g4), (7, .slice Ap n cp), (8, I (wrun d (hat + hend) (fun i => (prt hturn (UInt64.ofNat nr) s n i).text) n).2)]) (fun x => [blk gb [Ptr gd, I first, I size, I hat0, W64 ht0, I he0, .slice Ar0 nr0 cr0, .bool bad] 130, x, F, blk g4 [I hat, W64 hturn, I hend, .slice Ar nr cr] 128, mp]) (fun x => Dsk x gd (wrun d (hat + hend) (fun i => (prt hturn (UInt64.ofNat nr) s n i).text) n).1 C f) (fun K4 hK4 => ?_) ?_
  ·
    refine J.seq (fun K5 hK5 => ?_)
    refine J.region ?_
    refine J.y (op_assign rfl rfl) rfl rfl rfl ?_
    refine J.nil ?_
    refine J.then_n (J.k hK5 ?_)
    refine J.keepE [(0, _), (2, _), (4, _), (7, _), (8, _), (9, _)] ⟨rfl, rfl, rfl, rfl, rfl, rfl, trivial⟩ ?_
    refine J.block ?_
    refine J.loop (X := Nat × Hp) (fun x => [(0, Ptr gb), (2, Str s), (4, Ptr g4), (7, .slice Ap n cp), (8, I (wrun d (hat + hend) (fun i => (prt hturn (UInt64.ofNat nr) s n i).text) x.1).2), (9, I x.1)]) (fun x => [blk gb [Ptr gd, I first, I size, I hat0, W64 ht0, I he0, .slice Ar0 nr0 cr0, .bool bad] 130, x.2, F, blk g4 [I hat, W64 hturn, I hend, .slice Ar nr cr] 128, mp]) (fun x => x.1 ≤ n ∧ Dsk x.2 gd (wrun d (hat + hend) (fun i => (prt hturn (UInt64.ofNat nr) s n i).text) x.1).1 C f) (fun x => n - x.1) (0, mm) (⟨Nat.zero_le _, hb⟩) ⟨rfl, rfl, rfl, rfl, rfl, rfl, trivial⟩ (fun _ h => h) ?_
    rintro ⟨k, m⟩ ⟨hk, hd⟩ I0 hI0
    dsimp only at hk hd ⊢
    refine J.seq (fun K6 hK6 => ?_)
    refine J.seq (fun K7 hK7 => ?_)
    refine J.region ?_
    refine J.y (op_move rfl rfl) rfl rfl rfl ?_
    refine J.y (op_move rfl rfl) rfl rfl rfl ?_
    refine J.y (op_len Tryd.underlying180 rfl rfl) rfl rfl rfl ?_
    refine J.y (op_lss rfl rfl rfl) rfl rfl rfl ?_
    refine J.y (op_move rfl rfl) rfl rfl rfl ?_
    refine J.split (d := 22) rfl (fun h22 => ?_) (fun h22 => ?_)
    ·
      refine J.yg (Wan.is rfl rfl rfl rfl rfl) (op_move rfl rfl) rfl rfl ?_
      refine J.yg (Wan.is rfl rfl rfl rfl rfl) (op_eql rfl rfl rfl) rfl rfl ?_
      refine J.y (op_pickT rfl rfl rfl) rfl rfl rfl ?_
      refine J.nil ?_
      refine J.then_n (J.k hK7 ?_)
      refine J.keepE [(0, _), (2, _), (4, _), (7, _), (8, _), (9, _), (25, _)] ⟨rfl, rfl, rfl, rfl, rfl, rfl, rfl, trivial⟩ ?_
      refine J.ite rfl (fun h25 => ?_) (fun h25 => ?_)
      ·
        refine J.skip ?_
        refine J.then_n (J.k hK6 ?_)
        refine J.keepE [(0, _), (2, _), (4, _), (7, _), (9, _)] ⟨rfl, rfl, rfl, rfl, rfl, trivial⟩ ?_
        refine J.seq (fun K8 hK8 => ?_)
        refine J.block ?_
        have hkn : k < n := by omega
        have hw := wrun_ok hok (hat + hend) (fun i => (prt hturn (UInt64.ofNat nr) s n i).text) k
        refine J.draw [blk gb [Ptr gd, I first, I size, I hat0, W64 ht0, I he0, .slice Ar0 nr0 cr0, .bool bad] 130, blk g4 [I hat, W64 hturn, I hend, .slice Ar nr cr] 128, F, mp] [] (.y 0 (.y 1 (.y 2 (.y 3 (.y 4 (.y 5 (.y 6 (.y 7 (.y 8 (.y 9 (.y 10 (.y 11 (.y 12 (.y 13 (.y 14 (.e 15 (.e 16 (.y 17 .nil)))))))))))))))))) Tryd.wide (by decide +kernel) (by simp) ?_
        refine J.dy rfl (op_move rfl rfl) rfl rfl rfl rfl ?_
        refine J.dy rfl (op_nilCheck rfl rfl) rfl rfl rfl rfl ?_
        refine J.dy rfl (op_fieldAddr (j := 0) rfl rfl Tryd.underlying130 rfl Tryd.sizeOf64 rfl) rfl rfl rfl rfl ?_
        refine J.dy rfl (op_loadB 0 rfl rfl rfl Tryd.isAgg64 rfl) rfl rfl rfl rfl ?_
        refine J.dy rfl (op_fieldAddr (j := 0) rfl rfl Tryd.underlying128 rfl Tryd.sizeOf3 rfl) rfl rfl rfl rfl ?_
        refine J.dy rfl (op_loadB 1 rfl rfl rfl Tryd.isAgg3 rfl) rfl rfl rfl rfl ?_
        refine J.dy rfl (op_fieldAddr (j := 2) rfl rfl Tryd.underlying128 rfl Tryd.sizeOf3 rfl) rfl rfl rfl rfl ?_
        refine J.dy rfl (op_loadB 1 rfl rfl rfl Tryd.isAgg3 rfl) rfl rfl rfl rfl ?_
        refine J.dy rfl ((op_add rfl rfl rfl (by first | omega | (refine ⟨?_, ?_⟩ <;> omega))).as (v' := I ((hat + hend : Nat) : Int)) (congrArg I (by omega))) rfl rfl rfl rfl ?_
        refine J.dy rfl (op_move rfl rfl) rfl rfl rfl rfl ?_
        refine J.dy rfl ((op_add rfl rfl rfl (by first | omega | (refine ⟨?_, ?_⟩ <;> omega))).as (v' := I ((hat + hend + k : Nat) : Int)) (congrArg I (by omega))) rfl rfl rfl rfl ?_
        refine J.dy rfl (op_move rfl rfl) rfl rfl rfl rfl ?_
        refine J.dy rfl (op_move rfl rfl) rfl rfl rfl rfl ?_
        refine J.dy rfl (op_indexAddr (i := k) rfl rfl rfl Tryd.underlying180 Tryd.sizeOf184 hr.sl (by omega)) rfl rfl rfl rfl ?_
        refine J.dy rfl (op_loadA rfl rfl Tryd.isAgg184 Tryd.sizeOf184 (m := mp) (by simp) (vs := (prt hturn (UInt64.ofNat nr) s n k).cells) (hr.sl.elem (prtsV_get hkn)) rfl) rfl rfl rfl rfl ?_
        refine J.de rfl (op_call rfl rfl ent124 (Ct.use0 (fun F' hF => ptext_ct F' (hK.mono (hF F (by simp))) (prt hturn (UInt64.ofNat nr) s n k) (prt_ok ht hnum hn24 hkn)))) rfl rfl rfl (by simp) ?_
        intro g43 _
        refine J.de rfl (op_call rfl rfl ent123 (Ct.use1 1 (m' := fun x : Hp => x) (new := fun _ => []) rfl (fun F' hF => write_ct F' m gd (wrun d (hat + hend) (fun i => (prt hturn (UInt64.ofNat nr) s n i).text) k).1 C f hd hw.1 (by have := hw.2.1; omega) (by rw [hw.2.2]; exact hKp.mono (hF F (by simp))) (by rw [hw.2.2]; exact hn3) ((hat + hend + k : Nat) : Int) (prt hturn (UInt64.ofNat nr) s n k).text (by rw [Prt.text_len (prt_ok ht hnum hn24 hkn)]; decide)))) rfl rfl rfl (by simp) ?_
        rintro m44 hd44
        change J _ _ _ [blk gb [Ptr gd, I first, I size, I hat0, W64 ht0, I he0, .slice Ar0 nr0 cr0, .bool bad] 130, m44, F, blk g4 [I hat, W64 hturn, I hend, .slice Ar nr cr] 128, mp] _
        refine J.dy rfl (op_assign rfl rfl) rfl rfl rfl rfl ?_
        refine J.dnil ?_
        refine J.blk_n ?_
        refine J.then_n (J.k hK8 ?_)
        refine J.keepE [(0, _), (2, _), (4, _), (7, _), (8, _), (9, _)] ⟨rfl, rfl, rfl, rfl, rfl, rfl, trivial⟩ ?_
        refine J.region ?_
        refine J.y (op_move rfl rfl) rfl rfl rfl ?_
        refine J.y ((op_add rfl rfl rfl (by first | omega | (refine ⟨?_, ?_⟩ <;> omega))).as (v' := I ((k + 1 : Nat) : Int)) (congrArg I (by omega))) rfl rfl rfl ?_
        refine J.y (op_assign rfl rfl) rfl rfl rfl ?_
        refine J.nil ?_
        refine J.then_n ?_
        have hsu := wrun_succ (show (wrun d (hat + hend) (fun i => (prt hturn (UInt64.ofNat nr) s n i).text) k).2 = 0 from by omega)
        exact J.kk (k + 1, m44) (fun y (hy : _ ∧ n - y.1 < n - k) => hI0 y hy.1 hy.2) ⟨⟨by dsimp only; omega, by dsimp only; rw [hsu]; exact hd44⟩, by dsimp only; omega⟩ ⟨rfl, rfl, rfl, rfl, by dsimp only; rw [hsu]; rfl, rfl, trivial⟩ (fun _ h => h)
      ·
        refine J.exit ?_
        refine J.then_x ?_
        refine J.then_x ?_
        refine J.blk_eq ?_
        refine J.then_n ?_
        have hst := wrun_stop (d := d) (p := hat + hend) (t := (fun i => (prt hturn (UInt64.ofNat nr) s n i).text)) (k := k) (by omega) (n - k)
        rw [show k + (n - k) = n by omega] at hst
        exact J.kk m hK4 (by rw [hst]; exact hd) ⟨rfl, rfl, rfl, rfl, by rw [hst]; rfl, trivial⟩ (fun _ h => h)
    ·
      refine J.no (Wan.is rfl rfl rfl rfl rfl) rfl rfl ?_
      refine J.no (Wan.is rfl rfl rfl rfl rfl) rfl rfl ?_
      refine J.y (op_pickF rfl rfl rfl) rfl rfl rfl ?_
      refine J.nil ?_
      refine J.then_n (J.k hK7 ?_)
      refine J.keepE [(0, _), (2, _), (4, _), (7, _), (8, _), (9, _), (25, _)] ⟨rfl, rfl, rfl, rfl, rfl, rfl, rfl, trivial⟩ ?_
      refine J.condF rfl rfl ?_
      refine J.exit ?_
      refine J.then_x ?_
      refine J.then_x ?_
      refine J.blk_eq ?_
      refine J.then_n ?_
      have hkk : k = n := by omega
      subst hkk
      exact J.kk m hK4 hd ⟨rfl, rfl, rfl, rfl, rfl, trivial⟩ (fun _ h => h)
  intro m hd
  refine J.cut (fun x : Hp => [(0, Ptr gb), (2, Str s), (4, Ptr g4), (7, .slice Ap n cp), (8, I (wend d (hat + hend) (fun i => (prt hturn (UInt64.ofNat nr) s n i).text) n).2)]) (fun x => [blk gb [Ptr gd, I first, I size, I hat0, W64 ht0, I he0, .slice Ar0 nr0 cr0, .bool bad] 130, x, F, blk g4 [I hat, W64 hturn, I hend, .slice Ar nr cr] 128, mp]) (fun x => Dsk x gd (wend d (hat + hend) (fun i => (prt hturn (UInt64.ofNat nr) s n i).text) n).1 C f) (fun K9 hK9 => ?_) ?_
  ·
    refine J.seq (fun K10 hK10 => ?_)
    have hw := wrun_ok hok (hat + hend) (fun i => (prt hturn (UInt64.ofNat nr) s n i).text) n
    refine J.region ?_
    refine J.y (op_move rfl rfl) rfl rfl rfl ?_
    refine J.y (op_eql rfl rfl rfl) rfl rfl rfl ?_
    refine J.nil ?_
    refine J.then_n (J.k hK10 ?_)
    refine J.keepE [(0, _), (2, _), (4, _), (7, _), (8, _), (46, _)] ⟨rfl, rfl, rfl, rfl, rfl, rfl, trivial⟩ ?_
    refine J.ite rfl (fun h46 => ?_) (fun h46 => ?_)
    ·
      refine J.region ?_
      refine J.y (op_move rfl rfl) rfl rfl rfl ?_
      refine J.y (op_nilCheck rfl rfl) rfl rfl rfl ?_
      refine J.y (op_fieldAddr (j := 0) rfl rfl Tryd.underlying130 rfl Tryd.sizeOf64 rfl) rfl rfl rfl ?_
      refine J.y (op_loadB 0 rfl rfl rfl Tryd.isAgg64 rfl) rfl rfl rfl ?_
      refine J.e (op_call rfl rfl ent125 (Ct.use1 1 (m' := fun x : Hp => x) (new := fun _ => []) rfl (fun F' hF => sync_ct F' m gd (wrun d (hat + hend) (fun i => (prt hturn (UInt64.ofNat nr) s n i).text) n).1 C f hd hw.1 (by have := hw.2.1; omega) (by rw [hw.2.2]; exact hKp.mono (hF F (by simp))) (by rw [hw.2.2]; exact hn3)))) rfl rfl rfl ?_
      rintro m51 hd51
      change J _ _ _ [blk gb [Ptr gd, I first, I size, I hat0, W64 ht0, I he0, .slice Ar0 nr0 cr0, .bool bad] 130, m51, F, blk g4 [I hat, W64 hturn, I hend, .slice Ar nr cr] 128, mp] _
      refine J.y (op_assign rfl rfl) rfl rfl rfl ?_
      refine J.nil ?_
      refine J.then_n ?_
      have hst : (wend d (hat + hend) (fun i => (prt hturn (UInt64.ofNat nr) s n i).text) n) = ((wrun d (hat + hend) (fun i => (prt hturn (UInt64.ofNat nr) s n i).text) n).1.sync, (wrun d (hat + hend) (fun i => (prt hturn (UInt64.ofNat nr) s n i).text) n).1.sErr) := if_pos (by omega)
      exact J.kk m51 hK9 (by rw [hst]; exact hd51) ⟨rfl, rfl, rfl, rfl, by rw [hst]; rfl, trivial⟩ (fun _ h => h)
    ·
      refine J.skip ?_
      refine J.then_n ?_
      have hst : (wend d (hat + hend) (fun i => (prt hturn (UInt64.ofNat nr) s n i).text) n) = (wrun d (hat + hend) (fun i => (prt hturn (UInt64.ofNat nr) s n i).text) n) := if_neg (by omega)
      exact J.kk m hK9 (by rw [hst]; exact hd) ⟨rfl, rfl, rfl, rfl, by rw [hst]; rfl, trivial⟩ (fun _ h => h)
  intro m hd
  refine J.seq (fun K11 hK11 => ?_)
  refine J.seq (fun K12 hK12 => ?_)
  refine J.region ?_
  refine J.y (op_move rfl rfl) rfl rfl rfl ?_
  refine J.y ((op_neq rfl rfl rfl).as (v' := .bool false) (congrArg Value.bool (decide_eq_false (by omega)))) rfl rfl rfl ?_
  refine J.nil ?_
  refine J.then_n (J.k hK12 ?_)
  refine J.keepE [(0, _), (2, _), (4, _), (7, _), (8, _), (53, _)] ⟨rfl, rfl, rfl, rfl, rfl, rfl, trivial⟩ ?_
  refine J.condF rfl rfl ?_
  refine J.skip ?_
  refine J.then_n (J.k hK11 ?_)
  refine J.keepE [(0, _), (2, _), (4, _), (7, _)] ⟨rfl, rfl, rfl, rfl, trivial⟩ ?_
  refine J.seq (fun K13 hK13 => ?_)
  refine J.region ?_
  refine J.y (op_fieldAddr (j := 2) rfl rfl Tryd.underlying128 rfl Tryd.sizeOf3 rfl) rfl rfl rfl ?_
  refine J.y (op_loadB 3 rfl rfl rfl Tryd.isAgg3 rfl) rfl rfl rfl ?_
  refine J.y (op_move rfl rfl) rfl rfl rfl ?_
  refine J.y (op_len Tryd.underlying180 rfl rfl) rfl rfl rfl ?_
  refine J.y ((op_add rfl rfl rfl (by omega)).as (v' := I ((hend + n : Nat) : Int)) (congrArg I (by omega))) rfl rfl rfl ?_
  refine J.y (op_fieldAddr (j := 2) rfl rfl Tryd.underlying128 rfl Tryd.sizeOf3 rfl) rfl rfl rfl ?_
  refine J.s (op_store (i := 3) (vs := [I ((hend + n : Nat) : Int)]) rfl rfl rfl rfl rfl Tryd.sizeOf3 rfl (by simp)) rfl rfl (fun _ _ => ?_)
  change J _ _ _ [blk gb [Ptr gd, I first, I size, I hat0, W64 ht0, I he0, .slice Ar0 nr0 cr0, .bool bad] 130, m, F, blk g4 [I hat, W64 hturn, I ((hend + n : Nat) : Int), .slice Ar nr cr] 128, mp] _
  refine J.nil ?_
  refine J.then_n (J.k hK13 ?_)
  refine J.keepE [(0, _), (2, _), (4, _)] ⟨rfl, rfl, rfl, trivial⟩ ?_
  refine J.seq (fun K14 hK14 => ?_)
  refine J.region ?_
  refine J.y (op_fieldAddr (j := 3) rfl rfl Tryd.underlying128 rfl Tryd.sizeOf55 rfl) rfl rfl rfl ?_
  refine J.y (op_loadB 3 rfl rfl rfl Tryd.isAgg55 rfl) rfl rfl rfl ?_
  refine J.e (op_call rfl rfl ent66 (Ct.use (new := fun x : Option Addr × Nat × Hp => [x.2.2]) (fun F' hF => by have := cloneS_ct F' R Ar cr (by rw [hR]; exact hRs.mono (hF F (by simp))) (by omega); rw [hR] at this; exact this))) rfl rfl rfl ?_
  rintro ⟨A6, c6, m6⟩ h6
  try dsimp only at h6
  change J _ _ _ [blk gb [Ptr gd, I first, I size, I hat0, W64 ht0, I he0, .slice Ar0 nr0 cr0, .bool bad] 130, m, F, blk g4 [I hat, W64 hturn, I ((hend + n : Nat) : Int), .slice Ar nr cr] 128, mp, m6] _
  refine J.y (op_move rfl rfl) rfl rfl rfl ?_
  refine J.e (op_buildSlice (l := [.tmp 67]) (xs := [[Str s]]) rfl rfl rfl rfl Tryd.underlying55 el9 rfl (by decide) (by decide) (by simp)) rfl rfl rfl ?_
  intro g68 _
  change J _ _ _ [blk gb [Ptr gd, I first, I size, I hat0, W64 ht0, I he0, .slice Ar0 nr0 cr0, .bool bad] 130, m, F, blk g4 [I hat, W64 hturn, I ((hend + n : Nat) : Int), .slice Ar nr cr] 128, mp, m6, blk g68 [Str s] 9] _
  refine J.e (op_append (i := 5) (m2 := blk g68 [Str s] 9) (xs := strsV R) (ys := strsV [s]) rfl rfl rfl Tryd.underlying55 Tryd.underlying55 el9 rfl h6 (by simp) ((row_blk (q := True) (xs := strsV [s]) rfl (by simp [strsV])).sl) (by simp [strsV, Value.oneCell']) (by omega) (by omega)) rfl rfl rfl ?_
  rintro ⟨A8, c8, m8⟩ h8
  try dsimp only at h8
  change J _ ((69, .slice A8 (nr + 1) c8) :: _) _ [blk gb [Ptr gd, I first, I size, I hat0, W64 ht0, I he0, .slice Ar0 nr0 cr0, .bool bad] 130, m, F, blk g4 [I hat, W64 hturn, I ((hend + n : Nat) : Int), .slice Ar nr cr] 128, mp, m8, blk g68 [Str s] 9] _
  rw [← strsV_app9] at h8
  refine J.y (op_fieldAddr (j := 3) rfl rfl Tryd.underlying128 rfl Tryd.sizeOf55 rfl) rfl rfl rfl ?_
  refine J.s (op_store (i := 3) (vs := [.slice A8 (nr + 1) c8]) rfl rfl rfl rfl rfl Tryd.sizeOf55 rfl (by simp)) rfl rfl (fun _ _ => ?_)
  change J _ _ _ [blk gb [Ptr gd, I first, I size, I hat0, W64 ht0, I he0, .slice Ar0 nr0 cr0, .bool bad] 130, m, F, blk g4 [I hat, W64 hturn, I ((hend + n : Nat) : Int), .slice A8 (nr + 1) c8] 128, mp, m8, blk g68 [Str s] 9] _
  refine J.nil ?_
  refine J.then_n (J.k hK14 ?_)
  refine J.keepE [(0, _), (4, _)] ⟨rfl, rfl, trivial⟩ ?_
  refine J.seq (fun K15 hK15 => ?_)
  refine J.region ?_
  refine J.y (op_move rfl rfl) rfl rfl rfl ?_
  refine J.y (op_loadBA 3 rfl rfl rfl Tryd.isAgg128 Tryd.sizeOf128 rfl) rfl rfl rfl ?_
  refine J.y (op_nilCheck rfl rfl) rfl rfl rfl ?_
  refine J.y (op_fieldAddr (j := 3) rfl rfl Tryd.underlying130 rfl Tryd.sizeOf128 rfl) rfl rfl rfl ?_
  refine J.s (op_store (i := 0) (vs := [I hat, W64 hturn, I ((hend + n : Nat) : Int), .slice A8 (nr + 1) c8]) rfl rfl rfl rfl rfl Tryd.sizeOf128 rfl (by simp)) rfl rfl (fun _ _ => ?_)
  change J _ _ _ [blk gb [Ptr gd, I first, I size, I hat, W64 hturn, I ((hend + n : Nat) : Int), .slice A8 (nr + 1) c8, .bool bad] 130, m, F, blk g4 [I hat, W64 hturn, I ((hend + n : Nat) : Int), .slice A8 (nr + 1) c8] 128, mp, m8, blk g68 [Str s] 9] _
  refine J.nil ?_
  refine J.then_n (J.k hK15 ?_)
  refine J.keepE [] trivial ?_
  refine J.seq (fun K16 hK16 => ?_)
  refine J.region ?_
  refine J.y (op_assign rfl rfl) rfl rfl rfl ?_
  refine J.nil ?_
  refine J.then_n (J.k hK16 ?_)
  refine J.keepE [(6, _)] ⟨rfl, trivial⟩ ?_
  refine J.ret ?_
  exact J.done hw0 (fun _ _ h => h) (res1 rfl rfl) (retOk (m, A8, c8, m8) rfl ⟨hd, h8⟩ [0, 1, 2, 5] rfl (by decide))

theorem cells_sub {m : Hp} {g k : Nat} {l vs : List Value} (h : Cells m ⟨g, 0, none⟩ l) (hs : ∀ j u, vs[j]? = some u → l[k + j]? = some u) : Cells m ⟨g, k, none⟩ vs := by
  obtain ⟨h1, cs, e, fz, h2, h3⟩ := h
  refine ⟨rfl, cs, e, fz, h2, fun j u hj => ?_⟩
  have := h3 _ _ (hs j u hj)
  rwa [Nat.zero_add] at this

theorem bput_good_ct (F mm : Hp) (hK : Cells F ⟨1, 0, none⟩ (Sha.K.map W32)) (gb gd : Nat) (first : Int) (size hat : Nat) (hturn : UInt64) (hend : Nat) (Ar : Option Addr) (nr cr : Nat) (d : Dk) (C : Option Addr) (f : Nat) (hb : Dsk mm gd d C f) (hok : d.ok) (hn2 : d.wait.length ≤ 1048576) (hKp : Sl F 1 C d.keep.length f (bytesV d.keep)) (hn3 : d.keep.length ≤ 9223372036854775807) (R : List (List UInt8)) (hR : R.length = nr) (hRs : Sl F 1 Ar nr cr (strsV R)) (s : List UInt8) (hs : s.length ≤ 900) (n : Nat) (hn : n = partsN s.length) (t' : UInt64) (ht' : (t'.toNat : Int) = max (hturn.toNat : Int) 1) (ht : t'.toNat < 2 ^ (8 * 4)) (hnr : nr < 65536) (hp : hat + size ≤ 1048576) (hfit : hend + n ≤ size) (he : (wend d (hat + hend) (fun i => (prt t' (UInt64.ofNat nr) s n i).text) n).2 = 0) :
    Ct Tryd.prog 34 [Ptr gb, Str s] [blk gb [Ptr gd, I first, I (size : Nat), I (hat : Nat), W64 hturn, I (hend : Nat), .slice Ar nr cr, .bool false] 130, mm, F] (fun _ : Hp × Option Addr × Nat × Hp => I 0) (fun x => Dsk x.1 gd (wend d (hat + hend) (fun i => (prt t' (UInt64.ofNat nr) s n i).text) n).1 C f ∧ Row x.2.2.2 9 1 x.2.1 (nr + 1) x.2.2.1 (strsV (R ++ [s]))) (fun x => [blk gb [Ptr gd, I first, I (size : Nat), I (hat : Nat), W64 t', I ((hend + n : Nat) : Int), .slice x.2.1 (nr + 1) x.2.2.1, .bool false] 130, x.1, F, x.2.2.2]) := by
  have hn1 := partsN_pos s.length
  refine Ct.walk Tryd.func34 rfl Tryd.ntmps34 rfl (fun w0 hw0 => ?_)
  change J _ [(0, _), (1, _)] _ _ _
  refine J.seq (fun K1 hK1 => ?_)
  refine J.region ?_
  refine J.y (op_assign rfl rfl) rfl rfl rfl ?_
  refine J.nil ?_
  refine J.then_n (J.k hK1 ?_)
  refine J.keepE [(0, _), (1, _)] ⟨rfl, rfl, trivial⟩ ?_
  refine J.seq (fun K2 hK2 => ?_)
  refine J.seq (fun K3 hK3 => ?_)
  refine J.region ?_
  refine J.y (op_move rfl rfl) rfl rfl rfl ?_
  refine J.y (op_move rfl rfl) rfl rfl rfl ?_
  refine J.e ((op_call rfl rfl ent78 (Ct.use0 (fun F' hF => may_ct F' gb gd first size hat hturn hend Ar nr cr false (Cells.blk0.mono (hF (blk gb [Ptr gd, I first, I (size : Nat), I (hat : Nat), W64 hturn, I (hend : Nat), .slice Ar nr cr, .bool false] 130) (by simp))) s)))) rfl rfl rfl ?_
  intro g9 _
  refine J.y (op_assign rfl rfl) rfl rfl rfl ?_
  refine J.nil ?_
  refine J.then_n (J.k hK3 ?_)
  refine J.keepE [(0, _), (1, _), (5, _)] ⟨rfl, rfl, rfl, trivial⟩ ?_
  refine J.seq (fun K4 hK4 => ?_)
  refine J.region ?_
  refine J.y (op_move rfl rfl) rfl rfl rfl ?_
  refine J.y ((op_neq rfl rfl rfl).as (v' := .bool false) (congrArg Value.bool (decide_eq_false (fun h => h (by rw [if_neg (by omega), if_neg (by decide)]))))) rfl rfl rfl ?_
  refine J.nil ?_
  refine J.then_n (J.k hK4 ?_)
  refine J.keepE [(0, _), (1, _), (5, _), (11, _)] ⟨rfl, rfl, rfl, rfl, trivial⟩ ?_
  refine J.condF rfl rfl ?_
  refine J.skip ?_
  refine J.then_n (J.k hK2 ?_)
  refine J.keepE [(0, _), (1, _)] ⟨rfl, rfl, trivial⟩ ?_
  refine J.seq (fun K5 hK5 => ?_)
  refine J.region ?_
  refine J.y (op_move rfl rfl) rfl rfl rfl ?_
  refine J.y (op_nilCheck rfl rfl) rfl rfl rfl ?_
  refine J.y (op_fieldAddr (j := 3) rfl rfl Tryd.underlying130 rfl Tryd.sizeOf128 rfl) rfl rfl rfl ?_
  refine J.y (op_loadA rfl rfl Tryd.isAgg128 Tryd.sizeOf128 (m := blk gb [Ptr gd, I first, I (size : Nat), I (hat : Nat), W64 hturn, I (hend : Nat), .slice Ar nr cr, .bool false] 130) (by simp) (vs := [I (hat : Nat), W64 hturn, I (hend : Nat), .slice Ar nr cr]) (cells_sub Cells.blk0 (fun j u hj => by match j, hj with | 0, hj => exact hj | 1, hj => exact hj | 2, hj => exact hj | 3, hj => exact hj)) rfl) rfl rfl rfl ?_
  refine J.e (op_alloc rfl Tryd.zeroValue128 rfl) rfl rfl rfl ?_
  intro g6 _
  change J _ _ _ [blk gb [Ptr gd, I first, I (size : Nat), I (hat : Nat), W64 hturn, I (hend : Nat), .slice Ar nr cr, .bool false] 130, mm, F, blk g6 _ 128] _
  refine J.s (op_storeAll (l := [I 0, W64 0, I 0, .slice none 0 0]) (i := 3) (vs := [I (hat : Nat), W64 hturn, I (hend : Nat), .slice Ar nr cr]) rfl rfl rfl rfl rfl Tryd.sizeOf128 rfl rfl) rfl rfl (fun _ _ => ?_)
  change J _ _ _ [blk gb [Ptr gd, I first, I (size : Nat), I (hat : Nat), W64 hturn, I (hend : Nat), .slice Ar nr cr, .bool false] 130, mm, F, blk g6 [I (hat : Nat), W64 hturn, I (hend : Nat), .slice Ar nr cr] 128] _
  refine J.nil ?_
  refine J.then_n (J.k hK5 ?_)
  refine J.keepE [(0, _), (1, _), (6, _)] ⟨rfl, rfl, rfl, trivial⟩ ?_
  refine J.seq (fun K6 hK6 => ?_)
  refine J.seq (fun K7 hK7 => ?_)
  refine J.region ?_
  refine J.y (op_move rfl rfl) rfl rfl rfl ?_
  refine J.e (op_call rfl rfl ent79 (Ct.use0 (fun F' hF => left_ct F' gb gd first size hat hturn hend Ar nr cr false (Cells.blk0.mono (hF (blk gb [Ptr gd, I first, I (size : Nat), I (hat : Nat), W64 hturn, I (hend : Nat), .slice Ar nr cr, .bool false] 130) (by simp))) (by omega) (by omega)))) rfl rfl rfl ?_
  intro g18 _
  refine J.y (op_move rfl rfl) rfl rfl rfl ?_
  refine J.y (op_slen Tryd.underlying9 rfl rfl) rfl rfl rfl ?_
  refine J.e (op_call rfl rfl ent80 (Ct.use0 (fun F' hF => by have := partsN_ct F' s.length (by omega); rw [← hn] at this; exact this))) rfl rfl rfl ?_
  intro g21 _
  refine J.y ((op_lss rfl rfl rfl).as (v' := .bool false) (congrArg Value.bool (decide_eq_false (by omega)))) rfl rfl rfl ?_
  refine J.y (op_move rfl rfl) rfl rfl rfl ?_
  refine J.yg (Wan.is rfl rfl rfl rfl rfl) (op_fieldAddr (j := 3) rfl rfl Tryd.underlying128 rfl Tryd.sizeOf55 rfl) rfl rfl ?_
  refine J.yg (Wan.is rfl rfl rfl rfl rfl) (op_loadB 3 rfl rfl rfl Tryd.isAgg55 rfl) rfl rfl ?_
  refine J.yg (Wan.is rfl rfl rfl rfl rfl) (op_len Tryd.underlying55 rfl rfl) rfl rfl ?_
  refine J.yg (Wan.is rfl rfl rfl rfl rfl) ((op_geq rfl rfl rfl).as (v' := .bool false) (congrArg Value.bool (decide_eq_false (by omega)))) rfl rfl ?_
  refine J.y (op_pickF rfl rfl rfl) rfl rfl rfl ?_
  refine J.nil ?_
  refine J.then_n (J.k hK7 ?_)
  refine J.keepE [(0, _), (1, _), (6, _), (28, _)] ⟨rfl, rfl, rfl, rfl, trivial⟩ ?_
  refine J.condF rfl rfl ?_
  refine J.skip ?_
  refine J.then_n (J.k hK6 ?_)
  refine J.keepE [(0, _), (1, _), (6, _)] ⟨rfl, rfl, rfl, trivial⟩ ?_
  refine J.seq (fun K8 hK8 => ?_)
  refine J.region ?_
  refine J.y (op_fieldAddr (j := 1) rfl rfl Tryd.underlying128 rfl Tryd.sizeOf108 rfl) rfl rfl rfl ?_
  refine J.y (op_loadB 3 rfl rfl rfl Tryd.isAgg108 rfl) rfl rfl rfl ?_
  refine J.y ((op_max rfl rfl rfl).as (v' := W64 t') (congrArg (Value.int .u64) ht'.symm)) rfl rfl rfl ?_
  refine J.y (op_fieldAddr (j := 1) rfl rfl Tryd.underlying128 rfl Tryd.sizeOf108 rfl) rfl rfl rfl ?_
  refine J.s (op_store (i := 3) (vs := [W64 t']) rfl rfl rfl rfl rfl Tryd.sizeOf108 rfl (by simp)) rfl rfl (fun _ _ => ?_)
  change J _ _ _ [blk gb [Ptr gd, I first, I (size : Nat), I (hat : Nat), W64 hturn, I (hend : Nat), .slice Ar nr cr, .bool false] 130, mm, F, blk g6 [I (hat : Nat), W64 t', I (hend : Nat), .slice Ar nr cr] 128] _
  refine J.nil ?_
  refine J.then_n (J.k hK8 ?_)
  refine J.keepE [(0, _), (1, _), (6, _)] ⟨rfl, rfl, rfl, trivial⟩ ?_
  refine J.seq (fun K9 hK9 => ?_)
  refine J.region ?_
  refine J.y (op_move rfl rfl) rfl rfl rfl ?_
  refine J.y (op_loadBA 3 rfl rfl rfl Tryd.isAgg128 Tryd.sizeOf128 rfl) rfl rfl rfl ?_
  refine J.y (op_move rfl rfl) rfl rfl rfl ?_
  refine J.e (op_call rfl rfl ent81 (Ct.useA [blk gb [Ptr gd, I first, I (size : Nat), I (hat : Nat), W64 hturn, I (hend : Nat), .slice Ar nr cr, .bool false] 130, mm] [F, blk g6 [I (hat : Nat), W64 t', I (hend : Nat), .slice Ar nr cr] 128] (A' := fun x : Hp × Option Addr × Nat × Hp => [blk gb [Ptr gd, I first, I (size : Nat), I (hat : Nat), W64 t', I ((hend + n : Nat) : Int), .slice x.2.1 (nr + 1) x.2.2.1, .bool false] 130, x.1]) (new := fun x => [x.2.2.2]) (fun F' hF => bwrite_good_ct F' mm (hK.mono (hF F (by simp))) gb gd first size hat hturn hend Ar nr cr false d C f hb hok hn2 (hKp.mono (hF F (by simp))) hn3 hat t' hend Ar nr cr R hR (hRs.mono (hF F (by simp))) s hs n hn ht hnr (by omega) he))) rfl rfl rfl ?_
  rintro ⟨m36, A36, c36, m37⟩ ⟨hd36, h36⟩
  change J _ _ _ [blk gb [Ptr gd, I first, I (size : Nat), I (hat : Nat), W64 t', I ((hend + n : Nat) : Int), .slice A36 (nr + 1) c36, .bool false] 130, m36, F, blk g6 [I (hat : Nat), W64 t', I (hend : Nat), .slice Ar nr cr] 128, m37] _
  refine J.y (op_assign rfl rfl) rfl rfl rfl ?_
  refine J.nil ?_
  refine J.then_n (J.k hK9 ?_)
  refine J.keepE [(4, _)] ⟨rfl, trivial⟩ ?_
  refine J.ret ?_
  exact J.done hw0 (fun _ _ h => h) (res1 rfl rfl) (retOk (m36, A36, c36, m37) rfl ⟨hd36, h36⟩ [0, 1, 2, 4] rfl (by decide))

theorem bput_bad_ct (F mm : Hp) (hK : Cells F ⟨1, 0, none⟩ (Sha.K.map W32)) (gb gd : Nat) (first : Int) (size hat : Nat) (hturn : UInt64) (hend : Nat) (Ar : Option Addr) (nr cr : Nat) (d : Dk) (C : Option Addr) (f : Nat) (hb : Dsk mm gd d C f) (hok : d.ok) (hn2 : d.wait.length ≤ 1048576) (hKp : Sl F 1 C d.keep.length f (bytesV d.keep)) (hn3 : d.keep.length ≤ 9223372036854775807) (R : List (List UInt8)) (hR : R.length = nr) (hRs : Sl F 1 Ar nr cr (strsV R)) (s : List UInt8) (hs : s.length ≤ 900) (n : Nat) (hn : n = partsN s.length) (t' : UInt64) (ht' : (t'.toNat : Int) = max (hturn.toNat : Int) 1) (ht : t'.toNat < 2 ^ (8 * 4)) (hnr : nr < 65536) (hp : hat + size ≤ 1048576) (hfit : hend + n ≤ size) (he : ¬ (wend d (hat + hend) (fun i => (prt t' (UInt64.ofNat nr) s n i).text) n).2 = 0) :
    Ct Tryd.prog 34 [Ptr gb, Str s] [blk gb [Ptr gd, I first, I (size : Nat), I (hat : Nat), W64 hturn, I (hend : Nat), .slice Ar nr cr, .bool false] 130, mm, F] (fun _ : Hp => I (wend d (hat + hend) (fun i => (prt t' (UInt64.ofNat nr) s n i).text) n).2) (fun x => Dsk x gd (wend d (hat + hend) (fun i => (prt t' (UInt64.ofNat nr) s n i).text) n).1 C f) (fun x => [blk gb [Ptr gd, I first, I (size : Nat), I (hat : Nat), W64 hturn, I (hend : Nat), .slice Ar nr cr, .bool true] 130, x, F]) := by
  have hn1 := partsN_pos s.length
  refine Ct.walk Tryd.func34 rfl Tryd.ntmps34 rfl (fun w0 hw0 => ?_)
  change J _ [(0, _), (1, _)] _ _ _
  refine J.seq (fun K1 hK1 => ?_)
  refine J.region ?_
  refine J.y (op_assign rfl rfl) rfl rfl rfl ?_
  refine J.nil ?_
  refine J.then_n (J.k hK1 ?_)
  refine J.keepE [(0, _), (1, _)] ⟨rfl, rfl, trivial⟩ ?_
  refine J.seq (fun K2 hK2 => ?_)
  refine J.seq (fun K3 hK3 => ?_)
  refine J.region ?_
  refine J.y (op_move rfl rfl) rfl rfl rfl ?_
  refine J.y (op_move rfl rfl) rfl rfl rfl ?_
  refine J.e ((op_call rfl rfl ent78 (Ct.use0 (fun F' hF => may_ct F' gb gd first size hat hturn hend Ar nr cr false (Cells.blk0.mono (hF (blk gb [Ptr gd, I first, I (size : Nat), I (hat : Nat), W64 hturn, I (hend : Nat), .slice Ar nr cr, .bool false] 130) (by simp))) s)))) rfl rfl rfl ?_
  intro g9 _
  refine J.y (op_assign rfl rfl) rfl rfl rfl ?_
  refine J.nil ?_
  refine J.then_n (J.k hK3 ?_)
  refine J.keepE [(0, _), (1, _), (5, _)] ⟨rfl, rfl, rfl, trivial⟩ ?_
  refine J.seq (fun K4 hK4 => ?_)
  refine J.region ?_
  refine J.y (op_move rfl rfl) rfl rfl rfl ?_
  refine J.y ((op_neq rfl rfl rfl).as (v' := .bool false) (congrArg Value.bool (decide_eq_false (fun h => h (by rw [if_neg (by omega), if_neg (by decide)]))))) rfl rfl rfl ?_
  refine J.nil ?_
  refine J.then_n (J.k hK4 ?_)
  refine J.keepE [(0, _), (1, _), (5, _), (11, _)] ⟨rfl, rfl, rfl, rfl, trivial⟩ ?_
  refine J.condF rfl rfl ?_
  refine J.skip ?_
  refine J.then_n (J.k hK2 ?_)
  refine J.keepE [(0, _), (1, _)] ⟨rfl, rfl, trivial⟩ ?_
  refine J.seq (fun K5 hK5 => ?_)
  refine J.region ?_
  refine J.y (op_move rfl rfl) rfl rfl rfl ?_
  refine J.y (op_nilCheck rfl rfl) rfl rfl rfl ?_
  refine J.y (op_fieldAddr (j := 3) rfl rfl Tryd.underlying130 rfl Tryd.sizeOf128 rfl) rfl rfl rfl ?_
  refine J.y (op_loadA rfl rfl Tryd.isAgg128 Tryd.sizeOf128 (m := blk gb [Ptr gd, I first, I (size : Nat), I (hat : Nat), W64 hturn, I (hend : Nat), .slice Ar nr cr, .bool false] 130) (by simp) (vs := [I (hat : Nat), W64 hturn, I (hend : Nat), .slice Ar nr cr]) (cells_sub Cells.blk0 (fun j u hj => by match j, hj with | 0, hj => exact hj | 1, hj => exact hj | 2, hj => exact hj | 3, hj => exact hj)) rfl) rfl rfl rfl ?_
  refine J.e (op_alloc rfl Tryd.zeroValue128 rfl) rfl rfl rfl ?_
  intro g6 _
  change J _ _ _ [blk gb [Ptr gd, I first, I (size : Nat), I (hat : Nat), W64 hturn, I (hend : Nat), .slice Ar nr cr, .bool false] 130, mm, F, blk g6 _ 128] _
  refine J.s (op_storeAll (l := [I 0, W64 0, I 0, .slice none 0 0]) (i := 3) (vs := [I (hat : Nat), W64 hturn, I (hend : Nat), .slice Ar nr cr]) rfl rfl rfl rfl rfl Tryd.sizeOf128 rfl rfl) rfl rfl (fun _ _ => ?_)
  change J _ _ _ [blk gb [Ptr gd, I first, I (size : Nat), I (hat : Nat), W64 hturn, I (hend : Nat), .slice Ar nr cr, .bool false] 130, mm, F, blk g6 [I (hat : Nat), W64 hturn, I (hend : Nat), .slice Ar nr cr] 128] _
  refine J.nil ?_
  refine J.then_n (J.k hK5 ?_)
  refine J.keepE [(0, _), (1, _), (6, _)] ⟨rfl, rfl, rfl, trivial⟩ ?_
  refine J.seq (fun K6 hK6 => ?_)
  refine J.seq (fun K7 hK7 => ?_)
  refine J.region ?_
  refine J.y (op_move rfl rfl) rfl rfl rfl ?_
  refine J.e (op_call rfl rfl ent79 (Ct.use0 (fun F' hF => left_ct F' gb gd first size hat hturn hend Ar nr cr false (Cells.blk0.mono (hF (blk gb [Ptr gd, I first, I (size : Nat), I (hat : Nat), W64 hturn, I (hend : Nat), .slice Ar nr cr, .bool false] 130) (by simp))) (by omega) (by omega)))) rfl rfl rfl ?_
  intro g18 _
  refine J.y (op_move rfl rfl) rfl rfl rfl ?_
  refine J.y (op_slen Tryd.underlying9 rfl rfl) rfl rfl rfl ?_
  refine J.e (op_call rfl rfl ent80 (Ct.use0 (fun F' hF => by have := partsN_ct F' s.length (by omega); rw [← hn] at this; exact this))) rfl rfl rfl ?_
  intro g21 _
  refine J.y ((op_lss rfl rfl rfl).as (v' := .bool false) (congrArg Value.bool (decide_eq_false (by omega)))) rfl rfl rfl ?_
  refine J.y (op_move rfl rfl) rfl rfl rfl ?_
  refine J.yg (Wan.is rfl rfl rfl rfl rfl) (op_fieldAddr (j := 3) rfl rfl Tryd.underlying128 rfl Tryd.sizeOf55 rfl) rfl rfl ?_
  refine J.yg (Wan.is rfl rfl rfl rfl rfl) (op_loadB 3 rfl rfl rfl Tryd.isAgg55 rfl) rfl rfl ?_
  refine J.yg (Wan.is rfl rfl rfl rfl rfl) (op_len Tryd.underlying55 rfl rfl) rfl rfl ?_
  refine J.yg (Wan.is rfl rfl rfl rfl rfl) ((op_geq rfl rfl rfl).as (v' := .bool false) (congrArg Value.bool (decide_eq_false (by omega)))) rfl rfl ?_
  refine J.y (op_pickF rfl rfl rfl) rfl rfl rfl ?_
  refine J.nil ?_
  refine J.then_n (J.k hK7 ?_)
  refine J.keepE [(0, _), (1, _), (6, _), (28, _)] ⟨rfl, rfl, rfl, rfl, trivial⟩ ?_
  refine J.condF rfl rfl ?_
  refine J.skip ?_
  refine J.then_n (J.k hK6 ?_)
  refine J.keepE [(0, _), (1, _), (6, _)] ⟨rfl, rfl, rfl, trivial⟩ ?_
  refine J.seq (fun K8 hK8 => ?_)
  refine J.region ?_
  refine J.y (op_fieldAddr (j := 1) rfl rfl Tryd.underlying128 rfl Tryd.sizeOf108 rfl) rfl rfl rfl ?_
  refine J.y (op_loadB 3 rfl rfl rfl Tryd.isAgg108 rfl) rfl rfl rfl ?_
  refine J.y ((op_max rfl rfl rfl).as (v' := W64 t') (congrArg (Value.int .u64) ht'.symm)) rfl rfl rfl ?_
  refine J.y (op_fieldAddr (j := 1) rfl rfl Tryd.underlying128 rfl Tryd.sizeOf108 rfl) rfl rfl rfl ?_
  refine J.s (op_store (i := 3) (vs := [W64 t']) rfl rfl rfl rfl rfl Tryd.sizeOf108 rfl (by simp)) rfl rfl (fun _ _ => ?_)
  change J _ _ _ [blk gb [Ptr gd, I first, I (size : Nat), I (hat : Nat), W64 hturn, I (hend : Nat), .slice Ar nr cr, .bool false] 130, mm, F, blk g6 [I (hat : Nat), W64 t', I (hend : Nat), .slice Ar nr cr] 128] _
  refine J.nil ?_
  refine J.then_n (J.k hK8 ?_)
  refine J.keepE [(0, _), (1, _), (6, _)] ⟨rfl, rfl, rfl, trivial⟩ ?_
  refine J.seq (fun K9 hK9 => ?_)
  refine J.region ?_
  refine J.y (op_move rfl rfl) rfl rfl rfl ?_
  refine J.y (op_loadBA 3 rfl rfl rfl Tryd.isAgg128 Tryd.sizeOf128 rfl) rfl rfl rfl ?_
  refine J.y (op_move rfl rfl) rfl rfl rfl ?_
  refine J.e (op_call rfl rfl ent81 (Ct.useA [blk gb [Ptr gd, I first, I (size : Nat), I (hat : Nat), W64 hturn, I (hend : Nat), .slice Ar nr cr, .bool false] 130, mm] [F, blk g6 [I (hat : Nat), W64 t', I (hend : Nat), .slice Ar nr cr] 128] (A' := fun x : Hp => [blk gb [Ptr gd, I first, I (size : Nat), I (hat : Nat), W64 hturn, I (hend : Nat), .slice Ar nr cr, .bool true] 130, x]) (new := fun _ => []) (fun F' hF => bwrite_bad_ct F' mm (hK.mono (hF F (by simp))) gb gd first size hat hturn hend Ar nr cr false d C f hb hok hn2 (hKp.mono (hF F (by simp))) hn3 hat t' hend Ar nr cr R hR (hRs.mono (hF F (by simp))) s hs n hn ht hnr (by omega) he))) rfl rfl rfl ?_
  rintro m36 hd36
  change J _ _ _ [blk gb [Ptr gd, I first, I (size : Nat), I (hat : Nat), W64 hturn, I (hend : Nat), .slice Ar nr cr, .bool true] 130, m36, F, blk g6 [I (hat : Nat), W64 t', I (hend : Nat), .slice Ar nr cr] 128] _
  refine J.y (op_assign rfl rfl) rfl rfl rfl ?_
  refine J.nil ?_
  refine J.then_n (J.k hK9 ?_)
  refine J.keepE [(4, _)] ⟨rfl, trivial⟩ ?_
  refine J.ret ?_
  exact J.done hw0 (fun _ _ h => h) (res1 rfl rfl) (retOk m36 rfl hd36 [0, 1, 2] rfl (by decide))

theorem calm_burn {d : Dk} (h : d.armed = false) : d.burn = d ∧ ¬ d.burns := ⟨by unfold Dk.burn; rw [if_neg (by rw [h]; decide)], fun e => by have := e.1; rw [h] at this; exact absurd this (by decide)⟩
theorem calm_ready {d : Dk} (h : d.off = false) {i : Nat} (hi : i < d.last.length) : d.ready (i : Int) = 0 := by unfold Dk.ready; rw [h, if_neg (by decide), if_neg (by omega)]
theorem wrun_calm {d : Dk} (ho : d.off = false) (ha : d.armed = false) {p n : Nat} (hp : p + n ≤ d.last.length) {t : Nat → List UInt8} (ht : ∀ i, i < n → (t i).length ≤ 64) : ∀ k, k ≤ n → (wrun d p t k).2 = 0 ∧ (wrun d p t k).1.off = false ∧ (wrun d p t k).1.armed = false ∧ (wrun d p t k).1.last = d.last
  | 0, _ => ⟨rfl, ho, ha, rfl⟩
  | k + 1, hk => by
    obtain ⟨h1, h2, h3, h4⟩ := wrun_calm ho ha hp ht k (by omega)
    have hw := write_in (calm_ready h2 (i := p + k) (by rw [h4]; omega)) (ht k (by omega)) (calm_burn h3).2
    rw [(calm_burn h3).1] at hw
    rw [wrun_succ h1]
    dsimp only
    rw [hw.1]
    exact ⟨hw.2, h2, h3, h4⟩
end Go.Proofs.YtnkfapecbmmpeaaDoor

namespace Go.Proofs.YtnkfapecbmmpeaaDoor
open Go Go.Fw
set_option maxRecDepth 100000
set_option maxHeartbeats 1000000

theorem rd_app (a b : List UInt8) {n : Nat} (h : a.length = n) : (⟨a ++ b, 0⟩ : RS).out n = a ∧ (⟨a ++ b, 0⟩ : RS).take n = ⟨b, 0⟩ := by
  subst h
  exact ⟨by rw [out_ok (by rw [List.length_append]; omega), List.take_left' rfl], by rw [take_ok (by rw [List.length_append]; omega), List.drop_left' rfl]⟩
theorem natB_w (x : UInt64) (t : Nat) (ht : t ≤ 8) (h : x.toNat < 256 ^ t) : natB (Sha.numB x t) = x.toNat := by
  have := natB_numB x.toNat x.toNat_lt t ht
  rw [UInt64.ofNat_toNat, Nat.mod_eq_of_lt h] at this
  exact this
theorem natB_n (x t : Nat) (ht : t ≤ 8) (h : x < 256 ^ t) : natB (Sha.numB (UInt64.ofNat x) t) = x := by
  have h2 : x < 18446744073709551616 := Nat.lt_of_lt_of_le h (Nat.le_trans (Nat.pow_le_pow_right (by decide) ht) (by decide))
  rw [natB_numB x h2 t ht, Nat.mod_eq_of_lt h]
theorem Prt.pad_eq (p : Prt) : p.pad = Sha.numB p.turn 4 ++ (Sha.numB p.num 2 ++ (Sha.numB (UInt64.ofNat p.at_) 1 ++ (Sha.numB (UInt64.ofNat p.all) 1 ++ (Sha.numB (UInt64.ofNat p.con.length) 1 ++ (p.name ++ (p.con ++ List.replicate (56 - p.body.length) 0)))))) := by
  have e : p.body = Sha.numB p.turn 4 ++ (Sha.numB p.num 2 ++ (Sha.numB (UInt64.ofNat p.at_) 1 ++ (Sha.numB (UInt64.ofNat p.all) 1 ++ (Sha.numB (UInt64.ofNat p.con.length) 1 ++ (p.name ++ p.con))))) := by
    unfold Prt.body Prt.b5 Prt.b4 Prt.b3 Prt.b2 Prt.b1; simp only [List.append_assoc]
  unfold Prt.pad
  generalize List.replicate (56 - p.body.length) (0 : UInt8) = Z
  rw [e]
  simp only [List.append_assoc]
theorem rdp_text {p : Prt} (h : p.ok) (h8 : p.name.length = 8) {s : List UInt8} (hs : s.take 56 = p.pad) : rdp s = p := by
  have hN : ∀ (x : UInt64) (n : Nat), (Sha.numB x n).length = n := Sha.numB_length
  have t0 : R0 s = ⟨p.pad, 0⟩ := by unfold R0; rw [hs]
  rw [p.pad_eq] at t0
  have a0 := rd_app (Sha.numB p.turn 4) (Sha.numB p.num 2 ++ (Sha.numB (UInt64.ofNat p.at_) 1 ++ (Sha.numB (UInt64.ofNat p.all) 1 ++ (Sha.numB (UInt64.ofNat p.con.length) 1 ++ (p.name ++ (p.con ++ List.replicate (56 - p.body.length) 0)))))) (hN _ 4)
  have t1 := a0.2
  rw [← t0] at t1
  change R1 s = _ at t1
  have a1 := rd_app (Sha.numB p.num 2) (Sha.numB (UInt64.ofNat p.at_) 1 ++ (Sha.numB (UInt64.ofNat p.all) 1 ++ (Sha.numB (UInt64.ofNat p.con.length) 1 ++ (p.name ++ (p.con ++ List.replicate (56 - p.body.length) 0))))) (hN _ 2)
  have t2 := a1.2
  rw [← t1] at t2
  change R2 s = _ at t2
  have a2 := rd_app (Sha.numB (UInt64.ofNat p.at_) 1) (Sha.numB (UInt64.ofNat p.all) 1 ++ (Sha.numB (UInt64.ofNat p.con.length) 1 ++ (p.name ++ (p.con ++ List.replicate (56 - p.body.length) 0)))) (hN _ 1)
  have t3 := a2.2
  rw [← t2] at t3
  change R3 s = _ at t3
  have a3 := rd_app (Sha.numB (UInt64.ofNat p.all) 1) (Sha.numB (UInt64.ofNat p.con.length) 1 ++ (p.name ++ (p.con ++ List.replicate (56 - p.body.length) 0))) (hN _ 1)
  have t4 := a3.2
  rw [← t3] at t4
  change R4 s = _ at t4
  have a4 := rd_app (Sha.numB (UInt64.ofNat p.con.length) 1) (p.name ++ (p.con ++ List.replicate (56 - p.body.length) 0)) (hN _ 1)
  have t5 := a4.2
  rw [← t4] at t5
  change R5 s = _ at t5
  have a5 := rd_app p.name (p.con ++ List.replicate (56 - p.body.length) 0) h8
  have t6 := a5.2
  rw [← t5] at t6
  change R6 s = _ at t6
  have hc := h.c
  have hcn : conN s = p.con.length := by
    unfold conN
    rw [t4, a4.1, natB_n _ 1 (by decide) (by omega)]; omega
  unfold rdp
  rw [hcn, t0, t1, t2, t3, t5, t6, a0.1, a1.1, a2.1, a3.1, a5.1, (rd_app p.con _ rfl).1, natB_w _ 4 (by decide) h.t, natB_w _ 2 (by decide) h.n, natB_n _ 1 (by decide) h.a, natB_n _ 1 (by decide) h.l, UInt64.ofNat_toNat, UInt64.ofNat_toNat]
theorem parse_text {p : Prt} (h : p.ok) (h8 : p.name.length = 8) : parse p.text = (p, true) := by
  have e1 : p.text.take 56 = p.pad := by unfold Prt.text; rw [List.take_left' (Prt.pad_len h)]
  have e2 : p.text.drop 56 = bsum p.pad := by unfold Prt.text; rw [List.drop_left' (Prt.pad_len h)]
  unfold parse
  rw [e1, e2, if_pos rfl, rdp_text h h8 e1, decide_eq_true rfl]
theorem parse_okP (s : List UInt8) : (parse s).1.ok := by
  unfold parse
  split
  · exact rdp_ok s
  · exact ⟨by decide, by decide, by decide, by decide, by decide, by decide⟩
/-! ## a record that begins with a sector -/
def recQ (p : Prt) (i : Nat) (y : Prt × Bool) : Prop := y.2 = true ∧ y.1.at_ = i ∧ y.1.turn.toNat = p.turn.toNat ∧ y.1.num.toNat = p.num.toNat ∧ y.1.all = p.all ∧ y.1.name = p.name
instance (p : Prt) (i : Nat) (y : Prt × Bool) : Decidable (recQ p i y) := by unfold recQ; infer_instance
def recF (turn : UInt64) (nr n : Nat) (y : Prt × Bool) : Prop := y.2 = true ∧ y.1.at_ = 0 ∧ y.1.turn.toNat ≠ 0 ∧ y.1.num.toNat = nr ∧ y.1.all ≤ n ∧ (0 < nr → y.1.turn.toNat = turn.toNat)
instance (turn : UInt64) (nr n : Nat) (y : Prt × Bool) : Decidable (recF turn nr n y) := by unfold recF; infer_instance
def catL (l : List (List UInt8)) : Nat → List UInt8
  | 0 => []
  | k + 1 => catL l k ++ (parse (l.getD k [])).1.con
theorem catL_len (l : List (List UInt8)) : ∀ k, (catL l k).length ≤ 39 * k
  | 0 => Nat.le_refl _
  | k + 1 => by
    have h1 := catL_len l k
    have h2 := (parse_okP (l.getD k [])).c
    rw [catL, List.length_append]; omega
structure RecR where
  turn : UInt64
  text : List UInt8
  n : Nat
  ok : Bool
def noRec : RecR := ⟨0, [], 0, false⟩
def recR (turn : UInt64) (nr : Nat) (l : List (List UInt8)) : RecR :=
  if recF turn nr l.length (parse (l.getD 0 [])) ∧ (∀ i < (parse (l.getD 0 [])).1.all, recQ (parse (l.getD 0 [])).1 i (parse (l.getD i []))) then
    ⟨(parse (l.getD 0 [])).1.turn, catL l (parse (l.getD 0 [])).1.all, (parse (l.getD 0 [])).1.all, decide ((parse (l.getD 0 [])).1.all = partsN (catL l (parse (l.getD 0 [])).1.all).length ∧ (parse (l.getD 0 [])).1.name = bname (parse (l.getD 0 [])).1.turn (parse (l.getD 0 [])).1.num (catL l (parse (l.getD 0 [])).1.all))⟩
  else noRec
theorem recR_f {turn : UInt64} {nr : Nat} {l : List (List UInt8)} {p : Prt} {ok : Bool} (hp : parse (l.getD 0 []) = (p, ok)) (h : ¬ recF turn nr l.length (p, ok)) : recR turn nr l = noRec := by
  unfold recR
  rw [hp, if_neg (fun e => h e.1)]
theorem recR_q {turn : UInt64} {nr : Nat} {l : List (List UInt8)} {p q : Prt} {ok ok2 : Bool} (hp : parse (l.getD 0 []) = (p, ok)) {i : Nat} (hi : i < p.all) (hq : parse (l.getD i []) = (q, ok2)) (h : ¬ recQ p i (q, ok2)) : recR turn nr l = noRec := by
  unfold recR
  rw [hp, if_neg (fun e => h (by have := e.2 i hi; rwa [hq] at this))]
theorem recR_y {turn : UInt64} {nr : Nat} {l : List (List UInt8)} {p : Prt} {ok : Bool} (hp : parse (l.getD 0 []) = (p, ok)) (hf : recF turn nr l.length (p, ok)) (hq : ∀ i < p.all, recQ p i (parse (l.getD i []))) :
    recR turn nr l = ⟨p.turn, catL l p.all, p.all, decide (p.all = partsN (catL l p.all).length ∧ p.name = bname p.turn p.num (catL l p.all))⟩ := by
  unfold recR
  rw [hp, if_pos ⟨hf, hq⟩]
def RecR.val (r : RecR) : Value := .tuple #[W64 r.turn, Str r.text, I ((r.n : Nat) : Int), .bool r.ok]
theorem recR_le {turn : UInt64} {nr : Nat} {l : List (List UInt8)} (h : (recR turn nr l).ok = true) : 1 ≤ (recR turn nr l).n ∧ (recR turn nr l).n ≤ l.length ∧ (recR turn nr l).n ≤ 255 ∧ (recR turn nr l).text.length ≤ 9945 := by
  unfold recR at h ⊢
  split at h
  · rename_i hc
    rw [if_pos hc]
    dsimp only at h ⊢
    have h1 := of_decide_eq_true h
    have h2 := partsN_pos (catL l (parse (l.getD 0 [])).1.all).length
    have h3 := hc.1.2.2.2.2.1
    have h4 := (parse_okP (l.getD 0 [])).l
    have h5 := catL_len l (parse (l.getD 0 [])).1.all
    exact ⟨by rw [h1.1]; exact h2, h3, by omega, by omega⟩
  · cases h

end Go.Proofs.YtnkfapecbmmpeaaDoor
