/- A part of the proof: contracts of functions of the program, each for every state of the heaps that it names. -/
import Derived.Test.YtpcffgkmpmcobaaDoorBook
set_option linter.unusedSimpArgs false
set_option linter.unusedVariables false
namespace Go.Proofs.YtpcffgkmpmcobaaDoor
open Go Go.Fw
set_option maxRecDepth 100000
set_option maxHeartbeats 1000000
theorem ent32 : Enters Tryd.prog 32 := Enters.of Tryd.func32 rfl (by kernel_rfl)
theorem ent33 : Enters Tryd.prog 33 := Enters.of Tryd.func33 rfl (by kernel_rfl)
theorem ent34 : Enters Tryd.prog 34 := Enters.of Tryd.func34 rfl (by kernel_rfl)
theorem ent35 : Enters Tryd.prog 35 := Enters.of Tryd.func35 rfl (by kernel_rfl)
theorem ent36 : Enters Tryd.prog 36 := Enters.of Tryd.func36 rfl (by kernel_rfl)
theorem ent37 : Enters Tryd.prog 37 := Enters.of Tryd.func37 rfl (by kernel_rfl)
theorem ent38 : Enters Tryd.prog 38 := Enters.of Tryd.func38 rfl (by kernel_rfl)
theorem ent39 : Enters Tryd.prog 39 := Enters.of Tryd.func39 rfl (by kernel_rfl)
theorem ent98 : Enters Tryd.prog 98 := Enters.of Tryd.func98 rfl (by kernel_rfl)
theorem ent139 : Enters Tryd.prog 139 := Enters.of Tryd.func139 rfl (by kernel_rfl)
theorem ent140 : Enters Tryd.prog 140 := Enters.of Tryd.func140 rfl (by kernel_rfl)
theorem ent142 : Enters Tryd.prog 142 := Enters.of Tryd.func142 rfl (by kernel_rfl)

/-- texts are written one behind the other until one is refused -/
def wrun (d : Dk) (p : Nat) (t : Nat → List UInt8) : Nat → Dk × Int
  | 0 => (d, 0)
  | k + 1 => if (wrun d p t k).2 = 0 then ((wrun d p t k).1.write ((p + k : Nat) : Int) (t k), (wrun d p t k).1.wErr ((p + k : Nat) : Int) (t k)) else wrun d p t k
theorem wrun_succ {d : Dk} {p : Nat} {t : Nat → List UInt8} {k : Nat} (h : (wrun d p t k).2 = 0) : wrun d p t (k + 1) = ((wrun d p t k).1.write ((p + k : Nat) : Int) (t k), (wrun d p t k).1.wErr ((p + k : Nat) : Int) (t k)) := if_pos h
theorem wrun_stop {d : Dk} {p : Nat} {t : Nat → List UInt8} {k : Nat} (h : ¬ (wrun d p t k).2 = 0) : ∀ n, wrun d p t (k + n) = wrun d p t k
  | 0 => rfl
  | n + 1 => by
    have e := wrun_stop h n
    show (if (wrun d p t (k + n)).2 = 0 then _ else wrun d p t (k + n)) = _
    rw [e, if_neg h]
def wend (d : Dk) (p : Nat) (t : Nat → List UInt8) (n : Nat) : Dk × Int := if (wrun d p t n).2 = 0 then ((wrun d p t n).1.sync, (wrun d p t n).1.sErr) else wrun d p t n
theorem burn_keep (d : Dk) : d.burn.keep = d.keep ∧ d.burn.wait.length ≤ d.wait.length := by
  unfold Dk.burn Dk.cut
  split
  · split
    · exact ⟨rfl, Nat.zero_le _⟩
    · exact ⟨rfl, Nat.le_refl _⟩
  · exact ⟨rfl, Nat.le_refl _⟩
theorem write_keep (d : Dk) (i : Int) (s : List UInt8) : (d.write i s).keep = d.keep ∧ (d.write i s).wait.length ≤ d.wait.length + 1 := by
  have hb := burn_keep d
  unfold Dk.write
  split
  · exact ⟨rfl, Nat.le_succ _⟩
  · split
    · exact ⟨rfl, Nat.le_succ _⟩
    · split
      · exact ⟨hb.1, Nat.le_succ_of_le hb.2⟩
      · refine ⟨hb.1, ?_⟩
        show (d.burn.wait ++ [_]).length ≤ _
        rw [List.length_append]; exact Nat.succ_le_succ hb.2
theorem wrun_ok {d : Dk} (h : d.ok) (p : Nat) (t : Nat → List UInt8) : ∀ k, (wrun d p t k).1.ok ∧ (wrun d p t k).1.wait.length ≤ d.wait.length + k ∧ (wrun d p t k).1.keep = d.keep
  | 0 => ⟨h, Nat.le_refl _, rfl⟩
  | k + 1 => by
    obtain ⟨h1, h2, h3⟩ := wrun_ok h p t k
    by_cases he : (wrun d p t k).2 = 0
    · rw [wrun_succ he]
      have hw := write_keep (wrun d p t k).1 ((p + k : Nat) : Int) (t k)
      exact ⟨h1.write _ _, Nat.le_trans hw.2 (by omega), hw.1.trans h3⟩
    · rw [show k + 1 = k + 1 from rfl, wrun_stop he 1]
      exact ⟨h1, by omega, h3⟩
theorem prt_ok {turn num : UInt64} {s : List UInt8} {n i : Nat} (ht : turn.toNat < 2 ^ (8 * 4)) (hn : num.toNat < 2 ^ (8 * 2)) (h : n ≤ 24) (hi : i < n) : (prt turn num s n i).ok :=
  ⟨ht, hn, by show i < 256; omega, by show n < 256; omega, by show (bname _ _ _).length ≤ 8; rw [bname_len]; exact Nat.le_refl _, by show ((s.drop _).take 39).length ≤ 39; rw [List.length_take]; exact Nat.min_le_left _ _⟩

theorem bwrite_bad_ct (F mm : Hp) (hK : Cells F ⟨4, 0, none⟩ (Sha.K.map W32)) (gb gd : Nat) (first size hat0 : Int) (ht0 : UInt64) (he0 : Int) (Ar0 : Option Addr) (nr0 cr0 : Nat) (bad : Bool) (d : Dk) (C : Option Addr) (f : Nat) (hb : Dsk mm gd d C f) (hok : d.ok) (hn2 : d.wait.length ≤ 1048576) (hKp : Sl F 1 C d.keep.length f (bytesV d.keep)) (hn3 : d.keep.length ≤ 9223372036854775807) (hat : Nat) (hturn : UInt64) (hend : Nat) (Ar : Option Addr) (nr cr : Nat) (R : List (List UInt8)) (hR : R.length = nr) (hRs : Sl F 1 Ar nr cr (strsV R)) (s : List UInt8) (hs : s.length ≤ 900) (n : Nat) (hn : n = partsN s.length) (ht : hturn.toNat < 2 ^ (8 * 4)) (hnr : nr < 65536) (hp : hat + hend ≤ 1048576) (he : ¬ (wend d (hat + hend) (fun i => (prt hturn (UInt64.ofNat nr) s n i).text) n).2 = 0) :
    Ct Tryd.prog 98 [Ptr gb, .agg #[I hat, W64 hturn, I hend, .slice Ar nr cr], Str s] [blk gb [Ptr gd, I first, I size, I hat0, W64 ht0, I he0, .slice Ar0 nr0 cr0, .bool bad] 138, mm, F] (fun _ : Hp => I (wend d (hat + hend) (fun i => (prt hturn (UInt64.ofNat nr) s n i).text) n).2) (fun x => Dsk x gd (wend d (hat + hend) (fun i => (prt hturn (UInt64.ofNat nr) s n i).text) n).1 C f) (fun x => [blk gb [Ptr gd, I first, I size, I hat0, W64 ht0, I he0, .slice Ar0 nr0 cr0, .bool true] 138, x, F]) := by
  have hn24 : n ≤ 24 := hn ▸ partsN_le hs
  have hnum : (UInt64.ofNat nr).toNat < 2 ^ (8 * 2) := by rw [ofNat64 (by omega)]; exact hnr
  refine Ct.walk Tryd.func98 rfl Tryd.ntmps98 rfl (fun w0 hw0 => ?_)
  change J _ [(0, _), (1, _), (2, _)] _ _ _
  refine J.seq (fun K1 hK1 => ?_)
  refine J.region ?_
  refine J.e (op_box (l := [I hat, W64 hturn, I hend, .slice Ar nr cr]) rfl rfl rfl) rfl rfl rfl ?_
  rintro g4 _
  change J _ _ _ [blk gb [Ptr gd, I first, I size, I hat0, W64 ht0, I he0, .slice Ar0 nr0 cr0, .bool bad] 138, mm, F, blk g4 [I hat, W64 hturn, I hend, .slice Ar nr cr] 136] _
  refine J.y (op_assign rfl rfl) rfl rfl rfl ?_
  refine J.nil ?_
  refine J.then_n (J.k hK1 ?_)
  refine J.keepE [(0, _), (2, _), (4, _)] ⟨rfl, rfl, rfl, trivial⟩ ?_
  refine J.seq (fun K2 hK2 => ?_)
  refine J.region ?_
  refine J.y (op_fieldAddr (j := 1) rfl rfl Tryd.underlying136 rfl Tryd.sizeOf134 rfl) rfl rfl rfl ?_
  refine J.y (op_loadB 3 rfl rfl rfl Tryd.isAgg134 rfl) rfl rfl rfl ?_
  refine J.y (op_fieldAddr (j := 3) rfl rfl Tryd.underlying136 rfl Tryd.sizeOf36 rfl) rfl rfl rfl ?_
  refine J.y (op_loadB 3 rfl rfl rfl Tryd.isAgg36 rfl) rfl rfl rfl ?_
  refine J.y (op_len Tryd.underlying36 rfl rfl) rfl rfl rfl ?_
  refine J.y (op_cv_i64_u64 rfl rfl Tryd.underlying3 Tryd.underlying134 (m := nr) (by omega)) rfl rfl rfl ?_
  refine J.y (op_move rfl rfl) rfl rfl rfl ?_
  refine J.e (op_call rfl rfl ent139 (Ct.use (new := fun x : Option Addr × Nat × Hp => [x.2.2]) (fun F' hF => parts_ct F' (hK.mono (hF F (by simp))) hturn (UInt64.ofNat nr) s ht hnum hs n hn))) rfl rfl rfl ?_
  rintro ⟨Ap, cp, mp⟩ hr
  try dsimp only at hr
  change J _ _ _ [blk gb [Ptr gd, I first, I size, I hat0, W64 ht0, I he0, .slice Ar0 nr0 cr0, .bool bad] 138, mm, F, blk g4 [I hat, W64 hturn, I hend, .slice Ar nr cr] 136, mp] _
  refine J.y (op_assign rfl rfl) rfl rfl rfl ?_
  refine J.nil ?_
  refine J.then_n (J.k hK2 ?_)
  refine J.keepE [(0, _), (2, _), (4, _), (7, _)] ⟨rfl, rfl, rfl, rfl, trivial⟩ ?_
  refine J.seq (fun K3 hK3 => ?_)
  refine J.region ?_
  refine J.y (op_assign rfl rfl) rfl rfl rfl ?_
  refine J.nil ?_
  refine J.then_n (J.k hK3 ?_)
  refine J.keepE [(0, _), (2, _), (4, _), (7, _), (8, _)] ⟨rfl, rfl, rfl, rfl, rfl, trivial⟩ ?_
  refine J.cut (fun x : Hp => [(0, Ptr gb), (2, Str s), (4, Ptr g4), (7, .slice Ap n cp), (8, I (wrun d (hat + hend) (fun i => (prt hturn (UInt64.ofNat nr) s n i).text) n).2)]) (fun x => [blk gb [Ptr gd, I first, I size, I hat0, W64 ht0, I he0, .slice Ar0 nr0 cr0, .bool bad] 138, x, F, blk g4 [I hat, W64 hturn, I hend, .slice Ar nr cr] 136, mp]) (fun x => Dsk x gd (wrun d (hat + hend) (fun i => (prt hturn (UInt64.ofNat nr) s n i).text) n).1 C f) (fun K4 hK4 => ?_) ?_
  ·
    refine J.seq (fun K5 hK5 => ?_)
    refine J.region ?_
    refine J.y (op_assign rfl rfl) rfl rfl rfl ?_
    refine J.nil ?_
    refine J.then_n (J.k hK5 ?_)
    refine J.keepE [(0, _), (2, _), (4, _), (7, _), (8, _), (9, _)] ⟨rfl, rfl, rfl, rfl, rfl, rfl, trivial⟩ ?_
    refine J.block ?_
    refine J.loop (X := Nat × Hp) (fun x => [(0, Ptr gb), (2, Str s), (4, Ptr g4), (7, .slice Ap n cp), (8, I (wrun d (hat + hend) (fun i => (prt hturn (UInt64.ofNat nr) s n i).text) x.1).2), (9, I x.1)]) (fun x => [blk gb [Ptr gd, I first, I size, I hat0, W64 ht0, I he0, .slice Ar0 nr0 cr0, .bool bad] 138, x.2, F, blk g4 [I hat, W64 hturn, I hend, .slice Ar nr cr] 136, mp]) (fun x => x.1 ≤ n ∧ Dsk x.2 gd (wrun d (hat + hend) (fun i => (prt hturn (UInt64.ofNat nr) s n i).text) x.1).1 C f) (fun x => n - x.1) (0, mm) (⟨Nat.zero_le _, hb⟩) ⟨rfl, rfl, rfl, rfl, rfl, rfl, trivial⟩ (fun _ h => h) ?_
    rintro ⟨k, m⟩ ⟨hk, hd⟩ I0 hI0
    dsimp only at hk hd ⊢
    refine J.seq (fun K6 hK6 => ?_)
    refine J.seq (fun K7 hK7 => ?_)
    refine J.region ?_
    refine J.y (op_move rfl rfl) rfl rfl rfl ?_
    refine J.y (op_move rfl rfl) rfl rfl rfl ?_
    refine J.y (op_len Tryd.underlying194 rfl rfl) rfl rfl rfl ?_
    refine J.y (op_lss rfl rfl rfl) rfl rfl rfl ?_
    refine J.y (op_move rfl rfl) rfl rfl rfl ?_
    refine J.split (d := 22) rfl (fun h22 => ?_) (fun h22 => ?_)
    ·
      refine J.yg (Wan.is rfl rfl rfl rfl rfl) (op_move rfl rfl) rfl rfl ?_
      refine J.yg (Wan.is rfl rfl rfl rfl rfl) (op_eql rfl rfl rfl) rfl rfl ?_
      refine J.y (op_pickT rfl rfl rfl) rfl rfl rfl ?_
      refine J.nil ?_
      refine J.then_n (J.k hK7 ?_)
      refine J.keepE [(0, _), (2, _), (4, _), (7, _), (8, _), (9, _), (25, _)] ⟨rfl, rfl, rfl, rfl, rfl, rfl, rfl, trivial⟩ ?_
      refine J.ite rfl (fun h25 => ?_) (fun h25 => ?_)
      ·
        refine J.skip ?_
        refine J.then_n (J.k hK6 ?_)
        refine J.keepE [(0, _), (2, _), (4, _), (7, _), (9, _)] ⟨rfl, rfl, rfl, rfl, rfl, trivial⟩ ?_
        refine J.seq (fun K8 hK8 => ?_)
        refine J.block ?_
        have hkn : k < n := by omega
        have hw := wrun_ok hok (hat + hend) (fun i => (prt hturn (UInt64.ofNat nr) s n i).text) k
        refine J.draw [blk gb [Ptr gd, I first, I size, I hat0, W64 ht0, I he0, .slice Ar0 nr0 cr0, .bool bad] 138, blk g4 [I hat, W64 hturn, I hend, .slice Ar nr cr] 136, F, mp] [] (.y 0 (.y 1 (.y 2 (.y 3 (.y 4 (.y 5 (.y 6 (.y 7 (.y 8 (.y 9 (.y 10 (.y 11 (.y 12 (.y 13 (.y 14 (.e 15 (.e 16 (.y 17 .nil)))))))))))))))))) Tryd.wide (by decide +kernel) (by simp) ?_
        refine J.dy rfl (op_move rfl rfl) rfl rfl rfl rfl ?_
        refine J.dy rfl (op_nilCheck rfl rfl) rfl rfl rfl rfl ?_
        refine J.dy rfl (op_fieldAddr (j := 0) rfl rfl Tryd.underlying138 rfl Tryd.sizeOf55 rfl) rfl rfl rfl rfl ?_
        refine J.dy rfl (op_loadB 0 rfl rfl rfl Tryd.isAgg55 rfl) rfl rfl rfl rfl ?_
        refine J.dy rfl (op_fieldAddr (j := 0) rfl rfl Tryd.underlying136 rfl Tryd.sizeOf3 rfl) rfl rfl rfl rfl ?_
        refine J.dy rfl (op_loadB 1 rfl rfl rfl Tryd.isAgg3 rfl) rfl rfl rfl rfl ?_
        refine J.dy rfl (op_fieldAddr (j := 2) rfl rfl Tryd.underlying136 rfl Tryd.sizeOf3 rfl) rfl rfl rfl rfl ?_
        refine J.dy rfl (op_loadB 1 rfl rfl rfl Tryd.isAgg3 rfl) rfl rfl rfl rfl ?_
        refine J.dy rfl ((op_add rfl rfl rfl (by first | omega | (refine ⟨?_, ?_⟩ <;> omega))).as (v' := I ((hat + hend : Nat) : Int)) (congrArg I (by omega))) rfl rfl rfl rfl ?_
        refine J.dy rfl (op_move rfl rfl) rfl rfl rfl rfl ?_
        refine J.dy rfl ((op_add rfl rfl rfl (by first | omega | (refine ⟨?_, ?_⟩ <;> omega))).as (v' := I ((hat + hend + k : Nat) : Int)) (congrArg I (by omega))) rfl rfl rfl rfl ?_
        refine J.dy rfl (op_move rfl rfl) rfl rfl rfl rfl ?_
        refine J.dy rfl (op_move rfl rfl) rfl rfl rfl rfl ?_
        refine J.dy rfl (op_indexAddr (i := k) rfl rfl rfl Tryd.underlying194 Tryd.sizeOf198 hr.sl (by omega)) rfl rfl rfl rfl ?_
        refine J.dy rfl (op_loadA rfl rfl Tryd.isAgg198 Tryd.sizeOf198 (m := mp) (by simp) (vs := (prt hturn (UInt64.ofNat nr) s n k).cells) (hr.sl.elem (prtsV_get hkn)) rfl) rfl rfl rfl rfl ?_
        refine J.de rfl (op_call rfl rfl ent141 (Ct.use0 (fun F' hF => ptext_ct F' (hK.mono (hF F (by simp))) (prt hturn (UInt64.ofNat nr) s n k) (prt_ok ht hnum hn24 hkn)))) rfl rfl rfl (by simp) ?_
        intro g43 _
        refine J.de rfl (op_call rfl rfl ent140 (Ct.use1 1 (m' := fun x : Hp => x) (new := fun _ => []) rfl (fun F' hF => write_ct F' m gd (wrun d (hat + hend) (fun i => (prt hturn (UInt64.ofNat nr) s n i).text) k).1 C f hd hw.1 (by have := hw.2.1; omega) (by rw [hw.2.2]; exact hKp.mono (hF F (by simp))) (by rw [hw.2.2]; exact hn3) ((hat + hend + k : Nat) : Int) (prt hturn (UInt64.ofNat nr) s n k).text (by rw [Prt.text_len (prt_ok ht hnum hn24 hkn)]; decide)))) rfl rfl rfl (by simp) ?_
        rintro m44 hd44
        change J _ _ _ [blk gb [Ptr gd, I first, I size, I hat0, W64 ht0, I he0, .slice Ar0 nr0 cr0, .bool bad] 138, m44, F, blk g4 [I hat, W64 hturn, I hend, .slice Ar nr cr] 136, mp] _
        refine J.dy rfl (op_assign rfl rfl) rfl rfl rfl rfl ?_
        refine J.dnil ?_
        refine J.blk_n ?_
        refine J.then_n (J.k hK8 ?_)
        refine J.keepE [(0, _), (2, _), (4, _), (7, _), (8, _), (9, _)] ⟨rfl, rfl, rfl, rfl, rfl, rfl, trivial⟩ ?_
        refine J.region ?_
        refine J.y (op_move rfl rfl) rfl rfl rfl ?_
        refine J.y ((op_add rfl rfl rfl (by first | omega | (refine ⟨?_, ?_⟩ <;> omega))).as (v' := I ((k + 1 : Nat) : Int)) (congrArg I (by omega))) rfl rfl rfl ?_
        refine J.y (op_assign rfl rfl) rfl rfl rfl ?_
        refine J.nil ?_
        refine J.then_n ?_
        have hsu := wrun_succ (show (wrun d (hat + hend) (fun i => (prt hturn (UInt64.ofNat nr) s n i).text) k).2 = 0 from by omega)
        exact J.kk (k + 1, m44) (fun y (hy : _ ∧ n - y.1 < n - k) => hI0 y hy.1 hy.2) ⟨⟨by dsimp only; omega, by dsimp only; rw [hsu]; exact hd44⟩, by dsimp only; omega⟩ ⟨rfl, rfl, rfl, rfl, by dsimp only; rw [hsu]; rfl, rfl, trivial⟩ (fun _ h => h)
      ·
        refine J.exit ?_
        refine J.then_x ?_
        refine J.then_x ?_
        refine J.blk_eq ?_
        refine J.then_n ?_
        have hst := wrun_stop (d := d) (p := hat + hend) (t := (fun i => (prt hturn (UInt64.ofNat nr) s n i).text)) (k := k) (by omega) (n - k)
        rw [show k + (n - k) = n by omega] at hst
        exact J.kk m hK4 (by rw [hst]; exact hd) ⟨rfl, rfl, rfl, rfl, by rw [hst]; rfl, trivial⟩ (fun _ h => h)
    ·
      refine J.no (Wan.is rfl rfl rfl rfl rfl) rfl rfl ?_
      refine J.no (Wan.is rfl rfl rfl rfl rfl) rfl rfl ?_
      refine J.y (op_pickF rfl rfl rfl) rfl rfl rfl ?_
      refine J.nil ?_
      refine J.then_n (J.k hK7 ?_)
      refine J.keepE [(0, _), (2, _), (4, _), (7, _), (8, _), (9, _), (25, _)] ⟨rfl, rfl, rfl, rfl, rfl, rfl, rfl, trivial⟩ ?_
      refine J.condF rfl rfl ?_
      refine J.exit ?_
      refine J.then_x ?_
      refine J.then_x ?_
      refine J.blk_eq ?_
      refine J.then_n ?_
      have hkk : k = n := by omega
      subst hkk
      exact J.kk m hK4 hd ⟨rfl, rfl, rfl, rfl, rfl, trivial⟩ (fun _ h => h)
  intro m hd
  refine J.cut (fun x : Hp => [(0, Ptr gb), (2, Str s), (4, Ptr g4), (7, .slice Ap n cp), (8, I (wend d (hat + hend) (fun i => (prt hturn (UInt64.ofNat nr) s n i).text) n).2)]) (fun x => [blk gb [Ptr gd, I first, I size, I hat0, W64 ht0, I he0, .slice Ar0 nr0 cr0, .bool bad] 138, x, F, blk g4 [I hat, W64 hturn, I hend, .slice Ar nr cr] 136, mp]) (fun x => Dsk x gd (wend d (hat + hend) (fun i => (prt hturn (UInt64.ofNat nr) s n i).text) n).1 C f) (fun K9 hK9 => ?_) ?_
  ·
    refine J.seq (fun K10 hK10 => ?_)
    have hw := wrun_ok hok (hat + hend) (fun i => (prt hturn (UInt64.ofNat nr) s n i).text) n
    refine J.region ?_
    refine J.y (op_move rfl rfl) rfl rfl rfl ?_
    refine J.y (op_eql rfl rfl rfl) rfl rfl rfl ?_
    refine J.nil ?_
    refine J.then_n (J.k hK10 ?_)
    refine J.keepE [(0, _), (2, _), (4, _), (7, _), (8, _), (46, _)] ⟨rfl, rfl, rfl, rfl, rfl, rfl, trivial⟩ ?_
    refine J.ite rfl (fun h46 => ?_) (fun h46 => ?_)
    ·
      refine J.region ?_
      refine J.y (op_move rfl rfl) rfl rfl rfl ?_
      refine J.y (op_nilCheck rfl rfl) rfl rfl rfl ?_
      refine J.y (op_fieldAddr (j := 0) rfl rfl Tryd.underlying138 rfl Tryd.sizeOf55 rfl) rfl rfl rfl ?_
      refine J.y (op_loadB 0 rfl rfl rfl Tryd.isAgg55 rfl) rfl rfl rfl ?_
      refine J.e (op_call rfl rfl ent142 (Ct.use1 1 (m' := fun x : Hp => x) (new := fun _ => []) rfl (fun F' hF => sync_ct F' m gd (wrun d (hat + hend) (fun i => (prt hturn (UInt64.ofNat nr) s n i).text) n).1 C f hd hw.1 (by have := hw.2.1; omega) (by rw [hw.2.2]; exact hKp.mono (hF F (by simp))) (by rw [hw.2.2]; exact hn3)))) rfl rfl rfl ?_
      rintro m51 hd51
      change J _ _ _ [blk gb [Ptr gd, I first, I size, I hat0, W64 ht0, I he0, .slice Ar0 nr0 cr0, .bool bad] 138, m51, F, blk g4 [I hat, W64 hturn, I hend, .slice Ar nr cr] 136, mp] _
      refine J.y (op_assign rfl rfl) rfl rfl rfl ?_
      refine J.nil ?_
      refine J.then_n ?_
      have hst : (wend d (hat + hend) (fun i => (prt hturn (UInt64.ofNat nr) s n i).text) n) = ((wrun d (hat + hend) (fun i => (prt hturn (UInt64.ofNat nr) s n i).text) n).1.sync, (wrun d (hat + hend) (fun i => (prt hturn (UInt64.ofNat nr) s n i).text) n).1.sErr) := if_pos (by omega)
      exact J.kk m51 hK9 (by rw [hst]; exact hd51) ⟨rfl, rfl, rfl, rfl, by rw [hst]; rfl, trivial⟩ (fun _ h => h)
    ·
      refine J.skip ?_
      refine J.then_n ?_
      have hst : (wend d (hat + hend) (fun i => (prt hturn (UInt64.ofNat nr) s n i).text) n) = (wrun d (hat + hend) (fun i => (prt hturn (UInt64.ofNat nr) s n i).text) n) := if_neg (by omega)
      exact J.kk m hK9 (by rw [hst]; exact hd) ⟨rfl, rfl, rfl, rfl, by rw [hst]; rfl, trivial⟩ (fun _ h => h)
  intro m hd
  refine J.seq (fun K11 hK11 => ?_)
  refine J.seq (fun K12 hK12 => ?_)
  refine J.region ?_
  refine J.y (op_move rfl rfl) rfl rfl rfl ?_
  refine J.y ((op_neq rfl rfl rfl).as (v' := .bool true) (congrArg Value.bool (decide_eq_true (by omega)))) rfl rfl rfl ?_
  refine J.nil ?_
  refine J.then_n (J.k hK12 ?_)
  refine J.keepE [(0, _), (2, _), (4, _), (7, _), (8, _), (53, _)] ⟨rfl, rfl, rfl, rfl, rfl, rfl, trivial⟩ ?_
  refine J.condT rfl rfl ?_
  refine J.seq (fun K13 hK13 => ?_)
  refine J.region ?_
  refine J.y (op_move rfl rfl) rfl rfl rfl ?_
  refine J.y (op_nilCheck rfl rfl) rfl rfl rfl ?_
  refine J.y (op_fieldAddr (j := 7) rfl rfl Tryd.underlying138 rfl Tryd.sizeOf4 rfl) rfl rfl rfl ?_
  refine J.s (op_store (i := 0) (vs := [.bool true]) rfl rfl rfl rfl rfl Tryd.sizeOf4 rfl (by simp)) rfl rfl (fun _ _ => ?_)
  change J _ _ _ [blk gb [Ptr gd, I first, I size, I hat0, W64 ht0, I he0, .slice Ar0 nr0 cr0, .bool true] 138, m, F, blk g4 [I hat, W64 hturn, I hend, .slice Ar nr cr] 136, mp] _
  refine J.nil ?_
  refine J.then_n (J.k hK13 ?_)
  refine J.keepE [(8, _)] ⟨rfl, trivial⟩ ?_
  refine J.seq (fun K14 hK14 => ?_)
  refine J.region ?_
  refine J.y (op_move rfl rfl) rfl rfl rfl ?_
  refine J.y (op_assign rfl rfl) rfl rfl rfl ?_
  refine J.nil ?_
  refine J.then_n (J.k hK14 ?_)
  refine J.keepE [(6, _)] ⟨rfl, trivial⟩ ?_
  refine J.ret ?_
  refine J.then_r ?_
  exact J.done hw0 (fun _ _ h => h) (res1 rfl rfl) (retOk m rfl hd [0, 1, 2] rfl (by decide))

theorem bwrite_good_ct (F mm : Hp) (hK : Cells F ⟨4, 0, none⟩ (Sha.K.map W32)) (gb gd : Nat) (first size hat0 : Int) (ht0 : UInt64) (he0 : Int) (Ar0 : Option Addr) (nr0 cr0 : Nat) (bad : Bool) (d : Dk) (C : Option Addr) (f : Nat) (hb : Dsk mm gd d C f) (hok : d.ok) (hn2 : d.wait.length ≤ 1048576) (hKp : Sl F 1 C d.keep.length f (bytesV d.keep)) (hn3 : d.keep.length ≤ 9223372036854775807) (hat : Nat) (hturn : UInt64) (hend : Nat) (Ar : Option Addr) (nr cr : Nat) (R : List (List UInt8)) (hR : R.length = nr) (hRs : Sl F 1 Ar nr cr (strsV R)) (s : List UInt8) (hs : s.length ≤ 900) (n : Nat) (hn : n = partsN s.length) (ht : hturn.toNat < 2 ^ (8 * 4)) (hnr : nr < 65536) (hp : hat + hend ≤ 1048576) (he : (wend d (hat + hend) (fun i => (prt hturn (UInt64.ofNat nr) s n i).text) n).2 = 0) :
    Ct Tryd.prog 98 [Ptr gb, .agg #[I hat, W64 hturn, I hend, .slice Ar nr cr], Str s] [blk gb [Ptr gd, I first, I size, I hat0, W64 ht0, I he0, .slice Ar0 nr0 cr0, .bool bad] 138, mm, F] (fun _ : Hp × Option Addr × Nat × Hp => I 0) (fun x => Dsk x.1 gd (wend d (hat + hend) (fun i => (prt hturn (UInt64.ofNat nr) s n i).text) n).1 C f ∧ Row x.2.2.2 9 1 x.2.1 (nr + 1) x.2.2.1 (strsV (R ++ [s]))) (fun x => [blk gb [Ptr gd, I first, I size, I hat, W64 hturn, I ((hend + n : Nat) : Int), .slice x.2.1 (nr + 1) x.2.2.1, .bool bad] 138, x.1, F, x.2.2.2]) := by
  have hn24 : n ≤ 24 := hn ▸ partsN_le hs
  have hnum : (UInt64.ofNat nr).toNat < 2 ^ (8 * 2) := by rw [ofNat64 (by omega)]; exact hnr
  refine Ct.walk Tryd.func98 rfl Tryd.ntmps98 rfl (fun w0 hw0 => ?_)
  change J _ [(0, _), (1, _), (2, _)] _ _ _
  refine J.seq (fun K1 hK1 => ?_)
  refine J.region ?_
  refine J.e (op_box (l := [I hat, W64 hturn, I hend, .slice Ar nr cr]) rfl rfl rfl) rfl rfl rfl ?_
  rintro g4 _
  change J _ _ _ [blk gb [Ptr gd, I first, I size, I hat0, W64 ht0, I he0, .slice Ar0 nr0 cr0, .bool bad] 138, mm, F, blk g4 [I hat, W64 hturn, I hend, .slice Ar nr cr] 136] _
  refine J.y (op_assign rfl rfl) rfl rfl rfl ?_
  refine J.nil ?_
  refine J.then_n (J.k hK1 ?_)
  refine J.keepE [(0, _), (2, _), (4, _)] ⟨rfl, rfl, rfl, trivial⟩ ?_
  refine J.seq (fun K2 hK2 => ?_)
  refine J.region ?_
  refine J.y (op_fieldAddr (j := 1) rfl rfl Tryd.underlying136 rfl Tryd.sizeOf134 rfl) rfl rfl rfl ?_
  refine J.y (op_loadB 3 rfl rfl rfl Tryd.isAgg134 rfl) rfl rfl rfl ?_
  refine J.y (op_fieldAddr (j := 3) rfl rfl Tryd.underlying136 rfl Tryd.sizeOf36 rfl) rfl rfl rfl ?_
  refine J.y (op_loadB 3 rfl rfl rfl Tryd.isAgg36 rfl) rfl rfl rfl ?_
  refine J.y (op_len Tryd.underlying36 rfl rfl) rfl rfl rfl ?_
  refine J.y (op_cv_i64_u64 rfl rfl Tryd.underlying3 Tryd.underlying134 (m := nr) (by omega)) rfl rfl rfl ?_
  refine J.y (op_move rfl rfl) rfl rfl rfl ?_
  refine J.e (op_call rfl rfl ent139 (Ct.use (new := fun x : Option Addr × Nat × Hp => [x.2.2]) (fun F' hF => parts_ct F' (hK.mono (hF F (by simp))) hturn (UInt64.ofNat nr) s ht hnum hs n hn))) rfl rfl rfl ?_
  rintro ⟨Ap, cp, mp⟩ hr
  try dsimp only at hr
  change J _ _ _ [blk gb [Ptr gd, I first, I size, I hat0, W64 ht0, I he0, .slice Ar0 nr0 cr0, .bool bad] 138, mm, F, blk g4 [I hat, W64 hturn, I hend, .slice Ar nr cr] 136, mp] _
  refine J.y (op_assign rfl rfl) rfl rfl rfl ?_
  refine J.nil ?_
  refine J.then_n (J.k hK2 ?_)
  refine J.keepE [(0, _), (2, _), (4, _), (7, _)] ⟨rfl, rfl, rfl, rfl, trivial⟩ ?_
  refine J.seq (fun K3 hK3 => ?_)
  refine J.region ?_
  refine J.y (op_assign rfl rfl) rfl rfl rfl ?_
  refine J.nil ?_
  refine J.then_n (J.k hK3 ?_)
  refine J.keepE [(0, _), (2, _), (4, _), (7, _), (8, _)] ⟨rfl, rfl, rfl, rfl, rfl, trivial⟩ ?_
  refine J.cut (fun x : Hp => [(0, Ptr gb), (2, Str s), (4, Ptr g4), (7, .slice Ap n cp), (8, I (wrun d (hat + hend) (fun i => (prt hturn (UInt64.ofNat nr) s n i).text) n).2)]) (fun x => [blk gb [Ptr gd, I first, I size, I hat0, W64 ht0, I he0, .slice Ar0 nr0 cr0, .bool bad] 138, x, F, blk g4 [I hat, W64 hturn, I hend, .slice Ar nr cr] 136, mp]) (fun x => Dsk x gd (wrun d (hat + hend) (fun i => (prt hturn (UInt64.ofNat nr) s n i).text) n).1 C f) (fun K4 hK4 => ?_) ?_
  ·
    refine J.seq (fun K5 hK5 => ?_)
    refine J.region ?_
    refine J.y (op_assign rfl rfl) rfl rfl rfl ?_
    refine J.nil ?_
    refine J.then_n (J.k hK5 ?_)
    refine J.keepE [(0, _), (2, _), (4, _), (7, _), (8, _), (9, _)] ⟨rfl, rfl, rfl, rfl, rfl, rfl, trivial⟩ ?_
    refine J.block ?_
    refine J.loop (X := Nat × Hp) (fun x => [(0, Ptr gb), (2, Str s), (4, Ptr g4), (7, .slice Ap n cp), (8, I (wrun d (hat + hend) (fun i => (prt hturn (UInt64.ofNat nr) s n i).text) x.1).2), (9, I x.1)]) (fun x => [blk gb [Ptr gd, I first, I size, I hat0, W64 ht0, I he0, .slice Ar0 nr0 cr0, .bool bad] 138, x.2, F, blk g4 [I hat, W64 hturn, I hend, .slice Ar nr cr] 136, mp]) (fun x => x.1 ≤ n ∧ Dsk x.2 gd (wrun d (hat + hend) (fun i => (prt hturn (UInt64.ofNat nr) s n i).text) x.1).1 C f) (fun x => n - x.1) (0, mm) (⟨Nat.zero_le _, hb⟩) ⟨rfl, rfl, rfl, rfl, rfl, rfl, trivial⟩ (fun _ h => h) ?_
    rintro ⟨k, m⟩ ⟨hk, hd⟩ I0 hI0
    dsimp only at hk hd ⊢
    refine J.seq (fun K6 hK6 => ?_)
    refine J.seq (fun K7 hK7 => ?_)
    refine J.region ?_
    refine J.y (op_move rfl rfl) rfl rfl rfl ?_
    refine J.y (op_move rfl rfl) rfl rfl rfl ?_
    refine J.y (op_len Tryd.underlying194 rfl rfl) rfl rfl rfl ?_
    refine J.y (op_lss rfl rfl rfl) rfl rfl rfl ?_
    refine J.y (op_move rfl rfl) rfl rfl rfl ?_
    refine J.split (d := 22) rfl (fun h22 => ?_) (fun h22 => ?_)
    ·
      refine J.yg (Wan.is rfl rfl rfl rfl rfl) (op_move rfl rfl) rfl rfl ?_
      refine J.yg (Wan.is rfl rfl rfl rfl rfl) (op_eql rfl rfl rfl) rfl rfl ?_
      refine J.y (op_pickT rfl rfl rfl) rfl rfl rfl ?_
      refine J.nil ?_
      refine J.then_n (J.k hK7 ?_)
      refine J.keepE [(0, _), (2, _), (4, _), (7, _), (8, _), (9, _), (25, _)] ⟨rfl, rfl, rfl, rfl, rfl, rfl, rfl, trivial⟩ ?_
      refine J.ite rfl (fun h25 => ?_) (fun h25 => ?_)
      ·
        refine J.skip ?_
        refine J.then_n (J.k hK6 ?_)
        refine J.keepE [(0, _), (2, _), (4, _), (7, _), (9, _)] ⟨rfl, rfl, rfl, rfl, rfl, trivial⟩ ?_
        refine J.seq (fun K8 hK8 => ?_)
        refine J.block ?_
        have hkn : k < n := by omega
        have hw := wrun_ok hok (hat + hend) (fun i => (prt hturn (UInt64.ofNat nr) s n i).text) k
        refine J.draw [blk gb [Ptr gd, I first, I size, I hat0, W64 ht0, I he0, .slice Ar0 nr0 cr0, .bool bad] 138, blk g4 [I hat, W64 hturn, I hend, .slice Ar nr cr] 136, F, mp] [] (.y 0 (.y 1 (.y 2 (.y 3 (.y 4 (.y 5 (.y 6 (.y 7 (.y 8 (.y 9 (.y 10 (.y 11 (.y 12 (.y 13 (.y 14 (.e 15 (.e 16 (.y 17 .nil)))))))))))))))))) Tryd.wide (by decide +kernel) (by simp) ?_
        refine J.dy rfl (op_move rfl rfl) rfl rfl rfl rfl ?_
        refine J.dy rfl (op_nilCheck rfl rfl) rfl rfl rfl rfl ?_
        refine J.dy rfl (op_fieldAddr (j := 0) rfl rfl Tryd.underlying138 rfl Tryd.sizeOf55 rfl) rfl rfl rfl rfl ?_
        refine J.dy rfl (op_loadB 0 rfl rfl rfl Tryd.isAgg55 rfl) rfl rfl rfl rfl ?_
        refine J.dy rfl (op_fieldAddr (j := 0) rfl rfl Tryd.underlying136 rfl Tryd.sizeOf3 rfl) rfl rfl rfl rfl ?_
        refine J.dy rfl (op_loadB 1 rfl rfl rfl Tryd.isAgg3 rfl) rfl rfl rfl rfl ?_
        refine J.dy rfl (op_fieldAddr (j := 2) rfl rfl Tryd.underlying136 rfl Tryd.sizeOf3 rfl) rfl rfl rfl rfl ?_
        refine J.dy rfl (op_loadB 1 rfl rfl rfl Tryd.isAgg3 rfl) rfl rfl rfl rfl ?_
        refine J.dy rfl ((op_add rfl rfl rfl (by first | omega | (refine ⟨?_, ?_⟩ <;> omega))).as (v' := I ((hat + hend : Nat) : Int)) (congrArg I (by omega))) rfl rfl rfl rfl ?_
        refine J.dy rfl (op_move rfl rfl) rfl rfl rfl rfl ?_
        refine J.dy rfl ((op_add rfl rfl rfl (by first | omega | (refine ⟨?_, ?_⟩ <;> omega))).as (v' := I ((hat + hend + k : Nat) : Int)) (congrArg I (by omega))) rfl rfl rfl rfl ?_
        refine J.dy rfl (op_move rfl rfl) rfl rfl rfl rfl ?_
        refine J.dy rfl (op_move rfl rfl) rfl rfl rfl rfl ?_
        refine J.dy rfl (op_indexAddr (i := k) rfl rfl rfl Tryd.underlying194 Tryd.sizeOf198 hr.sl (by omega)) rfl rfl rfl rfl ?_
        refine J.dy rfl (op_loadA rfl rfl Tryd.isAgg198 Tryd.sizeOf198 (m := mp) (by simp) (vs := (prt hturn (UInt64.ofNat nr) s n k).cells) (hr.sl.elem (prtsV_get hkn)) rfl) rfl rfl rfl rfl ?_
        refine J.de rfl (op_call rfl rfl ent141 (Ct.use0 (fun F' hF => ptext_ct F' (hK.mono (hF F (by simp))) (prt hturn (UInt64.ofNat nr) s n k) (prt_ok ht hnum hn24 hkn)))) rfl rfl rfl (by simp) ?_
        intro g43 _
        refine J.de rfl (op_call rfl rfl ent140 (Ct.use1 1 (m' := fun x : Hp => x) (new := fun _ => []) rfl (fun F' hF => write_ct F' m gd (wrun d (hat + hend) (fun i => (prt hturn (UInt64.ofNat nr) s n i).text) k).1 C f hd hw.1 (by have := hw.2.1; omega) (by rw [hw.2.2]; exact hKp.mono (hF F (by simp))) (by rw [hw.2.2]; exact hn3) ((hat + hend + k : Nat) : Int) (prt hturn (UInt64.ofNat nr) s n k).text (by rw [Prt.text_len (prt_ok ht hnum hn24 hkn)]; decide)))) rfl rfl rfl (by simp) ?_
        rintro m44 hd44
        change J _ _ _ [blk gb [Ptr gd, I first, I size, I hat0, W64 ht0, I he0, .slice Ar0 nr0 cr0, .bool bad] 138, m44, F, blk g4 [I hat, W64 hturn, I hend, .slice Ar nr cr] 136, mp] _
        refine J.dy rfl (op_assign rfl rfl) rfl rfl rfl rfl ?_
        refine J.dnil ?_
        refine J.blk_n ?_
        refine J.then_n (J.k hK8 ?_)
        refine J.keepE [(0, _), (2, _), (4, _), (7, _), (8, _), (9, _)] ⟨rfl, rfl, rfl, rfl, rfl, rfl, trivial⟩ ?_
        refine J.region ?_
        refine J.y (op_move rfl rfl) rfl rfl rfl ?_
        refine J.y ((op_add rfl rfl rfl (by first | omega | (refine ⟨?_, ?_⟩ <;> omega))).as (v' := I ((k + 1 : Nat) : Int)) (congrArg I (by omega))) rfl rfl rfl ?_
        refine J.y (op_assign rfl rfl) rfl rfl rfl ?_
        refine J.nil ?_
        refine J.then_n ?_
        have hsu := wrun_succ (show (wrun d (hat + hend) (fun i => (prt hturn (UInt64.ofNat nr) s n i).text) k).2 = 0 from by omega)
        exact J.kk (k + 1, m44) (fun y (hy : _ ∧ n - y.1 < n - k) => hI0 y hy.1 hy.2) ⟨⟨by dsimp only; omega, by dsimp only; rw [hsu]; exact hd44⟩, by dsimp only; omega⟩ ⟨rfl, rfl, rfl, rfl, by dsimp only; rw [hsu]; rfl, rfl, trivial⟩ (fun _ h => h)
      ·
        refine J.exit ?_
        refine J.then_x ?_
        refine J.then_x ?_
        refine J.blk_eq ?_
        refine J.then_n ?_
        have hst := wrun_stop (d := d) (p := hat + hend) (t := (fun i => (prt hturn (UInt64.ofNat nr) s n i).text)) (k := k) (by omega) (n - k)
        rw [show k + (n - k) = n by omega] at hst
        exact J.kk m hK4 (by rw [hst]; exact hd) ⟨rfl, rfl, rfl, rfl, by rw [hst]; rfl, trivial⟩ (fun _ h => h)
    ·
      refine J.no (Wan.is rfl rfl rfl rfl rfl) rfl rfl ?_
      refine J.no (Wan.is rfl rfl rfl rfl rfl) rfl rfl ?_
      refine J.y (op_pickF rfl rfl rfl) rfl rfl rfl ?_
      refine J.nil ?_
      refine J.then_n (J.k hK7 ?_)
      refine J.keepE [(0, _), (2, _), (4, _), (7, _), (8, _), (9, _), (25, _)] ⟨rfl, rfl, rfl, rfl, rfl, rfl, rfl, trivial⟩ ?_
      refine J.condF rfl rfl ?_
      refine J.exit ?_
      refine J.then_x ?_
      refine J.then_x ?_
      refine J.blk_eq ?_
      refine J.then_n ?_
      have hkk : k = n := by omega
      subst hkk
      exact J.kk m hK4 hd ⟨rfl, rfl, rfl, rfl, rfl, trivial⟩ (fun _ h => h)
  intro m hd
  refine J.cut (fun x : Hp => [(0, Ptr gb), (2, Str s), (4, Ptr g4), (7, .slice Ap n cp), (8, I (wend d (hat + hend) (fun i => (prt hturn (UInt64.ofNat nr) s n i).text) n).2)]) (fun x => [blk gb [Ptr gd, I first, I size, I hat0, W64 ht0, I he0, .slice Ar0 nr0 cr0, .bool bad] 138, x, F, blk g4 [I hat, W64 hturn, I hend, .slice Ar nr cr] 136, mp]) (fun x => Dsk x gd (wend d (hat + hend) (fun i => (prt hturn (UInt64.ofNat nr) s n i).text) n).1 C f) (fun K9 hK9 => ?_) ?_
  ·
    refine J.seq (fun K10 hK10 => ?_)
    have hw := wrun_ok hok (hat + hend) (fun i => (prt hturn (UInt64.ofNat nr) s n i).text) n
    refine J.region ?_
    refine J.y (op_move rfl rfl) rfl rfl rfl ?_
    refine J.y (op_eql rfl rfl rfl) rfl rfl rfl ?_
    refine J.nil ?_
    refine J.then_n (J.k hK10 ?_)
    refine J.keepE [(0, _), (2, _), (4, _), (7, _), (8, _), (46, _)] ⟨rfl, rfl, rfl, rfl, rfl, rfl, trivial⟩ ?_
    refine J.ite rfl (fun h46 => ?_) (fun h46 => ?_)
    ·
      refine J.region ?_
      refine J.y (op_move rfl rfl) rfl rfl rfl ?_
      refine J.y (op_nilCheck rfl rfl) rfl rfl rfl ?_
      refine J.y (op_fieldAddr (j := 0) rfl rfl Tryd.underlying138 rfl Tryd.sizeOf55 rfl) rfl rfl rfl ?_
      refine J.y (op_loadB 0 rfl rfl rfl Tryd.isAgg55 rfl) rfl rfl rfl ?_
      refine J.e (op_call rfl rfl ent142 (Ct.use1 1 (m' := fun x : Hp => x) (new := fun _ => []) rfl (fun F' hF => sync_ct F' m gd (wrun d (hat + hend) (fun i => (prt hturn (UInt64.ofNat nr) s n i).text) n).1 C f hd hw.1 (by have := hw.2.1; omega) (by rw [hw.2.2]; exact hKp.mono (hF F (by simp))) (by rw [hw.2.2]; exact hn3)))) rfl rfl rfl ?_
      rintro m51 hd51
      change J _ _ _ [blk gb [Ptr gd, I first, I size, I hat0, W64 ht0, I he0, .slice Ar0 nr0 cr0, .bool bad] 138, m51, F, blk g4 [I hat, W64 hturn, I hend, .slice Ar nr cr] 136, mp] _
      refine J.y (op_assign rfl rfl) rfl rfl rfl ?_
      refine J.nil ?_
      refine J.then_n ?_
      have hst : (wend d (hat + hend) (fun i => (prt hturn (UInt64.ofNat nr) s n i).text) n) = ((wrun d (hat + hend) (fun i => (prt hturn (UInt64.ofNat nr) s n i).text) n).1.sync, (wrun d (hat + hend) (fun i => (prt hturn (UInt64.ofNat nr) s n i).text) n).1.sErr) := if_pos (by omega)
      exact J.kk m51 hK9 (by rw [hst]; exact hd51) ⟨rfl, rfl, rfl, rfl, by rw [hst]; rfl, trivial⟩ (fun _ h => h)
    ·
      refine J.skip ?_
      refine J.then_n ?_
      have hst : (wend d (hat + hend) (fun i => (prt hturn (UInt64.ofNat nr) s n i).text) n) = (wrun d (hat + hend) (fun i => (prt hturn (UInt64.ofNat nr) s n i).text) n) := if_neg (by omega)
      exact J.kk m hK9 (by rw [hst]; exact hd) ⟨rfl, rfl, rfl, rfl, by rw [hst]; rfl, trivial⟩ (fun _ h => h)
  intro m hd
  refine J.seq (fun K11 hK11 => ?_)
  refine J.seq (fun K12 hK12 => ?_)
  refine J.region ?_
  refine J.y (op_move rfl rfl) rfl rfl rfl ?_
  refine J.y ((op_neq rfl rfl rfl).as (v' := .bool false) (congrArg Value.bool (decide_eq_false (by omega)))) rfl rfl rfl ?_
  refine J.nil ?_
  refine J.then_n (J.k hK12 ?_)
  refine J.keepE [(0, _), (2, _), (4, _), (7, _), (8, _), (53, _)] ⟨rfl, rfl, rfl, rfl, rfl, rfl, trivial⟩ ?_
  refine J.condF rfl rfl ?_
  refine J.skip ?_
  refine J.then_n (J.k hK11 ?_)
  refine J.keepE [(0, _), (2, _), (4, _), (7, _)] ⟨rfl, rfl, rfl, rfl, trivial⟩ ?_
  refine J.seq (fun K13 hK13 => ?_)
  refine J.region ?_
  refine J.y (op_fieldAddr (j := 2) rfl rfl Tryd.underlying136 rfl Tryd.sizeOf3 rfl) rfl rfl rfl ?_
  refine J.y (op_loadB 3 rfl rfl rfl Tryd.isAgg3 rfl) rfl rfl rfl ?_
  refine J.y (op_move rfl rfl) rfl rfl rfl ?_
  refine J.y (op_len Tryd.underlying194 rfl rfl) rfl rfl rfl ?_
  refine J.y ((op_add rfl rfl rfl (by omega)).as (v' := I ((hend + n : Nat) : Int)) (congrArg I (by omega))) rfl rfl rfl ?_
  refine J.y (op_fieldAddr (j := 2) rfl rfl Tryd.underlying136 rfl Tryd.sizeOf3 rfl) rfl rfl rfl ?_
  refine J.s (op_store (i := 3) (vs := [I ((hend + n : Nat) : Int)]) rfl rfl rfl rfl rfl Tryd.sizeOf3 rfl (by simp)) rfl rfl (fun _ _ => ?_)
  change J _ _ _ [blk gb [Ptr gd, I first, I size, I hat0, W64 ht0, I he0, .slice Ar0 nr0 cr0, .bool bad] 138, m, F, blk g4 [I hat, W64 hturn, I ((hend + n : Nat) : Int), .slice Ar nr cr] 136, mp] _
  refine J.nil ?_
  refine J.then_n (J.k hK13 ?_)
  refine J.keepE [(0, _), (2, _), (4, _)] ⟨rfl, rfl, rfl, trivial⟩ ?_
  refine J.seq (fun K14 hK14 => ?_)
  refine J.region ?_
  refine J.y (op_fieldAddr (j := 3) rfl rfl Tryd.underlying136 rfl Tryd.sizeOf36 rfl) rfl rfl rfl ?_
  refine J.y (op_loadB 3 rfl rfl rfl Tryd.isAgg36 rfl) rfl rfl rfl ?_
  refine J.e (op_call rfl rfl ent99 (Ct.use (new := fun x : Option Addr × Nat × Hp => [x.2.2]) (fun F' hF => by have := cloneS_ct F' R Ar cr (by rw [hR]; exact hRs.mono (hF F (by simp))) (by omega); rw [hR] at this; exact this))) rfl rfl rfl ?_
  rintro ⟨A6, c6, m6⟩ h6
  try dsimp only at h6
  change J _ _ _ [blk gb [Ptr gd, I first, I size, I hat0, W64 ht0, I he0, .slice Ar0 nr0 cr0, .bool bad] 138, m, F, blk g4 [I hat, W64 hturn, I ((hend + n : Nat) : Int), .slice Ar nr cr] 136, mp, m6] _
  refine J.y (op_move rfl rfl) rfl rfl rfl ?_
  refine J.e (op_buildSlice (l := [.tmp 67]) (xs := [[Str s]]) rfl rfl rfl rfl Tryd.underlying36 el9 rfl (by decide) (by decide) (by simp)) rfl rfl rfl ?_
  intro g68 _
  change J _ _ _ [blk gb [Ptr gd, I first, I size, I hat0, W64 ht0, I he0, .slice Ar0 nr0 cr0, .bool bad] 138, m, F, blk g4 [I hat, W64 hturn, I ((hend + n : Nat) : Int), .slice Ar nr cr] 136, mp, m6, blk g68 [Str s] 9] _
  refine J.e (op_append (i := 5) (m2 := blk g68 [Str s] 9) (xs := strsV R) (ys := strsV [s]) rfl rfl rfl Tryd.underlying36 Tryd.underlying36 el9 rfl h6 (by simp) ((row_blk (q := True) (xs := strsV [s]) rfl (by simp [strsV])).sl) (by simp [strsV, Value.oneCell']) (by omega) (by omega)) rfl rfl rfl ?_
  rintro ⟨A8, c8, m8⟩ h8
  try dsimp only at h8
  change J _ ((69, .slice A8 (nr + 1) c8) :: _) _ [blk gb [Ptr gd, I first, I size, I hat0, W64 ht0, I he0, .slice Ar0 nr0 cr0, .bool bad] 138, m, F, blk g4 [I hat, W64 hturn, I ((hend + n : Nat) : Int), .slice Ar nr cr] 136, mp, m8, blk g68 [Str s] 9] _
  rw [← strsV_app9] at h8
  refine J.y (op_fieldAddr (j := 3) rfl rfl Tryd.underlying136 rfl Tryd.sizeOf36 rfl) rfl rfl rfl ?_
  refine J.s (op_store (i := 3) (vs := [.slice A8 (nr + 1) c8]) rfl rfl rfl rfl rfl Tryd.sizeOf36 rfl (by simp)) rfl rfl (fun _ _ => ?_)
  change J _ _ _ [blk gb [Ptr gd, I first, I size, I hat0, W64 ht0, I he0, .slice Ar0 nr0 cr0, .bool bad] 138, m, F, blk g4 [I hat, W64 hturn, I ((hend + n : Nat) : Int), .slice A8 (nr + 1) c8] 136, mp, m8, blk g68 [Str s] 9] _
  refine J.nil ?_
  refine J.then_n (J.k hK14 ?_)
  refine J.keepE [(0, _), (4, _)] ⟨rfl, rfl, trivial⟩ ?_
  refine J.seq (fun K15 hK15 => ?_)
  refine J.region ?_
  refine J.y (op_move rfl rfl) rfl rfl rfl ?_
  refine J.y (op_loadBA 3 rfl rfl rfl Tryd.isAgg136 Tryd.sizeOf136 rfl) rfl rfl rfl ?_
  refine J.y (op_nilCheck rfl rfl) rfl rfl rfl ?_
  refine J.y (op_fieldAddr (j := 3) rfl rfl Tryd.underlying138 rfl Tryd.sizeOf136 rfl) rfl rfl rfl ?_
  refine J.s (op_store (i := 0) (vs := [I hat, W64 hturn, I ((hend + n : Nat) : Int), .slice A8 (nr + 1) c8]) rfl rfl rfl rfl rfl Tryd.sizeOf136 rfl (by simp)) rfl rfl (fun _ _ => ?_)
  change J _ _ _ [blk gb [Ptr gd, I first, I size, I hat, W64 hturn, I ((hend + n : Nat) : Int), .slice A8 (nr + 1) c8, .bool bad] 138, m, F, blk g4 [I hat, W64 hturn, I ((hend + n : Nat) : Int), .slice A8 (nr + 1) c8] 136, mp, m8, blk g68 [Str s] 9] _
  refine J.nil ?_
  refine J.then_n (J.k hK15 ?_)
  refine J.keepE [] trivial ?_
  refine J.seq (fun K16 hK16 => ?_)
  refine J.region ?_
  refine J.y (op_assign rfl rfl) rfl rfl rfl ?_
  refine J.nil ?_
  refine J.then_n (J.k hK16 ?_)
  refine J.keepE [(6, _)] ⟨rfl, trivial⟩ ?_
  refine J.ret ?_
  exact J.done hw0 (fun _ _ h => h) (res1 rfl rfl) (retOk (m, A8, c8, m8) rfl ⟨hd, h8⟩ [0, 1, 2, 5] rfl (by decide))

theorem cells_sub {m : Hp} {g k : Nat} {l vs : List Value} (h : Cells m ⟨g, 0, none⟩ l) (hs : ∀ j u, vs[j]? = some u → l[k + j]? = some u) : Cells m ⟨g, k, none⟩ vs := by
  obtain ⟨h1, cs, e, fz, h2, h3⟩ := h
  refine ⟨rfl, cs, e, fz, h2, fun j u hj => ?_⟩
  have := h3 _ _ (hs j u hj)
  rwa [Nat.zero_add] at this

theorem put21_ct (F : Hp) (gb gd : Nat) (first : Int) (size : Nat) (hat : Int) (hturn : UInt64) (hend : Int) (Ar : Option Addr) (nr cr : Nat) (hB : Cells F ⟨gb, 0, none⟩ [Ptr gd, I first, I (size : Nat), I hat, W64 hturn, I hend, .slice Ar nr cr, .bool true]) (s : List UInt8) (hs : s.length ≤ 900) : Ct Tryd.prog 35 [Ptr gb, Str s] [F] (fun _ : Unit => I 21) (fun _ => True) (fun _ => [F]) := by
  refine Ct.walk Tryd.func35 rfl Tryd.ntmps35 rfl (fun w0 hw0 => ?_)
  change J _ [(0, _), (1, _)] _ _ _
  refine J.seq (fun K1 hK1 => ?_)
  refine J.region ?_
  refine J.y (op_assign rfl rfl) rfl rfl rfl ?_
  refine J.nil ?_
  refine J.then_n (J.k hK1 ?_)
  refine J.keepE [(0, _), (1, _)] ⟨rfl, rfl, trivial⟩ ?_
  refine J.seq (fun K2 hK2 => ?_)
  refine J.seq (fun K3 hK3 => ?_)
  refine J.region ?_
  refine J.y (op_move rfl rfl) rfl rfl rfl ?_
  refine J.y (op_move rfl rfl) rfl rfl rfl ?_
  refine J.e (op_call rfl rfl ent97 (Ct.use0 (fun F' hF => by have := may_ct F' gb gd first size hat hturn hend Ar nr cr true (hB.mono (hF F (by simp))) s; rw [if_neg (by omega), if_pos rfl] at this; exact this))) rfl rfl rfl ?_
  intro g9 _
  refine J.y (op_assign rfl rfl) rfl rfl rfl ?_
  refine J.nil ?_
  refine J.then_n (J.k hK3 ?_)
  refine J.keepE [(0, _), (1, _), (5, _)] ⟨rfl, rfl, rfl, trivial⟩ ?_
  refine J.seq (fun K4 hK4 => ?_)
  refine J.region ?_
  refine J.y (op_move rfl rfl) rfl rfl rfl ?_
  refine J.y ((op_neq rfl rfl rfl).as (v' := .bool true) (congrArg Value.bool (decide_eq_true (by decide)))) rfl rfl rfl ?_
  refine J.nil ?_
  refine J.then_n (J.k hK4 ?_)
  refine J.keepE [(0, _), (1, _), (5, _), (11, _)] ⟨rfl, rfl, rfl, rfl, trivial⟩ ?_
  refine J.condT rfl rfl ?_
  refine J.seq (fun K5 hK5 => ?_)
  refine J.region ?_
  refine J.y (op_move rfl rfl) rfl rfl rfl ?_
  refine J.y (op_assign rfl rfl) rfl rfl rfl ?_
  refine J.nil ?_
  refine J.then_n (J.k hK5 ?_)
  refine J.keepE [(4, _)] ⟨rfl, trivial⟩ ?_
  refine J.ret ?_
  refine J.then_r ?_
  exact J.done hw0 (fun _ _ h => h) (res1 rfl rfl) (retOk () rfl trivial [0] rfl (by decide))

theorem compact21_ct (F : Hp) (gb gd : Nat) (first : Int) (size : Nat) (hat : Int) (hturn : UInt64) (hend : Int) (Ar : Option Addr) (nr cr : Nat) (hB : Cells F ⟨gb, 0, none⟩ [Ptr gd, I first, I (size : Nat), I hat, W64 hturn, I hend, .slice Ar nr cr, .bool true]) (s : List UInt8) (hs : s.length ≤ 900) : Ct Tryd.prog 36 [Ptr gb, Str s] [F] (fun _ : Unit => I 21) (fun _ => True) (fun _ => [F]) := by
  refine Ct.walk Tryd.func36 rfl Tryd.ntmps36 rfl (fun w0 hw0 => ?_)
  change J _ [(0, _), (1, _)] _ _ _
  refine J.seq (fun K1 hK1 => ?_)
  refine J.region ?_
  refine J.y (op_assign rfl rfl) rfl rfl rfl ?_
  refine J.nil ?_
  refine J.then_n (J.k hK1 ?_)
  refine J.keepE [(0, _), (1, _)] ⟨rfl, rfl, trivial⟩ ?_
  refine J.seq (fun K2 hK2 => ?_)
  refine J.seq (fun K3 hK3 => ?_)
  refine J.region ?_
  refine J.y (op_move rfl rfl) rfl rfl rfl ?_
  refine J.y (op_move rfl rfl) rfl rfl rfl ?_
  refine J.e (op_call rfl rfl ent97 (Ct.use0 (fun F' hF => by have := may_ct F' gb gd first size hat hturn hend Ar nr cr true (hB.mono (hF F (by simp))) s; rw [if_neg (by omega), if_pos rfl] at this; exact this))) rfl rfl rfl ?_
  intro g9 _
  refine J.y (op_assign rfl rfl) rfl rfl rfl ?_
  refine J.nil ?_
  refine J.then_n (J.k hK3 ?_)
  refine J.keepE [(0, _), (1, _), (5, _)] ⟨rfl, rfl, rfl, trivial⟩ ?_
  refine J.seq (fun K4 hK4 => ?_)
  refine J.region ?_
  refine J.y (op_move rfl rfl) rfl rfl rfl ?_
  refine J.y ((op_neq rfl rfl rfl).as (v' := .bool true) (congrArg Value.bool (decide_eq_true (by decide)))) rfl rfl rfl ?_
  refine J.nil ?_
  refine J.then_n (J.k hK4 ?_)
  refine J.keepE [(0, _), (1, _), (5, _), (11, _)] ⟨rfl, rfl, rfl, rfl, trivial⟩ ?_
  refine J.condT rfl rfl ?_
  refine J.seq (fun K5 hK5 => ?_)
  refine J.region ?_
  refine J.y (op_move rfl rfl) rfl rfl rfl ?_
  refine J.y (op_assign rfl rfl) rfl rfl rfl ?_
  refine J.nil ?_
  refine J.then_n (J.k hK5 ?_)
  refine J.keepE [(4, _)] ⟨rfl, trivial⟩ ?_
  refine J.ret ?_
  refine J.then_r ?_
  exact J.done hw0 (fun _ _ h => h) (res1 rfl rfl) (retOk () rfl trivial [0] rfl (by decide))

theorem bput_good_ct (F mm : Hp) (hK : Cells F ⟨4, 0, none⟩ (Sha.K.map W32)) (gb gd : Nat) (first : Int) (size hat : Nat) (hturn : UInt64) (hend : Nat) (Ar : Option Addr) (nr cr : Nat) (d : Dk) (C : Option Addr) (f : Nat) (hb : Dsk mm gd d C f) (hok : d.ok) (hn2 : d.wait.length ≤ 1048576) (hKp : Sl F 1 C d.keep.length f (bytesV d.keep)) (hn3 : d.keep.length ≤ 9223372036854775807) (R : List (List UInt8)) (hR : R.length = nr) (hRs : Sl F 1 Ar nr cr (strsV R)) (s : List UInt8) (hs : s.length ≤ 900) (n : Nat) (hn : n = partsN s.length) (t' : UInt64) (ht' : (t'.toNat : Int) = max (hturn.toNat : Int) 1) (ht : t'.toNat < 2 ^ (8 * 4)) (hnr : nr < 65536) (hp : hat + size ≤ 1048576) (hfit : hend + n ≤ size) (he : (wend d (hat + hend) (fun i => (prt t' (UInt64.ofNat nr) s n i).text) n).2 = 0) :
    Ct Tryd.prog 35 [Ptr gb, Str s] [blk gb [Ptr gd, I first, I (size : Nat), I (hat : Nat), W64 hturn, I (hend : Nat), .slice Ar nr cr, .bool false] 138, mm, F] (fun _ : Hp × Option Addr × Nat × Hp => I 0) (fun x => Dsk x.1 gd (wend d (hat + hend) (fun i => (prt t' (UInt64.ofNat nr) s n i).text) n).1 C f ∧ Row x.2.2.2 9 1 x.2.1 (nr + 1) x.2.2.1 (strsV (R ++ [s]))) (fun x => [blk gb [Ptr gd, I first, I (size : Nat), I (hat : Nat), W64 t', I ((hend + n : Nat) : Int), .slice x.2.1 (nr + 1) x.2.2.1, .bool false] 138, x.1, F, x.2.2.2]) := by
  have hn1 := partsN_pos s.length
  refine Ct.walk Tryd.func35 rfl Tryd.ntmps35 rfl (fun w0 hw0 => ?_)
  change J _ [(0, _), (1, _)] _ _ _
  refine J.seq (fun K1 hK1 => ?_)
  refine J.region ?_
  refine J.y (op_assign rfl rfl) rfl rfl rfl ?_
  refine J.nil ?_
  refine J.then_n (J.k hK1 ?_)
  refine J.keepE [(0, _), (1, _)] ⟨rfl, rfl, trivial⟩ ?_
  refine J.seq (fun K2 hK2 => ?_)
  refine J.seq (fun K3 hK3 => ?_)
  refine J.region ?_
  refine J.y (op_move rfl rfl) rfl rfl rfl ?_
  refine J.y (op_move rfl rfl) rfl rfl rfl ?_
  refine J.e ((op_call rfl rfl ent97 (Ct.use0 (fun F' hF => may_ct F' gb gd first size hat hturn hend Ar nr cr false (Cells.blk0.mono (hF (blk gb [Ptr gd, I first, I (size : Nat), I (hat : Nat), W64 hturn, I (hend : Nat), .slice Ar nr cr, .bool false] 138) (by simp))) s)))) rfl rfl rfl ?_
  intro g9 _
  refine J.y (op_assign rfl rfl) rfl rfl rfl ?_
  refine J.nil ?_
  refine J.then_n (J.k hK3 ?_)
  refine J.keepE [(0, _), (1, _), (5, _)] ⟨rfl, rfl, rfl, trivial⟩ ?_
  refine J.seq (fun K4 hK4 => ?_)
  refine J.region ?_
  refine J.y (op_move rfl rfl) rfl rfl rfl ?_
  refine J.y ((op_neq rfl rfl rfl).as (v' := .bool false) (congrArg Value.bool (decide_eq_false (fun h => h (by rw [if_neg (by omega), if_neg (by decide)]))))) rfl rfl rfl ?_
  refine J.nil ?_
  refine J.then_n (J.k hK4 ?_)
  refine J.keepE [(0, _), (1, _), (5, _), (11, _)] ⟨rfl, rfl, rfl, rfl, trivial⟩ ?_
  refine J.condF rfl rfl ?_
  refine J.skip ?_
  refine J.then_n (J.k hK2 ?_)
  refine J.keepE [(0, _), (1, _)] ⟨rfl, rfl, trivial⟩ ?_
  refine J.seq (fun K5 hK5 => ?_)
  refine J.region ?_
  refine J.y (op_move rfl rfl) rfl rfl rfl ?_
  refine J.y (op_nilCheck rfl rfl) rfl rfl rfl ?_
  refine J.y (op_fieldAddr (j := 3) rfl rfl Tryd.underlying138 rfl Tryd.sizeOf136 rfl) rfl rfl rfl ?_
  refine J.y (op_loadA rfl rfl Tryd.isAgg136 Tryd.sizeOf136 (m := blk gb [Ptr gd, I first, I (size : Nat), I (hat : Nat), W64 hturn, I (hend : Nat), .slice Ar nr cr, .bool false] 138) (by simp) (vs := [I (hat : Nat), W64 hturn, I (hend : Nat), .slice Ar nr cr]) (cells_sub Cells.blk0 (fun j u hj => by match j, hj with | 0, hj => exact hj | 1, hj => exact hj | 2, hj => exact hj | 3, hj => exact hj)) rfl) rfl rfl rfl ?_
  refine J.e (op_alloc rfl Tryd.zeroValue136 rfl) rfl rfl rfl ?_
  intro g6 _
  change J _ _ _ [blk gb [Ptr gd, I first, I (size : Nat), I (hat : Nat), W64 hturn, I (hend : Nat), .slice Ar nr cr, .bool false] 138, mm, F, blk g6 _ 136] _
  refine J.s (op_storeAll (l := [I 0, W64 0, I 0, .slice none 0 0]) (i := 3) (vs := [I (hat : Nat), W64 hturn, I (hend : Nat), .slice Ar nr cr]) rfl rfl rfl rfl rfl Tryd.sizeOf136 rfl rfl) rfl rfl (fun _ _ => ?_)
  change J _ _ _ [blk gb [Ptr gd, I first, I (size : Nat), I (hat : Nat), W64 hturn, I (hend : Nat), .slice Ar nr cr, .bool false] 138, mm, F, blk g6 [I (hat : Nat), W64 hturn, I (hend : Nat), .slice Ar nr cr] 136] _
  refine J.nil ?_
  refine J.then_n (J.k hK5 ?_)
  refine J.keepE [(0, _), (1, _), (6, _)] ⟨rfl, rfl, rfl, trivial⟩ ?_
  refine J.seq (fun K6 hK6 => ?_)
  refine J.seq (fun K7 hK7 => ?_)
  refine J.region ?_
  refine J.y (op_move rfl rfl) rfl rfl rfl ?_
  refine J.e (op_call rfl rfl ent37 (Ct.use0 (fun F' hF => left_ct F' gb gd first size hat hturn hend Ar nr cr false (Cells.blk0.mono (hF (blk gb [Ptr gd, I first, I (size : Nat), I (hat : Nat), W64 hturn, I (hend : Nat), .slice Ar nr cr, .bool false] 138) (by simp))) (by omega) (by omega)))) rfl rfl rfl ?_
  intro g18 _
  refine J.y (op_move rfl rfl) rfl rfl rfl ?_
  refine J.y (op_slen Tryd.underlying9 rfl rfl) rfl rfl rfl ?_
  refine J.e (op_call rfl rfl ent42 (Ct.use0 (fun F' hF => by have := partsN_ct F' s.length (by omega); rw [← hn] at this; exact this))) rfl rfl rfl ?_
  intro g21 _
  refine J.y ((op_lss rfl rfl rfl).as (v' := .bool false) (congrArg Value.bool (decide_eq_false (by omega)))) rfl rfl rfl ?_
  refine J.y (op_move rfl rfl) rfl rfl rfl ?_
  refine J.yg (Wan.is rfl rfl rfl rfl rfl) (op_fieldAddr (j := 3) rfl rfl Tryd.underlying136 rfl Tryd.sizeOf36 rfl) rfl rfl ?_
  refine J.yg (Wan.is rfl rfl rfl rfl rfl) (op_loadB 3 rfl rfl rfl Tryd.isAgg36 rfl) rfl rfl ?_
  refine J.yg (Wan.is rfl rfl rfl rfl rfl) (op_len Tryd.underlying36 rfl rfl) rfl rfl ?_
  refine J.yg (Wan.is rfl rfl rfl rfl rfl) ((op_geq rfl rfl rfl).as (v' := .bool false) (congrArg Value.bool (decide_eq_false (by omega)))) rfl rfl ?_
  refine J.y (op_pickF rfl rfl rfl) rfl rfl rfl ?_
  refine J.nil ?_
  refine J.then_n (J.k hK7 ?_)
  refine J.keepE [(0, _), (1, _), (6, _), (28, _)] ⟨rfl, rfl, rfl, rfl, trivial⟩ ?_
  refine J.condF rfl rfl ?_
  refine J.skip ?_
  refine J.then_n (J.k hK6 ?_)
  refine J.keepE [(0, _), (1, _), (6, _)] ⟨rfl, rfl, rfl, trivial⟩ ?_
  refine J.seq (fun K8 hK8 => ?_)
  refine J.region ?_
  refine J.y (op_fieldAddr (j := 1) rfl rfl Tryd.underlying136 rfl Tryd.sizeOf134 rfl) rfl rfl rfl ?_
  refine J.y (op_loadB 3 rfl rfl rfl Tryd.isAgg134 rfl) rfl rfl rfl ?_
  refine J.y ((op_max rfl rfl rfl).as (v' := W64 t') (congrArg (Value.int .u64) ht'.symm)) rfl rfl rfl ?_
  refine J.y (op_fieldAddr (j := 1) rfl rfl Tryd.underlying136 rfl Tryd.sizeOf134 rfl) rfl rfl rfl ?_
  refine J.s (op_store (i := 3) (vs := [W64 t']) rfl rfl rfl rfl rfl Tryd.sizeOf134 rfl (by simp)) rfl rfl (fun _ _ => ?_)
  change J _ _ _ [blk gb [Ptr gd, I first, I (size : Nat), I (hat : Nat), W64 hturn, I (hend : Nat), .slice Ar nr cr, .bool false] 138, mm, F, blk g6 [I (hat : Nat), W64 t', I (hend : Nat), .slice Ar nr cr] 136] _
  refine J.nil ?_
  refine J.then_n (J.k hK8 ?_)
  refine J.keepE [(0, _), (1, _), (6, _)] ⟨rfl, rfl, rfl, trivial⟩ ?_
  refine J.seq (fun K9 hK9 => ?_)
  refine J.region ?_
  refine J.y (op_move rfl rfl) rfl rfl rfl ?_
  refine J.y (op_loadBA 3 rfl rfl rfl Tryd.isAgg136 Tryd.sizeOf136 rfl) rfl rfl rfl ?_
  refine J.y (op_move rfl rfl) rfl rfl rfl ?_
  refine J.e (op_call rfl rfl ent98 (Ct.useA [blk gb [Ptr gd, I first, I (size : Nat), I (hat : Nat), W64 hturn, I (hend : Nat), .slice Ar nr cr, .bool false] 138, mm] [F, blk g6 [I (hat : Nat), W64 t', I (hend : Nat), .slice Ar nr cr] 136] (A' := fun x : Hp × Option Addr × Nat × Hp => [blk gb [Ptr gd, I first, I (size : Nat), I (hat : Nat), W64 t', I ((hend + n : Nat) : Int), .slice x.2.1 (nr + 1) x.2.2.1, .bool false] 138, x.1]) (new := fun x => [x.2.2.2]) (fun F' hF => bwrite_good_ct F' mm (hK.mono (hF F (by simp))) gb gd first size hat hturn hend Ar nr cr false d C f hb hok hn2 (hKp.mono (hF F (by simp))) hn3 hat t' hend Ar nr cr R hR (hRs.mono (hF F (by simp))) s hs n hn ht hnr (by omega) he))) rfl rfl rfl ?_
  rintro ⟨m36, A36, c36, m37⟩ ⟨hd36, h36⟩
  change J _ _ _ [blk gb [Ptr gd, I first, I (size : Nat), I (hat : Nat), W64 t', I ((hend + n : Nat) : Int), .slice A36 (nr + 1) c36, .bool false] 138, m36, F, blk g6 [I (hat : Nat), W64 t', I (hend : Nat), .slice Ar nr cr] 136, m37] _
  refine J.y (op_assign rfl rfl) rfl rfl rfl ?_
  refine J.nil ?_
  refine J.then_n (J.k hK9 ?_)
  refine J.keepE [(4, _)] ⟨rfl, trivial⟩ ?_
  refine J.ret ?_
  exact J.done hw0 (fun _ _ h => h) (res1 rfl rfl) (retOk (m36, A36, c36, m37) rfl ⟨hd36, h36⟩ [0, 1, 2, 4] rfl (by decide))

theorem bput_bad_ct (F mm : Hp) (hK : Cells F ⟨4, 0, none⟩ (Sha.K.map W32)) (gb gd : Nat) (first : Int) (size hat : Nat) (hturn : UInt64) (hend : Nat) (Ar : Option Addr) (nr cr : Nat) (d : Dk) (C : Option Addr) (f : Nat) (hb : Dsk mm gd d C f) (hok : d.ok) (hn2 : d.wait.length ≤ 1048576) (hKp : Sl F 1 C d.keep.length f (bytesV d.keep)) (hn3 : d.keep.length ≤ 9223372036854775807) (R : List (List UInt8)) (hR : R.length = nr) (hRs : Sl F 1 Ar nr cr (strsV R)) (s : List UInt8) (hs : s.length ≤ 900) (n : Nat) (hn : n = partsN s.length) (t' : UInt64) (ht' : (t'.toNat : Int) = max (hturn.toNat : Int) 1) (ht : t'.toNat < 2 ^ (8 * 4)) (hnr : nr < 65536) (hp : hat + size ≤ 1048576) (hfit : hend + n ≤ size) (he : ¬ (wend d (hat + hend) (fun i => (prt t' (UInt64.ofNat nr) s n i).text) n).2 = 0) :
    Ct Tryd.prog 35 [Ptr gb, Str s] [blk gb [Ptr gd, I first, I (size : Nat), I (hat : Nat), W64 hturn, I (hend : Nat), .slice Ar nr cr, .bool false] 138, mm, F] (fun _ : Hp => I (wend d (hat + hend) (fun i => (prt t' (UInt64.ofNat nr) s n i).text) n).2) (fun x => Dsk x gd (wend d (hat + hend) (fun i => (prt t' (UInt64.ofNat nr) s n i).text) n).1 C f) (fun x => [blk gb [Ptr gd, I first, I (size : Nat), I (hat : Nat), W64 hturn, I (hend : Nat), .slice Ar nr cr, .bool true] 138, x, F]) := by
  have hn1 := partsN_pos s.length
  refine Ct.walk Tryd.func35 rfl Tryd.ntmps35 rfl (fun w0 hw0 => ?_)
  change J _ [(0, _), (1, _)] _ _ _
  refine J.seq (fun K1 hK1 => ?_)
  refine J.region ?_
  refine J.y (op_assign rfl rfl) rfl rfl rfl ?_
  refine J.nil ?_
  refine J.then_n (J.k hK1 ?_)
  refine J.keepE [(0, _), (1, _)] ⟨rfl, rfl, trivial⟩ ?_
  refine J.seq (fun K2 hK2 => ?_)
  refine J.seq (fun K3 hK3 => ?_)
  refine J.region ?_
  refine J.y (op_move rfl rfl) rfl rfl rfl ?_
  refine J.y (op_move rfl rfl) rfl rfl rfl ?_
  refine J.e ((op_call rfl rfl ent97 (Ct.use0 (fun F' hF => may_ct F' gb gd first size hat hturn hend Ar nr cr false (Cells.blk0.mono (hF (blk gb [Ptr gd, I first, I (size : Nat), I (hat : Nat), W64 hturn, I (hend : Nat), .slice Ar nr cr, .bool false] 138) (by simp))) s)))) rfl rfl rfl ?_
  intro g9 _
  refine J.y (op_assign rfl rfl) rfl rfl rfl ?_
  refine J.nil ?_
  refine J.then_n (J.k hK3 ?_)
  refine J.keepE [(0, _), (1, _), (5, _)] ⟨rfl, rfl, rfl, trivial⟩ ?_
  refine J.seq (fun K4 hK4 => ?_)
  refine J.region ?_
  refine J.y (op_move rfl rfl) rfl rfl rfl ?_
  refine J.y ((op_neq rfl rfl rfl).as (v' := .bool false) (congrArg Value.bool (decide_eq_false (fun h => h (by rw [if_neg (by omega), if_neg (by decide)]))))) rfl rfl rfl ?_
  refine J.nil ?_
  refine J.then_n (J.k hK4 ?_)
  refine J.keepE [(0, _), (1, _), (5, _), (11, _)] ⟨rfl, rfl, rfl, rfl, trivial⟩ ?_
  refine J.condF rfl rfl ?_
  refine J.skip ?_
  refine J.then_n (J.k hK2 ?_)
  refine J.keepE [(0, _), (1, _)] ⟨rfl, rfl, trivial⟩ ?_
  refine J.seq (fun K5 hK5 => ?_)
  refine J.region ?_
  refine J.y (op_move rfl rfl) rfl rfl rfl ?_
  refine J.y (op_nilCheck rfl rfl) rfl rfl rfl ?_
  refine J.y (op_fieldAddr (j := 3) rfl rfl Tryd.underlying138 rfl Tryd.sizeOf136 rfl) rfl rfl rfl ?_
  refine J.y (op_loadA rfl rfl Tryd.isAgg136 Tryd.sizeOf136 (m := blk gb [Ptr gd, I first, I (size : Nat), I (hat : Nat), W64 hturn, I (hend : Nat), .slice Ar nr cr, .bool false] 138) (by simp) (vs := [I (hat : Nat), W64 hturn, I (hend : Nat), .slice Ar nr cr]) (cells_sub Cells.blk0 (fun j u hj => by match j, hj with | 0, hj => exact hj | 1, hj => exact hj | 2, hj => exact hj | 3, hj => exact hj)) rfl) rfl rfl rfl ?_
  refine J.e (op_alloc rfl Tryd.zeroValue136 rfl) rfl rfl rfl ?_
  intro g6 _
  change J _ _ _ [blk gb [Ptr gd, I first, I (size : Nat), I (hat : Nat), W64 hturn, I (hend : Nat), .slice Ar nr cr, .bool false] 138, mm, F, blk g6 _ 136] _
  refine J.s (op_storeAll (l := [I 0, W64 0, I 0, .slice none 0 0]) (i := 3) (vs := [I (hat : Nat), W64 hturn, I (hend : Nat), .slice Ar nr cr]) rfl rfl rfl rfl rfl Tryd.sizeOf136 rfl rfl) rfl rfl (fun _ _ => ?_)
  change J _ _ _ [blk gb [Ptr gd, I first, I (size : Nat), I (hat : Nat), W64 hturn, I (hend : Nat), .slice Ar nr cr, .bool false] 138, mm, F, blk g6 [I (hat : Nat), W64 hturn, I (hend : Nat), .slice Ar nr cr] 136] _
  refine J.nil ?_
  refine J.then_n (J.k hK5 ?_)
  refine J.keepE [(0, _), (1, _), (6, _)] ⟨rfl, rfl, rfl, trivial⟩ ?_
  refine J.seq (fun K6 hK6 => ?_)
  refine J.seq (fun K7 hK7 => ?_)
  refine J.region ?_
  refine J.y (op_move rfl rfl) rfl rfl rfl ?_
  refine J.e (op_call rfl rfl ent37 (Ct.use0 (fun F' hF => left_ct F' gb gd first size hat hturn hend Ar nr cr false (Cells.blk0.mono (hF (blk gb [Ptr gd, I first, I (size : Nat), I (hat : Nat), W64 hturn, I (hend : Nat), .slice Ar nr cr, .bool false] 138) (by simp))) (by omega) (by omega)))) rfl rfl rfl ?_
  intro g18 _
  refine J.y (op_move rfl rfl) rfl rfl rfl ?_
  refine J.y (op_slen Tryd.underlying9 rfl rfl) rfl rfl rfl ?_
  refine J.e (op_call rfl rfl ent42 (Ct.use0 (fun F' hF => by have := partsN_ct F' s.length (by omega); rw [← hn] at this; exact this))) rfl rfl rfl ?_
  intro g21 _
  refine J.y ((op_lss rfl rfl rfl).as (v' := .bool false) (congrArg Value.bool (decide_eq_false (by omega)))) rfl rfl rfl ?_
  refine J.y (op_move rfl rfl) rfl rfl rfl ?_
  refine J.yg (Wan.is rfl rfl rfl rfl rfl) (op_fieldAddr (j := 3) rfl rfl Tryd.underlying136 rfl Tryd.sizeOf36 rfl) rfl rfl ?_
  refine J.yg (Wan.is rfl rfl rfl rfl rfl) (op_loadB 3 rfl rfl rfl Tryd.isAgg36 rfl) rfl rfl ?_
  refine J.yg (Wan.is rfl rfl rfl rfl rfl) (op_len Tryd.underlying36 rfl rfl) rfl rfl ?_
  refine J.yg (Wan.is rfl rfl rfl rfl rfl) ((op_geq rfl rfl rfl).as (v' := .bool false) (congrArg Value.bool (decide_eq_false (by omega)))) rfl rfl ?_
  refine J.y (op_pickF rfl rfl rfl) rfl rfl rfl ?_
  refine J.nil ?_
  refine J.then_n (J.k hK7 ?_)
  refine J.keepE [(0, _), (1, _), (6, _), (28, _)] ⟨rfl, rfl, rfl, rfl, trivial⟩ ?_
  refine J.condF rfl rfl ?_
  refine J.skip ?_
  refine J.then_n (J.k hK6 ?_)
  refine J.keepE [(0, _), (1, _), (6, _)] ⟨rfl, rfl, rfl, trivial⟩ ?_
  refine J.seq (fun K8 hK8 => ?_)
  refine J.region ?_
  refine J.y (op_fieldAddr (j := 1) rfl rfl Tryd.underlying136 rfl Tryd.sizeOf134 rfl) rfl rfl rfl ?_
  refine J.y (op_loadB 3 rfl rfl rfl Tryd.isAgg134 rfl) rfl rfl rfl ?_
  refine J.y ((op_max rfl rfl rfl).as (v' := W64 t') (congrArg (Value.int .u64) ht'.symm)) rfl rfl rfl ?_
  refine J.y (op_fieldAddr (j := 1) rfl rfl Tryd.underlying136 rfl Tryd.sizeOf134 rfl) rfl rfl rfl ?_
  refine J.s (op_store (i := 3) (vs := [W64 t']) rfl rfl rfl rfl rfl Tryd.sizeOf134 rfl (by simp)) rfl rfl (fun _ _ => ?_)
  change J _ _ _ [blk gb [Ptr gd, I first, I (size : Nat), I (hat : Nat), W64 hturn, I (hend : Nat), .slice Ar nr cr, .bool false] 138, mm, F, blk g6 [I (hat : Nat), W64 t', I (hend : Nat), .slice Ar nr cr] 136] _
  refine J.nil ?_
  refine J.then_n (J.k hK8 ?_)
  refine J.keepE [(0, _), (1, _), (6, _)] ⟨rfl, rfl, rfl, trivial⟩ ?_
  refine J.seq (fun K9 hK9 => ?_)
  refine J.region ?_
  refine J.y (op_move rfl rfl) rfl rfl rfl ?_
  refine J.y (op_loadBA 3 rfl rfl rfl Tryd.isAgg136 Tryd.sizeOf136 rfl) rfl rfl rfl ?_
  refine J.y (op_move rfl rfl) rfl rfl rfl ?_
  refine J.e (op_call rfl rfl ent98 (Ct.useA [blk gb [Ptr gd, I first, I (size : Nat), I (hat : Nat), W64 hturn, I (hend : Nat), .slice Ar nr cr, .bool false] 138, mm] [F, blk g6 [I (hat : Nat), W64 t', I (hend : Nat), .slice Ar nr cr] 136] (A' := fun x : Hp => [blk gb [Ptr gd, I first, I (size : Nat), I (hat : Nat), W64 hturn, I (hend : Nat), .slice Ar nr cr, .bool true] 138, x]) (new := fun _ => []) (fun F' hF => bwrite_bad_ct F' mm (hK.mono (hF F (by simp))) gb gd first size hat hturn hend Ar nr cr false d C f hb hok hn2 (hKp.mono (hF F (by simp))) hn3 hat t' hend Ar nr cr R hR (hRs.mono (hF F (by simp))) s hs n hn ht hnr (by omega) he))) rfl rfl rfl ?_
  rintro m36 hd36
  change J _ _ _ [blk gb [Ptr gd, I first, I (size : Nat), I (hat : Nat), W64 hturn, I (hend : Nat), .slice Ar nr cr, .bool true] 138, m36, F, blk g6 [I (hat : Nat), W64 t', I (hend : Nat), .slice Ar nr cr] 136] _
  refine J.y (op_assign rfl rfl) rfl rfl rfl ?_
  refine J.nil ?_
  refine J.then_n (J.k hK9 ?_)
  refine J.keepE [(4, _)] ⟨rfl, trivial⟩ ?_
  refine J.ret ?_
  exact J.done hw0 (fun _ _ h => h) (res1 rfl rfl) (retOk m36 rfl hd36 [0, 1, 2] rfl (by decide))

theorem calm_burn {d : Dk} (h : d.armed = false) : d.burn = d ∧ ¬ d.burns := ⟨by unfold Dk.burn; rw [if_neg (by rw [h]; decide)], fun e => by have := e.1; rw [h] at this; exact absurd this (by decide)⟩
theorem calm_ready {d : Dk} (h : d.off = false) {i : Nat} (hi : i < d.last.length) : d.ready (i : Int) = 0 := by unfold Dk.ready; rw [h, if_neg (by decide), if_neg (by omega)]
theorem wrun_calm {d : Dk} (ho : d.off = false) (ha : d.armed = false) {p n : Nat} (hp : p + n ≤ d.last.length) {t : Nat → List UInt8} (ht : ∀ i, i < n → (t i).length ≤ 64) : ∀ k, k ≤ n → (wrun d p t k).2 = 0 ∧ (wrun d p t k).1.off = false ∧ (wrun d p t k).1.armed = false ∧ (wrun d p t k).1.last = d.last
  | 0, _ => ⟨rfl, ho, ha, rfl⟩
  | k + 1, hk => by
    obtain ⟨h1, h2, h3, h4⟩ := wrun_calm ho ha hp ht k (by omega)
    have hw := write_in (calm_ready h2 (i := p + k) (by rw [h4]; omega)) (ht k (by omega)) (calm_burn h3).2
    rw [(calm_burn h3).1] at hw
    rw [wrun_succ h1]
    dsimp only
    rw [hw.1]
    exact ⟨hw.2, h2, h3, h4⟩
theorem wend_calm {d : Dk} (hok : d.ok) (ho : d.off = false) (ha : d.armed = false) {p n : Nat} (hp : p + n ≤ d.last.length) {t : Nat → List UInt8} (ht : ∀ i, i < n → (t i).length ≤ 64) :
    (wend d p t n).2 = 0 ∧ (wend d p t n).1.off = false ∧ (wend d p t n).1.armed = false ∧ (wend d p t n).1.last.length = d.last.length ∧ (wend d p t n).1.wait = [] ∧ (wend d p t n).1.keep = d.keep ∧ (wend d p t n).1.ok := by
  obtain ⟨h1, h2, h3, h4⟩ := wrun_calm ho ha hp ht n (Nat.le_refl _)
  have hw := wrun_ok hok p t n
  have hs := hw.1.sync
  have h0 : (wrun d p t n).1.ready 0 = 0 := calm_ready h2 (i := 0) (by rw [h4]; exact hok.n0)
  have e : wend d p t n = ((wrun d p t n).1.sync, (wrun d p t n).1.sErr) := if_pos h1
  have e2 : (wrun d p t n).1.sync = { (wrun d p t n).1 with last := syncL (wrun d p t n).1.last (wrun d p t n).1.wait (wrun d p t n).1.wait.length, wait := [] } := by
    unfold Dk.sync
    rw [if_neg (by omega), if_neg (calm_burn h3).2, (calm_burn h3).1]
  have e3 : (wrun d p t n).1.sErr = 0 := by
    unfold Dk.sErr
    rw [if_neg (by omega), if_neg (calm_burn h3).2]
  rw [e]
  refine ⟨e3, ?_, ?_, ?_, ?_, ?_, hs⟩
  · show (wrun d p t n).1.sync.off = _; rw [e2]; exact h2
  · show (wrun d p t n).1.sync.armed = _; rw [e2]; exact h3
  · show (wrun d p t n).1.sync.last.length = _; rw [e2]; show (syncL _ _ _).length = _; rw [syncL_len, h4]
  · show (wrun d p t n).1.sync.wait = _; rw [e2]
  · show (wrun d p t n).1.sync.keep = _; rw [e2]; exact hw.2.2
theorem new_zero {n : Nat} (i : Nat) (h : i < (Dk.new n).last.length) : (Dk.new n).ready (i : Int) = 0 ∧ (Dk.new n).read (i : Int) = zS := by
  have hi : i < n := by have := h; unfold Dk.new at this; dsimp only at this; rwa [List.length_replicate] at this
  have h0 := new_ready (n := n) (i := (i : Int)) (by omega) (by omega)
  exact ⟨h0, by rw [read_in h0]; exact new_now hi⟩
theorem prt_short {turn num : UInt64} {s : List UInt8} {n : Nat} (ht : turn.toNat < 2 ^ (8 * 4)) (hn : num.toNat < 2 ^ (8 * 2)) (h : n ≤ 24) : ∀ i, i < n → ((prt turn num s n i).text).length ≤ 64 := fun i hi => by rw [Prt.text_len (prt_ok ht hn h hi)]; exact Nat.le_refl _

theorem speaks10_ct (F : Hp) (hK : Cells F ⟨4, 0, none⟩ (Sha.K.map W32)) : Ct Tryd.prog 32 [] [F] (fun _ : Unit => .bool true) (fun _ => True) (fun _ => [F]) := by
  have hok0 : (Dk.new 16).ok := Dk.new_ok (by decide) (by decide)
  have c1 := wend_calm hok0 rfl rfl (p := 0 + 0) (n := 1) (by decide) (prt_short (turn := 1) (num := UInt64.ofNat 0) (s := [97]) (n := 1) (by decide) (by decide) (by decide))
  obtain ⟨D1, hD1⟩ : ∃ D1, D1 = (wend (Dk.new 16) (0 + 0) (fun i => (prt 1 (UInt64.ofNat 0) [97] 1 i).text) 1).1 := ⟨_, rfl⟩
  have c1a := c1.1
  have c1b := c1.2
  rw [← hD1] at c1b
  obtain ⟨o1, a1, l1, w1, k1, ok1⟩ := c1b
  have hl16 : (Dk.new 16).last.length = 16 := rfl
  have c2 := wend_calm ok1 o1 a1 (p := 0 + (0 + 1)) (n := 1) (by rw [l1, hl16]; decide) (prt_short (turn := 1) (num := UInt64.ofNat (0 + 1)) (s := [98]) (n := 1) (by decide) (by decide) (by decide))
  refine Ct.walk Tryd.func32 rfl Tryd.ntmps32 rfl (fun w0 hw0 => ?_)
  change J _ [] _ _ _
  refine J.seq (fun K1 hK1 => ?_)
  refine J.region ?_
  refine J.y (op_assign rfl rfl) rfl rfl rfl ?_
  refine J.nil ?_
  refine J.then_n (J.k hK1 ?_)
  refine J.keepE [] trivial ?_
  refine J.seq (fun K2 hK2 => ?_)
  refine J.region ?_
  refine J.e (op_call rfl rfl ent33 (Ct.use (new := fun x : Nat × Hp => [x.2]) (fun F' _ => new_ok_ct F' 16 (by decide) (by decide)))) rfl rfl rfl ?_
  rintro ⟨g7, m7⟩ hb7
  try dsimp only at hb7
  change J _ _ _ [F, m7] _
  obtain ⟨A, c, B, e, hc, hsL, hsW⟩ := hb7.see
  refine J.y (op_move rfl rfl) rfl rfl rfl ?_
  refine J.y (op_extract (v := Ptr g7) rfl rfl rfl) rfl rfl rfl ?_
  refine J.y (op_extract (v := I 0) rfl rfl rfl) rfl rfl rfl ?_
  refine J.y (op_assign rfl rfl) rfl rfl rfl ?_
  refine J.y (op_assign rfl rfl) rfl rfl rfl ?_
  refine J.nil ?_
  refine J.then_n (J.k hK2 ?_)
  refine J.keepE [(1, _), (2, _)] ⟨rfl, rfl, trivial⟩ ?_
  refine J.seq (fun K3 hK3 => ?_)
  refine J.region ?_
  refine J.y (op_move rfl rfl) rfl rfl rfl ?_
  refine J.e (op_call rfl rfl ent34 (Ct.use (new := fun g12 : Nat => [blk g12 [Ptr g7, I ((0 : Nat) : Int), I ((16 / 2 : Nat) : Int), I ((0 : Nat) : Int), W64 0, I ((0 : Nat) : Int), .slice none 0 0, .bool false] 138]) (fun F' hF => open_ok_ct F' (hK.mono (hF F (by simp))) g7 (Dk.new 16) A c B e none 0 (hc.mono (hF m7 (by simp))) (hsL.mono (hF m7 (by simp))) (hsW.mono (hF m7 (by simp))) (by decide) (by decide) 0 16 (by decide) (by decide) new_zero))) rfl rfl rfl ?_
  rintro g12 _
  change J _ _ _ [F, m7, blk g12 [Ptr g7, I ((0 : Nat) : Int), I ((16 / 2 : Nat) : Int), I ((0 : Nat) : Int), W64 0, I ((0 : Nat) : Int), .slice none 0 0, .bool false] 138] _
  refine J.y (op_move rfl rfl) rfl rfl rfl ?_
  refine J.y (op_extract (v := Ptr g12) rfl rfl rfl) rfl rfl rfl ?_
  refine J.y (op_extract (v := I 0) rfl rfl rfl) rfl rfl rfl ?_
  refine J.y (op_assign rfl rfl) rfl rfl rfl ?_
  refine J.y (op_assign rfl rfl) rfl rfl rfl ?_
  refine J.nil ?_
  refine J.then_n (J.k hK3 ?_)
  refine J.keepE [(2, _), (3, _), (4, _)] ⟨rfl, rfl, rfl, trivial⟩ ?_
  refine J.seq (fun K4 hK4 => ?_)
  refine J.seq (fun K5 hK5 => ?_)
  refine J.perm [2, 1, 0] [blk g12 [Ptr g7, I ((0 : Nat) : Int), I ((16 / 2 : Nat) : Int), I ((0 : Nat) : Int), W64 0, I ((0 : Nat) : Int), .slice none 0 0, .bool false] 138, m7, F] rfl (by decide) ?_
  refine J.region ?_
  refine J.y (op_move rfl rfl) rfl rfl rfl ?_
  refine J.y ((op_neq rfl rfl rfl).as (v' := .bool false) (congrArg Value.bool (decide_eq_false (by decide)))) rfl rfl rfl ?_
  refine J.y (op_move rfl rfl) rfl rfl rfl ?_
  refine J.yg (Wan.is rfl rfl rfl rfl rfl) (op_move rfl rfl) rfl rfl ?_
  refine J.yg (Wan.is rfl rfl rfl rfl rfl) ((op_neq rfl rfl rfl).as (v' := .bool false) (congrArg Value.bool (decide_eq_false (by decide)))) rfl rfl ?_
  refine J.y (op_pickF rfl rfl rfl) rfl rfl rfl ?_
  refine J.y (op_move rfl rfl) rfl rfl rfl ?_
  refine J.yg (Wan.is rfl rfl rfl rfl rfl) (op_move rfl rfl) rfl rfl ?_
  refine J.eg (Wan.is rfl rfl rfl rfl rfl) (op_call rfl rfl ent35 (Ct.useA [blk g12 [Ptr g7, I ((0 : Nat) : Int), I ((16 / 2 : Nat) : Int), I ((0 : Nat) : Int), W64 0, I ((0 : Nat) : Int), .slice none 0 0, .bool false] 138, m7] [F] (A' := fun x : Hp × Option Addr × Nat × Hp => [blk g12 [Ptr g7, I ((0 : Nat) : Int), I ((16 / 2 : Nat) : Int), I ((0 : Nat) : Int), W64 1, I ((0 + 1 : Nat) : Int), .slice x.2.1 (0 + 1) x.2.2.1, .bool false] 138, x.1]) (new := fun x => [x.2.2.2]) (fun F' hF => bput_good_ct F' m7 (hK.mono (hF F (by simp))) g12 g7 (0 : Nat) (16 / 2) 0 0 0 none 0 0 (Dk.new 16) none 0 hb7 hok0 (Nat.zero_le _) Sl.nil (Nat.zero_le _) [] rfl Sl.nil [97] (by decide) 1 rfl 1 rfl (by decide) (by decide) (by decide) (by decide) c1a))) rfl rfl ?_
  rintro ⟨m23, A23, c23, mr23⟩ ⟨hd23, h23⟩
  change J _ _ _ [blk g12 [Ptr g7, I ((0 : Nat) : Int), I ((16 / 2 : Nat) : Int), I ((0 : Nat) : Int), W64 1, I ((0 + 1 : Nat) : Int), .slice A23 (0 + 1) c23, .bool false] 138, m23, F, mr23] _
  rw [← hD1] at hd23
  refine J.yg (Wan.is rfl rfl rfl rfl rfl) ((op_neq rfl rfl rfl).as (v' := .bool false) (congrArg Value.bool (decide_eq_false (by decide)))) rfl rfl ?_
  refine J.y (op_pickF rfl rfl rfl) rfl rfl rfl ?_
  refine J.y (op_move rfl rfl) rfl rfl rfl ?_
  refine J.yg (Wan.is rfl rfl rfl rfl rfl) (op_move rfl rfl) rfl rfl ?_
  refine J.eg (Wan.is rfl rfl rfl rfl rfl) (op_call rfl rfl ent35 (Ct.useA [blk g12 [Ptr g7, I ((0 : Nat) : Int), I ((16 / 2 : Nat) : Int), I ((0 : Nat) : Int), W64 1, I ((0 + 1 : Nat) : Int), .slice A23 (0 + 1) c23, .bool false] 138, m23] [F, mr23] (A' := fun x : Hp × Option Addr × Nat × Hp => [blk g12 [Ptr g7, I ((0 : Nat) : Int), I ((16 / 2 : Nat) : Int), I ((0 : Nat) : Int), W64 1, I ((0 + 1 + 1 : Nat) : Int), .slice x.2.1 (0 + 1 + 1) x.2.2.1, .bool false] 138, x.1]) (new := fun x => [x.2.2.2]) (fun F' hF => bput_good_ct F' m23 (hK.mono (hF F (by simp))) g12 g7 (0 : Nat) (16 / 2) 0 1 (0 + 1) A23 (0 + 1) c23 D1 none 0 hd23 ok1 (by rw [w1]; exact Nat.zero_le _) (by rw [k1]; exact Sl.nil) (by rw [k1]; exact Nat.zero_le _) ([] ++ [[97]]) rfl (h23.sl.mono (hF mr23 (by simp))) [98] (by decide) 1 rfl 1 rfl (by decide) (by decide) (by decide) (by decide) c2.1))) rfl rfl ?_
  rintro ⟨m28, A28, c28, mr28⟩ ⟨hd28, h28⟩
  change J _ _ _ [blk g12 [Ptr g7, I ((0 : Nat) : Int), I ((16 / 2 : Nat) : Int), I ((0 : Nat) : Int), W64 1, I ((0 + 1 + 1 : Nat) : Int), .slice A28 (0 + 1 + 1) c28, .bool false] 138, m28, F, mr23, mr28] _
  refine J.yg (Wan.is rfl rfl rfl rfl rfl) ((op_neq rfl rfl rfl).as (v' := .bool false) (congrArg Value.bool (decide_eq_false (by decide)))) rfl rfl ?_
  refine J.y (op_pickF rfl rfl rfl) rfl rfl rfl ?_
  refine J.nil ?_
  refine J.then_n (J.k hK5 ?_)
  refine J.keepE [(3, _), (30, _)] ⟨rfl, rfl, trivial⟩ ?_
  refine J.condF rfl rfl ?_
  refine J.skip ?_
  refine J.then_n (J.k hK4 ?_)
  refine J.keepE [(3, _)] ⟨rfl, trivial⟩ ?_
  refine J.seq (fun K6 hK6 => ?_)
  refine J.region ?_
  refine J.y (op_move rfl rfl) rfl rfl rfl ?_
  refine J.e (op_call rfl rfl ent38 (Ct.use (new := fun x : Option Addr × Nat × Hp => [x.2.2]) (fun F' hF => records_ct F' g12 g7 (0 : Nat) (16 / 2) (0 : Nat) 1 ((0 + 1 + 1 : Nat) : Int) A28 (0 + 1 + 1) c28 false (Cells.blk0.mono (hF (blk g12 [Ptr g7, I ((0 : Nat) : Int), I ((16 / 2 : Nat) : Int), I ((0 : Nat) : Int), W64 1, I ((0 + 1 + 1 : Nat) : Int), .slice A28 (0 + 1 + 1) c28, .bool false] 138) (by simp))) ([] ++ [[97]] ++ [[98]] : List (List UInt8)) rfl (h28.sl.mono (hF mr28 (by simp))) (by decide)))) rfl rfl rfl ?_
  rintro ⟨A32, c32, m32⟩ h32
  try dsimp only at h32
  change J _ ((32, .slice A32 ([] ++ [[97]] ++ [[98]] : List (List UInt8)).length c32) :: _) _ [blk g12 [Ptr g7, I ((0 : Nat) : Int), I ((16 / 2 : Nat) : Int), I ((0 : Nat) : Int), W64 1, I ((0 + 1 + 1 : Nat) : Int), .slice A28 (0 + 1 + 1) c28, .bool false] 138, m28, F, mr23, mr28, m32] _
  refine J.y (op_assign rfl rfl) rfl rfl rfl ?_
  refine J.nil ?_
  refine J.then_n (J.k hK6 ?_)
  refine J.keepE [(3, _), (5, _)] ⟨rfl, rfl, trivial⟩ ?_
  refine J.seq (fun K7 hK7 => ?_)
  refine J.region ?_
  refine J.y (op_move rfl rfl) rfl rfl rfl ?_
  refine J.y (op_len Tryd.underlying36 rfl rfl) rfl rfl rfl ?_
  refine J.y ((op_eql rfl rfl rfl).as (v' := .bool true) (congrArg Value.bool (decide_eq_true (by decide)))) rfl rfl rfl ?_
  refine J.y (op_move rfl rfl) rfl rfl rfl ?_
  refine J.yg (Wan.is rfl rfl rfl rfl rfl) (op_move rfl rfl) rfl rfl ?_
  refine J.yg (Wan.is rfl rfl rfl rfl rfl) (op_indexAddr (i := 0) rfl rfl rfl Tryd.underlying36 Tryd.sizeOf9 h32.sl (by decide)) rfl rfl ?_
  refine J.yg (Wan.is rfl rfl rfl rfl rfl) (op_load rfl rfl Tryd.isAgg9 (m := m32) (by simp) (v := Str [97]) (h32.sl.elem rfl)) rfl rfl ?_
  refine J.yg (Wan.is rfl rfl rfl rfl rfl) ((op_seq rfl rfl rfl).as (v' := .bool true) (congrArg Value.bool (decide_eq_true (rfl)))) rfl rfl ?_
  refine J.y (op_pickT rfl rfl rfl) rfl rfl rfl ?_
  refine J.y (op_move rfl rfl) rfl rfl rfl ?_
  refine J.yg (Wan.is rfl rfl rfl rfl rfl) (op_move rfl rfl) rfl rfl ?_
  refine J.yg (Wan.is rfl rfl rfl rfl rfl) (op_indexAddr (i := 1) rfl rfl rfl Tryd.underlying36 Tryd.sizeOf9 h32.sl (by decide)) rfl rfl ?_
  refine J.yg (Wan.is rfl rfl rfl rfl rfl) (op_load rfl rfl Tryd.isAgg9 (m := m32) (by simp) (v := Str [98]) (h32.sl.elem rfl)) rfl rfl ?_
  refine J.yg (Wan.is rfl rfl rfl rfl rfl) ((op_seq rfl rfl rfl).as (v' := .bool true) (congrArg Value.bool (decide_eq_true (rfl)))) rfl rfl ?_
  refine J.y (op_pickT rfl rfl rfl) rfl rfl rfl ?_
  refine J.y (op_move rfl rfl) rfl rfl rfl ?_
  refine J.yg (Wan.is rfl rfl rfl rfl rfl) (op_move rfl rfl) rfl rfl ?_
  refine J.eg (Wan.is rfl rfl rfl rfl rfl) (op_call rfl rfl ent37 (Ct.use0 (fun F' hF => left_ct F' g12 g7 (0 : Nat) (16 / 2) (0 : Nat) 1 ((0 + 1 + 1 : Nat) : Int) A28 (0 + 1 + 1) c28 false (Cells.blk0.mono (hF (blk g12 [Ptr g7, I ((0 : Nat) : Int), I ((16 / 2 : Nat) : Int), I ((0 : Nat) : Int), W64 1, I ((0 + 1 + 1 : Nat) : Int), .slice A28 (0 + 1 + 1) c28, .bool false] 138) (by simp))) (by decide) (by decide)))) rfl rfl ?_
  intro g50 _
  refine J.yg (Wan.is rfl rfl rfl rfl rfl) ((op_eql rfl rfl rfl).as (v' := .bool true) (congrArg Value.bool (decide_eq_true (by decide)))) rfl rfl ?_
  refine J.y (op_pickT rfl rfl rfl) rfl rfl rfl ?_
  refine J.y (op_assign rfl rfl) rfl rfl rfl ?_
  refine J.nil ?_
  refine J.then_n (J.k hK7 ?_)
  refine J.keepE [(0, _)] ⟨rfl, trivial⟩ ?_
  refine J.ret ?_
  exact J.done hw0 (fun _ _ h => h) (res1 rfl rfl) (retOk () rfl trivial [2] rfl (by decide))

theorem fused8 {first count : Nat} (h : first + count ≤ 20) (h8 : 8 ≤ count) : (wend ((Dk.new 20).setFuse 0 []) (first + 0) (fun i => (prt 1 (UInt64.ofNat 0) [120] 1 i).text) 1).2 = 8 := by
  have ht := prt_short (turn := 1) (num := UInt64.ofNat 0) (s := [120]) (n := 1) (by decide) (by decide) (by decide) 0 (by decide)
  have h0 : ((Dk.new 20).setFuse 0 []).ready ((first + 0 + 0 : Nat) : Int) = 0 := by
    have := new_ready (n := 20) (i := ((first + 0 + 0 : Nat) : Int)) (by omega) (by omega)
    exact this
  have hb : ((Dk.new 20).setFuse 0 []).burns := ⟨rfl, by show (0 : Int) - 1 < 0; decide⟩
  have e : (wrun ((Dk.new 20).setFuse 0 []) (first + 0) (fun i => (prt 1 (UInt64.ofNat 0) [120] 1 i).text) 1).2 = 8 := by
    rw [wrun_succ (show (wrun ((Dk.new 20).setFuse 0 []) (first + 0) (fun i => (prt 1 (UInt64.ofNat 0) [120] 1 i).text) 0).2 = 0 from rfl)]
    show ((Dk.new 20).setFuse 0 []).wErr ((first + 0 + 0 : Nat) : Int) (prt 1 (UInt64.ofNat 0) [120] 1 0).text = 8
    unfold Dk.wErr
    rw [if_neg (by rw [h0]; decide), if_neg (by omega), if_pos hb]
  unfold wend
  rw [if_neg (by rw [e]; decide)]; exact e

theorem areas_ok (F : Hp) (hK : Cells F ⟨4, 0, none⟩ (Sha.K.map W32)) (first count : Nat) (h8 : 8 ≤ count) (h20 : first + count ≤ 20) : Ct Tryd.prog 8 [I first, I count] [F] (fun _ : Unit => .bool true) (fun _ => True) (fun _ => [F]) := by
  have hw8 := fused8 h20 h8
  refine Ct.walk Tryd.func8 rfl Tryd.ntmps8 rfl (fun w0 hw0 => ?_)
  change J _ [(0, _), (1, _)] _ _ _
  refine J.seq (fun K1 hK1 => ?_)
  refine J.region ?_
  refine J.y (op_assign rfl rfl) rfl rfl rfl ?_
  refine J.nil ?_
  refine J.then_n (J.k hK1 ?_)
  refine J.keepE [(0, _), (1, _)] ⟨rfl, rfl, trivial⟩ ?_
  refine J.seq (fun K2 hK2 => ?_)
  refine J.seq (fun K3 hK3 => ?_)
  refine J.region ?_
  refine J.e (op_call rfl rfl ent32 (Ct.use0 (fun F' hF => speaks10_ct F' (hK.mono (hF F (by simp)))))) rfl rfl rfl ?_
  intro g13 _
  refine J.y ((op_not rfl rfl).as (v' := .bool false) rfl) rfl rfl rfl ?_
  refine J.nil ?_
  refine J.then_n (J.k hK3 ?_)
  refine J.keepE [(0, _), (1, _), (14, _)] ⟨rfl, rfl, rfl, trivial⟩ ?_
  refine J.condF rfl rfl ?_
  refine J.skip ?_
  refine J.then_n (J.k hK2 ?_)
  refine J.keepE [(0, _), (1, _)] ⟨rfl, rfl, trivial⟩ ?_
  refine J.seq (fun K4 hK4 => ?_)
  refine J.region ?_
  refine J.e (op_call rfl rfl ent33 (Ct.use (new := fun x : Nat × Hp => [x.2]) (fun F' _ => new_ok_ct F' 20 (by decide) (by decide)))) rfl rfl rfl ?_
  rintro ⟨g16, m16⟩ hb16
  try dsimp only at hb16
  change J _ _ _ [F, m16] _
  obtain ⟨A, c, B, e, hc, hsL, hsW⟩ := hb16.see
  refine J.y (op_move rfl rfl) rfl rfl rfl ?_
  refine J.y (op_extract (v := Ptr g16) rfl rfl rfl) rfl rfl rfl ?_
  refine J.y (op_extract (v := I 0) rfl rfl rfl) rfl rfl rfl ?_
  refine J.y (op_assign rfl rfl) rfl rfl rfl ?_
  refine J.y (op_assign rfl rfl) rfl rfl rfl ?_
  refine J.nil ?_
  refine J.then_n (J.k hK4 ?_)
  refine J.keepE [(0, _), (1, _), (5, _)] ⟨rfl, rfl, rfl, trivial⟩ ?_
  refine J.seq (fun K5 hK5 => ?_)
  refine J.region ?_
  refine J.y (op_move rfl rfl) rfl rfl rfl ?_
  refine J.y (op_move rfl rfl) rfl rfl rfl ?_
  refine J.y (op_move rfl rfl) rfl rfl rfl ?_
  refine J.e (op_call rfl rfl ent34 (Ct.use (new := fun g23 : Nat => [blk g23 [Ptr g16, I (first : Nat), I ((count / 2 : Nat) : Int), I (first : Nat), W64 0, I ((0 : Nat) : Int), .slice none 0 0, .bool false] 138]) (fun F' hF => open_ok_ct F' (hK.mono (hF F (by simp))) g16 (Dk.new 20) A c B e none 0 (hc.mono (hF m16 (by simp))) (hsL.mono (hF m16 (by simp))) (hsW.mono (hF m16 (by simp))) (by decide) (by decide) first count h8 h20 new_zero))) rfl rfl rfl ?_
  rintro g23 _
  change J _ _ _ [F, m16, blk g23 [Ptr g16, I (first : Nat), I ((count / 2 : Nat) : Int), I (first : Nat), W64 0, I ((0 : Nat) : Int), .slice none 0 0, .bool false] 138] _
  refine J.y (op_move rfl rfl) rfl rfl rfl ?_
  refine J.y (op_extract (v := Ptr g23) rfl rfl rfl) rfl rfl rfl ?_
  refine J.y (op_extract (v := I 0) rfl rfl rfl) rfl rfl rfl ?_
  refine J.y (op_assign rfl rfl) rfl rfl rfl ?_
  refine J.y (op_assign rfl rfl) rfl rfl rfl ?_
  refine J.nil ?_
  refine J.then_n (J.k hK5 ?_)
  refine J.keepE [(0, _), (1, _), (5, _), (7, _), (8, _)] ⟨rfl, rfl, rfl, rfl, rfl, trivial⟩ ?_
  refine J.seq (fun K6 hK6 => ?_)
  refine J.region ?_
  refine J.y (op_move rfl rfl) rfl rfl rfl ?_
  refine J.y ((op_geq rfl rfl rfl).as (v' := .bool true) (congrArg Value.bool (decide_eq_true (by omega)))) rfl rfl rfl ?_
  refine J.y (op_move rfl rfl) rfl rfl rfl ?_
  refine J.yg (Wan.is rfl rfl rfl rfl rfl) (op_move rfl rfl) rfl rfl ?_
  refine J.yg (Wan.is rfl rfl rfl rfl rfl) ((op_geq rfl rfl rfl).as (v' := .bool true) (congrArg Value.bool (decide_eq_true (by omega)))) rfl rfl ?_
  refine J.y (op_pickT rfl rfl rfl) rfl rfl rfl ?_
  refine J.y (op_move rfl rfl) rfl rfl rfl ?_
  refine J.yg (Wan.is rfl rfl rfl rfl rfl) (op_move rfl rfl) rfl rfl ?_
  refine J.yg (Wan.is rfl rfl rfl rfl rfl) ((op_leq rfl rfl rfl).as (v' := .bool true) (congrArg Value.bool (decide_eq_true (by omega)))) rfl rfl ?_
  refine J.y (op_pickT rfl rfl rfl) rfl rfl rfl ?_
  refine J.y (op_move rfl rfl) rfl rfl rfl ?_
  refine J.yg (Wan.is rfl rfl rfl rfl rfl) (op_move rfl rfl) rfl rfl ?_
  refine J.yg (Wan.is rfl rfl rfl rfl rfl) (op_move rfl rfl) rfl rfl ?_
  refine J.yg (Wan.is rfl rfl rfl rfl rfl) (op_sub rfl rfl rfl (by omega)) rfl rfl ?_
  refine J.yg (Wan.is rfl rfl rfl rfl rfl) ((op_leq rfl rfl rfl).as (v' := .bool true) (congrArg Value.bool (decide_eq_true (by omega)))) rfl rfl ?_
  refine J.y (op_pickT rfl rfl rfl) rfl rfl rfl ?_
  refine J.y (op_assign rfl rfl) rfl rfl rfl ?_
  refine J.nil ?_
  refine J.then_n (J.k hK6 ?_)
  refine J.keepE [(5, _), (7, _), (8, _), (9, _)] ⟨rfl, rfl, rfl, rfl, trivial⟩ ?_
  refine J.seq (fun K7 hK7 => ?_)
  refine J.region ?_
  refine J.y (op_assign rfl rfl) rfl rfl rfl ?_
  refine J.nil ?_
  refine J.then_n (J.k hK7 ?_)
  refine J.keepE [(5, _), (7, _), (8, _), (9, _), (10, _)] ⟨rfl, rfl, rfl, rfl, rfl, trivial⟩ ?_
  refine J.seq (fun K8 hK8 => ?_)
  refine J.region ?_
  refine J.e (op_call rfl rfl ent34 (Ct.use0 (fun F' hF => open_nil_ct F' 0 8))) rfl rfl rfl ?_
  intro g43 _
  refine J.y (op_move rfl rfl) rfl rfl rfl ?_
  refine J.y (op_extract (v := .pointer none) rfl rfl rfl) rfl rfl rfl ?_
  refine J.y (op_extract (v := I 1) rfl rfl rfl) rfl rfl rfl ?_
  refine J.y (op_assign rfl rfl) rfl rfl rfl ?_
  refine J.y (op_assign rfl rfl) rfl rfl rfl ?_
  refine J.nil ?_
  refine J.then_n (J.k hK8 ?_)
  refine J.keepE [(5, _), (7, _), (8, _), (9, _), (10, _), (12, _)] ⟨rfl, rfl, rfl, rfl, rfl, rfl, trivial⟩ ?_
  refine J.seq (fun K9 hK9 => ?_)
  refine J.seq (fun K10 hK10 => ?_)
  refine J.region ?_
  refine J.y (op_move rfl rfl) rfl rfl rfl ?_
  refine J.y ((op_eql rfl rfl rfl).as (v' := .bool true) (congrArg Value.bool (decide_eq_true (by decide)))) rfl rfl rfl ?_
  refine J.y (op_move rfl rfl) rfl rfl rfl ?_
  refine J.y ((op_neqB Tryd.underlying4 rfl rfl rfl).as (v' := .bool false) rfl) rfl rfl rfl ?_
  refine J.y (op_move rfl rfl) rfl rfl rfl ?_
  refine J.yg (Wan.is rfl rfl rfl rfl rfl) (op_move rfl rfl) rfl rfl ?_
  refine J.yg (Wan.is rfl rfl rfl rfl rfl) (op_not rfl rfl) rfl rfl ?_
  refine J.yg (Wan.is rfl rfl rfl rfl rfl) (op_move rfl rfl) rfl rfl ?_
  refine J.no (Wan.is rfl rfl rfl rfl rfl) rfl rfl ?_
  refine J.no (Wan.is rfl rfl rfl rfl rfl) rfl rfl ?_
  refine J.yg (Wan.is rfl rfl rfl rfl rfl) (op_pickF rfl rfl rfl) rfl rfl ?_
  refine J.y (op_pickF rfl rfl rfl) rfl rfl rfl ?_
  refine J.y (op_move rfl rfl) rfl rfl rfl ?_
  refine J.yg (Wan.is rfl rfl rfl rfl rfl) (op_move rfl rfl) rfl rfl ?_
  refine J.yg (Wan.is rfl rfl rfl rfl rfl) ((op_neq rfl rfl rfl).as (v' := .bool false) (congrArg Value.bool (decide_eq_false (by decide)))) rfl rfl ?_
  refine J.y (op_pickF rfl rfl rfl) rfl rfl rfl ?_
  refine J.y (op_move rfl rfl) rfl rfl rfl ?_
  refine J.yg (Wan.is rfl rfl rfl rfl rfl) (op_move rfl rfl) rfl rfl ?_
  refine J.eg (Wan.is rfl rfl rfl rfl rfl) (op_call rfl rfl ent35 (Ct.use0 (fun F' hF => put_nil_ct F' []))) rfl rfl ?_
  intro g64 _
  refine J.yg (Wan.is rfl rfl rfl rfl rfl) ((op_neq rfl rfl rfl).as (v' := .bool false) (congrArg Value.bool (decide_eq_false (by decide)))) rfl rfl ?_
  refine J.y (op_pickF rfl rfl rfl) rfl rfl rfl ?_
  refine J.y (op_move rfl rfl) rfl rfl rfl ?_
  refine J.yg (Wan.is rfl rfl rfl rfl rfl) (op_move rfl rfl) rfl rfl ?_
  refine J.eg (Wan.is rfl rfl rfl rfl rfl) (op_call rfl rfl ent36 (Ct.use0 (fun F' hF => compact_nil_ct F' []))) rfl rfl ?_
  intro g69 _
  refine J.yg (Wan.is rfl rfl rfl rfl rfl) ((op_neq rfl rfl rfl).as (v' := .bool false) (congrArg Value.bool (decide_eq_false (by decide)))) rfl rfl ?_
  refine J.y (op_pickF rfl rfl rfl) rfl rfl rfl ?_
  refine J.y (op_move rfl rfl) rfl rfl rfl ?_
  refine J.yg (Wan.is rfl rfl rfl rfl rfl) (op_move rfl rfl) rfl rfl ?_
  refine J.eg (Wan.is rfl rfl rfl rfl rfl) (op_call rfl rfl ent37 (Ct.use0 (fun F' hF => left_nil_ct F'))) rfl rfl ?_
  intro g74 _
  refine J.yg (Wan.is rfl rfl rfl rfl rfl) ((op_neq rfl rfl rfl).as (v' := .bool false) (congrArg Value.bool (decide_eq_false (by decide)))) rfl rfl ?_
  refine J.y (op_pickF rfl rfl rfl) rfl rfl rfl ?_
  refine J.y (op_move rfl rfl) rfl rfl rfl ?_
  refine J.yg (Wan.is rfl rfl rfl rfl rfl) (op_move rfl rfl) rfl rfl ?_
  refine J.eg (Wan.is rfl rfl rfl rfl rfl) (op_call rfl rfl ent38 (Ct.use0 (fun F' hF => records_nil_ct F'))) rfl rfl ?_
  intro g79 _
  refine J.yg (Wan.is rfl rfl rfl rfl rfl) (op_len Tryd.underlying36 rfl rfl) rfl rfl ?_
  refine J.yg (Wan.is rfl rfl rfl rfl rfl) ((op_neq rfl rfl rfl).as (v' := .bool false) (congrArg Value.bool (decide_eq_false (by decide)))) rfl rfl ?_
  refine J.y (op_pickF rfl rfl rfl) rfl rfl rfl ?_
  refine J.nil ?_
  refine J.then_n (J.k hK10 ?_)
  refine J.keepE [(5, _), (7, _), (9, _), (82, _)] ⟨rfl, rfl, rfl, rfl, trivial⟩ ?_
  refine J.condF rfl rfl ?_
  refine J.skip ?_
  refine J.then_n (J.k hK9 ?_)
  refine J.keepE [(5, _), (7, _), (9, _)] ⟨rfl, rfl, rfl, trivial⟩ ?_
  refine J.seq (fun K11 hK11 => ?_)
  refine J.seq (fun K12 hK12 => ?_)
  refine J.region ?_
  refine J.y (op_move rfl rfl) rfl rfl rfl ?_
  refine J.y (op_not rfl rfl) rfl rfl rfl ?_
  refine J.nil ?_
  refine J.then_n (J.k hK12 ?_)
  refine J.keepE [(5, _), (7, _), (84, _)] ⟨rfl, rfl, rfl, trivial⟩ ?_
  refine J.condF rfl rfl ?_
  refine J.skip ?_
  refine J.then_n (J.k hK11 ?_)
  refine J.keepE [(5, _), (7, _)] ⟨rfl, rfl, trivial⟩ ?_
  refine J.seq (fun K13 hK13 => ?_)
  refine J.region ?_
  refine J.y (op_move rfl rfl) rfl rfl rfl ?_
  refine J.e (op_call rfl rfl ent39 (Ct.use1 1 (m' := fun y : Hp × Option Addr × Nat × Hp => y.1) (new := fun y => [y.2.2.2]) rfl (fun F' hF => fuse_ct F' m16 g16 (Dk.new 20) none 0 hb16 (Dk.new_ok (by decide) (by decide)) 0 [] none 0 Sl.nil (Nat.zero_le _)))) rfl rfl rfl ?_
  rintro ⟨m88, C8, f8, mK⟩ ⟨hb88, hr88⟩
  change J _ _ _ [F, m88, blk g23 [Ptr g16, I (first : Nat), I ((count / 2 : Nat) : Int), I (first : Nat), W64 0, I ((0 : Nat) : Int), .slice none 0 0, .bool false] 138, mK] _
  refine J.nil ?_
  refine J.then_n (J.k hK13 ?_)
  refine J.keepE [(7, _)] ⟨rfl, trivial⟩ ?_
  refine J.seq (fun K14 hK14 => ?_)
  refine J.perm [2, 1, 0, 3] [blk g23 [Ptr g16, I (first : Nat), I ((count / 2 : Nat) : Int), I (first : Nat), W64 0, I ((0 : Nat) : Int), .slice none 0 0, .bool false] 138, m88, F, mK] rfl (by decide) ?_
  refine J.region ?_
  refine J.y (op_move rfl rfl) rfl rfl rfl ?_
  refine J.e (op_call rfl rfl ent35 (Ct.useA [blk g23 [Ptr g16, I (first : Nat), I ((count / 2 : Nat) : Int), I (first : Nat), W64 0, I ((0 : Nat) : Int), .slice none 0 0, .bool false] 138, m88] [F, mK] (A' := fun x : Hp => [blk g23 [Ptr g16, I (first : Nat), I ((count / 2 : Nat) : Int), I (first : Nat), W64 0, I ((0 : Nat) : Int), .slice none 0 0, .bool true] 138, x]) (new := fun _ => []) (fun F' hF => bput_bad_ct F' m88 (hK.mono (hF F (by simp))) g23 g16 (first : Nat) (count / 2) first 0 0 none 0 0 ((Dk.new 20).setFuse 0 []) C8 f8 hb88 ((Dk.new_ok (by decide) (by decide)).setFuse 0 (by decide) []) (Nat.zero_le _) (hr88.sl.mono (hF mK (by simp))) (Nat.zero_le _) [] rfl Sl.nil [120] (by decide) 1 rfl 1 rfl (by decide) (by decide) (by omega) (by omega) (by rw [hw8]; decide)))) rfl rfl rfl ?_
  rintro m90 hd90
  change J _ _ _ [blk g23 [Ptr g16, I (first : Nat), I ((count / 2 : Nat) : Int), I (first : Nat), W64 0, I ((0 : Nat) : Int), .slice none 0 0, .bool true] 138, m90, F, mK] _
  refine J.y ((op_eql rfl rfl rfl).as (v' := .bool true) (congrArg Value.bool (decide_eq_true (hw8)))) rfl rfl rfl ?_
  refine J.y (op_move rfl rfl) rfl rfl rfl ?_
  refine J.yg (Wan.is rfl rfl rfl rfl rfl) (op_move rfl rfl) rfl rfl ?_
  refine J.eg (Wan.is rfl rfl rfl rfl rfl) (op_call rfl rfl ent35 (Ct.use0 (fun F' hF => put21_ct F' g23 g16 (first : Nat) (count / 2) (first : Nat) 0 ((0 : Nat) : Int) none 0 0 (Cells.blk0.mono (hF (blk g23 [Ptr g16, I (first : Nat), I ((count / 2 : Nat) : Int), I (first : Nat), W64 0, I ((0 : Nat) : Int), .slice none 0 0, .bool true] 138) (by simp))) [120] (by decide)))) rfl rfl ?_
  intro g94 _
  refine J.yg (Wan.is rfl rfl rfl rfl rfl) ((op_eql rfl rfl rfl).as (v' := .bool true) (congrArg Value.bool (decide_eq_true (by decide)))) rfl rfl ?_
  refine J.y (op_pickT rfl rfl rfl) rfl rfl rfl ?_
  refine J.y (op_move rfl rfl) rfl rfl rfl ?_
  refine J.yg (Wan.is rfl rfl rfl rfl rfl) (op_move rfl rfl) rfl rfl ?_
  refine J.eg (Wan.is rfl rfl rfl rfl rfl) (op_call rfl rfl ent36 (Ct.use0 (fun F' hF => compact21_ct F' g23 g16 (first : Nat) (count / 2) (first : Nat) 0 ((0 : Nat) : Int) none 0 0 (Cells.blk0.mono (hF (blk g23 [Ptr g16, I (first : Nat), I ((count / 2 : Nat) : Int), I (first : Nat), W64 0, I ((0 : Nat) : Int), .slice none 0 0, .bool true] 138) (by simp))) [120] (by decide)))) rfl rfl ?_
  intro g99 _
  refine J.yg (Wan.is rfl rfl rfl rfl rfl) ((op_eql rfl rfl rfl).as (v' := .bool true) (congrArg Value.bool (decide_eq_true (by decide)))) rfl rfl ?_
  refine J.y (op_pickT rfl rfl rfl) rfl rfl rfl ?_
  refine J.y (op_assign rfl rfl) rfl rfl rfl ?_
  refine J.nil ?_
  refine J.then_n (J.k hK14 ?_)
  refine J.keepE [(4, _)] ⟨rfl, trivial⟩ ?_
  refine J.ret ?_
  exact J.done hw0 (fun _ _ h => h) (res1 rfl rfl) (retOk () rfl trivial [2] rfl (by decide))

theorem areas_no (F : Hp) (hK : Cells F ⟨4, 0, none⟩ (Sha.K.map W32)) (first count : Int) (hf : -9223372036854775808 ≤ first ∧ first ≤ 9223372036854775807) (hcn : -9223372036854775808 ≤ count ∧ count ≤ 9223372036854775807) (hno : ¬ (8 ≤ count ∧ 0 ≤ first ∧ count ≤ 20 ∧ first ≤ 20 - count)) : Ct Tryd.prog 8 [I first, I count] [F] (fun _ : Unit => .bool true) (fun _ => True) (fun _ => [F]) := by
  refine Ct.walk Tryd.func8 rfl Tryd.ntmps8 rfl (fun w0 hw0 => ?_)
  change J _ [(0, _), (1, _)] _ _ _
  refine J.seq (fun K1 hK1 => ?_)
  refine J.region ?_
  refine J.y (op_assign rfl rfl) rfl rfl rfl ?_
  refine J.nil ?_
  refine J.then_n (J.k hK1 ?_)
  refine J.keepE [(0, _), (1, _)] ⟨rfl, rfl, trivial⟩ ?_
  refine J.seq (fun K2 hK2 => ?_)
  refine J.seq (fun K3 hK3 => ?_)
  refine J.region ?_
  refine J.e (op_call rfl rfl ent32 (Ct.use0 (fun F' hF => speaks10_ct F' (hK.mono (hF F (by simp)))))) rfl rfl rfl ?_
  intro g13 _
  refine J.y ((op_not rfl rfl).as (v' := .bool false) rfl) rfl rfl rfl ?_
  refine J.nil ?_
  refine J.then_n (J.k hK3 ?_)
  refine J.keepE [(0, _), (1, _), (14, _)] ⟨rfl, rfl, rfl, trivial⟩ ?_
  refine J.condF rfl rfl ?_
  refine J.skip ?_
  refine J.then_n (J.k hK2 ?_)
  refine J.keepE [(0, _), (1, _)] ⟨rfl, rfl, trivial⟩ ?_
  refine J.seq (fun K4 hK4 => ?_)
  refine J.region ?_
  refine J.e (op_call rfl rfl ent33 (Ct.use (new := fun x : Nat × Hp => [x.2]) (fun F' _ => new_ok_ct F' 20 (by decide) (by decide)))) rfl rfl rfl ?_
  rintro ⟨g16, m16⟩ hb16
  try dsimp only at hb16
  change J _ _ _ [F, m16] _
  obtain ⟨A, c, B, e, hc, hsL, hsW⟩ := hb16.see
  refine J.y (op_move rfl rfl) rfl rfl rfl ?_
  refine J.y (op_extract (v := Ptr g16) rfl rfl rfl) rfl rfl rfl ?_
  refine J.y (op_extract (v := I 0) rfl rfl rfl) rfl rfl rfl ?_
  refine J.y (op_assign rfl rfl) rfl rfl rfl ?_
  refine J.y (op_assign rfl rfl) rfl rfl rfl ?_
  refine J.nil ?_
  refine J.then_n (J.k hK4 ?_)
  refine J.keepE [(0, _), (1, _), (5, _)] ⟨rfl, rfl, rfl, trivial⟩ ?_
  refine J.seq (fun K5 hK5 => ?_)
  refine J.region ?_
  refine J.y (op_move rfl rfl) rfl rfl rfl ?_
  refine J.y (op_move rfl rfl) rfl rfl rfl ?_
  refine J.y (op_move rfl rfl) rfl rfl rfl ?_
  refine J.e (op_call rfl rfl ent34 (Ct.use0 (fun F' hF => open_no_ct F' g16 (Dk.new 20) A c B e none 0 (hc.mono (hF m16 (by simp))) first count hf hcn (by decide) hno))) rfl rfl rfl ?_
  intro g23 _
  refine J.y (op_move rfl rfl) rfl rfl rfl ?_
  refine J.y (op_extract (v := .pointer none) rfl rfl rfl) rfl rfl rfl ?_
  refine J.y (op_extract (v := I 1) rfl rfl rfl) rfl rfl rfl ?_
  refine J.y (op_assign rfl rfl) rfl rfl rfl ?_
  refine J.y (op_assign rfl rfl) rfl rfl rfl ?_
  refine J.nil ?_
  refine J.then_n (J.k hK5 ?_)
  refine J.keepE [(0, _), (1, _), (5, _), (7, _), (8, _)] ⟨rfl, rfl, rfl, rfl, rfl, trivial⟩ ?_
  refine J.seq (fun K6 hK6 => ?_)
  refine J.region ?_
  refine J.y (op_move rfl rfl) rfl rfl rfl ?_
  refine J.y (op_geq rfl rfl rfl) rfl rfl rfl ?_
  refine J.y (op_move rfl rfl) rfl rfl rfl ?_
  refine J.split (d := 28) rfl (fun h28 => ?_) (fun h28 => ?_)
  ·
    refine J.yg (Wan.is rfl rfl rfl rfl rfl) (op_move rfl rfl) rfl rfl ?_
    refine J.yg (Wan.is rfl rfl rfl rfl rfl) (op_geq rfl rfl rfl) rfl rfl ?_
    refine J.y (op_pickT rfl rfl rfl) rfl rfl rfl ?_
    refine J.y (op_move rfl rfl) rfl rfl rfl ?_
    refine J.split (d := 32) rfl (fun h32 => ?_) (fun h32 => ?_)
    ·
      refine J.yg (Wan.is rfl rfl rfl rfl rfl) (op_move rfl rfl) rfl rfl ?_
      refine J.yg (Wan.is rfl rfl rfl rfl rfl) (op_leq rfl rfl rfl) rfl rfl ?_
      refine J.y (op_pickT rfl rfl rfl) rfl rfl rfl ?_
      refine J.y (op_move rfl rfl) rfl rfl rfl ?_
      refine J.split (d := 36) rfl (fun h36 => ?_) (fun h36 => ?_)
      ·
        refine J.yg (Wan.is rfl rfl rfl rfl rfl) (op_move rfl rfl) rfl rfl ?_
        refine J.yg (Wan.is rfl rfl rfl rfl rfl) (op_move rfl rfl) rfl rfl ?_
        refine J.yg (Wan.is rfl rfl rfl rfl rfl) (op_sub rfl rfl rfl (by omega)) rfl rfl ?_
        refine J.yg (Wan.is rfl rfl rfl rfl rfl) ((op_leq rfl rfl rfl).as (v' := .bool false) (congrArg Value.bool (decide_eq_false (by omega)))) rfl rfl ?_
        refine J.y (op_pickT rfl rfl rfl) rfl rfl rfl ?_
        refine J.y (op_assign rfl rfl) rfl rfl rfl ?_
        refine J.nil ?_
        refine J.then_n (J.k hK6 ?_)
        refine J.keepE [(5, _), (7, _), (8, _), (9, _)] ⟨rfl, rfl, rfl, rfl, trivial⟩ ?_
        refine J.seq (fun K7 hK7 => ?_)
        refine J.region ?_
        refine J.y (op_assign rfl rfl) rfl rfl rfl ?_
        refine J.nil ?_
        refine J.then_n (J.k hK7 ?_)
        refine J.keepE [(5, _), (7, _), (8, _), (9, _), (10, _)] ⟨rfl, rfl, rfl, rfl, rfl, trivial⟩ ?_
        refine J.seq (fun K8 hK8 => ?_)
        refine J.region ?_
        refine J.e (op_call rfl rfl ent34 (Ct.use0 (fun F' hF => open_nil_ct F' 0 8))) rfl rfl rfl ?_
        intro g43 _
        refine J.y (op_move rfl rfl) rfl rfl rfl ?_
        refine J.y (op_extract (v := .pointer none) rfl rfl rfl) rfl rfl rfl ?_
        refine J.y (op_extract (v := I 1) rfl rfl rfl) rfl rfl rfl ?_
        refine J.y (op_assign rfl rfl) rfl rfl rfl ?_
        refine J.y (op_assign rfl rfl) rfl rfl rfl ?_
        refine J.nil ?_
        refine J.then_n (J.k hK8 ?_)
        refine J.keepE [(5, _), (7, _), (8, _), (9, _), (10, _), (12, _)] ⟨rfl, rfl, rfl, rfl, rfl, rfl, trivial⟩ ?_
        refine J.seq (fun K9 hK9 => ?_)
        refine J.seq (fun K10 hK10 => ?_)
        refine J.region ?_
        refine J.y (op_move rfl rfl) rfl rfl rfl ?_
        refine J.y ((op_eql rfl rfl rfl).as (v' := .bool false) (congrArg Value.bool (decide_eq_false (by decide)))) rfl rfl rfl ?_
        refine J.y (op_move rfl rfl) rfl rfl rfl ?_
        refine J.y ((op_neqB Tryd.underlying4 rfl rfl rfl).as (v' := .bool false) rfl) rfl rfl rfl ?_
        refine J.y (op_move rfl rfl) rfl rfl rfl ?_
        refine J.yg (Wan.is rfl rfl rfl rfl rfl) (op_move rfl rfl) rfl rfl ?_
        refine J.yg (Wan.is rfl rfl rfl rfl rfl) (op_not rfl rfl) rfl rfl ?_
        refine J.yg (Wan.is rfl rfl rfl rfl rfl) (op_move rfl rfl) rfl rfl ?_
        refine J.yg (Wan.is rfl rfl rfl rfl rfl) (op_move rfl rfl) rfl rfl ?_
        refine J.yg (Wan.is rfl rfl rfl rfl rfl) ((op_neq rfl rfl rfl).as (v' := .bool false) (congrArg Value.bool (decide_eq_false (by decide)))) rfl rfl ?_
        refine J.yg (Wan.is rfl rfl rfl rfl rfl) (op_pickT rfl rfl rfl) rfl rfl ?_
        refine J.y (op_pickF rfl rfl rfl) rfl rfl rfl ?_
        refine J.y (op_move rfl rfl) rfl rfl rfl ?_
        refine J.yg (Wan.is rfl rfl rfl rfl rfl) (op_move rfl rfl) rfl rfl ?_
        refine J.yg (Wan.is rfl rfl rfl rfl rfl) ((op_neq rfl rfl rfl).as (v' := .bool false) (congrArg Value.bool (decide_eq_false (by decide)))) rfl rfl ?_
        refine J.y (op_pickF rfl rfl rfl) rfl rfl rfl ?_
        refine J.y (op_move rfl rfl) rfl rfl rfl ?_
        refine J.yg (Wan.is rfl rfl rfl rfl rfl) (op_move rfl rfl) rfl rfl ?_
        refine J.eg (Wan.is rfl rfl rfl rfl rfl) (op_call rfl rfl ent35 (Ct.use0 (fun F' hF => put_nil_ct F' []))) rfl rfl ?_
        intro g64 _
        refine J.yg (Wan.is rfl rfl rfl rfl rfl) ((op_neq rfl rfl rfl).as (v' := .bool false) (congrArg Value.bool (decide_eq_false (by decide)))) rfl rfl ?_
        refine J.y (op_pickF rfl rfl rfl) rfl rfl rfl ?_
        refine J.y (op_move rfl rfl) rfl rfl rfl ?_
        refine J.yg (Wan.is rfl rfl rfl rfl rfl) (op_move rfl rfl) rfl rfl ?_
        refine J.eg (Wan.is rfl rfl rfl rfl rfl) (op_call rfl rfl ent36 (Ct.use0 (fun F' hF => compact_nil_ct F' []))) rfl rfl ?_
        intro g69 _
        refine J.yg (Wan.is rfl rfl rfl rfl rfl) ((op_neq rfl rfl rfl).as (v' := .bool false) (congrArg Value.bool (decide_eq_false (by decide)))) rfl rfl ?_
        refine J.y (op_pickF rfl rfl rfl) rfl rfl rfl ?_
        refine J.y (op_move rfl rfl) rfl rfl rfl ?_
        refine J.yg (Wan.is rfl rfl rfl rfl rfl) (op_move rfl rfl) rfl rfl ?_
        refine J.eg (Wan.is rfl rfl rfl rfl rfl) (op_call rfl rfl ent37 (Ct.use0 (fun F' hF => left_nil_ct F'))) rfl rfl ?_
        intro g74 _
        refine J.yg (Wan.is rfl rfl rfl rfl rfl) ((op_neq rfl rfl rfl).as (v' := .bool false) (congrArg Value.bool (decide_eq_false (by decide)))) rfl rfl ?_
        refine J.y (op_pickF rfl rfl rfl) rfl rfl rfl ?_
        refine J.y (op_move rfl rfl) rfl rfl rfl ?_
        refine J.yg (Wan.is rfl rfl rfl rfl rfl) (op_move rfl rfl) rfl rfl ?_
        refine J.eg (Wan.is rfl rfl rfl rfl rfl) (op_call rfl rfl ent38 (Ct.use0 (fun F' hF => records_nil_ct F'))) rfl rfl ?_
        intro g79 _
        refine J.yg (Wan.is rfl rfl rfl rfl rfl) (op_len Tryd.underlying36 rfl rfl) rfl rfl ?_
        refine J.yg (Wan.is rfl rfl rfl rfl rfl) ((op_neq rfl rfl rfl).as (v' := .bool false) (congrArg Value.bool (decide_eq_false (by decide)))) rfl rfl ?_
        refine J.y (op_pickF rfl rfl rfl) rfl rfl rfl ?_
        refine J.nil ?_
        refine J.then_n (J.k hK10 ?_)
        refine J.keepE [(5, _), (7, _), (9, _), (82, _)] ⟨rfl, rfl, rfl, rfl, trivial⟩ ?_
        refine J.condF rfl rfl ?_
        refine J.skip ?_
        refine J.then_n (J.k hK9 ?_)
        refine J.keepE [(5, _), (7, _), (9, _)] ⟨rfl, rfl, rfl, trivial⟩ ?_
        refine J.seq (fun K11 hK11 => ?_)
        refine J.seq (fun K12 hK12 => ?_)
        refine J.region ?_
        refine J.y (op_move rfl rfl) rfl rfl rfl ?_
        refine J.y (op_not rfl rfl) rfl rfl rfl ?_
        refine J.nil ?_
        refine J.then_n (J.k hK12 ?_)
        refine J.keepE [(5, _), (7, _), (84, _)] ⟨rfl, rfl, rfl, trivial⟩ ?_
        refine J.condT rfl rfl ?_
        refine J.seq (fun K13 hK13 => ?_)
        refine J.region ?_
        refine J.y (op_move rfl rfl) rfl rfl rfl ?_
        refine J.y ((op_peq Tryd.underlying58 rfl rfl rfl).as (v' := .bool true) rfl) rfl rfl rfl ?_
        refine J.y (op_assign rfl rfl) rfl rfl rfl ?_
        refine J.nil ?_
        refine J.then_n (J.k hK13 ?_)
        refine J.keepE [(4, _)] ⟨rfl, trivial⟩ ?_
        refine J.ret ?_
        refine J.then_r ?_
        exact J.done hw0 (fun _ _ h => h) (res1 rfl rfl) (retOk () rfl trivial [0] rfl (by decide))
      ·
        refine J.no (Wan.is rfl rfl rfl rfl rfl) rfl rfl ?_
        refine J.no (Wan.is rfl rfl rfl rfl rfl) rfl rfl ?_
        refine J.no (Wan.is rfl rfl rfl rfl rfl) rfl rfl ?_
        refine J.no (Wan.is rfl rfl rfl rfl rfl) rfl rfl ?_
        refine J.y (op_pickF rfl rfl rfl) rfl rfl rfl ?_
        refine J.y (op_assign rfl rfl) rfl rfl rfl ?_
        refine J.nil ?_
        refine J.then_n (J.k hK6 ?_)
        refine J.keepE [(5, _), (7, _), (8, _), (9, _)] ⟨rfl, rfl, rfl, rfl, trivial⟩ ?_
        refine J.seq (fun K14 hK14 => ?_)
        refine J.region ?_
        refine J.y (op_assign rfl rfl) rfl rfl rfl ?_
        refine J.nil ?_
        refine J.then_n (J.k hK14 ?_)
        refine J.keepE [(5, _), (7, _), (8, _), (9, _), (10, _)] ⟨rfl, rfl, rfl, rfl, rfl, trivial⟩ ?_
        refine J.seq (fun K15 hK15 => ?_)
        refine J.region ?_
        refine J.e (op_call rfl rfl ent34 (Ct.use0 (fun F' hF => open_nil_ct F' 0 8))) rfl rfl rfl ?_
        intro g43 _
        refine J.y (op_move rfl rfl) rfl rfl rfl ?_
        refine J.y (op_extract (v := .pointer none) rfl rfl rfl) rfl rfl rfl ?_
        refine J.y (op_extract (v := I 1) rfl rfl rfl) rfl rfl rfl ?_
        refine J.y (op_assign rfl rfl) rfl rfl rfl ?_
        refine J.y (op_assign rfl rfl) rfl rfl rfl ?_
        refine J.nil ?_
        refine J.then_n (J.k hK15 ?_)
        refine J.keepE [(5, _), (7, _), (8, _), (9, _), (10, _), (12, _)] ⟨rfl, rfl, rfl, rfl, rfl, rfl, trivial⟩ ?_
        refine J.seq (fun K16 hK16 => ?_)
        refine J.seq (fun K17 hK17 => ?_)
        refine J.region ?_
        refine J.y (op_move rfl rfl) rfl rfl rfl ?_
        refine J.y ((op_eql rfl rfl rfl).as (v' := .bool false) (congrArg Value.bool (decide_eq_false (by decide)))) rfl rfl rfl ?_
        refine J.y (op_move rfl rfl) rfl rfl rfl ?_
        refine J.y ((op_neqB Tryd.underlying4 rfl rfl rfl).as (v' := .bool false) rfl) rfl rfl rfl ?_
        refine J.y (op_move rfl rfl) rfl rfl rfl ?_
        refine J.yg (Wan.is rfl rfl rfl rfl rfl) (op_move rfl rfl) rfl rfl ?_
        refine J.yg (Wan.is rfl rfl rfl rfl rfl) (op_not rfl rfl) rfl rfl ?_
        refine J.yg (Wan.is rfl rfl rfl rfl rfl) (op_move rfl rfl) rfl rfl ?_
        refine J.yg (Wan.is rfl rfl rfl rfl rfl) (op_move rfl rfl) rfl rfl ?_
        refine J.yg (Wan.is rfl rfl rfl rfl rfl) ((op_neq rfl rfl rfl).as (v' := .bool false) (congrArg Value.bool (decide_eq_false (by decide)))) rfl rfl ?_
        refine J.yg (Wan.is rfl rfl rfl rfl rfl) (op_pickT rfl rfl rfl) rfl rfl ?_
        refine J.y (op_pickF rfl rfl rfl) rfl rfl rfl ?_
        refine J.y (op_move rfl rfl) rfl rfl rfl ?_
        refine J.yg (Wan.is rfl rfl rfl rfl rfl) (op_move rfl rfl) rfl rfl ?_
        refine J.yg (Wan.is rfl rfl rfl rfl rfl) ((op_neq rfl rfl rfl).as (v' := .bool false) (congrArg Value.bool (decide_eq_false (by decide)))) rfl rfl ?_
        refine J.y (op_pickF rfl rfl rfl) rfl rfl rfl ?_
        refine J.y (op_move rfl rfl) rfl rfl rfl ?_
        refine J.yg (Wan.is rfl rfl rfl rfl rfl) (op_move rfl rfl) rfl rfl ?_
        refine J.eg (Wan.is rfl rfl rfl rfl rfl) (op_call rfl rfl ent35 (Ct.use0 (fun F' hF => put_nil_ct F' []))) rfl rfl ?_
        intro g64 _
        refine J.yg (Wan.is rfl rfl rfl rfl rfl) ((op_neq rfl rfl rfl).as (v' := .bool false) (congrArg Value.bool (decide_eq_false (by decide)))) rfl rfl ?_
        refine J.y (op_pickF rfl rfl rfl) rfl rfl rfl ?_
        refine J.y (op_move rfl rfl) rfl rfl rfl ?_
        refine J.yg (Wan.is rfl rfl rfl rfl rfl) (op_move rfl rfl) rfl rfl ?_
        refine J.eg (Wan.is rfl rfl rfl rfl rfl) (op_call rfl rfl ent36 (Ct.use0 (fun F' hF => compact_nil_ct F' []))) rfl rfl ?_
        intro g69 _
        refine J.yg (Wan.is rfl rfl rfl rfl rfl) ((op_neq rfl rfl rfl).as (v' := .bool false) (congrArg Value.bool (decide_eq_false (by decide)))) rfl rfl ?_
        refine J.y (op_pickF rfl rfl rfl) rfl rfl rfl ?_
        refine J.y (op_move rfl rfl) rfl rfl rfl ?_
        refine J.yg (Wan.is rfl rfl rfl rfl rfl) (op_move rfl rfl) rfl rfl ?_
        refine J.eg (Wan.is rfl rfl rfl rfl rfl) (op_call rfl rfl ent37 (Ct.use0 (fun F' hF => left_nil_ct F'))) rfl rfl ?_
        intro g74 _
        refine J.yg (Wan.is rfl rfl rfl rfl rfl) ((op_neq rfl rfl rfl).as (v' := .bool false) (congrArg Value.bool (decide_eq_false (by decide)))) rfl rfl ?_
        refine J.y (op_pickF rfl rfl rfl) rfl rfl rfl ?_
        refine J.y (op_move rfl rfl) rfl rfl rfl ?_
        refine J.yg (Wan.is rfl rfl rfl rfl rfl) (op_move rfl rfl) rfl rfl ?_
        refine J.eg (Wan.is rfl rfl rfl rfl rfl) (op_call rfl rfl ent38 (Ct.use0 (fun F' hF => records_nil_ct F'))) rfl rfl ?_
        intro g79 _
        refine J.yg (Wan.is rfl rfl rfl rfl rfl) (op_len Tryd.underlying36 rfl rfl) rfl rfl ?_
        refine J.yg (Wan.is rfl rfl rfl rfl rfl) ((op_neq rfl rfl rfl).as (v' := .bool false) (congrArg Value.bool (decide_eq_false (by decide)))) rfl rfl ?_
        refine J.y (op_pickF rfl rfl rfl) rfl rfl rfl ?_
        refine J.nil ?_
        refine J.then_n (J.k hK17 ?_)
        refine J.keepE [(5, _), (7, _), (9, _), (82, _)] ⟨rfl, rfl, rfl, rfl, trivial⟩ ?_
        refine J.condF rfl rfl ?_
        refine J.skip ?_
        refine J.then_n (J.k hK16 ?_)
        refine J.keepE [(5, _), (7, _), (9, _)] ⟨rfl, rfl, rfl, trivial⟩ ?_
        refine J.seq (fun K18 hK18 => ?_)
        refine J.seq (fun K19 hK19 => ?_)
        refine J.region ?_
        refine J.y (op_move rfl rfl) rfl rfl rfl ?_
        refine J.y (op_not rfl rfl) rfl rfl rfl ?_
        refine J.nil ?_
        refine J.then_n (J.k hK19 ?_)
        refine J.keepE [(5, _), (7, _), (84, _)] ⟨rfl, rfl, rfl, trivial⟩ ?_
        refine J.condT rfl rfl ?_
        refine J.seq (fun K20 hK20 => ?_)
        refine J.region ?_
        refine J.y (op_move rfl rfl) rfl rfl rfl ?_
        refine J.y ((op_peq Tryd.underlying58 rfl rfl rfl).as (v' := .bool true) rfl) rfl rfl rfl ?_
        refine J.y (op_assign rfl rfl) rfl rfl rfl ?_
        refine J.nil ?_
        refine J.then_n (J.k hK20 ?_)
        refine J.keepE [(4, _)] ⟨rfl, trivial⟩ ?_
        refine J.ret ?_
        refine J.then_r ?_
        exact J.done hw0 (fun _ _ h => h) (res1 rfl rfl) (retOk () rfl trivial [0] rfl (by decide))
    ·
      refine J.no (Wan.is rfl rfl rfl rfl rfl) rfl rfl ?_
      refine J.no (Wan.is rfl rfl rfl rfl rfl) rfl rfl ?_
      refine J.y (op_pickF rfl rfl rfl) rfl rfl rfl ?_
      refine J.y (op_move rfl rfl) rfl rfl rfl ?_
      refine J.no (Wan.is rfl rfl rfl rfl rfl) rfl rfl ?_
      refine J.no (Wan.is rfl rfl rfl rfl rfl) rfl rfl ?_
      refine J.no (Wan.is rfl rfl rfl rfl rfl) rfl rfl ?_
      refine J.no (Wan.is rfl rfl rfl rfl rfl) rfl rfl ?_
      refine J.y (op_pickF rfl rfl rfl) rfl rfl rfl ?_
      refine J.y (op_assign rfl rfl) rfl rfl rfl ?_
      refine J.nil ?_
      refine J.then_n (J.k hK6 ?_)
      refine J.keepE [(5, _), (7, _), (8, _), (9, _)] ⟨rfl, rfl, rfl, rfl, trivial⟩ ?_
      refine J.seq (fun K21 hK21 => ?_)
      refine J.region ?_
      refine J.y (op_assign rfl rfl) rfl rfl rfl ?_
      refine J.nil ?_
      refine J.then_n (J.k hK21 ?_)
      refine J.keepE [(5, _), (7, _), (8, _), (9, _), (10, _)] ⟨rfl, rfl, rfl, rfl, rfl, trivial⟩ ?_
      refine J.seq (fun K22 hK22 => ?_)
      refine J.region ?_
      refine J.e (op_call rfl rfl ent34 (Ct.use0 (fun F' hF => open_nil_ct F' 0 8))) rfl rfl rfl ?_
      intro g43 _
      refine J.y (op_move rfl rfl) rfl rfl rfl ?_
      refine J.y (op_extract (v := .pointer none) rfl rfl rfl) rfl rfl rfl ?_
      refine J.y (op_extract (v := I 1) rfl rfl rfl) rfl rfl rfl ?_
      refine J.y (op_assign rfl rfl) rfl rfl rfl ?_
      refine J.y (op_assign rfl rfl) rfl rfl rfl ?_
      refine J.nil ?_
      refine J.then_n (J.k hK22 ?_)
      refine J.keepE [(5, _), (7, _), (8, _), (9, _), (10, _), (12, _)] ⟨rfl, rfl, rfl, rfl, rfl, rfl, trivial⟩ ?_
      refine J.seq (fun K23 hK23 => ?_)
      refine J.seq (fun K24 hK24 => ?_)
      refine J.region ?_
      refine J.y (op_move rfl rfl) rfl rfl rfl ?_
      refine J.y ((op_eql rfl rfl rfl).as (v' := .bool false) (congrArg Value.bool (decide_eq_false (by decide)))) rfl rfl rfl ?_
      refine J.y (op_move rfl rfl) rfl rfl rfl ?_
      refine J.y ((op_neqB Tryd.underlying4 rfl rfl rfl).as (v' := .bool false) rfl) rfl rfl rfl ?_
      refine J.y (op_move rfl rfl) rfl rfl rfl ?_
      refine J.yg (Wan.is rfl rfl rfl rfl rfl) (op_move rfl rfl) rfl rfl ?_
      refine J.yg (Wan.is rfl rfl rfl rfl rfl) (op_not rfl rfl) rfl rfl ?_
      refine J.yg (Wan.is rfl rfl rfl rfl rfl) (op_move rfl rfl) rfl rfl ?_
      refine J.yg (Wan.is rfl rfl rfl rfl rfl) (op_move rfl rfl) rfl rfl ?_
      refine J.yg (Wan.is rfl rfl rfl rfl rfl) ((op_neq rfl rfl rfl).as (v' := .bool false) (congrArg Value.bool (decide_eq_false (by decide)))) rfl rfl ?_
      refine J.yg (Wan.is rfl rfl rfl rfl rfl) (op_pickT rfl rfl rfl) rfl rfl ?_
      refine J.y (op_pickF rfl rfl rfl) rfl rfl rfl ?_
      refine J.y (op_move rfl rfl) rfl rfl rfl ?_
      refine J.yg (Wan.is rfl rfl rfl rfl rfl) (op_move rfl rfl) rfl rfl ?_
      refine J.yg (Wan.is rfl rfl rfl rfl rfl) ((op_neq rfl rfl rfl).as (v' := .bool false) (congrArg Value.bool (decide_eq_false (by decide)))) rfl rfl ?_
      refine J.y (op_pickF rfl rfl rfl) rfl rfl rfl ?_
      refine J.y (op_move rfl rfl) rfl rfl rfl ?_
      refine J.yg (Wan.is rfl rfl rfl rfl rfl) (op_move rfl rfl) rfl rfl ?_
      refine J.eg (Wan.is rfl rfl rfl rfl rfl) (op_call rfl rfl ent35 (Ct.use0 (fun F' hF => put_nil_ct F' []))) rfl rfl ?_
      intro g64 _
      refine J.yg (Wan.is rfl rfl rfl rfl rfl) ((op_neq rfl rfl rfl).as (v' := .bool false) (congrArg Value.bool (decide_eq_false (by decide)))) rfl rfl ?_
      refine J.y (op_pickF rfl rfl rfl) rfl rfl rfl ?_
      refine J.y (op_move rfl rfl) rfl rfl rfl ?_
      refine J.yg (Wan.is rfl rfl rfl rfl rfl) (op_move rfl rfl) rfl rfl ?_
      refine J.eg (Wan.is rfl rfl rfl rfl rfl) (op_call rfl rfl ent36 (Ct.use0 (fun F' hF => compact_nil_ct F' []))) rfl rfl ?_
      intro g69 _
      refine J.yg (Wan.is rfl rfl rfl rfl rfl) ((op_neq rfl rfl rfl).as (v' := .bool false) (congrArg Value.bool (decide_eq_false (by decide)))) rfl rfl ?_
      refine J.y (op_pickF rfl rfl rfl) rfl rfl rfl ?_
      refine J.y (op_move rfl rfl) rfl rfl rfl ?_
      refine J.yg (Wan.is rfl rfl rfl rfl rfl) (op_move rfl rfl) rfl rfl ?_
      refine J.eg (Wan.is rfl rfl rfl rfl rfl) (op_call rfl rfl ent37 (Ct.use0 (fun F' hF => left_nil_ct F'))) rfl rfl ?_
      intro g74 _
      refine J.yg (Wan.is rfl rfl rfl rfl rfl) ((op_neq rfl rfl rfl).as (v' := .bool false) (congrArg Value.bool (decide_eq_false (by decide)))) rfl rfl ?_
      refine J.y (op_pickF rfl rfl rfl) rfl rfl rfl ?_
      refine J.y (op_move rfl rfl) rfl rfl rfl ?_
      refine J.yg (Wan.is rfl rfl rfl rfl rfl) (op_move rfl rfl) rfl rfl ?_
      refine J.eg (Wan.is rfl rfl rfl rfl rfl) (op_call rfl rfl ent38 (Ct.use0 (fun F' hF => records_nil_ct F'))) rfl rfl ?_
      intro g79 _
      refine J.yg (Wan.is rfl rfl rfl rfl rfl) (op_len Tryd.underlying36 rfl rfl) rfl rfl ?_
      refine J.yg (Wan.is rfl rfl rfl rfl rfl) ((op_neq rfl rfl rfl).as (v' := .bool false) (congrArg Value.bool (decide_eq_false (by decide)))) rfl rfl ?_
      refine J.y (op_pickF rfl rfl rfl) rfl rfl rfl ?_
      refine J.nil ?_
      refine J.then_n (J.k hK24 ?_)
      refine J.keepE [(5, _), (7, _), (9, _), (82, _)] ⟨rfl, rfl, rfl, rfl, trivial⟩ ?_
      refine J.condF rfl rfl ?_
      refine J.skip ?_
      refine J.then_n (J.k hK23 ?_)
      refine J.keepE [(5, _), (7, _), (9, _)] ⟨rfl, rfl, rfl, trivial⟩ ?_
      refine J.seq (fun K25 hK25 => ?_)
      refine J.seq (fun K26 hK26 => ?_)
      refine J.region ?_
      refine J.y (op_move rfl rfl) rfl rfl rfl ?_
      refine J.y (op_not rfl rfl) rfl rfl rfl ?_
      refine J.nil ?_
      refine J.then_n (J.k hK26 ?_)
      refine J.keepE [(5, _), (7, _), (84, _)] ⟨rfl, rfl, rfl, trivial⟩ ?_
      refine J.condT rfl rfl ?_
      refine J.seq (fun K27 hK27 => ?_)
      refine J.region ?_
      refine J.y (op_move rfl rfl) rfl rfl rfl ?_
      refine J.y ((op_peq Tryd.underlying58 rfl rfl rfl).as (v' := .bool true) rfl) rfl rfl rfl ?_
      refine J.y (op_assign rfl rfl) rfl rfl rfl ?_
      refine J.nil ?_
      refine J.then_n (J.k hK27 ?_)
      refine J.keepE [(4, _)] ⟨rfl, trivial⟩ ?_
      refine J.ret ?_
      refine J.then_r ?_
      exact J.done hw0 (fun _ _ h => h) (res1 rfl rfl) (retOk () rfl trivial [0] rfl (by decide))
  ·
    refine J.no (Wan.is rfl rfl rfl rfl rfl) rfl rfl ?_
    refine J.no (Wan.is rfl rfl rfl rfl rfl) rfl rfl ?_
    refine J.y (op_pickF rfl rfl rfl) rfl rfl rfl ?_
    refine J.y (op_move rfl rfl) rfl rfl rfl ?_
    refine J.no (Wan.is rfl rfl rfl rfl rfl) rfl rfl ?_
    refine J.no (Wan.is rfl rfl rfl rfl rfl) rfl rfl ?_
    refine J.y (op_pickF rfl rfl rfl) rfl rfl rfl ?_
    refine J.y (op_move rfl rfl) rfl rfl rfl ?_
    refine J.no (Wan.is rfl rfl rfl rfl rfl) rfl rfl ?_
    refine J.no (Wan.is rfl rfl rfl rfl rfl) rfl rfl ?_
    refine J.no (Wan.is rfl rfl rfl rfl rfl) rfl rfl ?_
    refine J.no (Wan.is rfl rfl rfl rfl rfl) rfl rfl ?_
    refine J.y (op_pickF rfl rfl rfl) rfl rfl rfl ?_
    refine J.y (op_assign rfl rfl) rfl rfl rfl ?_
    refine J.nil ?_
    refine J.then_n (J.k hK6 ?_)
    refine J.keepE [(5, _), (7, _), (8, _), (9, _)] ⟨rfl, rfl, rfl, rfl, trivial⟩ ?_
    refine J.seq (fun K28 hK28 => ?_)
    refine J.region ?_
    refine J.y (op_assign rfl rfl) rfl rfl rfl ?_
    refine J.nil ?_
    refine J.then_n (J.k hK28 ?_)
    refine J.keepE [(5, _), (7, _), (8, _), (9, _), (10, _)] ⟨rfl, rfl, rfl, rfl, rfl, trivial⟩ ?_
    refine J.seq (fun K29 hK29 => ?_)
    refine J.region ?_
    refine J.e (op_call rfl rfl ent34 (Ct.use0 (fun F' hF => open_nil_ct F' 0 8))) rfl rfl rfl ?_
    intro g43 _
    refine J.y (op_move rfl rfl) rfl rfl rfl ?_
    refine J.y (op_extract (v := .pointer none) rfl rfl rfl) rfl rfl rfl ?_
    refine J.y (op_extract (v := I 1) rfl rfl rfl) rfl rfl rfl ?_
    refine J.y (op_assign rfl rfl) rfl rfl rfl ?_
    refine J.y (op_assign rfl rfl) rfl rfl rfl ?_
    refine J.nil ?_
    refine J.then_n (J.k hK29 ?_)
    refine J.keepE [(5, _), (7, _), (8, _), (9, _), (10, _), (12, _)] ⟨rfl, rfl, rfl, rfl, rfl, rfl, trivial⟩ ?_
    refine J.seq (fun K30 hK30 => ?_)
    refine J.seq (fun K31 hK31 => ?_)
    refine J.region ?_
    refine J.y (op_move rfl rfl) rfl rfl rfl ?_
    refine J.y ((op_eql rfl rfl rfl).as (v' := .bool false) (congrArg Value.bool (decide_eq_false (by decide)))) rfl rfl rfl ?_
    refine J.y (op_move rfl rfl) rfl rfl rfl ?_
    refine J.y ((op_neqB Tryd.underlying4 rfl rfl rfl).as (v' := .bool false) rfl) rfl rfl rfl ?_
    refine J.y (op_move rfl rfl) rfl rfl rfl ?_
    refine J.yg (Wan.is rfl rfl rfl rfl rfl) (op_move rfl rfl) rfl rfl ?_
    refine J.yg (Wan.is rfl rfl rfl rfl rfl) (op_not rfl rfl) rfl rfl ?_
    refine J.yg (Wan.is rfl rfl rfl rfl rfl) (op_move rfl rfl) rfl rfl ?_
    refine J.yg (Wan.is rfl rfl rfl rfl rfl) (op_move rfl rfl) rfl rfl ?_
    refine J.yg (Wan.is rfl rfl rfl rfl rfl) ((op_neq rfl rfl rfl).as (v' := .bool false) (congrArg Value.bool (decide_eq_false (by decide)))) rfl rfl ?_
    refine J.yg (Wan.is rfl rfl rfl rfl rfl) (op_pickT rfl rfl rfl) rfl rfl ?_
    refine J.y (op_pickF rfl rfl rfl) rfl rfl rfl ?_
    refine J.y (op_move rfl rfl) rfl rfl rfl ?_
    refine J.yg (Wan.is rfl rfl rfl rfl rfl) (op_move rfl rfl) rfl rfl ?_
    refine J.yg (Wan.is rfl rfl rfl rfl rfl) ((op_neq rfl rfl rfl).as (v' := .bool false) (congrArg Value.bool (decide_eq_false (by decide)))) rfl rfl ?_
    refine J.y (op_pickF rfl rfl rfl) rfl rfl rfl ?_
    refine J.y (op_move rfl rfl) rfl rfl rfl ?_
    refine J.yg (Wan.is rfl rfl rfl rfl rfl) (op_move rfl rfl) rfl rfl ?_
    refine J.eg (Wan.is rfl rfl rfl rfl rfl) (op_call rfl rfl ent35 (Ct.use0 (fun F' hF => put_nil_ct F' []))) rfl rfl ?_
    intro g64 _
    refine J.yg (Wan.is rfl rfl rfl rfl rfl) ((op_neq rfl rfl rfl).as (v' := .bool false) (congrArg Value.bool (decide_eq_false (by decide)))) rfl rfl ?_
    refine J.y (op_pickF rfl rfl rfl) rfl rfl rfl ?_
    refine J.y (op_move rfl rfl) rfl rfl rfl ?_
    refine J.yg (Wan.is rfl rfl rfl rfl rfl) (op_move rfl rfl) rfl rfl ?_
    refine J.eg (Wan.is rfl rfl rfl rfl rfl) (op_call rfl rfl ent36 (Ct.use0 (fun F' hF => compact_nil_ct F' []))) rfl rfl ?_
    intro g69 _
    refine J.yg (Wan.is rfl rfl rfl rfl rfl) ((op_neq rfl rfl rfl).as (v' := .bool false) (congrArg Value.bool (decide_eq_false (by decide)))) rfl rfl ?_
    refine J.y (op_pickF rfl rfl rfl) rfl rfl rfl ?_
    refine J.y (op_move rfl rfl) rfl rfl rfl ?_
    refine J.yg (Wan.is rfl rfl rfl rfl rfl) (op_move rfl rfl) rfl rfl ?_
    refine J.eg (Wan.is rfl rfl rfl rfl rfl) (op_call rfl rfl ent37 (Ct.use0 (fun F' hF => left_nil_ct F'))) rfl rfl ?_
    intro g74 _
    refine J.yg (Wan.is rfl rfl rfl rfl rfl) ((op_neq rfl rfl rfl).as (v' := .bool false) (congrArg Value.bool (decide_eq_false (by decide)))) rfl rfl ?_
    refine J.y (op_pickF rfl rfl rfl) rfl rfl rfl ?_
    refine J.y (op_move rfl rfl) rfl rfl rfl ?_
    refine J.yg (Wan.is rfl rfl rfl rfl rfl) (op_move rfl rfl) rfl rfl ?_
    refine J.eg (Wan.is rfl rfl rfl rfl rfl) (op_call rfl rfl ent38 (Ct.use0 (fun F' hF => records_nil_ct F'))) rfl rfl ?_
    intro g79 _
    refine J.yg (Wan.is rfl rfl rfl rfl rfl) (op_len Tryd.underlying36 rfl rfl) rfl rfl ?_
    refine J.yg (Wan.is rfl rfl rfl rfl rfl) ((op_neq rfl rfl rfl).as (v' := .bool false) (congrArg Value.bool (decide_eq_false (by decide)))) rfl rfl ?_
    refine J.y (op_pickF rfl rfl rfl) rfl rfl rfl ?_
    refine J.nil ?_
    refine J.then_n (J.k hK31 ?_)
    refine J.keepE [(5, _), (7, _), (9, _), (82, _)] ⟨rfl, rfl, rfl, rfl, trivial⟩ ?_
    refine J.condF rfl rfl ?_
    refine J.skip ?_
    refine J.then_n (J.k hK30 ?_)
    refine J.keepE [(5, _), (7, _), (9, _)] ⟨rfl, rfl, rfl, trivial⟩ ?_
    refine J.seq (fun K32 hK32 => ?_)
    refine J.seq (fun K33 hK33 => ?_)
    refine J.region ?_
    refine J.y (op_move rfl rfl) rfl rfl rfl ?_
    refine J.y (op_not rfl rfl) rfl rfl rfl ?_
    refine J.nil ?_
    refine J.then_n (J.k hK33 ?_)
    refine J.keepE [(5, _), (7, _), (84, _)] ⟨rfl, rfl, rfl, trivial⟩ ?_
    refine J.condT rfl rfl ?_
    refine J.seq (fun K34 hK34 => ?_)
    refine J.region ?_
    refine J.y (op_move rfl rfl) rfl rfl rfl ?_
    refine J.y ((op_peq Tryd.underlying58 rfl rfl rfl).as (v' := .bool true) rfl) rfl rfl rfl ?_
    refine J.y (op_assign rfl rfl) rfl rfl rfl ?_
    refine J.nil ?_
    refine J.then_n (J.k hK34 ?_)
    refine J.keepE [(4, _)] ⟨rfl, trivial⟩ ?_
    refine J.ret ?_
    refine J.then_r ?_
    exact J.done hw0 (fun _ _ h => h) (res1 rfl rfl) (retOk () rfl trivial [0] rfl (by decide))

theorem bookAreas_ct (F : Hp) (hK : Cells F ⟨4, 0, none⟩ (Sha.K.map W32)) (a b : Int) (la : -9223372036854775808 ≤ a) (ha : a ≤ 9223372036854775807) (lb : -9223372036854775808 ≤ b) (hb : b ≤ 9223372036854775807) : Ct Tryd.prog 8 [I a, I b] [F] (fun _ : Unit => .bool true) (fun _ => True) (fun _ => [F]) := by
  by_cases h : 8 ≤ b ∧ 0 ≤ a ∧ b ≤ 20 ∧ a ≤ 20 - b
  · obtain ⟨x, rfl⟩ := Int.eq_ofNat_of_zero_le h.2.1
    obtain ⟨y, rfl⟩ := Int.eq_ofNat_of_zero_le (show 0 ≤ b by omega)
    exact areas_ok F hK x y (by omega) (by omega)
  · exact areas_no F hK a b ⟨la, ha⟩ ⟨lb, hb⟩ h

end Go.Proofs.YtpcffgkmpmcobaaDoor
