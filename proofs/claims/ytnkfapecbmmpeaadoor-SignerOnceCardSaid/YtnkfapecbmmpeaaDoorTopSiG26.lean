/- A part of the proof: contracts of functions of the program, each for every state of the heaps that it names. -/
import Derived.Test.YtnkfapecbmmpeaaDoorTopSiG24
import Derived.Test.YtnkfapecbmmpeaaDoorTopSiG25
set_option linter.unusedSimpArgs false
set_option linter.unusedVariables false
namespace Go.Proofs.YtnkfapecbmmpeaaDoor
open Go Go.Fw
set_option maxRecDepth 100000
set_option maxHeartbeats 1000000

theorem put9_ct (F : Hp) (gb gd : Nat) (first : Int) (size : Nat) (hat : Int) (hturn : UInt64) (hend : Int) (Ar : Option Addr) (nr cr : Nat) (hB : Cells F ⟨gb, 0, none⟩ [Ptr gd, I first, I (size : Nat), I hat, W64 hturn, I hend, .slice Ar nr cr, .bool false]) (s : List UInt8) (hs : s.length ≤ 900) (hsz : size ≤ 1048576) (he : 0 ≤ hend ∧ hend ≤ 1048576) (hfull : (size : Int) - hend < partsN s.length) : Ct Tryd.prog 34 [Ptr gb, Str s] [F] (fun _ : Unit => I 9) (fun _ => True) (fun _ => [F]) := by
  refine Ct.walk Tryd.func34 rfl Tryd.ntmps34 rfl (fun w0 hw0 => ?_)
  change J _ [(0, _), (1, _)] _ _ _
  refine J.seq (fun K1 hK1 => ?_)
  refine J.region ?_
  refine J.y (op_assign rfl rfl) rfl rfl rfl ?_
  refine J.nil ?_
  refine J.then_n (J.k hK1 ?_)
  refine J.keepE [(0, _), (1, _)] ⟨rfl, rfl, trivial⟩ ?_
  refine J.seq (fun K2 hK2 => ?_)
  refine J.seq (fun K3 hK3 => ?_)
  refine J.region ?_
  refine J.y (op_move rfl rfl) rfl rfl rfl ?_
  refine J.y (op_move rfl rfl) rfl rfl rfl ?_
  refine J.e (op_call rfl rfl ent78 (Ct.use0 (fun F' hF => by have := may_ct F' gb gd first size hat hturn hend Ar nr cr false (hB.mono (hF F (by simp))) s; rw [if_neg (by omega), if_neg (by decide)] at this; exact this))) rfl rfl rfl ?_
  intro g9 _
  refine J.y (op_assign rfl rfl) rfl rfl rfl ?_
  refine J.nil ?_
  refine J.then_n (J.k hK3 ?_)
  refine J.keepE [(0, _), (1, _), (5, _)] ⟨rfl, rfl, rfl, trivial⟩ ?_
  refine J.seq (fun K4 hK4 => ?_)
  refine J.region ?_
  refine J.y (op_move rfl rfl) rfl rfl rfl ?_
  refine J.y ((op_neq rfl rfl rfl).as (v' := .bool false) (congrArg Value.bool (decide_eq_false (by decide)))) rfl rfl rfl ?_
  refine J.nil ?_
  refine J.then_n (J.k hK4 ?_)
  refine J.keepE [(0, _), (1, _), (5, _), (11, _)] ⟨rfl, rfl, rfl, rfl, trivial⟩ ?_
  refine J.condF rfl rfl ?_
  refine J.skip ?_
  refine J.then_n (J.k hK2 ?_)
  refine J.keepE [(0, _), (1, _)] ⟨rfl, rfl, trivial⟩ ?_
  refine J.seq (fun K5 hK5 => ?_)
  refine J.region ?_
  refine J.y (op_move rfl rfl) rfl rfl rfl ?_
  refine J.y (op_nilCheck rfl rfl) rfl rfl rfl ?_
  refine J.y (op_fieldAddr (j := 3) rfl rfl Tryd.underlying130 rfl Tryd.sizeOf128 rfl) rfl rfl rfl ?_
  refine J.y (op_loadA rfl rfl Tryd.isAgg128 Tryd.sizeOf128 (m := F) (by simp) (vs := [I hat, W64 hturn, I hend, .slice Ar nr cr]) (cells_sub hB (fun j u hj => by match j, hj with | 0, hj => exact hj | 1, hj => exact hj | 2, hj => exact hj | 3, hj => exact hj)) rfl) rfl rfl rfl ?_
  refine J.e (op_alloc rfl Tryd.zeroValue128 rfl) rfl rfl rfl ?_
  intro g6 _
  change J _ _ _ [F, blk g6 _ 128] _
  refine J.s (op_storeAll (l := [I 0, W64 0, I 0, .slice none 0 0]) (i := 1) (vs := [I hat, W64 hturn, I hend, .slice Ar nr cr]) rfl rfl rfl rfl rfl Tryd.sizeOf128 rfl rfl) rfl rfl (fun _ _ => ?_)
  change J _ _ _ [F, blk g6 [I hat, W64 hturn, I hend, .slice Ar nr cr] 128] _
  refine J.nil ?_
  refine J.then_n (J.k hK5 ?_)
  refine J.keepE [(0, _), (1, _), (6, _)] ⟨rfl, rfl, rfl, trivial⟩ ?_
  refine J.seq (fun K6 hK6 => ?_)
  refine J.seq (fun K7 hK7 => ?_)
  refine J.region ?_
  refine J.y (op_move rfl rfl) rfl rfl rfl ?_
  refine J.e (op_call rfl rfl ent79 (Ct.use0 (fun F' hF => left_ct F' gb gd first size hat hturn hend Ar nr cr false (hB.mono (hF F (by simp))) hsz he))) rfl rfl rfl ?_
  intro g18 _
  refine J.y (op_move rfl rfl) rfl rfl rfl ?_
  refine J.y (op_slen Tryd.underlying9 rfl rfl) rfl rfl rfl ?_
  refine J.e (op_call rfl rfl ent80 (Ct.use0 (fun F' hF => partsN_ct F' s.length (by omega)))) rfl rfl rfl ?_
  intro g21 _
  refine J.y ((op_lss rfl rfl rfl).as (v' := .bool true) (congrArg Value.bool (decide_eq_true (by omega)))) rfl rfl rfl ?_
  refine J.y (op_move rfl rfl) rfl rfl rfl ?_
  refine J.no (Wan.is rfl rfl rfl rfl rfl) rfl rfl ?_
  refine J.no (Wan.is rfl rfl rfl rfl rfl) rfl rfl ?_
  refine J.no (Wan.is rfl rfl rfl rfl rfl) rfl rfl ?_
  refine J.no (Wan.is rfl rfl rfl rfl rfl) rfl rfl ?_
  refine J.y (op_pickT rfl rfl rfl) rfl rfl rfl ?_
  refine J.nil ?_
  refine J.then_n (J.k hK7 ?_)
  refine J.keepE [(0, _), (1, _), (6, _), (28, _)] ⟨rfl, rfl, rfl, rfl, trivial⟩ ?_
  refine J.condT rfl rfl ?_
  refine J.seq (fun K8 hK8 => ?_)
  refine J.region ?_
  refine J.y (op_assign rfl rfl) rfl rfl rfl ?_
  refine J.nil ?_
  refine J.then_n (J.k hK8 ?_)
  refine J.keepE [(4, _)] ⟨rfl, trivial⟩ ?_
  refine J.ret ?_
  refine J.then_r ?_
  exact J.done hw0 (fun _ _ h => h) (res1 rfl rfl) (retOk () rfl trivial [0] rfl (by decide))

theorem bcomp_good_ct (F mm : Hp) (hK : Cells F ⟨1, 0, none⟩ (Sha.K.map W32)) (gb gd first size hat : Nat) (hturn : UInt64) (hend : Nat) (Ar : Option Addr) (nr cr : Nat) (d : Dk) (C : Option Addr) (f : Nat) (hb : Dsk mm gd d C f) (hok : d.ok) (hn2 : d.wait.length ≤ 1048576) (hKp : Sl F 1 C d.keep.length f (bytesV d.keep)) (hn3 : d.keep.length ≤ 9223372036854775807) (s : List UInt8) (hs : s.length ≤ 900) (n : Nat) (hn : n = partsN s.length) (ht : hturn.toNat + 1 < 2 ^ (8 * 4)) (hf : first ≤ 1000) (hsz : size ≤ 1000) (hat1 : hat ≤ 2 * first + size) (hfit : n ≤ size) (he : (wend d (2 * first + size - hat + 0) (fun i => (prt (hturn + 1) (UInt64.ofNat 0) s n i).text) n).2 = 0) :
    Ct Tryd.prog 131 [Ptr gb, Str s] [blk gb [Ptr gd, I ((first : Nat) : Int), I ((size : Nat) : Int), I ((hat : Nat) : Int), W64 hturn, I ((hend : Nat) : Int), .slice Ar nr cr, .bool false] 130, mm, F] (fun _ : Hp × Option Addr × Nat × Hp => I 0) (fun x => Dsk x.1 gd (wend d (2 * first + size - hat + 0) (fun i => (prt (hturn + 1) (UInt64.ofNat 0) s n i).text) n).1 C f ∧ Row x.2.2.2 9 1 x.2.1 (0 + 1) x.2.2.1 (strsV ([] ++ [s]))) (fun x => [blk gb [Ptr gd, I ((first : Nat) : Int), I ((size : Nat) : Int), I ((2 * first + size - hat : Nat) : Int), W64 (hturn + 1), I ((0 + n : Nat) : Int), .slice x.2.1 (0 + 1) x.2.2.1, .bool false] 130, x.1, F, x.2.2.2]) := by
  have hn1 := partsN_pos s.length
  have ht0 : hturn.toNat + 1 < 4294967296 := ht
  have ht1 : (hturn + 1).toNat < 2 ^ (8 * 4) := by
    rw [UInt64.toNat_add]
    show (hturn.toNat + 1) % 18446744073709551616 < 4294967296
    omega
  refine Ct.walk Tryd.func131 rfl Tryd.ntmps131 rfl (fun w0 hw0 => ?_)
  change J _ [(0, _), (1, _)] _ _ _
  refine J.seq (fun K1 hK1 => ?_)
  refine J.region ?_
  refine J.y (op_assign rfl rfl) rfl rfl rfl ?_
  refine J.nil ?_
  refine J.then_n (J.k hK1 ?_)
  refine J.keepE [(0, _), (1, _)] ⟨rfl, rfl, trivial⟩ ?_
  refine J.seq (fun K2 hK2 => ?_)
  refine J.seq (fun K3 hK3 => ?_)
  refine J.region ?_
  refine J.y (op_move rfl rfl) rfl rfl rfl ?_
  refine J.y (op_move rfl rfl) rfl rfl rfl ?_
  refine J.e (op_call rfl rfl ent78 (Ct.use0 (fun F' hF => by have := may_ct F' gb gd ((first : Nat) : Int) size ((hat : Nat) : Int) hturn ((hend : Nat) : Int) Ar nr cr false (Cells.blk0.mono (hF (blk gb [Ptr gd, I ((first : Nat) : Int), I ((size : Nat) : Int), I ((hat : Nat) : Int), W64 hturn, I ((hend : Nat) : Int), .slice Ar nr cr, .bool false] 130) (by simp))) s; rw [if_neg (by omega), if_neg (by decide)] at this; exact this))) rfl rfl rfl ?_
  intro g9 _
  refine J.y (op_assign rfl rfl) rfl rfl rfl ?_
  refine J.nil ?_
  refine J.then_n (J.k hK3 ?_)
  refine J.keepE [(0, _), (1, _), (5, _)] ⟨rfl, rfl, rfl, trivial⟩ ?_
  refine J.seq (fun K4 hK4 => ?_)
  refine J.region ?_
  refine J.y (op_move rfl rfl) rfl rfl rfl ?_
  refine J.y ((op_neq rfl rfl rfl).as (v' := .bool false) (congrArg Value.bool (decide_eq_false (by decide)))) rfl rfl rfl ?_
  refine J.nil ?_
  refine J.then_n (J.k hK4 ?_)
  refine J.keepE [(0, _), (1, _), (5, _), (11, _)] ⟨rfl, rfl, rfl, rfl, trivial⟩ ?_
  refine J.condF rfl rfl ?_
  refine J.skip ?_
  refine J.then_n (J.k hK2 ?_)
  refine J.keepE [(0, _), (1, _)] ⟨rfl, rfl, trivial⟩ ?_
  refine J.seq (fun K5 hK5 => ?_)
  refine J.seq (fun K6 hK6 => ?_)
  refine J.draw [blk gb [Ptr gd, I ((first : Nat) : Int), I ((size : Nat) : Int), I ((hat : Nat) : Int), W64 hturn, I ((hend : Nat) : Int), .slice Ar nr cr, .bool false] 130, mm, F] [] (.y 0 (.y 1 (.y 2 (.y 3 (.y 4 (.y 5 (.e 6 (.y 7 (.y 8 (.y 9 (.y 10 (.y 11 (.y 12 (.y 13 (.y 14 (.y 15 .nil)))))))))))))))) Tryd.wide (by decide +kernel) (by simp) ?_
  refine J.dy rfl (op_move rfl rfl) rfl rfl rfl rfl ?_
  refine J.dy rfl (op_nilCheck rfl rfl) rfl rfl rfl rfl ?_
  refine J.dy rfl (op_fieldAddr (j := 2) rfl rfl Tryd.underlying130 rfl Tryd.sizeOf3 rfl) rfl rfl rfl rfl ?_
  refine J.dy rfl (op_loadB 0 (v := I ((size : Nat) : Int)) rfl rfl rfl Tryd.isAgg3 rfl) rfl rfl rfl rfl ?_
  refine J.dy rfl (op_move rfl rfl) rfl rfl rfl rfl ?_
  refine J.dy rfl (op_slen Tryd.underlying9 rfl rfl) rfl rfl rfl rfl ?_
  refine J.de rfl (op_call rfl rfl ent80 (Ct.use0 (fun F' hF => by have := partsN_ct F' s.length (by omega); rw [← hn] at this; exact this))) rfl rfl rfl (by simp) ?_
  intro g19 _
  refine J.dy rfl ((op_lss rfl rfl rfl).as (v' := .bool false) (congrArg Value.bool (decide_eq_false (by omega)))) rfl rfl rfl rfl ?_
  refine J.dy rfl (op_move rfl rfl) rfl rfl rfl rfl ?_
  refine J.dyg rfl (op_move rfl rfl) (Wan.is rfl rfl rfl rfl rfl) rfl rfl rfl ?_
  refine J.dyg rfl (op_nilCheck rfl rfl) (Wan.is rfl rfl rfl rfl rfl) rfl rfl rfl ?_
  refine J.dyg rfl (op_fieldAddr (j := 3) rfl rfl Tryd.underlying130 rfl Tryd.sizeOf128 rfl) (Wan.is rfl rfl rfl rfl rfl) rfl rfl rfl ?_
  refine J.dyg rfl (op_fieldAddr (j := 4) rfl rfl Tryd.underlying128 rfl Tryd.sizeOf108 rfl) (Wan.is rfl rfl rfl rfl rfl) rfl rfl rfl ?_
  refine J.dyg rfl (op_loadB 0 (v := W64 hturn) rfl rfl rfl Tryd.isAgg108 rfl) (Wan.is rfl rfl rfl rfl rfl) rfl rfl rfl ?_
  refine J.dyg rfl ((op_geq rfl rfl rfl).as (v' := .bool false) (congrArg Value.bool (decide_eq_false (by omega)))) (Wan.is rfl rfl rfl rfl rfl) rfl rfl rfl ?_
  refine J.dy rfl (op_pickF rfl rfl rfl) rfl rfl rfl rfl ?_
  refine J.dnil ?_
  refine J.then_n (J.k hK6 ?_)
  refine J.keepE [(0, _), (1, _), (28, _)] ⟨rfl, rfl, rfl, trivial⟩ ?_
  refine J.condF rfl rfl ?_
  refine J.skip ?_
  refine J.then_n (J.k hK5 ?_)
  refine J.keepE [(0, _), (1, _)] ⟨rfl, rfl, trivial⟩ ?_
  refine J.seq (fun K7 hK7 => ?_)
  refine J.draw [blk gb [Ptr gd, I ((first : Nat) : Int), I ((size : Nat) : Int), I ((hat : Nat) : Int), W64 hturn, I ((hend : Nat) : Int), .slice Ar nr cr, .bool false] 130, mm, F] [] (.y 0 (.y 1 (.y 2 (.y 3 (.y 4 (.y 5 (.y 6 (.y 7 (.y 8 (.y 9 (.y 10 (.y 11 (.y 12 (.y 13 (.y 14 (.y 15 (.y 16 .nil))))))))))))))))) Tryd.wide (by decide +kernel) (by simp) ?_
  refine J.dy rfl (op_move rfl rfl) rfl rfl rfl rfl ?_
  refine J.dy rfl (op_nilCheck rfl rfl) rfl rfl rfl rfl ?_
  refine J.dy rfl (op_fieldAddr (j := 1) rfl rfl Tryd.underlying130 rfl Tryd.sizeOf3 rfl) rfl rfl rfl rfl ?_
  refine J.dy rfl (op_loadB 0 (v := I ((first : Nat) : Int)) rfl rfl rfl Tryd.isAgg3 rfl) rfl rfl rfl rfl ?_
  refine J.dy rfl ((op_mul rfl rfl rfl (by first | omega | (simp only [List.length_append, List.length_cons, List.length_nil, List.length_take, List.length_drop] at *; omega))).as (v' := I ((2 * first : Nat) : Int)) (congrArg I (by omega))) rfl rfl rfl rfl ?_
  refine J.dy rfl (op_move rfl rfl) rfl rfl rfl rfl ?_
  refine J.dy rfl (op_nilCheck rfl rfl) rfl rfl rfl rfl ?_
  refine J.dy rfl (op_fieldAddr (j := 2) rfl rfl Tryd.underlying130 rfl Tryd.sizeOf3 rfl) rfl rfl rfl rfl ?_
  refine J.dy rfl (op_loadB 0 (v := I ((size : Nat) : Int)) rfl rfl rfl Tryd.isAgg3 rfl) rfl rfl rfl rfl ?_
  refine J.dy rfl ((op_add rfl rfl rfl (by first | omega | (simp only [List.length_append, List.length_cons, List.length_nil, List.length_take, List.length_drop] at *; omega))).as (v' := I ((2 * first + size : Nat) : Int)) (congrArg I (by omega))) rfl rfl rfl rfl ?_
  refine J.dy rfl (op_move rfl rfl) rfl rfl rfl rfl ?_
  refine J.dy rfl (op_nilCheck rfl rfl) rfl rfl rfl rfl ?_
  refine J.dy rfl (op_fieldAddr (j := 3) rfl rfl Tryd.underlying130 rfl Tryd.sizeOf128 rfl) rfl rfl rfl rfl ?_
  refine J.dy rfl (op_fieldAddr (j := 3) rfl rfl Tryd.underlying128 rfl Tryd.sizeOf3 rfl) rfl rfl rfl rfl ?_
  refine J.dy rfl (op_loadB 0 (v := I ((hat : Nat) : Int)) rfl rfl rfl Tryd.isAgg3 rfl) rfl rfl rfl rfl ?_
  refine J.dy rfl ((op_sub rfl rfl rfl (by first | omega | (refine ⟨?_, ?_⟩ <;> omega))).as (v' := I ((2 * first + size - hat : Nat) : Int)) (congrArg I (by omega))) rfl rfl rfl rfl ?_
  refine J.dy rfl (op_assign rfl rfl) rfl rfl rfl rfl ?_
  refine J.dnil ?_
  refine J.then_n (J.k hK7 ?_)
  refine J.keepE [(0, _), (1, _), (6, _)] ⟨rfl, rfl, rfl, trivial⟩ ?_
  refine J.seq (fun K8 hK8 => ?_)
  refine J.region ?_
  refine J.y (op_move rfl rfl) rfl rfl rfl ?_
  refine J.y (op_move rfl rfl) rfl rfl rfl ?_
  refine J.y (op_move rfl rfl) rfl rfl rfl ?_
  refine J.y (op_nilCheck rfl rfl) rfl rfl rfl ?_
  refine J.y (op_fieldAddr (j := 3) rfl rfl Tryd.underlying130 rfl Tryd.sizeOf128 rfl) rfl rfl rfl ?_
  refine J.y (op_fieldAddr (j := 4) rfl rfl Tryd.underlying128 rfl Tryd.sizeOf108 rfl) rfl rfl rfl ?_
  refine J.y (op_loadB 0 (v := W64 hturn) rfl rfl rfl Tryd.isAgg108 rfl) rfl rfl rfl ?_
  refine J.y (op_add64 (b := 1) rfl rfl rfl) rfl rfl rfl ?_
  refine J.y (op_buildStruct (l := [(0, .tmp 46), (1, .tmp 52)]) (vs := [I ((2 * first + size - hat : Nat) : Int), W64 (hturn + 1)]) (places := [(0, 1), (1, 1), (2, 1), (3, 1)]) (r := [I ((2 * first + size - hat : Nat) : Int), W64 (hturn + 1), I 0, .slice none 0 0]) rfl rfl rfl Tryd.underlying128 Tryd.zeroValue128 (fun _ => by kernel_rfl) rfl) rfl rfl rfl ?_
  refine J.y (op_move rfl rfl) rfl rfl rfl ?_
  refine J.e (op_call rfl rfl ent81 (Ct.useA [blk gb [Ptr gd, I ((first : Nat) : Int), I ((size : Nat) : Int), I ((hat : Nat) : Int), W64 hturn, I ((hend : Nat) : Int), .slice Ar nr cr, .bool false] 130, mm] [F] (A' := fun x : Hp × Option Addr × Nat × Hp => [blk gb [Ptr gd, I ((first : Nat) : Int), I ((size : Nat) : Int), I ((2 * first + size - hat : Nat) : Int), W64 (hturn + 1), I ((0 + n : Nat) : Int), .slice x.2.1 (0 + 1) x.2.2.1, .bool false] 130, x.1]) (new := fun x => [x.2.2.2]) (fun F' hF => bwrite_good_ct F' mm (hK.mono (hF F (by simp))) gb gd ((first : Nat) : Int) ((size : Nat) : Int) ((hat : Nat) : Int) hturn ((hend : Nat) : Int) Ar nr cr false d C f hb hok hn2 (hKp.mono (hF F (by simp))) hn3 (2 * first + size - hat) (hturn + 1) 0 none 0 0 [] rfl Sl.nil s hs n hn ht1 (by decide) (by omega) he))) rfl rfl rfl ?_
  rintro ⟨m55, A55, c55, m56⟩ ⟨hd55, h55⟩
  change J _ _ _ [blk gb [Ptr gd, I ((first : Nat) : Int), I ((size : Nat) : Int), I ((2 * first + size - hat : Nat) : Int), W64 (hturn + 1), I ((0 + n : Nat) : Int), .slice A55 (0 + 1) c55, .bool false] 130, m55, F, m56] _
  refine J.y (op_assign rfl rfl) rfl rfl rfl ?_
  refine J.nil ?_
  refine J.then_n (J.k hK8 ?_)
  refine J.keepE [(4, _)] ⟨rfl, trivial⟩ ?_
  refine J.ret ?_
  exact J.done hw0 (fun _ _ h => h) (res1 rfl rfl) (retOk (m55, A55, c55, m56) rfl ⟨hd55, h55⟩ [0, 1, 2, 3] rfl (by decide))

theorem bcomp_bad_ct (F mm : Hp) (hK : Cells F ⟨1, 0, none⟩ (Sha.K.map W32)) (gb gd first size hat : Nat) (hturn : UInt64) (hend : Nat) (Ar : Option Addr) (nr cr : Nat) (d : Dk) (C : Option Addr) (f : Nat) (hb : Dsk mm gd d C f) (hok : d.ok) (hn2 : d.wait.length ≤ 1048576) (hKp : Sl F 1 C d.keep.length f (bytesV d.keep)) (hn3 : d.keep.length ≤ 9223372036854775807) (s : List UInt8) (hs : s.length ≤ 900) (n : Nat) (hn : n = partsN s.length) (ht : hturn.toNat + 1 < 2 ^ (8 * 4)) (hf : first ≤ 1000) (hsz : size ≤ 1000) (hat1 : hat ≤ 2 * first + size) (hfit : n ≤ size) (he : ¬ (wend d (2 * first + size - hat + 0) (fun i => (prt (hturn + 1) (UInt64.ofNat 0) s n i).text) n).2 = 0) :
    Ct Tryd.prog 131 [Ptr gb, Str s] [blk gb [Ptr gd, I ((first : Nat) : Int), I ((size : Nat) : Int), I ((hat : Nat) : Int), W64 hturn, I ((hend : Nat) : Int), .slice Ar nr cr, .bool false] 130, mm, F] (fun _ : Hp => I (wend d (2 * first + size - hat + 0) (fun i => (prt (hturn + 1) (UInt64.ofNat 0) s n i).text) n).2) (fun x => Dsk x gd (wend d (2 * first + size - hat + 0) (fun i => (prt (hturn + 1) (UInt64.ofNat 0) s n i).text) n).1 C f) (fun x => [blk gb [Ptr gd, I ((first : Nat) : Int), I ((size : Nat) : Int), I ((hat : Nat) : Int), W64 hturn, I ((hend : Nat) : Int), .slice Ar nr cr, .bool true] 130, x, F]) := by
  have hn1 := partsN_pos s.length
  have ht0 : hturn.toNat + 1 < 4294967296 := ht
  have ht1 : (hturn + 1).toNat < 2 ^ (8 * 4) := by
    rw [UInt64.toNat_add]
    show (hturn.toNat + 1) % 18446744073709551616 < 4294967296
    omega
  refine Ct.walk Tryd.func131 rfl Tryd.ntmps131 rfl (fun w0 hw0 => ?_)
  change J _ [(0, _), (1, _)] _ _ _
  refine J.seq (fun K1 hK1 => ?_)
  refine J.region ?_
  refine J.y (op_assign rfl rfl) rfl rfl rfl ?_
  refine J.nil ?_
  refine J.then_n (J.k hK1 ?_)
  refine J.keepE [(0, _), (1, _)] ⟨rfl, rfl, trivial⟩ ?_
  refine J.seq (fun K2 hK2 => ?_)
  refine J.seq (fun K3 hK3 => ?_)
  refine J.region ?_
  refine J.y (op_move rfl rfl) rfl rfl rfl ?_
  refine J.y (op_move rfl rfl) rfl rfl rfl ?_
  refine J.e (op_call rfl rfl ent78 (Ct.use0 (fun F' hF => by have := may_ct F' gb gd ((first : Nat) : Int) size ((hat : Nat) : Int) hturn ((hend : Nat) : Int) Ar nr cr false (Cells.blk0.mono (hF (blk gb [Ptr gd, I ((first : Nat) : Int), I ((size : Nat) : Int), I ((hat : Nat) : Int), W64 hturn, I ((hend : Nat) : Int), .slice Ar nr cr, .bool false] 130) (by simp))) s; rw [if_neg (by omega), if_neg (by decide)] at this; exact this))) rfl rfl rfl ?_
  intro g9 _
  refine J.y (op_assign rfl rfl) rfl rfl rfl ?_
  refine J.nil ?_
  refine J.then_n (J.k hK3 ?_)
  refine J.keepE [(0, _), (1, _), (5, _)] ⟨rfl, rfl, rfl, trivial⟩ ?_
  refine J.seq (fun K4 hK4 => ?_)
  refine J.region ?_
  refine J.y (op_move rfl rfl) rfl rfl rfl ?_
  refine J.y ((op_neq rfl rfl rfl).as (v' := .bool false) (congrArg Value.bool (decide_eq_false (by decide)))) rfl rfl rfl ?_
  refine J.nil ?_
  refine J.then_n (J.k hK4 ?_)
  refine J.keepE [(0, _), (1, _), (5, _), (11, _)] ⟨rfl, rfl, rfl, rfl, trivial⟩ ?_
  refine J.condF rfl rfl ?_
  refine J.skip ?_
  refine J.then_n (J.k hK2 ?_)
  refine J.keepE [(0, _), (1, _)] ⟨rfl, rfl, trivial⟩ ?_
  refine J.seq (fun K5 hK5 => ?_)
  refine J.seq (fun K6 hK6 => ?_)
  refine J.draw [blk gb [Ptr gd, I ((first : Nat) : Int), I ((size : Nat) : Int), I ((hat : Nat) : Int), W64 hturn, I ((hend : Nat) : Int), .slice Ar nr cr, .bool false] 130, mm, F] [] (.y 0 (.y 1 (.y 2 (.y 3 (.y 4 (.y 5 (.e 6 (.y 7 (.y 8 (.y 9 (.y 10 (.y 11 (.y 12 (.y 13 (.y 14 (.y 15 .nil)))))))))))))))) Tryd.wide (by decide +kernel) (by simp) ?_
  refine J.dy rfl (op_move rfl rfl) rfl rfl rfl rfl ?_
  refine J.dy rfl (op_nilCheck rfl rfl) rfl rfl rfl rfl ?_
  refine J.dy rfl (op_fieldAddr (j := 2) rfl rfl Tryd.underlying130 rfl Tryd.sizeOf3 rfl) rfl rfl rfl rfl ?_
  refine J.dy rfl (op_loadB 0 (v := I ((size : Nat) : Int)) rfl rfl rfl Tryd.isAgg3 rfl) rfl rfl rfl rfl ?_
  refine J.dy rfl (op_move rfl rfl) rfl rfl rfl rfl ?_
  refine J.dy rfl (op_slen Tryd.underlying9 rfl rfl) rfl rfl rfl rfl ?_
  refine J.de rfl (op_call rfl rfl ent80 (Ct.use0 (fun F' hF => by have := partsN_ct F' s.length (by omega); rw [← hn] at this; exact this))) rfl rfl rfl (by simp) ?_
  intro g19 _
  refine J.dy rfl ((op_lss rfl rfl rfl).as (v' := .bool false) (congrArg Value.bool (decide_eq_false (by omega)))) rfl rfl rfl rfl ?_
  refine J.dy rfl (op_move rfl rfl) rfl rfl rfl rfl ?_
  refine J.dyg rfl (op_move rfl rfl) (Wan.is rfl rfl rfl rfl rfl) rfl rfl rfl ?_
  refine J.dyg rfl (op_nilCheck rfl rfl) (Wan.is rfl rfl rfl rfl rfl) rfl rfl rfl ?_
  refine J.dyg rfl (op_fieldAddr (j := 3) rfl rfl Tryd.underlying130 rfl Tryd.sizeOf128 rfl) (Wan.is rfl rfl rfl rfl rfl) rfl rfl rfl ?_
  refine J.dyg rfl (op_fieldAddr (j := 4) rfl rfl Tryd.underlying128 rfl Tryd.sizeOf108 rfl) (Wan.is rfl rfl rfl rfl rfl) rfl rfl rfl ?_
  refine J.dyg rfl (op_loadB 0 (v := W64 hturn) rfl rfl rfl Tryd.isAgg108 rfl) (Wan.is rfl rfl rfl rfl rfl) rfl rfl rfl ?_
  refine J.dyg rfl ((op_geq rfl rfl rfl).as (v' := .bool false) (congrArg Value.bool (decide_eq_false (by omega)))) (Wan.is rfl rfl rfl rfl rfl) rfl rfl rfl ?_
  refine J.dy rfl (op_pickF rfl rfl rfl) rfl rfl rfl rfl ?_
  refine J.dnil ?_
  refine J.then_n (J.k hK6 ?_)
  refine J.keepE [(0, _), (1, _), (28, _)] ⟨rfl, rfl, rfl, trivial⟩ ?_
  refine J.condF rfl rfl ?_
  refine J.skip ?_
  refine J.then_n (J.k hK5 ?_)
  refine J.keepE [(0, _), (1, _)] ⟨rfl, rfl, trivial⟩ ?_
  refine J.seq (fun K7 hK7 => ?_)
  refine J.draw [blk gb [Ptr gd, I ((first : Nat) : Int), I ((size : Nat) : Int), I ((hat : Nat) : Int), W64 hturn, I ((hend : Nat) : Int), .slice Ar nr cr, .bool false] 130, mm, F] [] (.y 0 (.y 1 (.y 2 (.y 3 (.y 4 (.y 5 (.y 6 (.y 7 (.y 8 (.y 9 (.y 10 (.y 11 (.y 12 (.y 13 (.y 14 (.y 15 (.y 16 .nil))))))))))))))))) Tryd.wide (by decide +kernel) (by simp) ?_
  refine J.dy rfl (op_move rfl rfl) rfl rfl rfl rfl ?_
  refine J.dy rfl (op_nilCheck rfl rfl) rfl rfl rfl rfl ?_
  refine J.dy rfl (op_fieldAddr (j := 1) rfl rfl Tryd.underlying130 rfl Tryd.sizeOf3 rfl) rfl rfl rfl rfl ?_
  refine J.dy rfl (op_loadB 0 (v := I ((first : Nat) : Int)) rfl rfl rfl Tryd.isAgg3 rfl) rfl rfl rfl rfl ?_
  refine J.dy rfl ((op_mul rfl rfl rfl (by first | omega | (simp only [List.length_append, List.length_cons, List.length_nil, List.length_take, List.length_drop] at *; omega))).as (v' := I ((2 * first : Nat) : Int)) (congrArg I (by omega))) rfl rfl rfl rfl ?_
  refine J.dy rfl (op_move rfl rfl) rfl rfl rfl rfl ?_
  refine J.dy rfl (op_nilCheck rfl rfl) rfl rfl rfl rfl ?_
  refine J.dy rfl (op_fieldAddr (j := 2) rfl rfl Tryd.underlying130 rfl Tryd.sizeOf3 rfl) rfl rfl rfl rfl ?_
  refine J.dy rfl (op_loadB 0 (v := I ((size : Nat) : Int)) rfl rfl rfl Tryd.isAgg3 rfl) rfl rfl rfl rfl ?_
  refine J.dy rfl ((op_add rfl rfl rfl (by first | omega | (simp only [List.length_append, List.length_cons, List.length_nil, List.length_take, List.length_drop] at *; omega))).as (v' := I ((2 * first + size : Nat) : Int)) (congrArg I (by omega))) rfl rfl rfl rfl ?_
  refine J.dy rfl (op_move rfl rfl) rfl rfl rfl rfl ?_
  refine J.dy rfl (op_nilCheck rfl rfl) rfl rfl rfl rfl ?_
  refine J.dy rfl (op_fieldAddr (j := 3) rfl rfl Tryd.underlying130 rfl Tryd.sizeOf128 rfl) rfl rfl rfl rfl ?_
  refine J.dy rfl (op_fieldAddr (j := 3) rfl rfl Tryd.underlying128 rfl Tryd.sizeOf3 rfl) rfl rfl rfl rfl ?_
  refine J.dy rfl (op_loadB 0 (v := I ((hat : Nat) : Int)) rfl rfl rfl Tryd.isAgg3 rfl) rfl rfl rfl rfl ?_
  refine J.dy rfl ((op_sub rfl rfl rfl (by first | omega | (refine ⟨?_, ?_⟩ <;> omega))).as (v' := I ((2 * first + size - hat : Nat) : Int)) (congrArg I (by omega))) rfl rfl rfl rfl ?_
  refine J.dy rfl (op_assign rfl rfl) rfl rfl rfl rfl ?_
  refine J.dnil ?_
  refine J.then_n (J.k hK7 ?_)
  refine J.keepE [(0, _), (1, _), (6, _)] ⟨rfl, rfl, rfl, trivial⟩ ?_
  refine J.seq (fun K8 hK8 => ?_)
  refine J.region ?_
  refine J.y (op_move rfl rfl) rfl rfl rfl ?_
  refine J.y (op_move rfl rfl) rfl rfl rfl ?_
  refine J.y (op_move rfl rfl) rfl rfl rfl ?_
  refine J.y (op_nilCheck rfl rfl) rfl rfl rfl ?_
  refine J.y (op_fieldAddr (j := 3) rfl rfl Tryd.underlying130 rfl Tryd.sizeOf128 rfl) rfl rfl rfl ?_
  refine J.y (op_fieldAddr (j := 4) rfl rfl Tryd.underlying128 rfl Tryd.sizeOf108 rfl) rfl rfl rfl ?_
  refine J.y (op_loadB 0 (v := W64 hturn) rfl rfl rfl Tryd.isAgg108 rfl) rfl rfl rfl ?_
  refine J.y (op_add64 (b := 1) rfl rfl rfl) rfl rfl rfl ?_
  refine J.y (op_buildStruct (l := [(0, .tmp 46), (1, .tmp 52)]) (vs := [I ((2 * first + size - hat : Nat) : Int), W64 (hturn + 1)]) (places := [(0, 1), (1, 1), (2, 1), (3, 1)]) (r := [I ((2 * first + size - hat : Nat) : Int), W64 (hturn + 1), I 0, .slice none 0 0]) rfl rfl rfl Tryd.underlying128 Tryd.zeroValue128 (fun _ => by kernel_rfl) rfl) rfl rfl rfl ?_
  refine J.y (op_move rfl rfl) rfl rfl rfl ?_
  refine J.e (op_call rfl rfl ent81 (Ct.useA [blk gb [Ptr gd, I ((first : Nat) : Int), I ((size : Nat) : Int), I ((hat : Nat) : Int), W64 hturn, I ((hend : Nat) : Int), .slice Ar nr cr, .bool false] 130, mm] [F] (A' := fun x : Hp => [blk gb [Ptr gd, I ((first : Nat) : Int), I ((size : Nat) : Int), I ((hat : Nat) : Int), W64 hturn, I ((hend : Nat) : Int), .slice Ar nr cr, .bool true] 130, x]) (new := fun _ => []) (fun F' hF => bwrite_bad_ct F' mm (hK.mono (hF F (by simp))) gb gd ((first : Nat) : Int) ((size : Nat) : Int) ((hat : Nat) : Int) hturn ((hend : Nat) : Int) Ar nr cr false d C f hb hok hn2 (hKp.mono (hF F (by simp))) hn3 (2 * first + size - hat) (hturn + 1) 0 none 0 0 [] rfl Sl.nil s hs n hn ht1 (by decide) (by omega) he))) rfl rfl rfl ?_
  rintro m55 hd55
  change J _ _ _ [blk gb [Ptr gd, I ((first : Nat) : Int), I ((size : Nat) : Int), I ((hat : Nat) : Int), W64 hturn, I ((hend : Nat) : Int), .slice Ar nr cr, .bool true] 130, m55, F] _
  refine J.y (op_assign rfl rfl) rfl rfl rfl ?_
  refine J.nil ?_
  refine J.then_n (J.k hK8 ?_)
  refine J.keepE [(4, _)] ⟨rfl, trivial⟩ ?_
  refine J.ret ?_
  exact J.done hw0 (fun _ _ h => h) (res1 rfl rfl) (retOk m55 rfl hd55 [0, 1, 2] rfl (by decide))

end Go.Proofs.YtnkfapecbmmpeaaDoor

namespace Go.Proofs.YtnkfapecbmmpeaaDoor
open Go Go.Fw
set_option maxRecDepth 100000
set_option maxHeartbeats 1000000
theorem ent131 : Enters Tryd.prog 131 := Enters.of Tryd.func131 rfl (by kernel_rfl)
attribute [local irreducible] Sha.tagged Wo.pub Wo.publicOf Wo.signs Wo.ends Wo.digs Wo.walk Wo.opn Mk.root Mk.path Mk.climb Xm.root sgC sgP prt

theorem sync_wait (d : Dk) (h : d.sErr = 0 ∨ d.sErr = 8) (ho : d.off = false) (hl : 0 < d.last.length) : d.sync.wait = [] ∧ d.sync.keep = d.keep := by
  have h0 : d.ready 0 = 0 := calm_ready ho (i := 0) hl
  have hb := burn_keep d
  unfold Dk.sync
  rw [if_neg (by rw [h0]; decide)]
  split
  · rename_i hb2
    refine ⟨?_, hb.1⟩
    unfold Dk.burn
    rw [if_pos hb2.1, if_pos hb2.2]; rfl
  · exact ⟨rfl, hb.1⟩
theorem wend_ok {d : Dk} (h : d.ok) (p : Nat) (t : Nat → List UInt8) (n : Nat) : (wend d p t n).1.ok := by
  have hw := (wrun_ok h p t n).1
  unfold wend
  split
  · exact hw.sync
  · exact hw
theorem wend_rest {d : Dk} {p : Nat} {t : Nat → List UInt8} (h64 : (t 0).length = 64) (ho : d.off = false) (hw : d.wait = []) (hp : p < d.last.length) (hok : d.ok) : (wend d p t 1).1.wait = [] ∧ (wend d p t 1).1.keep = d.keep := by
  have h0 : d.ready ((p + 0 : Nat) : Int) = 0 := calm_ready ho (i := p + 0) (by omega)
  have e1 : wrun d p t 1 = (d.write ((p + 0 : Nat) : Int) (t 0), d.wErr ((p + 0 : Nat) : Int) (t 0)) := wrun_succ rfl
  by_cases hb : d.burns
  · have hwe : d.wErr ((p + 0 : Nat) : Int) (t 0) = 8 := by unfold Dk.wErr; rw [if_neg (by rw [h0]; decide), if_neg (by omega), if_pos hb]
    have hwr : d.write ((p + 0 : Nat) : Int) (t 0) = d.burn := by unfold Dk.write; rw [if_neg (by rw [h0]; decide), if_neg (by omega), if_pos hb]
    have e : wend d p t 1 = (d.burn, 8) := by unfold wend; rw [e1, hwe, hwr]; rfl
    have hbn : d.burn = { d with fuse := d.fuse - 1 }.cut d.keep := by unfold Dk.burn; rw [if_pos hb.1, if_pos hb.2]
    rw [e, hbn]; exact ⟨rfl, rfl⟩
  · have hwr := write_in h0 (s := t 0) (by omega) hb
    have hbl := burn_last hb
    rw [hwr.1, hwr.2] at e1
    obtain ⟨D, hD⟩ : ∃ D, D = ({ d.burn with wait := d.burn.wait ++ [(((p + 0 : Nat) : Int).toNat, full (t 0))] } : Dk) := ⟨_, rfl⟩
    rw [← hD] at e1
    have hDl : D.last = d.last := by rw [hD]; exact hbl.1
    have hDo : D.off = false := by rw [hD]; show d.burn.off = false; rw [hbl.2.2]; exact ho
    have hDk : D.keep = d.keep := by rw [hD]; exact (burn_keep d).1
    have e : wend d p t 1 = (D.sync, D.sErr) := by unfold wend; rw [e1]; rfl
    have h3 : D.ready 0 = 0 := calm_ready hDo (i := 0) (by rw [hDl]; omega)
    have hs := sync_wait D (by unfold Dk.sErr; rw [if_neg (by rw [h3]; decide)]; split; exact Or.inr rfl; exact Or.inl rfl) hDo (by rw [hDl]; omega)
    rw [e]
    exact ⟨hs.1, hs.2.trans hDk⟩
/-- the record of index v written: by Put, or by Compact where the half is full -/
def wendV (d : Dk) (v : Nat) : Dk × Int := if v = 4 then wend d (2 * 1 + 8 / 2 - 1 + 0) (fun i => (prt (1 + 1) (UInt64.ofNat 0) (note v) (partsN (note v).length) i).text) (partsN (note v).length) else wendH d (XV v) (note v)
theorem wendV_law {d : Dk} {v : Nat} (h : DV d v) (hv : v < 8) (ho : d.off = false) : ((wendV d v).2 = 0 → (wendV d v).1.off = false ∧ DV (wendV d v).1 (v + 1)) ∧ ((wendV d v).2 ≠ 0 → (wendV d v).2 = 8 ∧ (wendV d v).1.off = true ∧ (DV (wendV d v).1 v ∨ DV (wendV d v).1 (v + 1))) ∧ (wendV d v).1.keep = d.keep := by
  have key : ∀ (p : Nat) (t : Nat → List UInt8), p = 1 + v → t 0 = txt v → ((wend d p t 1).2 = 0 → (wend d p t 1).1.off = false ∧ DV (wend d p t 1).1 (v + 1)) ∧ ((wend d p t 1).2 ≠ 0 → (wend d p t 1).2 = 8 ∧ (wend d p t 1).1.off = true ∧ (DV (wend d p t 1).1 v ∨ DV (wend d p t 1).1 (v + 1))) ∧ (wend d p t 1).1.keep = d.keep := fun p t hp hT => by
    have hr := wend_rest (d := d) (p := p) (t := t) (by rw [hT]; exact txt_len hv) ho h.wait (by rw [h.len]; omega) h.ok
    have := h.put hv ho hp hT (wend_ok h.ok p t 1) hr.1
    exact ⟨this.1, this.2, hr.2⟩
  unfold wendV
  by_cases h4 : v = 4
  · rw [if_pos h4, partsN_one (note39 v)]
    exact key _ _ (by omega) (by subst h4; rfl)
  · rw [if_neg h4]
    unfold wendH
    rw [partsN_one (note39 v)]
    obtain ⟨_, h2, h3⟩ := XV_put hv h4
    exact key _ _ h2 h3

theorem reserve9_ct {X : Type} (F B md : Hp) (gs gk gb nx : Nat) (hS : Cells F ⟨gs, 0, none⟩ [Ptr gk, Ptr gb, I ((nx : Nat) : Int)]) (hnx : nx ≤ 65534) (e1 : Int) (hP : ∀ F' : Hp, Le B F' → Ct Tryd.prog 34 [Ptr gb, Str (note nx)] [F'] (fun _ : Unit => I 9) (fun _ => True) (fun _ => [F'])) (φ : X → Prop) (B1 M1 N1 : X → Hp) (hC : ∀ F' : Hp, Le F F' → Ct Tryd.prog 131 [Ptr gb, Str (note nx)] [B, md, F'] (fun _ : X => I e1) φ (fun x => [B1 x, M1 x, F', N1 x])) : Ct Tryd.prog 88 [Ptr gs] [B, md, F] (fun _ : X => I e1) φ (fun x => [B1 x, M1 x, F, N1 x]) := by
  refine Ct.walk Tryd.func88 rfl Tryd.ntmps88 rfl (fun w0 hw0 => ?_)
  change J _ [(0, _)] _ _ _
  refine J.seq (fun K1 hK1 => ?_)
  refine J.region ?_
  refine J.y (op_assign rfl rfl) rfl rfl rfl ?_
  refine J.nil ?_
  refine J.then_n (J.k hK1 ?_)
  refine J.keepE [(0, _)] ⟨rfl, trivial⟩ ?_
  refine J.seq (fun K2 hK2 => ?_)
  refine J.region ?_
  refine J.e (op_alloc (l := [.pointer none, .slice none 0 0, I 0]) rfl Tryd.zeroValue104 rfl) rfl rfl rfl ?_
  intro g3 _
  change J _ _ _ [B, md, F, blk g3 [.pointer none, .slice none 0 0, I 0] 104] _
  refine J.nil ?_
  refine J.then_n (J.k hK2 ?_)
  refine J.keepE [(0, _), (3, _)] ⟨rfl, rfl, trivial⟩ ?_
  refine J.seq (fun K3 hK3 => ?_)
  refine J.region ?_
  refine J.y (op_move rfl rfl) rfl rfl rfl ?_
  refine J.y (op_nilCheck rfl rfl) rfl rfl rfl ?_
  refine J.y (op_fieldAddr (j := 2) rfl rfl Tryd.underlying139 rfl Tryd.sizeOf3 rfl) rfl rfl rfl ?_
  refine J.y (op_load (v := I ((nx : Nat) : Int)) rfl rfl Tryd.isAgg3 (m := F) (by simp) (hS.at (i := 2) rfl)) rfl rfl rfl ?_
  refine J.y (op_cvU_i64 (m := nx) rfl rfl Tryd.underlying3 Tryd.underlying108 (by first | omega | (simp only [List.length_append, List.length_cons, List.length_nil, List.length_take, List.length_drop] at *; omega))) rfl rfl rfl ?_
  refine J.y (op_addU (a := nx) (b := 1) rfl rfl rfl (by first | omega | (simp only [List.length_append, List.length_cons, List.length_nil, List.length_take, List.length_drop] at *; omega))) rfl rfl rfl ?_
  refine J.e (op_call rfl rfl ent55 (Ct.use1 3 (m' := fun x : Hp => x) (new := fun _ => []) rfl (fun F' hF => numG_ct F' (blk g3 [.pointer none, .slice none 0 0, I 0] 104) g3 ([]) (wtrN g3) (by first | decide | omega | (simp only [List.length_append, List.length_cons, List.length_nil, List.length_singleton, Sha.numB_length, tb_len] <;> omega)) (nx + 1) 2 (by decide) (by decide) (by first | decide | omega | assumption)))) rfl rfl rfl ?_
  rintro m13 hw13
  change J _ ((13, Ptr g3) :: _) _ [B, md, F, m13] _
  rw [List.nil_append] at hw13
  replace hw13 : Wtr m13 g3 (note nx) 0 := hw13
  have hnl := note_len nx
  refine J.e (op_call rfl rfl ent56 (Ct.use1 3 (m' := fun x : Hp => x) (new := fun _ => []) rfl (fun F' hF => bytesG_ct F' m13 g3 (note nx) hw13 (by first | decide | omega | (simp only [List.length_append, List.length_cons, List.length_nil, List.length_singleton, Sha.numB_length, tb_len] <;> omega)) ))) rfl rfl rfl ?_
  rintro m14 hw14
  change J _ ((14, .tuple #[Str (note nx), I ((0 : Nat) : Int)]) :: _) _ [B, md, F, m14] _
  refine J.y (op_move rfl rfl) rfl rfl rfl ?_
  refine J.y (op_extract (v := Str (note nx)) rfl rfl rfl) rfl rfl rfl ?_
  refine J.y (op_extract (v := I ((0 : Nat) : Int)) rfl rfl rfl) rfl rfl rfl ?_
  refine J.y (op_assign rfl rfl) rfl rfl rfl ?_
  refine J.y (op_assign rfl rfl) rfl rfl rfl ?_
  refine J.nil ?_
  refine J.then_n (J.k hK3 ?_)
  refine J.keepE [(0, _), (4, _), (5, _)] ⟨rfl, rfl, rfl, trivial⟩ ?_
  refine J.seq (fun K4 hK4 => ?_)
  refine J.seq (fun K5 hK5 => ?_)
  refine J.region ?_
  refine J.y (op_move rfl rfl) rfl rfl rfl ?_
  refine J.y ((op_neq rfl rfl rfl).as (v' := .bool false) (congrArg Value.bool (decide_eq_false (by decide)))) rfl rfl rfl ?_
  refine J.nil ?_
  refine J.then_n (J.k hK5 ?_)
  refine J.keepE [(0, _), (4, _), (5, _), (18, _)] ⟨rfl, rfl, rfl, rfl, trivial⟩ ?_
  refine J.condF rfl rfl ?_
  refine J.skip ?_
  refine J.then_n (J.k hK4 ?_)
  refine J.keepE [(0, _), (4, _)] ⟨rfl, rfl, trivial⟩ ?_
  refine J.seq (fun K6 hK6 => ?_)
  refine J.region ?_
  refine J.y (op_move rfl rfl) rfl rfl rfl ?_
  refine J.y (op_nilCheck rfl rfl) rfl rfl rfl ?_
  refine J.y (op_fieldAddr (j := 1) rfl rfl Tryd.underlying139 rfl Tryd.sizeOf67 rfl) rfl rfl rfl ?_
  refine J.y (op_load (v := Ptr gb) rfl rfl Tryd.isAgg67 (m := F) (by simp) (hS.at (i := 1) rfl)) rfl rfl rfl ?_
  refine J.y (op_move rfl rfl) rfl rfl rfl ?_
  refine J.e (op_call rfl rfl ent34 (Ct.use0 (fun F' hF => hP F' (hF B (by simp))))) rfl rfl rfl ?_
  intro g25 _
  refine J.y (op_assign rfl rfl) rfl rfl rfl ?_
  refine J.nil ?_
  refine J.then_n (J.k hK6 ?_)
  refine J.keepE [(0, _), (4, _), (5, _)] ⟨rfl, rfl, rfl, trivial⟩ ?_
  refine J.seq (fun K7 hK7 => ?_)
  refine J.seq (fun K8 hK8 => ?_)
  refine J.region ?_
  refine J.y (op_move rfl rfl) rfl rfl rfl ?_
  refine J.y ((op_eql rfl rfl rfl).as (v' := .bool true) (congrArg Value.bool (decide_eq_true (by decide)))) rfl rfl rfl ?_
  refine J.nil ?_
  refine J.then_n (J.k hK8 ?_)
  refine J.keepE [(0, _), (4, _), (5, _), (27, _)] ⟨rfl, rfl, rfl, rfl, trivial⟩ ?_
  refine J.condT rfl rfl ?_
  refine J.region ?_
  refine J.y (op_move rfl rfl) rfl rfl rfl ?_
  refine J.y (op_nilCheck rfl rfl) rfl rfl rfl ?_
  refine J.y (op_fieldAddr (j := 1) rfl rfl Tryd.underlying139 rfl Tryd.sizeOf67 rfl) rfl rfl rfl ?_
  refine J.y (op_load (v := Ptr gb) rfl rfl Tryd.isAgg67 (m := F) (by simp) (hS.at (i := 1) rfl)) rfl rfl rfl ?_
  refine J.y (op_move rfl rfl) rfl rfl rfl ?_
  refine J.e (op_call rfl rfl ent131 (Ct.useA [B, md] [F, m14] (A' := fun x : X => [B1 x, M1 x]) (new := fun x => [N1 x]) (fun F' hF => hC F' (hF F (by simp))))) rfl rfl rfl ?_
  rintro x33 h33
  change J _ _ _ [B1 x33, M1 x33, F, m14, N1 x33] _
  refine J.y (op_assign rfl rfl) rfl rfl rfl ?_
  refine J.nil ?_
  refine J.then_n (J.k hK7 ?_)
  refine J.keepE [(5, _)] ⟨rfl, trivial⟩ ?_
  refine J.seq (fun K9 hK9 => ?_)
  refine J.region ?_
  refine J.y (op_move rfl rfl) rfl rfl rfl ?_
  refine J.y (op_assign rfl rfl) rfl rfl rfl ?_
  refine J.nil ?_
  refine J.then_n (J.k hK9 ?_)
  refine J.keepE [(2, _)] ⟨rfl, trivial⟩ ?_
  refine J.ret ?_
  exact J.done hw0 (fun _ _ h => h) (res1 rfl rfl) (retOk x33 rfl h33 [0, 1, 2, 4] rfl (by decide))

theorem ssignR_ok {X : Type} (F B md : Hp) (gs gk gb nx : Nat) (hK : Cells F ⟨1, 0, none⟩ (Sha.K.map W32)) (seed : List UInt8) (kh : Nat) (hk : KeyA F gk seed kh) (hsd : seed.length ≤ 1048576) (h6 : kh ≤ 6) (hnx : nx < 2 ^ kh) (mg : List UInt8) (hm : mg.length ≤ 1048576) (φ : X → Prop) (B1 M1 N1 : X → Hp) (hP : ∀ F' : Hp, Le F F' → Cells F' ⟨gs, 0, none⟩ [Ptr gk, Ptr gb, I ((nx : Nat) : Int)] → Ct Tryd.prog 88 [Ptr gs] [B, md, F'] (fun _ : X => I (0)) φ (fun x => [B1 x, M1 x, F', N1 x])) : Ct Tryd.prog 36 [Ptr gs, Str mg] [blk gs [Ptr gk, Ptr gb, I ((nx : Nat) : Int)] 139, B, md, F] (fun x : X × ((Option Addr × Nat × Hp) × (Option Addr × Nat × Hp)) => .tuple #[.agg #[I ((nx : Nat) : Int), .slice x.2.1.1 (sgC seed nx mg).length x.2.1.2.1, .slice x.2.2.1 (sgP seed kh nx).length x.2.2.2.1], I ((0 : Nat) : Int)]) (fun x => φ x.1 ∧ Row x.2.1.2.2 9 1 x.2.1.1 (sgC seed nx mg).length x.2.1.2.1 (strsV (sgC seed nx mg)) ∧ Row x.2.2.2.2 9 1 x.2.2.1 (sgP seed kh nx).length x.2.2.2.1 (strsV (sgP seed kh nx))) (fun x => [blk gs [Ptr gk, Ptr gb, I ((nx + 1 : Nat) : Int)] 139, B1 x.1, M1 x.1, F, N1 x.1, x.2.1.2.2, x.2.2.2.2]) := by
  have hp64 := Xm.pow_le kh h6
  obtain ⟨pk, hpk⟩ : ∃ pk, pk = 2 ^ kh := ⟨_, rfl⟩
  rw [← hpk] at hp64 hnx
  refine Ct.walk Tryd.func36 rfl Tryd.ntmps36 rfl (fun w0 hw0 => ?_)
  change J _ [(0, _), (1, _)] _ _ _
  refine J.seq (fun K1 hK1 => ?_)
  refine J.region ?_
  refine J.e (op_alloc (l := [I 0, .slice none 0 0, .slice none 0 0]) rfl Tryd.zeroValue75 rfl) rfl rfl rfl ?_
  intro g4 _
  change J _ _ _ [blk gs [Ptr gk, Ptr gb, I ((nx : Nat) : Int)] 139, B, md, F, blk g4 [I 0, .slice none 0 0, .slice none 0 0] 75] _
  refine J.y (op_assign rfl rfl) rfl rfl rfl ?_
  refine J.nil ?_
  refine J.then_n (J.k hK1 ?_)
  refine J.keepE [(0, _), (1, _), (4, _)] ⟨rfl, rfl, rfl, trivial⟩ ?_
  refine J.seq (fun K2 hK2 => ?_)
  refine J.block ?_
  refine J.seq (fun K3 hK3 => ?_)
  refine J.region ?_
  refine J.y (op_move rfl rfl) rfl rfl rfl ?_
  refine J.y (op_peq Tryd.underlying71 rfl rfl rfl) rfl rfl rfl ?_
  refine J.y (op_assign rfl rfl) rfl rfl rfl ?_
  refine J.nil ?_
  refine J.then_n (J.k hK3 ?_)
  refine J.keepE [(0, _), (1, _), (4, _), (7, _)] ⟨rfl, rfl, rfl, rfl, trivial⟩ ?_
  refine J.condF rfl rfl ?_
  refine J.seq (fun K4 hK4 => ?_)
  refine J.draw [blk gs [Ptr gk, Ptr gb, I ((nx : Nat) : Int)] 139, F] [] (.y 0 (.y 1 (.y 2 (.y 3 (.y 4 (.y 5 (.y 6 (.y 7 (.e 8 (.y 9 (.y 10 .nil))))))))))) Tryd.wide (by decide +kernel) (by simp) ?_
  refine J.dy rfl (op_move rfl rfl) rfl rfl rfl rfl ?_
  refine J.dy rfl (op_nilCheck rfl rfl) rfl rfl rfl rfl ?_
  refine J.dy rfl (op_fieldAddr (j := 2) rfl rfl Tryd.underlying139 rfl Tryd.sizeOf3 rfl) rfl rfl rfl rfl ?_
  refine J.dy rfl (op_loadB 0 (v := I ((nx : Nat) : Int)) rfl rfl rfl Tryd.isAgg3 rfl) rfl rfl rfl rfl ?_
  refine J.dy rfl (op_move rfl rfl) rfl rfl rfl rfl ?_
  refine J.dy rfl (op_nilCheck rfl rfl) rfl rfl rfl rfl ?_
  refine J.dy rfl (op_fieldAddr (j := 0) rfl rfl Tryd.underlying139 rfl Tryd.sizeOf135 rfl) rfl rfl rfl rfl ?_
  refine J.dy rfl (op_loadB 0 (v := Ptr gk) rfl rfl rfl Tryd.isAgg135 rfl) rfl rfl rfl rfl ?_
  refine J.de rfl (op_call rfl rfl ent87 (Ct.use0 (fun F' hF => by have := xcountK_ct F' gk seed kh (hk.mono (hF F (by simp))); rw [← hpk] at this; exact this))) rfl rfl rfl (by simp) ?_
  intro g20 _
  refine J.dy rfl ((op_geq rfl rfl rfl).as (v' := .bool false) (congrArg Value.bool (decide_eq_false (by omega)))) rfl rfl rfl rfl ?_
  refine J.dy rfl (op_assign rfl rfl) rfl rfl rfl rfl ?_
  refine J.dnil ?_
  refine J.then_n (J.k hK4 ?_)
  refine J.keepE [(0, _), (1, _), (4, _), (11, _)] ⟨rfl, rfl, rfl, rfl, trivial⟩ ?_
  refine J.condF rfl rfl ?_
  refine J.skip ?_
  refine J.blk_n ?_
  refine J.then_n (J.k hK2 ?_)
  refine J.keepE [(0, _), (1, _), (4, _)] ⟨rfl, rfl, rfl, trivial⟩ ?_
  refine J.seq (fun K5 hK5 => ?_)
  refine J.seq (fun K6 hK6 => ?_)
  refine J.perm [1, 2, 0, 3, 4] [B, md, blk gs [Ptr gk, Ptr gb, I ((nx : Nat) : Int)] 139, F, blk g4 [I 0, .slice none 0 0, .slice none 0 0] 75] rfl (by decide) ?_
  refine J.region ?_
  refine J.y (op_move rfl rfl) rfl rfl rfl ?_
  refine J.e (op_call rfl rfl ent88 (Ct.useA [B, md] [blk gs [Ptr gk, Ptr gb, I ((nx : Nat) : Int)] 139, F, blk g4 [I 0, .slice none 0 0, .slice none 0 0] 75] (A' := fun x : X => [B1 x, M1 x]) (new := fun x => [N1 x]) (fun F' hF => hP F' (hF F (by simp)) (Cells.blk0.mono (hF (blk gs [Ptr gk, Ptr gb, I ((nx : Nat) : Int)] 139) (by simp)))))) rfl rfl rfl ?_
  rintro x24 h24
  change J _ _ _ [B1 x24, M1 x24, blk gs [Ptr gk, Ptr gb, I ((nx : Nat) : Int)] 139, F, blk g4 [I 0, .slice none 0 0, .slice none 0 0] 75, N1 x24] _
  refine J.y (op_assign rfl rfl) rfl rfl rfl ?_
  refine J.nil ?_
  refine J.then_n (J.k hK6 ?_)
  refine J.keepE [(0, _), (1, _), (4, _), (6, _)] ⟨rfl, rfl, rfl, rfl, trivial⟩ ?_
  refine J.seq (fun K7 hK7 => ?_)
  refine J.region ?_
  refine J.y (op_move rfl rfl) rfl rfl rfl ?_
  refine J.y ((op_neq rfl rfl rfl).as (v' := .bool false) (congrArg Value.bool (decide_eq_false (by decide)))) rfl rfl rfl ?_
  refine J.nil ?_
  refine J.then_n (J.k hK7 ?_)
  refine J.keepE [(0, _), (1, _), (4, _), (6, _), (26, _)] ⟨rfl, rfl, rfl, rfl, rfl, trivial⟩ ?_
  refine J.condF rfl rfl ?_
  refine J.skip ?_
  refine J.then_n (J.k hK5 ?_)
  refine J.keepE [(0, _), (1, _), (4, _)] ⟨rfl, rfl, rfl, trivial⟩ ?_
  refine J.seq (fun K8 hK8 => ?_)
  refine J.region ?_
  refine J.y (op_move rfl rfl) rfl rfl rfl ?_
  refine J.y (op_nilCheck rfl rfl) rfl rfl rfl ?_
  refine J.y (op_fieldAddr (j := 2) rfl rfl Tryd.underlying139 rfl Tryd.sizeOf3 rfl) rfl rfl rfl ?_
  refine J.y (op_loadB 2 (v := I ((nx : Nat) : Int)) rfl rfl rfl Tryd.isAgg3 rfl) rfl rfl rfl ?_
  refine J.y ((op_add rfl rfl rfl (by first | omega | (simp only [List.length_append, List.length_cons, List.length_nil, List.length_take, List.length_drop] at *; omega))).as (v' := I ((nx + 1 : Nat) : Int)) (congrArg I (by omega))) rfl rfl rfl ?_
  refine J.y (op_nilCheck rfl rfl) rfl rfl rfl ?_
  refine J.y (op_fieldAddr (j := 2) rfl rfl Tryd.underlying139 rfl Tryd.sizeOf3 rfl) rfl rfl rfl ?_
  refine J.s (op_store (i := 2) (l := [Ptr gk, Ptr gb, I ((nx : Nat) : Int)]) (vs := [I ((nx + 1 : Nat) : Int)]) rfl rfl rfl rfl rfl Tryd.sizeOf3 rfl (by simp)) rfl rfl (fun _ _ => ?_)
  change J _ _ _ [B1 x24, M1 x24, blk gs [Ptr gk, Ptr gb, I ((nx + 1 : Nat) : Int)] 139, F, blk g4 [I 0, .slice none 0 0, .slice none 0 0] 75, N1 x24] _
  refine J.nil ?_
  refine J.then_n (J.k hK8 ?_)
  refine J.keepE [(0, _), (1, _), (4, _)] ⟨rfl, rfl, rfl, trivial⟩ ?_
  refine J.seq (fun K9 hK9 => ?_)
  refine J.draw [blk gs [Ptr gk, Ptr gb, I ((nx + 1 : Nat) : Int)] 139] [13, 14] (.y 0 (.y 1 (.y 2 (.y 3 (.y 4 (.y 5 (.y 6 (.y 7 (.y 8 (.y 9 (.e 10 (.y 11 (.y 12 (.e 13 (.e 14 .nil))))))))))))))) Tryd.wide (by decide +kernel) (by simp) ?_
  refine J.dy rfl (op_move rfl rfl) rfl rfl rfl rfl ?_
  refine J.dy rfl (op_nilCheck rfl rfl) rfl rfl rfl rfl ?_
  refine J.dy rfl (op_fieldAddr (j := 0) rfl rfl Tryd.underlying139 rfl Tryd.sizeOf135 rfl) rfl rfl rfl rfl ?_
  refine J.dy rfl (op_loadB 0 (v := Ptr gk) rfl rfl rfl Tryd.isAgg135 rfl) rfl rfl rfl rfl ?_
  refine J.dy rfl (op_move rfl rfl) rfl rfl rfl rfl ?_
  refine J.dy rfl (op_nilCheck rfl rfl) rfl rfl rfl rfl ?_
  refine J.dy rfl (op_fieldAddr (j := 2) rfl rfl Tryd.underlying139 rfl Tryd.sizeOf3 rfl) rfl rfl rfl rfl ?_
  refine J.dy rfl (op_loadB 0 (v := I ((nx + 1 : Nat) : Int)) rfl rfl rfl Tryd.isAgg3 rfl) rfl rfl rfl rfl ?_
  refine J.dy rfl ((op_sub rfl rfl rfl (by first | omega | (refine ⟨?_, ?_⟩ <;> omega))).as (v' := I ((nx : Nat) : Int)) (congrArg I (by omega))) rfl rfl rfl rfl ?_
  refine J.dy rfl (op_move rfl rfl) rfl rfl rfl rfl ?_
  refine J.de rfl (op_call rfl rfl ent89 (Ct.use (new := fun x : (Option Addr × Nat × Hp) × (Option Addr × Nat × Hp) => [x.1.2.2, x.2.2.2]) (fun F' hF => xsignK_ct F' (hK.mono (hF F (by simp))) gk seed kh (hk.mono (hF F (by simp))) (by first | assumption | decide) (by first | assumption | decide) nx (by rw [← hpk]; exact hnx) mg (by omega)))) rfl rfl rfl (by simp) ?_
  rintro ⟨⟨A46, c46, m46⟩, ⟨B46, d46, n46⟩⟩ ⟨h46, k46⟩
  change J _ ((46, .tuple #[.agg #[I ((nx : Nat) : Int), .slice A46 (sgC seed nx mg).length c46, .slice B46 (sgP seed kh nx).length d46], I 0]) :: _) _ [B1 x24, M1 x24, blk gs [Ptr gk, Ptr gb, I ((nx + 1 : Nat) : Int)] 139, F, blk g4 [I 0, .slice none 0 0, .slice none 0 0] 75, N1 x24, m46, n46] _
  refine J.dy rfl (op_extract (v := .agg #[I ((nx : Nat) : Int), .slice A46 ((sgC seed nx mg).length) c46, .slice B46 ((sgP seed kh nx).length) d46]) rfl rfl rfl) rfl rfl rfl rfl ?_
  refine J.dy rfl (op_extract (v := I ((0 : Nat) : Int)) rfl rfl rfl) rfl rfl rfl rfl ?_
  refine J.ds rfl (op_storeAll (i := 4) (l := [I 0, .slice none 0 0, .slice none 0 0]) (vs := [I ((nx : Nat) : Int), .slice A46 ((sgC seed nx mg).length) c46, .slice B46 ((sgP seed kh nx).length) d46]) rfl rfl rfl rfl rfl Tryd.sizeOf75 rfl rfl) rfl rfl rfl (fun _ _ => ?_)
  change J _ _ _ [B1 x24, M1 x24, blk gs [Ptr gk, Ptr gb, I ((nx + 1 : Nat) : Int)] 139, F, blk g4 [I ((nx : Nat) : Int), .slice A46 ((sgC seed nx mg).length) c46, .slice B46 ((sgP seed kh nx).length) d46] 75, N1 x24, m46, n46] _
  refine J.dt rfl (YOp.eop (op_assign rfl rfl)) rfl rfl rfl rfl ?_
  intro _ _
  refine J.dnil ?_
  refine J.then_n (J.k hK9 ?_)
  refine J.keepE [(4, _), (5, _)] ⟨rfl, rfl, trivial⟩ ?_
  refine J.ret ?_
  exact J.done hw0 (fun _ _ h => h) (rv2 rfl (RV.blkA 4 rfl rfl Tryd.isAgg75 Tryd.sizeOf75) rfl) (retOk (x24, ((A46, c46, m46), (B46, d46, n46))) rfl ⟨h24, h46, k46⟩ [2, 0, 1, 3, 5, 6, 7] rfl (by decide))

theorem ssignR_bad {X : Type} (F B md : Hp) (gs gk gb nx : Nat) (hK : Cells F ⟨1, 0, none⟩ (Sha.K.map W32)) (seed : List UInt8) (kh : Nat) (hk : KeyA F gk seed kh) (hsd : seed.length ≤ 1048576) (h6 : kh ≤ 6) (hnx : nx < 2 ^ kh) (mg : List UInt8) (hm : mg.length ≤ 1048576) (e1 : Int) (h0 : e1 ≠ 0) (φ : X → Prop) (B1 M1 N1 : X → Hp) (hP : ∀ F' : Hp, Le F F' → Cells F' ⟨gs, 0, none⟩ [Ptr gk, Ptr gb, I ((nx : Nat) : Int)] → Ct Tryd.prog 88 [Ptr gs] [B, md, F'] (fun _ : X => I (e1)) φ (fun x => [B1 x, M1 x, F', N1 x])) : Ct Tryd.prog 36 [Ptr gs, Str mg] [blk gs [Ptr gk, Ptr gb, I ((nx : Nat) : Int)] 139, B, md, F] (fun _ : X => .tuple #[.agg #[I ((0 : Nat) : Int), .slice none 0 0, .slice none 0 0], I e1]) φ (fun x => [blk gs [Ptr gk, Ptr gb, I ((nx : Nat) : Int)] 139, B1 x, M1 x, F, N1 x]) := by
  have hp64 := Xm.pow_le kh h6
  obtain ⟨pk, hpk⟩ : ∃ pk, pk = 2 ^ kh := ⟨_, rfl⟩
  rw [← hpk] at hp64 hnx
  refine Ct.walk Tryd.func36 rfl Tryd.ntmps36 rfl (fun w0 hw0 => ?_)
  change J _ [(0, _), (1, _)] _ _ _
  refine J.seq (fun K1 hK1 => ?_)
  refine J.region ?_
  refine J.e (op_alloc (l := [I 0, .slice none 0 0, .slice none 0 0]) rfl Tryd.zeroValue75 rfl) rfl rfl rfl ?_
  intro g4 _
  change J _ _ _ [blk gs [Ptr gk, Ptr gb, I ((nx : Nat) : Int)] 139, B, md, F, blk g4 [I 0, .slice none 0 0, .slice none 0 0] 75] _
  refine J.y (op_assign rfl rfl) rfl rfl rfl ?_
  refine J.nil ?_
  refine J.then_n (J.k hK1 ?_)
  refine J.keepE [(0, _), (1, _), (4, _)] ⟨rfl, rfl, rfl, trivial⟩ ?_
  refine J.seq (fun K2 hK2 => ?_)
  refine J.block ?_
  refine J.seq (fun K3 hK3 => ?_)
  refine J.region ?_
  refine J.y (op_move rfl rfl) rfl rfl rfl ?_
  refine J.y (op_peq Tryd.underlying71 rfl rfl rfl) rfl rfl rfl ?_
  refine J.y (op_assign rfl rfl) rfl rfl rfl ?_
  refine J.nil ?_
  refine J.then_n (J.k hK3 ?_)
  refine J.keepE [(0, _), (1, _), (4, _), (7, _)] ⟨rfl, rfl, rfl, rfl, trivial⟩ ?_
  refine J.condF rfl rfl ?_
  refine J.seq (fun K4 hK4 => ?_)
  refine J.draw [blk gs [Ptr gk, Ptr gb, I ((nx : Nat) : Int)] 139, F] [] (.y 0 (.y 1 (.y 2 (.y 3 (.y 4 (.y 5 (.y 6 (.y 7 (.e 8 (.y 9 (.y 10 .nil))))))))))) Tryd.wide (by decide +kernel) (by simp) ?_
  refine J.dy rfl (op_move rfl rfl) rfl rfl rfl rfl ?_
  refine J.dy rfl (op_nilCheck rfl rfl) rfl rfl rfl rfl ?_
  refine J.dy rfl (op_fieldAddr (j := 2) rfl rfl Tryd.underlying139 rfl Tryd.sizeOf3 rfl) rfl rfl rfl rfl ?_
  refine J.dy rfl (op_loadB 0 (v := I ((nx : Nat) : Int)) rfl rfl rfl Tryd.isAgg3 rfl) rfl rfl rfl rfl ?_
  refine J.dy rfl (op_move rfl rfl) rfl rfl rfl rfl ?_
  refine J.dy rfl (op_nilCheck rfl rfl) rfl rfl rfl rfl ?_
  refine J.dy rfl (op_fieldAddr (j := 0) rfl rfl Tryd.underlying139 rfl Tryd.sizeOf135 rfl) rfl rfl rfl rfl ?_
  refine J.dy rfl (op_loadB 0 (v := Ptr gk) rfl rfl rfl Tryd.isAgg135 rfl) rfl rfl rfl rfl ?_
  refine J.de rfl (op_call rfl rfl ent87 (Ct.use0 (fun F' hF => by have := xcountK_ct F' gk seed kh (hk.mono (hF F (by simp))); rw [← hpk] at this; exact this))) rfl rfl rfl (by simp) ?_
  intro g20 _
  refine J.dy rfl ((op_geq rfl rfl rfl).as (v' := .bool false) (congrArg Value.bool (decide_eq_false (by omega)))) rfl rfl rfl rfl ?_
  refine J.dy rfl (op_assign rfl rfl) rfl rfl rfl rfl ?_
  refine J.dnil ?_
  refine J.then_n (J.k hK4 ?_)
  refine J.keepE [(0, _), (1, _), (4, _), (11, _)] ⟨rfl, rfl, rfl, rfl, trivial⟩ ?_
  refine J.condF rfl rfl ?_
  refine J.skip ?_
  refine J.blk_n ?_
  refine J.then_n (J.k hK2 ?_)
  refine J.keepE [(0, _), (1, _), (4, _)] ⟨rfl, rfl, rfl, trivial⟩ ?_
  refine J.seq (fun K5 hK5 => ?_)
  refine J.seq (fun K6 hK6 => ?_)
  refine J.perm [1, 2, 0, 3, 4] [B, md, blk gs [Ptr gk, Ptr gb, I ((nx : Nat) : Int)] 139, F, blk g4 [I 0, .slice none 0 0, .slice none 0 0] 75] rfl (by decide) ?_
  refine J.region ?_
  refine J.y (op_move rfl rfl) rfl rfl rfl ?_
  refine J.e (op_call rfl rfl ent88 (Ct.useA [B, md] [blk gs [Ptr gk, Ptr gb, I ((nx : Nat) : Int)] 139, F, blk g4 [I 0, .slice none 0 0, .slice none 0 0] 75] (A' := fun x : X => [B1 x, M1 x]) (new := fun x => [N1 x]) (fun F' hF => hP F' (hF F (by simp)) (Cells.blk0.mono (hF (blk gs [Ptr gk, Ptr gb, I ((nx : Nat) : Int)] 139) (by simp)))))) rfl rfl rfl ?_
  rintro x24 h24
  change J _ _ _ [B1 x24, M1 x24, blk gs [Ptr gk, Ptr gb, I ((nx : Nat) : Int)] 139, F, blk g4 [I 0, .slice none 0 0, .slice none 0 0] 75, N1 x24] _
  refine J.y (op_assign rfl rfl) rfl rfl rfl ?_
  refine J.nil ?_
  refine J.then_n (J.k hK6 ?_)
  refine J.keepE [(0, _), (1, _), (4, _), (6, _)] ⟨rfl, rfl, rfl, rfl, trivial⟩ ?_
  refine J.seq (fun K7 hK7 => ?_)
  refine J.region ?_
  refine J.y (op_move rfl rfl) rfl rfl rfl ?_
  refine J.y ((op_neq rfl rfl rfl).as (v' := .bool true) (congrArg Value.bool (decide_eq_true (h0)))) rfl rfl rfl ?_
  refine J.nil ?_
  refine J.then_n (J.k hK7 ?_)
  refine J.keepE [(0, _), (1, _), (4, _), (6, _), (26, _)] ⟨rfl, rfl, rfl, rfl, rfl, trivial⟩ ?_
  refine J.condT rfl rfl ?_
  refine J.seq (fun K8 hK8 => ?_)
  refine J.region ?_
  refine J.y (op_buildStruct (l := []) (vs := []) (places := [(0, 1), (1, 1), (2, 1)]) (r := [I 0, .slice none 0 0, .slice none 0 0]) rfl rfl rfl Tryd.underlying75 Tryd.zeroValue75 (fun _ => by kernel_rfl) rfl) rfl rfl rfl ?_
  refine J.y (op_move rfl rfl) rfl rfl rfl ?_
  refine J.s (op_storeAll (i := 4) (l := [I 0, .slice none 0 0, .slice none 0 0]) (vs := [I 0, .slice none 0 0, .slice none 0 0]) rfl rfl rfl rfl rfl Tryd.sizeOf75 rfl rfl) rfl rfl (fun _ _ => ?_)
  change J _ _ _ [B1 x24, M1 x24, blk gs [Ptr gk, Ptr gb, I ((nx : Nat) : Int)] 139, F, blk g4 [I 0, .slice none 0 0, .slice none 0 0] 75, N1 x24] _
  refine J.y (op_assign rfl rfl) rfl rfl rfl ?_
  refine J.nil ?_
  refine J.then_n (J.k hK8 ?_)
  refine J.keepE [(4, _), (5, _)] ⟨rfl, rfl, trivial⟩ ?_
  refine J.ret ?_
  refine J.then_r ?_
  exact J.done hw0 (fun _ _ h => h) (rv2 rfl (RV.blkA 4 rfl rfl Tryd.isAgg75 Tryd.sizeOf75) rfl) (retOk x24 rfl h24 [2, 0, 1, 3, 5] rfl (by decide))

theorem XV_fit {v : Nat} (hv : v < 8) (h4 : v ≠ 4) : (XV v).e + partsN (note v).length ≤ 8 / 2 ∧ (XV v).R.length < 65536 ∧ (XV v).at_ + 8 / 2 ≤ 1048576 := by
  have h1 := XV_len (v := v)
  have h2 := XV_e (v := v)
  have h3 := XV_at (v := v)
  rw [partsN_one (note39 v)]
  split at h1 <;> split at h3 <;> (try split at h1) <;> omega
theorem note9 (v : Nat) : (note v).length ≤ 900 := by rw [note_len]; decide
theorem dv_wait {d : Dk} {v : Nat} (h : DV d v) : d.wait.length ≤ 1048576 := by rw [h.wait]; exact Nat.zero_le _
theorem reserveV_good (F md : Hp) (hK : Cells F ⟨1, 0, none⟩ (Sha.K.map W32)) (gs gk gb gd v : Nat) (hS : Cells F ⟨gs, 0, none⟩ [Ptr gk, Ptr gb, I ((v : Nat) : Int)]) (hv : v < 8) (d : Dk) (h : DV d v) (ho : d.off = false) (C : Option Addr) (f : Nat) (hb : Dsk md gd d C f) (hKp : Sl F 1 C d.keep.length f (bytesV d.keep)) (hn3 : d.keep.length ≤ 9223372036854775807) (A : Option Addr) (c : Nat) (hRs : Sl F 1 A (XV v).R.length c (strsV (XV v).R)) (he : (wendV d v).2 = 0) : Ct Tryd.prog 88 [Ptr gs] [blk gb (bkC gd 1 (8 / 2) (XV v) A c false) 130, md, F] (fun _ : Hp × Option Addr × Nat × Hp => I 0) (fun x : Hp × Option Addr × Nat × Hp => Dsk x.1 gd (wendV d v).1 C f ∧ Row x.2.2.2 9 1 x.2.1 (XV (v + 1)).R.length x.2.2.1 (strsV (XV (v + 1)).R)) (fun x => [blk gb (bkC gd 1 (8 / 2) (XV (v + 1)) x.2.1 x.2.2.1 false) 130, x.1, F, x.2.2.2]) := by
  by_cases h4 : v = 4
  · have e : wendV d v = wend d (2 * 1 + 8 / 2 - 1 + 0) (fun i => (prt (1 + 1) (UInt64.ofNat 0) (note v) (partsN (note v).length) i).text) (partsN (note v).length) := if_pos h4
    have e5 : XV (v + 1) = ⟨2 * 1 + 8 / 2 - 1, 1 + 1, [] ++ [note v], 0 + partsN (note v).length⟩ := by rw [partsN_one (note39 v)]; subst h4; rfl
    rw [e] at he
    rw [e, e5]
    exact reserve9_ct F _ md gs gk gb v hS (by omega) 0 (fun F' hF => put9_ct F' gb gd ((1 : Nat) : Int) (8 / 2) (((XV v).at_ : Nat) : Int) (XV v).t (((XV v).e : Nat) : Int) A (XV v).R.length c (Cells.blk0.mono hF) (note v) (note9 v) (by decide) (by subst h4; decide) (by rw [partsN_one (note39 v)]; subst h4; decide)) _ _ _ _
      (fun F' hF => by
        have := bcomp_good_ct F' md (hK.mono hF) gb gd 1 (8 / 2) (XV v).at_ (XV v).t (XV v).e A (XV v).R.length c d C f hb h.ok (dv_wait h) (hKp.mono hF) hn3 (note v) (note9 v) (partsN (note v).length) rfl (by subst h4; decide) (by decide) (by decide) (by subst h4; decide) (by rw [partsN_one (note39 v)]; decide)
        have e1 : (XV v).at_ = 1 ∧ (XV v).t = 1 := by subst h4; exact ⟨rfl, rfl⟩
        rw [e1.1, e1.2] at this
        show Ct _ _ _ [blk gb [Ptr gd, I ((1 : Nat) : Int), I ((8 / 2 : Nat) : Int), I (((XV v).at_ : Nat) : Int), W64 (XV v).t, I (((XV v).e : Nat) : Int), .slice A (XV v).R.length c, .bool false] 130, md, F'] _ _ _
        rw [e1.1, e1.2]
        exact this he)
  · have e : wendV d v = wendH d (XV v) (note v) := if_neg h4
    rw [e] at he
    obtain ⟨h1, h2, h3⟩ := XV_fit hv h4
    rw [e, ← (XV_put hv h4).1]
    exact reserve_ct F _ md gs gk gb v hS (by omega) 0 (by decide) _ _ _ _
      (fun F' hF => putH_good F' md (hK.mono hF) gb gd 1 (8 / 2) (XV v) A c (hRs.mono hF) d C f hb h.ok (dv_wait h) (hKp.mono hF) hn3 (note v) (note9 v) XV_t h2 h3 h1 he)

theorem _root_.Go.Fw.Ct.addE {P : Program} {f : FuncId} {vs : List Value} {X : Type} {ms : List Hp} {val : X → Value} {φ : X → Prop} {ms' : X → List Hp} (h : Ct P f vs ms val φ ms') : Ct P f vs ms val φ (fun x => ms' x ++ [fun _ => none]) :=
  h.mono id (fun _ _ => rfl) (fun _ hx => hx) (fun _ _ _ _ hs => hs.empty)
theorem reserveV_bad (F md : Hp) (hK : Cells F ⟨1, 0, none⟩ (Sha.K.map W32)) (gs gk gb gd v : Nat) (hS : Cells F ⟨gs, 0, none⟩ [Ptr gk, Ptr gb, I ((v : Nat) : Int)]) (hv : v < 8) (d : Dk) (h : DV d v) (ho : d.off = false) (C : Option Addr) (f : Nat) (hb : Dsk md gd d C f) (hKp : Sl F 1 C d.keep.length f (bytesV d.keep)) (hn3 : d.keep.length ≤ 9223372036854775807) (A : Option Addr) (c : Nat) (hRs : Sl F 1 A (XV v).R.length c (strsV (XV v).R)) (he : (wendV d v).2 ≠ 0) : Ct Tryd.prog 88 [Ptr gs] [blk gb (bkC gd 1 (8 / 2) (XV v) A c false) 130, md, F] (fun _ : Hp => I (wendV d v).2) (fun x : Hp => Dsk x gd (wendV d v).1 C f) (fun x => [blk gb (bkC gd 1 (8 / 2) (XV v) A c true) 130, x, F, fun _ => none]) := by
  have h9 : (wendV d v).2 ≠ 9 := by rw [((wendV_law h hv ho).2.1 he).1]; decide
  by_cases h4 : v = 4
  · have e : wendV d v = wend d (2 * 1 + 8 / 2 - 1 + 0) (fun i => (prt (1 + 1) (UInt64.ofNat 0) (note v) (partsN (note v).length) i).text) (partsN (note v).length) := if_pos h4
    rw [e] at he
    rw [e]
    exact reserve9_ct F _ md gs gk gb v hS (by omega) _ (fun F' hF => put9_ct F' gb gd ((1 : Nat) : Int) (8 / 2) (((XV v).at_ : Nat) : Int) (XV v).t (((XV v).e : Nat) : Int) A (XV v).R.length c (Cells.blk0.mono hF) (note v) (note9 v) (by decide) (by subst h4; decide) (by rw [partsN_one (note39 v)]; subst h4; decide)) _ _ _ _
      (fun F' hF => by
        have := bcomp_bad_ct F' md (hK.mono hF) gb gd 1 (8 / 2) (XV v).at_ (XV v).t (XV v).e A (XV v).R.length c d C f hb h.ok (dv_wait h) (hKp.mono hF) hn3 (note v) (note9 v) (partsN (note v).length) rfl (by subst h4; decide) (by decide) (by decide) (by subst h4; decide) (by rw [partsN_one (note39 v)]; decide)
        have e1 : (XV v).at_ = 1 ∧ (XV v).t = 1 := by subst h4; exact ⟨rfl, rfl⟩
        rw [e1.1, e1.2] at this
        have h5 := (this he).addE
        show Ct _ _ _ [blk gb [Ptr gd, I ((1 : Nat) : Int), I ((8 / 2 : Nat) : Int), I (((XV v).at_ : Nat) : Int), W64 (XV v).t, I (((XV v).e : Nat) : Int), .slice A (XV v).R.length c, .bool false] 130, md, F'] _ _ (fun x => [blk gb [Ptr gd, I ((1 : Nat) : Int), I ((8 / 2 : Nat) : Int), I (((XV v).at_ : Nat) : Int), W64 (XV v).t, I (((XV v).e : Nat) : Int), .slice A (XV v).R.length c, .bool true] 130, x, F', fun _ => none])
        rw [e1.1, e1.2]
        exact h5)
  · have e : wendV d v = wendH d (XV v) (note v) := if_neg h4
    rw [e] at he h9
    obtain ⟨h1, h2, h3⟩ := XV_fit hv h4
    rw [e]
    exact reserve_ct F _ md gs gk gb v hS (by omega) _ h9 _ _ _ _
      (fun F' hF => (putH_bad F' md (hK.mono hF) gb gd 1 (8 / 2) (XV v) A c (hRs.mono hF) d C f hb h.ok (dv_wait h) (hKp.mono hF) hn3 (note v) (note9 v) XV_t h2 h3 h1 he).addE)
/-- what Sign answers and leaves -/
structure SRes where
  idx : Nat
  e : Int
  Cl : List (List UInt8)
  P : Option Addr
  p : Nat
  Pl : List (List UInt8)
  Q : Option Addr
  q : Nat
  nx : Nat
  X : Hlf
  A : Option Addr
  c : Nat
  bad : Bool
  D : Dk
  md : Hp
  N : Hp
  u : Hp
  w : Hp
structure SPost (v gd : Nat) (d : Dk) (C : Option Addr) (f : Nat) (A : Option Addr) (c : Nat) (mg : List UInt8) (r : SRes) : Prop where
  dsk : Dsk r.md gd r.D C f
  keep : r.D.keep = d.keep
  u : Row r.u 9 1 r.P r.Cl.length r.p (strsV r.Cl)
  w : Row r.w 9 1 r.Q r.Pl.length r.q (strsV r.Pl)
  three : (8 ≤ v ∧ r.e = 11 ∧ r.Cl = [] ∧ r.nx = v ∧ r.X = XV v ∧ r.A = A ∧ r.c = c ∧ r.bad = false ∧ r.D = d) ∨
    (v < 8 ∧ r.e = 0 ∧ r.idx = v ∧ r.Cl = sgC [115, 101, 101, 100] v mg ∧ r.Pl = sgP [115, 101, 101, 100] 3 v ∧ r.nx = v + 1 ∧ r.X = XV (v + 1) ∧ r.bad = false ∧ r.D.off = false ∧ DV r.D (v + 1) ∧ Row r.N 9 1 r.A r.X.R.length r.c (strsV r.X.R)) ∨
    (v < 8 ∧ r.e = 8 ∧ r.Cl = [] ∧ r.D.off = true ∧ (DV r.D v ∨ DV r.D (v + 1)))
theorem signV (F md : Hp) (hK : Cells F ⟨1, 0, none⟩ (Sha.K.map W32)) (gs gk gb gd v : Nat) (hk : KeyA F gk [115, 101, 101, 100] 3) (mg : List UInt8) (hm : mg.length ≤ 1048576) (d : Dk) (h : DV d v) (ho : d.off = false) (C : Option Addr) (f : Nat) (hb : Dsk md gd d C f) (hKp : Sl F 1 C d.keep.length f (bytesV d.keep)) (hn3 : d.keep.length ≤ 9223372036854775807) (A : Option Addr) (c : Nat) (hRs : Sl F 1 A (XV v).R.length c (strsV (XV v).R)) :
    Ct Tryd.prog 36 [Ptr gs, Str mg] [blk gs [Ptr gk, Ptr gb, I ((v : Nat) : Int)] 139, blk gb (bkC gd 1 (8 / 2) (XV v) A c false) 130, md, F] (fun r : SRes => .tuple #[.agg #[I ((r.idx : Nat) : Int), .slice r.P r.Cl.length r.p, .slice r.Q r.Pl.length r.q], I r.e]) (SPost v gd d C f A c mg) (fun r => [blk gs [Ptr gk, Ptr gb, I ((r.nx : Nat) : Int)] 139, blk gb (bkC gd 1 (8 / 2) r.X r.A r.c r.bad) 130, r.md, F, r.N, r.u, r.w]) := by
  by_cases hv : v < 8
  · have hw := wendV_law h hv ho
    by_cases he : (wendV d v).2 = 0
    · refine (ssignR_ok F _ md gs gk gb v hK [115, 101, 101, 100] 3 hk (by decide) (by decide) (show v < 2 ^ 3 from hv) mg hm _ _ _ _ (fun F' hF hS => reserveV_good F' md (hK.mono hF) gs gk gb gd v hS hv d h ho C f hb (hKp.mono hF) hn3 A c (hRs.mono hF) he)).mono
        (fun x => (⟨v, 0, sgC [115, 101, 101, 100] v mg, x.2.1.1, x.2.1.2.1, sgP [115, 101, 101, 100] 3 v, x.2.2.1, x.2.2.2.1, v + 1, XV (v + 1), x.1.2.1, x.1.2.2.1, false, (wendV d v).1, x.1.1, x.1.2.2.2, x.2.1.2.2, x.2.2.2.2⟩ : SRes)) (fun _ _ => rfl) (fun x hx => ?_) (fun _ _ _ _ hs => hs)
      exact ⟨hx.1.1, hw.2.2, hx.2.1, hx.2.2, Or.inr (Or.inl ⟨hv, rfl, rfl, rfl, rfl, rfl, rfl, rfl, (hw.1 he).1, (hw.1 he).2, hx.1.2⟩)⟩
    · have h8 := (hw.2.1 he)
      refine ((ssignR_bad F _ md gs gk gb v hK [115, 101, 101, 100] 3 hk (by decide) (by decide) (show v < 2 ^ 3 from hv) mg hm _ he _ _ _ _ (fun F' hF hS => reserveV_bad F' md (hK.mono hF) gs gk gb gd v hS hv d h ho C f hb (hKp.mono hF) hn3 A c (hRs.mono hF) he)).addE.addE).mono
        (fun x => (⟨0, (wendV d v).2, [], none, 0, [], none, 0, v, XV v, A, c, true, (wendV d v).1, x, fun _ => none, fun _ => none, fun _ => none⟩ : SRes)) (fun _ _ => rfl) (fun x hx => ?_) (fun _ _ _ _ hs => hs)
      exact ⟨hx, hw.2.2, RowQ.nil, RowQ.nil, Or.inr (Or.inr ⟨hv, h8.1, rfl, h8.2.1, h8.2.2⟩)⟩
  · refine ((Ct.use0 (ms := [blk gs [Ptr gk, Ptr gb, I ((v : Nat) : Int)] 139, blk gb (bkC gd 1 (8 / 2) (XV v) A c false) 130, md, F]) (fun F' hF => ssign_spent F' gs gk gb v (Cells.blk0.mono (hF (blk gs [Ptr gk, Ptr gb, I ((v : Nat) : Int)] 139) (by simp))) [115, 101, 101, 100] 3 (hk.mono (hF F (by simp))) (by decide) (by decide) (show 2 ^ 3 ≤ v by omega) mg)).addE.addE.addE).mono
      (fun _ => (⟨0, 11, [], none, 0, [], none, 0, v, XV v, A, c, false, d, md, fun _ => none, fun _ => none, fun _ => none⟩ : SRes)) (fun _ _ => rfl) (fun _ _ => ?_) (fun _ _ _ _ hs => hs)
    exact ⟨hb, rfl, RowQ.nil, RowQ.nil, Or.inl ⟨by omega, rfl, rfl, rfl, rfl, rfl, rfl, rfl, rfl⟩⟩

end Go.Proofs.YtnkfapecbmmpeaaDoor
