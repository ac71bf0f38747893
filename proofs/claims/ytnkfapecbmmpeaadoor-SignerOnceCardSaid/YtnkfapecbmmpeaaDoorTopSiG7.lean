/- A part of the proof: contracts of functions of the program, each for every state of the heaps that it names. -/
import Derived.Test.YtnkfapecbmmpeaaDoorTopSiG5
import Derived.Test.YtnkfapecbmmpeaaDoorTopSiG6
set_option linter.unusedSimpArgs false
set_option linter.unusedVariables false
namespace Go.Proofs.YtnkfapecbmmpeaaDoor
open Go Go.Fw
set_option maxRecDepth 100000
set_option maxHeartbeats 1000000

theorem rot_tab : ∀ r : Fin 32, 1 ≤ r.val → ((UInt64.ofNat (18446744073709551616 - r.val)).toNat &&& 31) = 32 - r.val := by decide +kernel
theorem cellsN (n : UInt64) (size : Nat) (j : Nat) (hj : j < size) : (Sha.numB n size)[j]? = some (UInt64.ofNat (n.toNat / 2 ^ min (8 * (size - 1 - j)) 64)).toUInt8 := by
  simp [Sha.numB, hj]
/-- the first k bytes of l are there, the others are 0 -/
def partB (l : List UInt8) (k : Nat) : List Value := (l.take k).map B8 ++ List.replicate (l.length - k) (.int .u8 0)
theorem partB_zero (l : List UInt8) (size : Nat) (h : l.length = size) : (List.replicate size [Value.int .u8 0]).flatten = partB l 0 := by
  subst h
  unfold partB
  induction l with
  | nil => rfl
  | cons a l ih => simp only [List.length_cons, List.replicate_succ, List.flatten_cons]; rw [ih]; simp [List.replicate_succ]
theorem partB_len (l : List UInt8) (k : Nat) (h : k ≤ l.length) : (partB l k).length = l.length := by simp [partB]; omega
theorem set_rep {α : Type} (a : List α) (v : α) (n : Nat) (x : α) : (a ++ List.replicate (n + 1) v).take a.length ++ [x] ++ (a ++ List.replicate (n + 1) v).drop (a.length + 1) = (a ++ [x]) ++ List.replicate n v := by
  rw [List.take_left, List.drop_append]
  simp [List.replicate_succ]
theorem partB_succ (l : List UInt8) (k : Nat) (v : UInt8) (h : l[k]? = some v) : setAt (partB l k) k [B8 v] = partB l (k + 1) := by
  obtain ⟨hk, rfl⟩ := List.getElem?_eq_some_iff.1 h
  have e : l.length - k = (l.length - (k + 1)) + 1 := by omega
  have h2 := set_rep ((l.take k).map B8) (Value.int .u8 0) (l.length - (k + 1)) (B8 l[k])
  have h3 : ((l.take k).map B8).length = k := by simp; omega
  rw [h3] at h2
  unfold setAt partB
  rw [e, List.length_singleton, h2, List.take_succ_eq_append_getElem hk, List.map_append]
  rfl
theorem partB_all (l : List UInt8) (k : Nat) (h : l.length ≤ k) : partB l k = (bytesV l).flatten := by
  unfold partB bytesV
  rw [flatten_sing, List.take_of_length_le h, show l.length - k = 0 by omega]; simp

theorem el208 : Elem Tryd.prog 208 [.int .u32 0] 4 := Elem.of (by kernel_rfl) rfl
theorem ent188 : Enters Tryd.prog 188 := Enters.of Tryd.func188 rfl (by kernel_rfl)
theorem ent107 : Enters Tryd.prog 107 := Enters.of Tryd.func107 rfl (by kernel_rfl)
theorem ent149 : Enters Tryd.prog 149 := Enters.of Tryd.func149 rfl (by kernel_rfl)
theorem ent187 : Enters Tryd.prog 187 := Enters.of Tryd.func187 rfl (by kernel_rfl)
theorem ent150 : Enters Tryd.prog 150 := Enters.of Tryd.func150 rfl (by kernel_rfl)
theorem ent108 : Enters Tryd.prog 108 := Enters.of Tryd.func108 rfl (by kernel_rfl)
theorem ent58 : Enters Tryd.prog 58 := Enters.of Tryd.func58 rfl (by kernel_rfl)

theorem number_ct (F : Hp) (n : UInt64) (size : Nat) (hs : size ≤ 8) :
    Ct Tryd.prog 107 [W64 n, I size] [F] (fun x : Option Addr × Nat × Hp => .slice x.1 size x.2.1) (fun x => Row x.2.2 5 1 x.1 size x.2.1 (bytesV (Sha.numB n size))) (fun x => [F, x.2.2]) := by
  have hlen := Sha.numB_length n size
  refine Ct.walk Tryd.func107 rfl Tryd.ntmps107 rfl (fun w0 hw0 => ?_)
  change J _ [(0, _), (1, _)] _ _ _
  refine J.seq (fun K1 hK1 => ?_)
  refine J.region ?_
  refine J.y (op_assign rfl rfl) rfl rfl rfl ?_
  refine J.nil ?_
  refine J.then_n (J.k hK1 ?_)
  refine J.keepE [(0, _), (1, _)] ⟨rfl, rfl, trivial⟩ ?_
  refine J.seq (fun K2 hK2 => ?_)
  refine J.region ?_
  refine J.y (op_move rfl rfl) rfl rfl rfl ?_
  refine J.e (op_makeSlice (n' := size) rfl rfl Tryd.underlying30 el5 (by omega) (by omega)) rfl rfl rfl ?_
  intro g8 _
  change J _ _ _ [F, _] _
  refine J.y (op_assign rfl rfl) rfl rfl rfl ?_
  refine J.nil ?_
  refine J.then_n (J.k hK2 ?_)
  refine J.keepE [(0, _), (1, _), (5, _)] ⟨rfl, rfl, rfl, trivial⟩ ?_
  refine J.seq (fun K3 hK3 => ?_)
  refine J.seq (fun K4 hK4 => ?_)
  refine J.region ?_
  refine J.y (op_move rfl rfl) rfl rfl rfl ?_
  refine J.y (op_len Tryd.underlying30 rfl rfl) rfl rfl rfl ?_
  refine J.y (op_move rfl rfl) rfl rfl rfl ?_
  refine J.nil ?_
  refine J.then_n (J.k hK4 ?_)
  refine J.keepE [(0, _), (1, _), (5, _), (10, _), (11, _)] ⟨rfl, rfl, rfl, rfl, rfl, trivial⟩ ?_
  refine J.block ?_
  refine J.loop (fun k : Nat => [(0, W64 n), (1, I size), (5, .slice (some ⟨g8, 0, none⟩) size size), (10, I size), (11, I k)]) (fun k => [F, blk g8 (partB (Sha.numB n size) k) 5]) (fun k => k ≤ size) (fun k => size - k) 0 (Nat.zero_le _) ⟨rfl, rfl, rfl, rfl, rfl, trivial⟩ (fun _ h => by rw [← partB_zero _ size hlen]; exact h) ?_
  intro k hk I0 hI0
  refine J.seq (fun K5 hK5 => ?_)
  refine J.region ?_
  refine J.y (op_lss rfl rfl rfl) rfl rfl rfl ?_
  refine J.nil ?_
  refine J.then_n (J.k hK5 ?_)
  refine J.keepE [(0, _), (1, _), (5, _), (10, _), (11, _), (12, _)] ⟨rfl, rfl, rfl, rfl, rfl, rfl, trivial⟩ ?_
  refine J.seq (fun K6 hK6 => ?_)
  refine J.ite rfl (fun h12 => ?_) (fun h12 => ?_)
  ·
    refine J.skip ?_
    refine J.then_n (J.k hK6 ?_)
    refine J.keepE [(0, _), (1, _), (5, _), (10, _), (11, _)] ⟨rfl, rfl, rfl, rfl, rfl, trivial⟩ ?_
    refine J.seq (fun K7 hK7 => ?_)
    refine J.block ?_
    refine J.seq (fun K8 hK8 => ?_)
    refine J.region ?_
    refine J.y (op_move rfl rfl) rfl rfl rfl ?_
    refine J.y (op_assign rfl rfl) rfl rfl rfl ?_
    refine J.nil ?_
    refine J.then_n (J.k hK8 ?_)
    refine J.keepE [(0, _), (1, _), (5, _), (6, _), (10, _), (11, _)] ⟨rfl, rfl, rfl, rfl, rfl, rfl, trivial⟩ ?_
    refine J.region ?_
    refine J.y (op_move rfl rfl) rfl rfl rfl ?_
    refine J.y (op_move rfl rfl) rfl rfl rfl ?_
    refine J.y (op_move rfl rfl) rfl rfl rfl ?_
    refine J.y (op_move rfl rfl) rfl rfl rfl ?_
    refine J.y (op_sub rfl rfl rfl (by omega)) rfl rfl rfl ?_
    refine J.y (op_move rfl rfl) rfl rfl rfl ?_
    refine J.y (op_sub rfl rfl rfl (by omega)) rfl rfl rfl ?_
    refine J.y (op_mul rfl rfl rfl (by omega)) rfl rfl rfl ?_
    refine J.y (op_shr64 (m := 8 * (size - 1 - k)) rfl rfl (by show some _ = some _; congr 2; omega)) rfl rfl rfl ?_
    refine J.y (op_cv_u64_u8 rfl rfl Tryd.underlying108 Tryd.underlying5) rfl rfl rfl ?_
    refine J.y (op_indexAddrS (j := k) rfl rfl rfl Tryd.underlying30 Tryd.sizeOf5 (by omega) (by omega)) rfl rfl rfl ?_
    refine J.s (op_store (i := 1) (vs := [B8 _]) rfl rfl rfl rfl rfl Tryd.sizeOf5 rfl (by rw [partB_len (Sha.numB n size) k (by omega)]; show k + 1 ≤ _; omega)) rfl rfl (fun _ _ => ?_)
    change J _ _ _ [F, _] _
    refine J.nil ?_
    refine J.blk_n ?_
    refine J.then_n (J.k hK7 ?_)
    refine J.keepE [(0, _), (1, _), (5, _), (10, _), (11, _)] ⟨rfl, rfl, rfl, rfl, rfl, trivial⟩ ?_
    refine J.region ?_
    refine J.y (op_add rfl rfl rfl (by omega)) rfl rfl rfl ?_
    refine J.y (op_move rfl rfl) rfl rfl rfl ?_
    refine J.nil ?_
    refine J.then_n ?_
    exact J.kk (k + 1) (fun x (hx : x ≤ size ∧ size - x < size - k) => hI0 x hx.1 hx.2) ⟨by omega, by omega⟩ ⟨rfl, rfl, rfl, rfl, rfl, trivial⟩ (fun _ h => by rw [← partB_succ _ k _ (cellsN n size k (by omega))]; exact h)
  ·
    refine J.exit ?_
    refine J.then_x ?_
    refine J.then_x ?_
    refine J.blk_eq ?_
    refine J.then_n (J.k hK3 ?_)
    refine J.keepE [(5, _)] ⟨rfl, trivial⟩ ?_
    refine J.seq (fun K9 hK9 => ?_)
    refine J.region ?_
    refine J.y (op_move rfl rfl) rfl rfl rfl ?_
    refine J.y (op_assign rfl rfl) rfl rfl rfl ?_
    refine J.nil ?_
    refine J.then_n (J.k hK9 ?_)
    refine J.keepE [(4, _)] ⟨rfl, trivial⟩ ?_
    refine J.ret ?_
    exact J.done hw0 (fun _ _ h => h) (res1 rfl rfl) (retOk (some ⟨g8, 0, none⟩, size, blk g8 (bytesV (Sha.numB n size)).flatten 5) rfl (row_blk (by simp [bytesV, hlen]) (by simp [bytesV])) [0, 1] (by rw [partB_all (Sha.numB n size) k (by omega)]; rfl) (by decide))

theorem rot_ct (F : Hp) (x : UInt32) (r : Nat) (h1 : 1 ≤ r) (h2 : r < 32) :
    Ct Tryd.prog 188 [W32 x, I (-(r : Int))] [F] (fun _ : Unit => W32 (Sha.rotr x r)) (fun _ => True) (fun _ => [F]) := by
  have hr := rot_tab ⟨r, h2⟩ h1
  have e1 : ((-(r : Int)) % 18446744073709551616).toNat = 18446744073709551616 - r := by omega
  have e3 : IntKind.u64.wrap (32 - ((32 - r : Nat) : Int)) = (r : Int) := by simp [IntKind.wrap, IntKind.bits, IntKind.signed]; omega
  refine Ct.walk Tryd.func188 rfl Tryd.ntmps188 rfl (fun w0 hw0 => ?_)
  change J _ [(0, _), (1, _)] _ _ _
  refine J.seq (fun K1 hK1 => ?_)
  refine J.region ?_
  refine J.y (op_assign rfl rfl) rfl rfl rfl ?_
  refine J.nil ?_
  refine J.then_n (J.k hK1 ?_)
  refine J.keepE [(0, _), (1, _)] ⟨rfl, rfl, trivial⟩ ?_
  refine J.seq (fun K2 hK2 => ?_)
  refine J.region ?_
  refine J.y (op_move rfl rfl) rfl rfl rfl ?_
  refine J.y ((op_cvZ_i64_u64 rfl rfl Tryd.underlying3 Tryd.underlying82).as (congrArg (fun z => W64 (UInt64.ofNat z)) e1)) rfl rfl rfl ?_
  refine J.y ((op_and64 (b := 31) rfl rfl rfl).as (v' := .int .u64 ((32 - r : Nat) : Int)) (by show Value.int .u64 _ = _; rw [UInt64.toNat_and]; exact congrArg (fun z : Nat => Value.int .u64 (z : Int)) hr)) rfl rfl rfl ?_
  refine J.y (op_assign rfl rfl) rfl rfl rfl ?_
  refine J.nil ?_
  refine J.then_n (J.k hK2 ?_)
  refine J.keepE [(0, _), (5, _)] ⟨rfl, rfl, trivial⟩ ?_
  refine J.seq (fun K3 hK3 => ?_)
  refine J.region ?_
  refine J.y (op_move rfl rfl) rfl rfl rfl ?_
  refine J.y (op_move rfl rfl) rfl rfl rfl ?_
  refine J.y (op_shl32 (m := 32 - r) rfl rfl rfl) rfl rfl rfl ?_
  refine J.y (op_move rfl rfl) rfl rfl rfl ?_
  refine J.y (op_move rfl rfl) rfl rfl rfl ?_
  refine J.y (op_arw (r := (r : Int)) rfl rfl rfl e3.symm) rfl rfl rfl ?_
  refine J.y (op_shr32 (m := r) rfl rfl rfl) rfl rfl rfl ?_
  refine J.y (op_or32 rfl rfl rfl) rfl rfl rfl ?_
  refine J.y (op_assign rfl rfl) rfl rfl rfl ?_
  refine J.nil ?_
  refine J.then_n (J.k hK3 ?_)
  refine J.keepE [(4, _)] ⟨rfl, trivial⟩ ?_
  refine J.ret ?_
  exact J.done hw0 (fun _ _ h => h) (res1 rfl rfl) (retOk () rfl trivial [0] rfl (by decide))

theorem first_ct (F : Hp) : Ct Tryd.prog 149 [] [F] (fun _ : Unit => .agg (Sha.init.list.map W32).toArray) (fun _ => True) (fun _ => [F]) := by
  refine Ct.walk Tryd.func149 rfl Tryd.ntmps149 rfl (fun w0 hw0 => ?_)
  change J _ [] _ _ _
  refine J.seq (fun K1 hK1 => ?_)
  refine J.region ?_
  refine J.e (op_alloc rfl Tryd.zeroValue210 rfl) rfl rfl rfl ?_
  intro g0 _
  change J _ _ _ [F, blk g0 _ 210] _
  refine J.nil ?_
  refine J.then_n (J.k hK1 ?_)
  refine J.keepE [(0, _)] ⟨rfl, trivial⟩ ?_
  refine J.seq (fun K2 hK2 => ?_)
  refine J.region ?_
  refine J.y (op_buildArr (l := [.const (.int .u32 1779033703), .const (.int .u32 3144134277), .const (.int .u32 1013904242), .const (.int .u32 2773480762), .const (.int .u32 1359893119), .const (.int .u32 2600822924), .const (.int .u32 528734635), .const (.int .u32 1541459225)]) rfl rfl rfl Tryd.underlying210 el208 Tryd.zeroValue210 rfl rfl (by simp [Value.cells]) (r := Sha.init.list.map W32) rfl) rfl rfl rfl ?_
  refine J.s (op_store (i := 1) (vs := Sha.init.list.map W32) rfl rfl rfl rfl rfl Tryd.sizeOf210 rfl (by decide)) rfl rfl (fun _ _ => ?_)
  change J _ _ _ [F, blk g0 (Sha.init.list.map W32) 210] _
  refine J.nil ?_
  refine J.then_n (J.k hK2 ?_)
  refine J.keepE [(0, _)] ⟨rfl, trivial⟩ ?_
  refine J.ret ?_
  exact J.done hw0 (fun _ _ h => h) (rv1 rfl (RV.blkA 1 rfl rfl Tryd.isAgg210 Tryd.sizeOf210)) (retOk () rfl trivial [0] rfl (by decide))

def partW (l : List UInt32) : List Value := l.map W32 ++ List.replicate (64 - l.length) (.int .u32 0)
theorem partW_len (l : List UInt32) (h : l.length ≤ 64) : (partW l).length = 64 := by simp [partW]; omega
theorem partW_get (l : List UInt32) (i : Nat) (h : i < l.length) : (partW l)[i]? = some (W32 (l.getD i 0)) := by
  unfold partW
  rw [List.getElem?_append_left (by simpa using h), List.getElem?_map, List.getElem?_eq_getElem h, List.getD_eq_getElem?_getD, List.getElem?_eq_getElem h]
  rfl
theorem partW_snoc (l : List UInt32) (x : UInt32) (h : l.length < 64) : setAt (partW l) l.length [W32 x] = partW (l ++ [x]) := by
  have e : 64 - l.length = (64 - (l.length + 1)) + 1 := by omega
  have h2 := set_rep (l.map W32) (Value.int .u32 0) (64 - (l.length + 1)) (W32 x)
  rw [List.length_map] at h2
  unfold setAt partW
  rw [e, List.length_singleton, h2, List.map_append, List.length_append]
  rfl
theorem partW_ext (l : List UInt32) (j : Nat) (hj : l.length = 16 + j) (h : j < 48) : setAt (partW l) (16 + j) [W32 (l.getD j 0 + Sha.sg0 (l.getD (j + 1) 0) + l.getD (j + 9) 0 + Sha.sg1 (l.getD (j + 14) 0))] = partW (Sha.ext l) := by
  have h2 := partW_snoc l (l.getD j 0 + Sha.sg0 (l.getD (j + 1) 0) + l.getD (j + 9) 0 + Sha.sg1 (l.getD (j + 14) 0)) (by omega)
  rw [hj] at h2
  rw [h2]
  unfold Sha.ext
  rw [hj, show 16 + j - 16 = j by omega, show 16 + j - 15 = j + 1 by omega, show 16 + j - 7 = j + 9 by omega, show 16 + j - 2 = j + 14 by omega]
theorem firsts_succ (b : List UInt8) (k : Nat) : Sha.firsts b (k + 1) = Sha.firsts b k ++ [Sha.word b k] := by simp [Sha.firsts, List.range_succ]
theorem partW_full (l : List UInt32) (h : l.length = 64) : partW l = l.map W32 := by simp [partW, h]
theorem one_W (l : List UInt32) : (l.map W32).all Value.oneCell' = true := by simp [Value.oneCell']
theorem getB {b : List UInt8} {j : Nat} (h : j < b.length) : b[j]? = some (b.getD j 0) := by rw [List.getD_eq_getElem?_getD, List.getElem?_eq_getElem h]; rfl

theorem schedule_ct (F : Hp) (A : Option Addr) (n c : Nat) (b : List UInt8) (hl : Sl F 1 A n c (bytesV b)) (h64 : 64 ≤ n) :
    Ct Tryd.prog 187 [.slice A n c] [F] (fun _ : Unit => .agg ((Sha.sched b).map W32).toArray) (fun _ => True) (fun _ => [F]) := by
  have hn : b.length = n := by have := hl.1; simpa [bytesV] using this
  have hb : ∀ j, j < n → b[j]? = some (b.getD j 0) := fun j hj => getB (by omega)
  refine Ct.walk Tryd.func187 rfl Tryd.ntmps187 rfl (fun w0 hw0 => ?_)
  change J _ [(0, _)] _ _ _
  refine J.seq (fun K1 hK1 => ?_)
  refine J.region ?_
  refine J.e (op_alloc rfl Tryd.zeroValue247 rfl) rfl rfl rfl ?_
  intro g2 _
  change J _ _ _ [F, blk g2 _ 247] _
  refine J.nil ?_
  refine J.then_n (J.k hK1 ?_)
  refine J.keepE [(0, _), (2, _)] ⟨rfl, rfl, trivial⟩ ?_
  refine J.seq (fun K2 hK2 => ?_)
  refine J.region ?_
  refine J.e (op_alloc rfl Tryd.zeroValue247 rfl) rfl rfl rfl ?_
  intro g3 _
  change J _ _ _ [F, blk g2 _ 247, blk g3 _ 247] _
  refine J.nil ?_
  refine J.then_n (J.k hK2 ?_)
  refine J.keepE [(0, _), (2, _), (3, _)] ⟨rfl, rfl, rfl, trivial⟩ ?_
  refine J.seq (fun K3 hK3 => ?_)
  refine J.seq (fun K4 hK4 => ?_)
  refine J.region ?_
  refine J.y (op_move rfl rfl) rfl rfl rfl ?_
  refine J.nil ?_
  refine J.then_n (J.k hK4 ?_)
  refine J.keepE [(0, _), (2, _), (3, _), (10, _)] ⟨rfl, rfl, rfl, rfl, trivial⟩ ?_
  refine J.block ?_
  refine J.loop (fun k : Nat => [(0, .slice A n c), (2, Ptr g2), (3, Ptr g3), (10, I k)]) (fun k => [F, blk g2 (List.replicate 64 (.int .u32 0)) 247, blk g3 (partW (Sha.firsts b k)) 247]) (fun k => k ≤ 16) (fun k => 16 - k) 0 (Nat.zero_le _) ⟨rfl, rfl, rfl, rfl, trivial⟩ (fun _ h => h) ?_
  intro k hk I0 hI0
  refine J.seq (fun K5 hK5 => ?_)
  refine J.region ?_
  refine J.y (op_lss rfl rfl rfl) rfl rfl rfl ?_
  refine J.nil ?_
  refine J.then_n (J.k hK5 ?_)
  refine J.keepE [(0, _), (2, _), (3, _), (10, _), (11, _)] ⟨rfl, rfl, rfl, rfl, rfl, trivial⟩ ?_
  refine J.seq (fun K6 hK6 => ?_)
  refine J.ite rfl (fun h11 => ?_) (fun h11 => ?_)
  ·
    refine J.skip ?_
    refine J.then_n (J.k hK6 ?_)
    refine J.keepE [(0, _), (2, _), (3, _), (10, _)] ⟨rfl, rfl, rfl, rfl, trivial⟩ ?_
    refine J.seq (fun K7 hK7 => ?_)
    refine J.block ?_
    refine J.seq (fun K8 hK8 => ?_)
    refine J.region ?_
    refine J.y (op_move rfl rfl) rfl rfl rfl ?_
    refine J.y (op_assign rfl rfl) rfl rfl rfl ?_
    refine J.nil ?_
    refine J.then_n (J.k hK8 ?_)
    refine J.keepE [(0, _), (2, _), (3, _), (4, _), (10, _)] ⟨rfl, rfl, rfl, rfl, rfl, trivial⟩ ?_
    refine J.draw [F] [35] (.y 0 (.y 1 (.y 2 (.y 3 (.y 4 (.y 5 (.y 6 (.y 7 (.y 8 (.y 9 (.y 10 (.y 11 (.y 12 (.y 13 (.y 14 (.y 15 (.y 16 (.y 17 (.y 18 (.y 19 (.y 20 (.y 21 (.y 22 (.y 23 (.y 24 (.y 25 (.y 26 (.y 27 (.y 28 (.y 29 (.y 30 (.y 31 (.y 32 (.y 33 (.y 34 (.e 35 .nil)))))))))))))))))))))))))))))))))))) Tryd.wide (by decide +kernel) (by simp) ?_
    refine J.dy rfl (op_move rfl rfl) rfl rfl rfl rfl ?_
    refine J.dy rfl (op_move rfl rfl) rfl rfl rfl rfl ?_
    refine J.dy rfl (op_move rfl rfl) rfl rfl rfl rfl ?_
    refine J.dy rfl ((op_mul (a := 4) rfl rfl rfl (by omega)).as (v' := I ((4 * k : Nat) : Int)) (congrArg I (by omega))) rfl rfl rfl rfl ?_
    refine J.dy rfl (op_indexAddr (i := 4 * k) rfl rfl rfl Tryd.underlying30 Tryd.sizeOf5 hl (by omega)) rfl rfl rfl rfl ?_
    refine J.dy rfl (op_load rfl rfl Tryd.isAgg5 (m := F) (by simp) (hl.elem (bytesV_get (hb (4 * k) (by omega))))) rfl rfl rfl rfl ?_
    refine J.dy rfl (op_cv_u8_u32 rfl rfl Tryd.underlying5 Tryd.underlying208) rfl rfl rfl rfl ?_
    refine J.dy rfl (op_shl32 (m := 24) rfl rfl rfl) rfl rfl rfl rfl ?_
    refine J.dy rfl (op_move rfl rfl) rfl rfl rfl rfl ?_
    refine J.dy rfl (op_move rfl rfl) rfl rfl rfl rfl ?_
    refine J.dy rfl ((op_mul (a := 4) rfl rfl rfl (by omega)).as (v' := I ((4 * k : Nat) : Int)) (congrArg I (by omega))) rfl rfl rfl rfl ?_
    refine J.dy rfl ((op_add rfl rfl rfl (by omega)).as (v' := I ((4 * k + 1 : Nat) : Int)) (congrArg I (by omega))) rfl rfl rfl rfl ?_
    refine J.dy rfl (op_indexAddr (i := 4 * k + 1) rfl rfl rfl Tryd.underlying30 Tryd.sizeOf5 hl (by omega)) rfl rfl rfl rfl ?_
    refine J.dy rfl (op_load rfl rfl Tryd.isAgg5 (m := F) (by simp) (hl.elem (bytesV_get (hb (4 * k + 1) (by omega))))) rfl rfl rfl rfl ?_
    refine J.dy rfl (op_cv_u8_u32 rfl rfl Tryd.underlying5 Tryd.underlying208) rfl rfl rfl rfl ?_
    refine J.dy rfl (op_shl32 (m := 16) rfl rfl rfl) rfl rfl rfl rfl ?_
    refine J.dy rfl (op_or32 rfl rfl rfl) rfl rfl rfl rfl ?_
    refine J.dy rfl (op_move rfl rfl) rfl rfl rfl rfl ?_
    refine J.dy rfl (op_move rfl rfl) rfl rfl rfl rfl ?_
    refine J.dy rfl ((op_mul (a := 4) rfl rfl rfl (by omega)).as (v' := I ((4 * k : Nat) : Int)) (congrArg I (by omega))) rfl rfl rfl rfl ?_
    refine J.dy rfl ((op_add rfl rfl rfl (by omega)).as (v' := I ((4 * k + 2 : Nat) : Int)) (congrArg I (by omega))) rfl rfl rfl rfl ?_
    refine J.dy rfl (op_indexAddr (i := 4 * k + 2) rfl rfl rfl Tryd.underlying30 Tryd.sizeOf5 hl (by omega)) rfl rfl rfl rfl ?_
    refine J.dy rfl (op_load rfl rfl Tryd.isAgg5 (m := F) (by simp) (hl.elem (bytesV_get (hb (4 * k + 2) (by omega))))) rfl rfl rfl rfl ?_
    refine J.dy rfl (op_cv_u8_u32 rfl rfl Tryd.underlying5 Tryd.underlying208) rfl rfl rfl rfl ?_
    refine J.dy rfl (op_shl32 (m := 8) rfl rfl rfl) rfl rfl rfl rfl ?_
    refine J.dy rfl (op_or32 rfl rfl rfl) rfl rfl rfl rfl ?_
    refine J.dy rfl (op_move rfl rfl) rfl rfl rfl rfl ?_
    refine J.dy rfl (op_move rfl rfl) rfl rfl rfl rfl ?_
    refine J.dy rfl ((op_mul (a := 4) rfl rfl rfl (by omega)).as (v' := I ((4 * k : Nat) : Int)) (congrArg I (by omega))) rfl rfl rfl rfl ?_
    refine J.dy rfl ((op_add rfl rfl rfl (by omega)).as (v' := I ((4 * k + 3 : Nat) : Int)) (congrArg I (by omega))) rfl rfl rfl rfl ?_
    refine J.dy rfl (op_indexAddr (i := 4 * k + 3) rfl rfl rfl Tryd.underlying30 Tryd.sizeOf5 hl (by omega)) rfl rfl rfl rfl ?_
    refine J.dy rfl (op_load rfl rfl Tryd.isAgg5 (m := F) (by simp) (hl.elem (bytesV_get (hb (4 * k + 3) (by omega))))) rfl rfl rfl rfl ?_
    refine J.dy rfl (op_cv_u8_u32 rfl rfl Tryd.underlying5 Tryd.underlying208) rfl rfl rfl rfl ?_
    refine J.dy rfl (op_or32 rfl rfl rfl) rfl rfl rfl rfl ?_
    refine J.dy rfl (op_indexAddrJ (i := k) (j := k) rfl rfl rfl Tryd.underlying247 Tryd.sizeOf208 (by omega) (by omega)) rfl rfl rfl rfl ?_
    refine J.ds rfl (op_store (i := 2) (vs := [W32 _]) rfl rfl rfl rfl rfl Tryd.sizeOf208 rfl (by rw [partW_len (Sha.firsts b k) (by rw [Sha.firsts_length]; omega)]; show k + 1 ≤ _; omega)) rfl rfl rfl (fun _ _ => ?_)
    change J _ _ _ [F, _, _] _
    refine J.dnil ?_
    refine J.blk_n ?_
    refine J.then_n (J.k hK7 ?_)
    refine J.keepE [(0, _), (2, _), (3, _), (10, _)] ⟨rfl, rfl, rfl, rfl, trivial⟩ ?_
    refine J.region ?_
    refine J.y (op_add rfl rfl rfl (by omega)) rfl rfl rfl ?_
    refine J.y (op_move rfl rfl) rfl rfl rfl ?_
    refine J.nil ?_
    refine J.then_n ?_
    exact J.kk (k + 1) (fun x (hx : x ≤ 16 ∧ 16 - x < 16 - k) => hI0 x hx.1 hx.2) ⟨by omega, by omega⟩ ⟨rfl, rfl, rfl, rfl, trivial⟩ (fun _ h => by rw [firsts_succ, ← partW_snoc _ _ (by rw [Sha.firsts_length]; omega), Sha.firsts_length]; exact h)
  ·
    refine J.exit ?_
    refine J.then_x ?_
    refine J.then_x ?_
    refine J.blk_eq ?_
    refine J.then_n (J.k hK3 ?_)
    refine J.keepE [(2, _), (3, _)] ⟨rfl, rfl, trivial⟩ ?_
    refine J.seq (fun K9 hK9 => ?_)
    refine J.seq (fun K10 hK10 => ?_)
    refine J.region ?_
    refine J.y (op_assign rfl rfl) rfl rfl rfl ?_
    refine J.nil ?_
    refine J.then_n (J.k hK10 ?_)
    refine J.keepE [(2, _), (3, _), (5, _)] ⟨rfl, rfl, rfl, trivial⟩ ?_
    refine J.block ?_
    refine J.loop (fun j : Nat => [(2, Ptr g2), (3, Ptr g3), (5, I ((16 + j : Nat) : Int))]) (fun j => [F, blk g2 (List.replicate 64 (.int .u32 0)) 247, blk g3 (partW (Sha.exts j (Sha.firsts b 16))) 247]) (fun j => j ≤ 48) (fun j => 48 - j) 0 (Nat.zero_le _) ⟨rfl, rfl, rfl, trivial⟩ (fun _ h => by rw [show k = 16 by omega] at h; exact h) ?_
    intro j hj I1 hI1
    have hlj : (Sha.exts j (Sha.firsts b 16)).length = 16 + j := by rw [Sha.exts_length, Sha.firsts_length]
    refine J.seq (fun K11 hK11 => ?_)
    refine J.seq (fun K12 hK12 => ?_)
    refine J.region ?_
    refine J.y (op_move rfl rfl) rfl rfl rfl ?_
    refine J.y (op_lss rfl rfl rfl) rfl rfl rfl ?_
    refine J.nil ?_
    refine J.then_n (J.k hK12 ?_)
    refine J.keepE [(2, _), (3, _), (5, _), (50, _)] ⟨rfl, rfl, rfl, rfl, trivial⟩ ?_
    refine J.ite rfl (fun h50 => ?_) (fun h50 => ?_)
    ·
      refine J.skip ?_
      refine J.then_n (J.k hK11 ?_)
      refine J.keepE [(2, _), (3, _), (5, _)] ⟨rfl, rfl, rfl, trivial⟩ ?_
      refine J.seq (fun K13 hK13 => ?_)
      refine J.block ?_
      refine J.seq (fun K14 hK14 => ?_)
      refine J.draw [blk g3 (partW (Sha.exts j (Sha.firsts b 16))) 247] [] (.y 0 (.y 1 (.y 2 (.y 3 (.y 4 (.y 5 (.y 6 (.y 7 (.y 8 (.y 9 .nil)))))))))) Tryd.wide (by decide +kernel) (by simp) ?_
      refine J.dy rfl (op_move rfl rfl) rfl rfl rfl rfl ?_
      refine J.dy rfl ((op_sub rfl rfl rfl (by omega)).as (v' := I ((j + 1 : Nat) : Int)) (congrArg I (by omega))) rfl rfl rfl rfl ?_
      refine J.dy rfl (op_indexAddrJ (i := j + 1) (j := j + 1) rfl rfl rfl Tryd.underlying247 Tryd.sizeOf208 (by omega) (by omega)) rfl rfl rfl rfl ?_
      refine J.dy rfl (op_loadB 0 rfl rfl rfl Tryd.isAgg208 (partW_get (Sha.exts j (Sha.firsts b 16)) (j + 1) (by omega))) rfl rfl rfl rfl ?_
      refine J.dy rfl (op_move rfl rfl) rfl rfl rfl rfl ?_
      refine J.dy rfl ((op_sub rfl rfl rfl (by omega)).as (v' := I ((j + 14 : Nat) : Int)) (congrArg I (by omega))) rfl rfl rfl rfl ?_
      refine J.dy rfl (op_indexAddrJ (i := j + 14) (j := j + 14) rfl rfl rfl Tryd.underlying247 Tryd.sizeOf208 (by omega) (by omega)) rfl rfl rfl rfl ?_
      refine J.dy rfl (op_loadB 0 rfl rfl rfl Tryd.isAgg208 (partW_get (Sha.exts j (Sha.firsts b 16)) (j + 14) (by omega))) rfl rfl rfl rfl ?_
      refine J.dy rfl (op_assign rfl rfl) rfl rfl rfl rfl ?_
      refine J.dy rfl (op_assign rfl rfl) rfl rfl rfl rfl ?_
      refine J.dnil ?_
      refine J.then_n (J.k hK14 ?_)
      refine J.keepE [(2, _), (3, _), (5, _), (6, _), (7, _)] ⟨rfl, rfl, rfl, rfl, rfl, trivial⟩ ?_
      refine J.seq (fun K15 hK15 => ?_)
      refine J.region ?_
      refine J.y (op_move rfl rfl) rfl rfl rfl ?_
      refine J.e (op_call rfl rfl ent188 (Ct.use0 (fun F' _ => rot_ct F' _ 7 (by decide) (by decide)))) rfl rfl rfl ?_
      intro g62 _
      refine J.y (op_move rfl rfl) rfl rfl rfl ?_
      refine J.e (op_call rfl rfl ent188 (Ct.use0 (fun F' _ => rot_ct F' _ 18 (by decide) (by decide)))) rfl rfl rfl ?_
      intro g64 _
      refine J.y (op_xor32 rfl rfl rfl) rfl rfl rfl ?_
      refine J.y (op_move rfl rfl) rfl rfl rfl ?_
      refine J.y (op_shr32 (m := 3) rfl rfl rfl) rfl rfl rfl ?_
      refine J.y (op_xor32 rfl rfl rfl) rfl rfl rfl ?_
      refine J.y (op_assign rfl rfl) rfl rfl rfl ?_
      refine J.nil ?_
      refine J.then_n (J.k hK15 ?_)
      refine J.keepE [(2, _), (3, _), (5, _), (7, _), (8, _)] ⟨rfl, rfl, rfl, rfl, rfl, trivial⟩ ?_
      refine J.seq (fun K16 hK16 => ?_)
      refine J.region ?_
      refine J.y (op_move rfl rfl) rfl rfl rfl ?_
      refine J.e (op_call rfl rfl ent188 (Ct.use0 (fun F' _ => rot_ct F' _ 17 (by decide) (by decide)))) rfl rfl rfl ?_
      intro g70 _
      refine J.y (op_move rfl rfl) rfl rfl rfl ?_
      refine J.e (op_call rfl rfl ent188 (Ct.use0 (fun F' _ => rot_ct F' _ 19 (by decide) (by decide)))) rfl rfl rfl ?_
      intro g72 _
      refine J.y (op_xor32 rfl rfl rfl) rfl rfl rfl ?_
      refine J.y (op_move rfl rfl) rfl rfl rfl ?_
      refine J.y (op_shr32 (m := 10) rfl rfl rfl) rfl rfl rfl ?_
      refine J.y (op_xor32 rfl rfl rfl) rfl rfl rfl ?_
      refine J.y (op_assign rfl rfl) rfl rfl rfl ?_
      refine J.nil ?_
      refine J.then_n (J.k hK16 ?_)
      refine J.keepE [(2, _), (3, _), (5, _), (8, _), (9, _)] ⟨rfl, rfl, rfl, rfl, rfl, trivial⟩ ?_
      refine J.draw [blk g3 (partW (Sha.exts j (Sha.firsts b 16))) 247] [15] (.y 0 (.y 1 (.y 2 (.y 3 (.y 4 (.y 5 (.y 6 (.y 7 (.y 8 (.y 9 (.y 10 (.y 11 (.y 12 (.y 13 (.y 14 (.e 15 .nil)))))))))))))))) Tryd.wide (by decide +kernel) (by simp) ?_
      refine J.dy rfl (op_move rfl rfl) rfl rfl rfl rfl ?_
      refine J.dy rfl (op_move rfl rfl) rfl rfl rfl rfl ?_
      refine J.dy rfl ((op_sub rfl rfl rfl (by omega)).as (v' := I ((j : Nat) : Int)) (congrArg I (by omega))) rfl rfl rfl rfl ?_
      refine J.dy rfl (op_indexAddrJ (i := j) (j := j) rfl rfl rfl Tryd.underlying247 Tryd.sizeOf208 (by omega) (by omega)) rfl rfl rfl rfl ?_
      refine J.dy rfl (op_loadB 0 rfl rfl rfl Tryd.isAgg208 (partW_get (Sha.exts j (Sha.firsts b 16)) (j) (by omega))) rfl rfl rfl rfl ?_
      refine J.dy rfl (op_move rfl rfl) rfl rfl rfl rfl ?_
      refine J.dy rfl (op_add32 rfl rfl rfl) rfl rfl rfl rfl ?_
      refine J.dy rfl (op_move rfl rfl) rfl rfl rfl rfl ?_
      refine J.dy rfl ((op_sub rfl rfl rfl (by omega)).as (v' := I ((j + 9 : Nat) : Int)) (congrArg I (by omega))) rfl rfl rfl rfl ?_
      refine J.dy rfl (op_indexAddrJ (i := j + 9) (j := j + 9) rfl rfl rfl Tryd.underlying247 Tryd.sizeOf208 (by omega) (by omega)) rfl rfl rfl rfl ?_
      refine J.dy rfl (op_loadB 0 rfl rfl rfl Tryd.isAgg208 (partW_get (Sha.exts j (Sha.firsts b 16)) (j + 9) (by omega))) rfl rfl rfl rfl ?_
      refine J.dy rfl (op_add32 rfl rfl rfl) rfl rfl rfl rfl ?_
      refine J.dy rfl (op_move rfl rfl) rfl rfl rfl rfl ?_
      refine J.dy rfl (op_add32 rfl rfl rfl) rfl rfl rfl rfl ?_
      refine J.dy rfl (op_indexAddrJ (i := 16 + j) (j := 16 + j) rfl rfl rfl Tryd.underlying247 Tryd.sizeOf208 (by omega) (by omega)) rfl rfl rfl rfl ?_
      refine J.ds rfl (op_store (i := 2) (vs := [W32 _]) rfl rfl rfl rfl rfl Tryd.sizeOf208 rfl (by rw [partW_len (Sha.exts j (Sha.firsts b 16)) (by omega)]; show 16 + j + 1 ≤ _; omega)) rfl rfl rfl (fun _ _ => ?_)
      change J _ _ _ [F, _, _] _
      refine J.dnil ?_
      refine J.blk_n ?_
      refine J.then_n (J.k hK13 ?_)
      refine J.keepE [(2, _), (3, _), (5, _)] ⟨rfl, rfl, rfl, trivial⟩ ?_
      refine J.region ?_
      refine J.y (op_move rfl rfl) rfl rfl rfl ?_
      refine J.y (op_add rfl rfl rfl (by omega)) rfl rfl rfl ?_
      refine J.y (op_assign rfl rfl) rfl rfl rfl ?_
      refine J.nil ?_
      refine J.then_n ?_
      exact J.kk (j + 1) (fun x (hx : x ≤ 48 ∧ 48 - x < 48 - j) => hI1 x hx.1 hx.2) ⟨by omega, by omega⟩ ⟨rfl, rfl, rfl, trivial⟩ (fun _ h => by rw [Sha.exts, ← partW_ext _ j hlj (by omega)]; exact h)
    ·
      refine J.exit ?_
      refine J.then_x ?_
      refine J.then_x ?_
      refine J.blk_eq ?_
      refine J.then_n (J.k hK9 ?_)
      refine J.keepE [(2, _), (3, _)] ⟨rfl, rfl, trivial⟩ ?_
      refine J.seq (fun K17 hK17 => ?_)
      have hj48 : j = 48 := by omega
      subst hj48
      refine J.region ?_
      refine J.y (op_loadBA 2 rfl rfl rfl Tryd.isAgg247 Tryd.sizeOf247 (partW_len (Sha.exts 48 (Sha.firsts b 16)) (by rw [Sha.exts_length, Sha.firsts_length]; decide))) rfl rfl rfl ?_
      refine J.s (op_storeAll (i := 1) (vs := (Sha.sched b).map W32) rfl rfl rfl rfl (by show Array.mk _ = _; exact congrArg _ (partW_full _ (Sha.sched_length b))) (fun w => by rw [List.length_map, Sha.sched_length]; exact Tryd.sizeOf247 w) (one_W _) (by rw [List.length_map, Sha.sched_length]; rfl)) rfl rfl (fun _ _ => ?_)
      change J _ _ _ [F, blk g2 ((Sha.sched b).map W32) 247, _] _
      refine J.nil ?_
      refine J.then_n (J.k hK17 ?_)
      refine J.keepE [(2, _)] ⟨rfl, trivial⟩ ?_
      refine J.ret ?_
      exact J.done hw0 (fun _ _ h => h) (rv1 rfl (RV.blkA 1 rfl rfl Tryd.isAgg247 (fun w => by rw [List.length_map, Sha.sched_length]; exact Tryd.sizeOf247 w))) (retOk () rfl trivial [0] rfl (by decide))

theorem Sha.rnds_succ (ws : List UInt32) (s : Sha.St8) (i : Nat) : Sha.rnds ws s (i + 1) = Sha.rnd (ws.getD i 0) (Sha.K.getD i 0) (Sha.rnds ws s i) := rfl
theorem Sha.mix_eq (s : Sha.St8) (b : List UInt8) : Sha.mix s b = s.add (Sha.rnds (Sha.sched b) s 64) := rfl
theorem Sha.rnds_zero (ws : List UInt32) (s : Sha.St8) : Sha.rnds ws s 0 = s := rfl
attribute [local irreducible] Sha.rnds Sha.sched Sha.mix
theorem cellsAt {m : Hp} {g off : Nat} {vs : List Value} {i : Nat} {v : Value} (h : Cells m ⟨g, off, none⟩ vs) (hi : vs[i]? = some v) : Cells m ⟨g, off + i, none⟩ [v] := by
  have := h.sub i 1
  rw [Addr.add_lit] at this
  obtain ⟨hk, rfl⟩ := List.getElem?_eq_some_iff.1 hi
  rw [List.drop_eq_getElem_cons hk] at this
  exact this
theorem getW {l : List UInt32} {i : Nat} (h : i < l.length) : (l.map W32)[i]? = some (W32 (l.getD i 0)) := by
  rw [List.getElem?_map, List.getElem?_eq_getElem h, List.getD_eq_getElem?_getD, List.getElem?_eq_getElem h]; rfl
def Sha.St8.adds (s t : Sha.St8) (k : Nat) : List UInt32 := (s.add t).list.take k ++ s.list.drop k
theorem adds_len (s t : Sha.St8) (k : Nat) (hk : k ≤ 8) : (s.adds t k).length = 8 := by simp [Sha.St8.adds, Sha.St8.list]; omega
theorem adds_get (s t : Sha.St8) : ∀ k, k < 8 → (s.adds t k)[k]? = some (s.list.getD k 0)
  | 0, _ => rfl | 1, _ => rfl | 2, _ => rfl | 3, _ => rfl | 4, _ => rfl | 5, _ => rfl | 6, _ => rfl | 7, _ => rfl
  | n + 8, h => by omega
theorem adds_set (s t : Sha.St8) : ∀ k, k < 8 → setAt ((s.adds t k).map W32) k [W32 (s.list.getD k 0 + t.list.getD k 0)] = (s.adds t (k + 1)).map W32
  | 0, _ => rfl | 1, _ => rfl | 2, _ => rfl | 3, _ => rfl | 4, _ => rfl | 5, _ => rfl | 6, _ => rfl | 7, _ => rfl
  | n + 8, h => by omega
theorem adds_all (s t : Sha.St8) : s.adds t 8 = (s.add t).list := rfl
theorem list_get (t : Sha.St8) : ∀ k, k < 8 → (t.list.map W32)[k]? = some (W32 (t.list.getD k 0))
  | 0, _ => rfl | 1, _ => rfl | 2, _ => rfl | 3, _ => rfl | 4, _ => rfl | 5, _ => rfl | 6, _ => rfl | 7, _ => rfl
  | n + 8, h => by omega

theorem mix_ct (F : Hp) (hK : Cells F ⟨1, 0, none⟩ (Sha.K.map W32)) (g : Nat) (s : Sha.St8) (A : Option Addr) (n c : Nat) (b : List UInt8) (hl : Sl F 1 A n c (bytesV b)) (h64 : 64 ≤ n) :
    Ct Tryd.prog 150 [Ptr g, .slice A n c] [blk g (s.list.map W32) 210, F] (fun _ : Unit => .tuple #[]) (fun _ => True) (fun _ => [blk g ((Sha.mix s b).list.map W32) 210, F]) := by
  refine Ct.walk Tryd.func150 rfl Tryd.ntmps150 rfl (fun w0 hw0 => ?_)
  change J _ [(0, _), (1, _)] _ _ _
  refine J.seq (fun K1 hK1 => ?_)
  refine J.region ?_
  refine J.y (op_move rfl rfl) rfl rfl rfl ?_
  refine J.e (op_call rfl rfl ent187 (Ct.use0 (fun F' hF => schedule_ct F' A n c b (hl.mono (hF _ (by simp))) h64))) rfl rfl rfl ?_
  intro g21 _
  change J _ _ _ [blk g (s.list.map W32) 210, F] _
  refine J.e (op_alloc rfl Tryd.zeroValue247 rfl) rfl rfl rfl ?_
  intro g4 _
  change J _ _ _ [blk g (s.list.map W32) 210, F, blk g4 _ 247] _
  refine J.s (op_storeAll (i := 2) (vs := (Sha.sched b).map W32) rfl rfl rfl rfl rfl (fun w => by rw [List.length_map, Sha.sched_length]; exact Tryd.sizeOf247 w) (one_W _) (by rw [List.length_map, Sha.sched_length]; rfl)) rfl rfl (fun _ _ => ?_)
  change J _ _ _ [blk g (s.list.map W32) 210, F, blk g4 ((Sha.sched b).map W32) 247] _
  refine J.nil ?_
  refine J.then_n (J.k hK1 ?_)
  refine J.keepE [(0, _), (4, _)] ⟨rfl, rfl, trivial⟩ ?_
  refine J.seq (fun K2 hK2 => ?_)
  refine J.draw [blk g (s.list.map W32) 210] [] (.y 0 (.y 1 (.y 2 (.y 3 (.y 4 (.y 5 (.y 6 (.y 7 (.y 8 (.y 9 (.y 10 (.y 11 (.y 12 (.y 13 (.y 14 (.y 15 (.y 16 (.y 17 (.y 18 (.y 19 (.y 20 (.y 21 (.y 22 (.y 23 (.y 24 (.y 25 (.y 26 (.y 27 (.y 28 (.y 29 (.y 30 (.y 31 (.y 32 (.y 33 (.y 34 (.y 35 (.y 36 (.y 37 (.y 38 (.y 39 .nil)))))))))))))))))))))))))))))))))))))))) Tryd.wide (by decide +kernel) (by simp) ?_
  refine J.dy rfl (op_move rfl rfl) rfl rfl rfl rfl ?_
  refine J.dy rfl (op_nilCheck rfl rfl) rfl rfl rfl rfl ?_
  refine J.dy rfl (op_indexAddrJ (i := 0) (j := 0) rfl rfl rfl Tryd.underlying210 Tryd.sizeOf208 (by decide) rfl) rfl rfl rfl rfl ?_
  refine J.dy rfl (op_loadB 0 rfl rfl rfl Tryd.isAgg208 rfl) rfl rfl rfl rfl ?_
  refine J.dy rfl (op_move rfl rfl) rfl rfl rfl rfl ?_
  refine J.dy rfl (op_nilCheck rfl rfl) rfl rfl rfl rfl ?_
  refine J.dy rfl (op_indexAddrJ (i := 1) (j := 1) rfl rfl rfl Tryd.underlying210 Tryd.sizeOf208 (by decide) rfl) rfl rfl rfl rfl ?_
  refine J.dy rfl (op_loadB 0 rfl rfl rfl Tryd.isAgg208 rfl) rfl rfl rfl rfl ?_
  refine J.dy rfl (op_move rfl rfl) rfl rfl rfl rfl ?_
  refine J.dy rfl (op_nilCheck rfl rfl) rfl rfl rfl rfl ?_
  refine J.dy rfl (op_indexAddrJ (i := 2) (j := 2) rfl rfl rfl Tryd.underlying210 Tryd.sizeOf208 (by decide) rfl) rfl rfl rfl rfl ?_
  refine J.dy rfl (op_loadB 0 rfl rfl rfl Tryd.isAgg208 rfl) rfl rfl rfl rfl ?_
  refine J.dy rfl (op_move rfl rfl) rfl rfl rfl rfl ?_
  refine J.dy rfl (op_nilCheck rfl rfl) rfl rfl rfl rfl ?_
  refine J.dy rfl (op_indexAddrJ (i := 3) (j := 3) rfl rfl rfl Tryd.underlying210 Tryd.sizeOf208 (by decide) rfl) rfl rfl rfl rfl ?_
  refine J.dy rfl (op_loadB 0 rfl rfl rfl Tryd.isAgg208 rfl) rfl rfl rfl rfl ?_
  refine J.dy rfl (op_move rfl rfl) rfl rfl rfl rfl ?_
  refine J.dy rfl (op_nilCheck rfl rfl) rfl rfl rfl rfl ?_
  refine J.dy rfl (op_indexAddrJ (i := 4) (j := 4) rfl rfl rfl Tryd.underlying210 Tryd.sizeOf208 (by decide) rfl) rfl rfl rfl rfl ?_
  refine J.dy rfl (op_loadB 0 rfl rfl rfl Tryd.isAgg208 rfl) rfl rfl rfl rfl ?_
  refine J.dy rfl (op_move rfl rfl) rfl rfl rfl rfl ?_
  refine J.dy rfl (op_nilCheck rfl rfl) rfl rfl rfl rfl ?_
  refine J.dy rfl (op_indexAddrJ (i := 5) (j := 5) rfl rfl rfl Tryd.underlying210 Tryd.sizeOf208 (by decide) rfl) rfl rfl rfl rfl ?_
  refine J.dy rfl (op_loadB 0 rfl rfl rfl Tryd.isAgg208 rfl) rfl rfl rfl rfl ?_
  refine J.dy rfl (op_move rfl rfl) rfl rfl rfl rfl ?_
  refine J.dy rfl (op_nilCheck rfl rfl) rfl rfl rfl rfl ?_
  refine J.dy rfl (op_indexAddrJ (i := 6) (j := 6) rfl rfl rfl Tryd.underlying210 Tryd.sizeOf208 (by decide) rfl) rfl rfl rfl rfl ?_
  refine J.dy rfl (op_loadB 0 rfl rfl rfl Tryd.isAgg208 rfl) rfl rfl rfl rfl ?_
  refine J.dy rfl (op_move rfl rfl) rfl rfl rfl rfl ?_
  refine J.dy rfl (op_nilCheck rfl rfl) rfl rfl rfl rfl ?_
  refine J.dy rfl (op_indexAddrJ (i := 7) (j := 7) rfl rfl rfl Tryd.underlying210 Tryd.sizeOf208 (by decide) rfl) rfl rfl rfl rfl ?_
  refine J.dy rfl (op_loadB 0 rfl rfl rfl Tryd.isAgg208 rfl) rfl rfl rfl rfl ?_
  refine J.dy rfl (op_assign rfl rfl) rfl rfl rfl rfl ?_
  refine J.dy rfl (op_assign rfl rfl) rfl rfl rfl rfl ?_
  refine J.dy rfl (op_assign rfl rfl) rfl rfl rfl rfl ?_
  refine J.dy rfl (op_assign rfl rfl) rfl rfl rfl rfl ?_
  refine J.dy rfl (op_assign rfl rfl) rfl rfl rfl rfl ?_
  refine J.dy rfl (op_assign rfl rfl) rfl rfl rfl rfl ?_
  refine J.dy rfl (op_assign rfl rfl) rfl rfl rfl rfl ?_
  refine J.dy rfl (op_assign rfl rfl) rfl rfl rfl rfl ?_
  refine J.dnil ?_
  refine J.then_n (J.k hK2 ?_)
  refine J.keepE [(0, _), (4, _), (5, _), (6, _), (7, _), (8, _), (9, _), (10, _), (11, _), (12, _)] ⟨rfl, rfl, rfl, rfl, rfl, rfl, rfl, rfl, rfl, rfl, trivial⟩ ?_
  refine J.seq (fun K3 hK3 => ?_)
  refine J.seq (fun K4 hK4 => ?_)
  refine J.region ?_
  refine J.y (op_move rfl rfl) rfl rfl rfl ?_
  refine J.nil ?_
  refine J.then_n (J.k hK4 ?_)
  refine J.keepE [(0, _), (4, _), (5, _), (6, _), (7, _), (8, _), (9, _), (10, _), (11, _), (12, _), (54, _)] ⟨rfl, rfl, rfl, rfl, rfl, rfl, rfl, rfl, rfl, rfl, rfl, trivial⟩ ?_
  refine J.block ?_
  refine J.loop (fun i : Nat => [(0, Ptr g), (4, Ptr g4), (5, W32 (Sha.rnds (Sha.sched b) s i).a), (6, W32 (Sha.rnds (Sha.sched b) s i).b), (7, W32 (Sha.rnds (Sha.sched b) s i).c), (8, W32 (Sha.rnds (Sha.sched b) s i).d), (9, W32 (Sha.rnds (Sha.sched b) s i).e), (10, W32 (Sha.rnds (Sha.sched b) s i).f), (11, W32 (Sha.rnds (Sha.sched b) s i).g), (12, W32 (Sha.rnds (Sha.sched b) s i).h), (54, I i)]) (fun _ => [blk g (s.list.map W32) 210, F, blk g4 ((Sha.sched b).map W32) 247]) (fun i => i ≤ 64) (fun i => 64 - i) 0 (Nat.zero_le _) ⟨rfl, rfl, by rw [Sha.rnds_zero]; rfl, by rw [Sha.rnds_zero]; rfl, by rw [Sha.rnds_zero]; rfl, by rw [Sha.rnds_zero]; rfl, by rw [Sha.rnds_zero]; rfl, by rw [Sha.rnds_zero]; rfl, by rw [Sha.rnds_zero]; rfl, by rw [Sha.rnds_zero]; rfl, rfl, trivial⟩ (fun _ h => h) ?_
  intro i hi I0 hI0
  refine J.seq (fun K5 hK5 => ?_)
  refine J.region ?_
  refine J.y (op_lss rfl rfl rfl) rfl rfl rfl ?_
  refine J.nil ?_
  refine J.then_n (J.k hK5 ?_)
  refine J.keepE [(0, _), (4, _), (5, _), (6, _), (7, _), (8, _), (9, _), (10, _), (11, _), (12, _), (54, _), (55, _)] ⟨rfl, rfl, rfl, rfl, rfl, rfl, rfl, rfl, rfl, rfl, rfl, rfl, trivial⟩ ?_
  refine J.seq (fun K6 hK6 => ?_)
  refine J.ite rfl (fun h55 => ?_) (fun h55 => ?_)
  ·
    refine J.skip ?_
    refine J.then_n (J.k hK6 ?_)
    refine J.keepE [(0, _), (4, _), (5, _), (6, _), (7, _), (8, _), (9, _), (10, _), (11, _), (12, _), (54, _)] ⟨rfl, rfl, rfl, rfl, rfl, rfl, rfl, rfl, rfl, rfl, rfl, trivial⟩ ?_
    refine J.seq (fun K7 hK7 => ?_)
    refine J.block ?_
    refine J.seq (fun K8 hK8 => ?_)
    refine J.region ?_
    refine J.y (op_move rfl rfl) rfl rfl rfl ?_
    refine J.y (op_assign rfl rfl) rfl rfl rfl ?_
    refine J.nil ?_
    refine J.then_n (J.k hK8 ?_)
    refine J.keepE [(0, _), (4, _), (5, _), (6, _), (7, _), (8, _), (9, _), (10, _), (11, _), (12, _), (13, _), (54, _)] ⟨rfl, rfl, rfl, rfl, rfl, rfl, rfl, rfl, rfl, rfl, rfl, rfl, trivial⟩ ?_
    refine J.seq (fun K9 hK9 => ?_)
    refine J.region ?_
    refine J.y (op_move rfl rfl) rfl rfl rfl ?_
    refine J.e (op_call rfl rfl ent188 (Ct.use0 (fun F' _ => rot_ct F' _ 6 (by decide) (by decide)))) rfl rfl rfl ?_
    intro g58 _
    refine J.y (op_move rfl rfl) rfl rfl rfl ?_
    refine J.e (op_call rfl rfl ent188 (Ct.use0 (fun F' _ => rot_ct F' _ 11 (by decide) (by decide)))) rfl rfl rfl ?_
    intro g60 _
    refine J.y (op_xor32 rfl rfl rfl) rfl rfl rfl ?_
    refine J.y (op_move rfl rfl) rfl rfl rfl ?_
    refine J.e (op_call rfl rfl ent188 (Ct.use0 (fun F' _ => rot_ct F' _ 25 (by decide) (by decide)))) rfl rfl rfl ?_
    intro g63 _
    refine J.y (op_xor32 rfl rfl rfl) rfl rfl rfl ?_
    refine J.y (op_assign rfl rfl) rfl rfl rfl ?_
    refine J.nil ?_
    refine J.then_n (J.k hK9 ?_)
    refine J.keepE [(0, _), (4, _), (5, _), (6, _), (7, _), (8, _), (9, _), (10, _), (11, _), (12, _), (13, _), (14, _), (54, _)] ⟨rfl, rfl, rfl, rfl, rfl, rfl, rfl, rfl, rfl, rfl, rfl, rfl, rfl, trivial⟩ ?_
    refine J.seq (fun K10 hK10 => ?_)
    have hiK : i < Sha.K.length := by show i < 64; omega
    refine J.draw [blk g (s.list.map W32) 210, F, blk g4 ((Sha.sched b).map W32) 247] [] (.y 0 (.y 1 (.y 2 (.y 3 (.y 4 (.y 5 (.y 6 (.y 7 (.y 8 (.y 9 (.y 10 (.y 11 (.y 12 (.y 13 (.y 14 (.y 15 (.y 16 (.y 17 (.y 18 (.y 19 (.y 20 .nil))))))))))))))))))))) Tryd.wide (by decide +kernel) (by simp) ?_
    refine J.dy rfl (op_move rfl rfl) rfl rfl rfl rfl ?_
    refine J.dy rfl (op_move rfl rfl) rfl rfl rfl rfl ?_
    refine J.dy rfl (op_add32 rfl rfl rfl) rfl rfl rfl rfl ?_
    refine J.dy rfl (op_move rfl rfl) rfl rfl rfl rfl ?_
    refine J.dy rfl (op_move rfl rfl) rfl rfl rfl rfl ?_
    refine J.dy rfl (op_and32 rfl rfl rfl) rfl rfl rfl rfl ?_
    refine J.dy rfl (op_move rfl rfl) rfl rfl rfl rfl ?_
    refine J.dy rfl (op_com32 rfl rfl) rfl rfl rfl rfl ?_
    refine J.dy rfl (op_move rfl rfl) rfl rfl rfl rfl ?_
    refine J.dy rfl (op_and32 rfl rfl rfl) rfl rfl rfl rfl ?_
    refine J.dy rfl (op_xor32 rfl rfl rfl) rfl rfl rfl rfl ?_
    refine J.dy rfl (op_add32 rfl rfl rfl) rfl rfl rfl rfl ?_
    refine J.dy rfl (op_move rfl rfl) rfl rfl rfl rfl ?_
    refine J.dy rfl (op_indexAddrJ (i := i) (j := i) rfl rfl rfl Tryd.underlying247 Tryd.sizeOf208 (by omega) (by omega)) rfl rfl rfl rfl ?_
    refine J.dy rfl (op_loadM 1 rfl rfl Tryd.isAgg208 rfl (by have h := cellsAt hK (getW (l := Sha.K) (i := i) hiK); rw [Nat.zero_add] at h; exact h)) rfl rfl rfl rfl ?_
    refine J.dy rfl (op_add32 rfl rfl rfl) rfl rfl rfl rfl ?_
    refine J.dy rfl (op_move rfl rfl) rfl rfl rfl rfl ?_
    refine J.dy rfl (op_indexAddrJ (i := i) (j := i) rfl rfl rfl Tryd.underlying247 Tryd.sizeOf208 (by omega) (by omega)) rfl rfl rfl rfl ?_
    refine J.dy rfl (op_loadB 2 rfl rfl rfl Tryd.isAgg208 (getW (l := Sha.sched b) (i := i) (by rw [Sha.sched_length]; omega))) rfl rfl rfl rfl ?_
    refine J.dy rfl (op_add32 rfl rfl rfl) rfl rfl rfl rfl ?_
    refine J.dy rfl (op_assign rfl rfl) rfl rfl rfl rfl ?_
    refine J.dnil ?_
    refine J.then_n (J.k hK10 ?_)
    refine J.keepE [(0, _), (4, _), (5, _), (6, _), (7, _), (8, _), (9, _), (10, _), (11, _), (15, _), (54, _)] ⟨rfl, rfl, rfl, rfl, rfl, rfl, rfl, rfl, rfl, rfl, rfl, trivial⟩ ?_
    refine J.seq (fun K11 hK11 => ?_)
    refine J.region ?_
    refine J.y (op_move rfl rfl) rfl rfl rfl ?_
    refine J.e (op_call rfl rfl ent188 (Ct.use0 (fun F' _ => rot_ct F' _ 2 (by decide) (by decide)))) rfl rfl rfl ?_
    intro g86 _
    refine J.y (op_move rfl rfl) rfl rfl rfl ?_
    refine J.e (op_call rfl rfl ent188 (Ct.use0 (fun F' _ => rot_ct F' _ 13 (by decide) (by decide)))) rfl rfl rfl ?_
    intro g88 _
    refine J.y (op_xor32 rfl rfl rfl) rfl rfl rfl ?_
    refine J.y (op_move rfl rfl) rfl rfl rfl ?_
    refine J.e (op_call rfl rfl ent188 (Ct.use0 (fun F' _ => rot_ct F' _ 22 (by decide) (by decide)))) rfl rfl rfl ?_
    intro g91 _
    refine J.y (op_xor32 rfl rfl rfl) rfl rfl rfl ?_
    refine J.y (op_assign rfl rfl) rfl rfl rfl ?_
    refine J.nil ?_
    refine J.then_n (J.k hK11 ?_)
    refine J.keepE [(0, _), (4, _), (5, _), (6, _), (7, _), (8, _), (9, _), (10, _), (11, _), (15, _), (16, _), (54, _)] ⟨rfl, rfl, rfl, rfl, rfl, rfl, rfl, rfl, rfl, rfl, rfl, rfl, trivial⟩ ?_
    refine J.seq (fun K12 hK12 => ?_)
    refine J.region ?_
    refine J.y (op_move rfl rfl) rfl rfl rfl ?_
    refine J.y (op_move rfl rfl) rfl rfl rfl ?_
    refine J.y (op_move rfl rfl) rfl rfl rfl ?_
    refine J.y (op_and32 rfl rfl rfl) rfl rfl rfl ?_
    refine J.y (op_move rfl rfl) rfl rfl rfl ?_
    refine J.y (op_move rfl rfl) rfl rfl rfl ?_
    refine J.y (op_and32 rfl rfl rfl) rfl rfl rfl ?_
    refine J.y (op_xor32 rfl rfl rfl) rfl rfl rfl ?_
    refine J.y (op_move rfl rfl) rfl rfl rfl ?_
    refine J.y (op_move rfl rfl) rfl rfl rfl ?_
    refine J.y (op_and32 rfl rfl rfl) rfl rfl rfl ?_
    refine J.y (op_xor32 rfl rfl rfl) rfl rfl rfl ?_
    refine J.y (op_add32 rfl rfl rfl) rfl rfl rfl ?_
    refine J.y (op_assign rfl rfl) rfl rfl rfl ?_
    refine J.nil ?_
    refine J.then_n (J.k hK12 ?_)
    refine J.keepE [(0, _), (4, _), (5, _), (6, _), (7, _), (8, _), (9, _), (10, _), (11, _), (15, _), (17, _), (54, _)] ⟨rfl, rfl, rfl, rfl, rfl, rfl, rfl, rfl, rfl, rfl, rfl, rfl, trivial⟩ ?_
    refine J.region ?_
    refine J.y (op_move rfl rfl) rfl rfl rfl ?_
    refine J.y (op_move rfl rfl) rfl rfl rfl ?_
    refine J.y (op_move rfl rfl) rfl rfl rfl ?_
    refine J.y (op_move rfl rfl) rfl rfl rfl ?_
    refine J.y (op_move rfl rfl) rfl rfl rfl ?_
    refine J.y (op_add32 rfl rfl rfl) rfl rfl rfl ?_
    refine J.y (op_move rfl rfl) rfl rfl rfl ?_
    refine J.y (op_move rfl rfl) rfl rfl rfl ?_
    refine J.y (op_move rfl rfl) rfl rfl rfl ?_
    refine J.y (op_move rfl rfl) rfl rfl rfl ?_
    refine J.y (op_move rfl rfl) rfl rfl rfl ?_
    refine J.y (op_add32 rfl rfl rfl) rfl rfl rfl ?_
    refine J.y (op_assign rfl rfl) rfl rfl rfl ?_
    refine J.y (op_assign rfl rfl) rfl rfl rfl ?_
    refine J.y (op_assign rfl rfl) rfl rfl rfl ?_
    refine J.y (op_assign rfl rfl) rfl rfl rfl ?_
    refine J.y (op_assign rfl rfl) rfl rfl rfl ?_
    refine J.y (op_assign rfl rfl) rfl rfl rfl ?_
    refine J.y (op_assign rfl rfl) rfl rfl rfl ?_
    refine J.y (op_assign rfl rfl) rfl rfl rfl ?_
    refine J.nil ?_
    refine J.blk_n ?_
    refine J.then_n (J.k hK7 ?_)
    refine J.keepE [(0, _), (4, _), (5, _), (6, _), (7, _), (8, _), (9, _), (10, _), (11, _), (12, _), (54, _)] ⟨rfl, rfl, rfl, rfl, rfl, rfl, rfl, rfl, rfl, rfl, rfl, trivial⟩ ?_
    refine J.region ?_
    refine J.y (op_add rfl rfl rfl (by omega)) rfl rfl rfl ?_
    refine J.y (op_move rfl rfl) rfl rfl rfl ?_
    refine J.nil ?_
    refine J.then_n ?_
    exact J.kk (i + 1) (fun x (hx : x ≤ 64 ∧ 64 - x < 64 - i) => hI0 x hx.1 hx.2) ⟨by omega, by omega⟩ ⟨rfl, rfl, by rw [Sha.rnds_succ]; rfl, by rw [Sha.rnds_succ]; rfl, by rw [Sha.rnds_succ]; rfl, by rw [Sha.rnds_succ]; rfl, by rw [Sha.rnds_succ]; rfl, by rw [Sha.rnds_succ]; rfl, by rw [Sha.rnds_succ]; rfl, by rw [Sha.rnds_succ]; rfl, rfl, trivial⟩ (fun _ h => h)
  ·
    refine J.exit ?_
    refine J.then_x ?_
    refine J.then_x ?_
    refine J.blk_eq ?_
    refine J.then_n (J.k hK3 ?_)
    refine J.keepE [(0, _), (5, _), (6, _), (7, _), (8, _), (9, _), (10, _), (11, _), (12, _)] ⟨rfl, rfl, rfl, rfl, rfl, rfl, rfl, rfl, rfl, trivial⟩ ?_
    refine J.seq (fun K13 hK13 => ?_)
    have hi64 : i = 64 := by omega
    subst hi64
    refine J.region ?_
    refine J.y (op_move rfl rfl) rfl rfl rfl ?_
    refine J.y (op_move rfl rfl) rfl rfl rfl ?_
    refine J.y (op_move rfl rfl) rfl rfl rfl ?_
    refine J.y (op_move rfl rfl) rfl rfl rfl ?_
    refine J.y (op_move rfl rfl) rfl rfl rfl ?_
    refine J.y (op_move rfl rfl) rfl rfl rfl ?_
    refine J.y (op_move rfl rfl) rfl rfl rfl ?_
    refine J.y (op_move rfl rfl) rfl rfl rfl ?_
    refine J.y (op_buildArr (l := [.tmp 119, .tmp 120, .tmp 121, .tmp 122, .tmp 123, .tmp 124, .tmp 125, .tmp 126]) rfl rfl rfl Tryd.underlying209 el208 Tryd.zeroValue209 rfl rfl (by simp [Value.cells]) (r := (Sha.rnds (Sha.sched b) s 64).list.map W32) rfl) rfl rfl rfl ?_
    refine J.y (op_move rfl rfl) rfl rfl rfl ?_
    refine J.nil ?_
    refine J.then_n (J.k hK13 ?_)
    refine J.keepE [(0, _), (127, _), (128, _)] ⟨rfl, rfl, rfl, trivial⟩ ?_
    refine J.block ?_
    refine J.loop (fun k : Nat => [(0, Ptr g), (127, .agg ((Sha.rnds (Sha.sched b) s 64).list.map W32).toArray), (128, I k)]) (fun k => [blk g ((s.adds (Sha.rnds (Sha.sched b) s 64) k).map W32) 210, F, blk g4 ((Sha.sched b).map W32) 247]) (fun k => k ≤ 8) (fun k => 8 - k) 0 (Nat.zero_le _) ⟨rfl, rfl, rfl, trivial⟩ (fun _ h => h) ?_
    intro k hk I2 hI2
    refine J.seq (fun K14 hK14 => ?_)
    refine J.region ?_
    refine J.y (op_lss rfl rfl rfl) rfl rfl rfl ?_
    refine J.nil ?_
    refine J.then_n (J.k hK14 ?_)
    refine J.keepE [(0, _), (127, _), (128, _), (129, _)] ⟨rfl, rfl, rfl, rfl, trivial⟩ ?_
    refine J.seq (fun K15 hK15 => ?_)
    refine J.ite rfl (fun h129 => ?_) (fun h129 => ?_)
    ·
      refine J.skip ?_
      refine J.then_n (J.k hK15 ?_)
      refine J.keepE [(0, _), (127, _), (128, _)] ⟨rfl, rfl, rfl, trivial⟩ ?_
      refine J.seq (fun K16 hK16 => ?_)
      refine J.block ?_
      refine J.seq (fun K17 hK17 => ?_)
      refine J.region ?_
      refine J.y (op_move rfl rfl) rfl rfl rfl ?_
      refine J.y (op_index (i := k) (v := W32 ((Sha.rnds (Sha.sched b) s 64).list.getD k 0)) rfl rfl rfl Tryd.underlying209 Tryd.sizeOf208 Tryd.isAgg208 (by omega) (by rw [Nat.mul_one, List.getElem?_toArray]; exact list_get _ k (by omega))) rfl rfl rfl ?_
      refine J.y (op_assign rfl rfl) rfl rfl rfl ?_
      refine J.y (op_assign rfl rfl) rfl rfl rfl ?_
      refine J.nil ?_
      refine J.then_n (J.k hK17 ?_)
      refine J.keepE [(0, _), (18, _), (19, _), (127, _), (128, _)] ⟨rfl, rfl, rfl, rfl, rfl, trivial⟩ ?_
      refine J.draw [blk g ((s.adds (Sha.rnds (Sha.sched b) s 64) k).map W32) 210] [9] (.y 0 (.y 1 (.y 2 (.y 3 (.y 4 (.y 5 (.y 6 (.y 7 (.y 8 (.e 9 .nil)))))))))) Tryd.wide (by decide +kernel) (by simp) ?_
      refine J.dy rfl (op_move rfl rfl) rfl rfl rfl rfl ?_
      refine J.dy rfl (op_move rfl rfl) rfl rfl rfl rfl ?_
      refine J.dy rfl (op_nilCheck rfl rfl) rfl rfl rfl rfl ?_
      refine J.dy rfl (op_indexAddrJ (i := k) (j := k) rfl rfl rfl Tryd.underlying210 Tryd.sizeOf208 (by omega) (by omega)) rfl rfl rfl rfl ?_
      refine J.dy rfl (op_loadB 0 rfl rfl rfl Tryd.isAgg208 (v := W32 (s.list.getD k 0)) (by rw [List.getElem?_map, adds_get s (Sha.rnds (Sha.sched b) s 64) k (by omega)]; rfl)) rfl rfl rfl rfl ?_
      refine J.dy rfl (op_move rfl rfl) rfl rfl rfl rfl ?_
      refine J.dy rfl (op_add32 rfl rfl rfl) rfl rfl rfl rfl ?_
      refine J.dy rfl (op_nilCheck rfl rfl) rfl rfl rfl rfl ?_
      refine J.dy rfl (op_indexAddrJ (i := k) (j := k) rfl rfl rfl Tryd.underlying210 Tryd.sizeOf208 (by omega) (by omega)) rfl rfl rfl rfl ?_
      refine J.ds rfl (op_store (i := 0) (vs := [W32 _]) rfl rfl rfl rfl rfl Tryd.sizeOf208 rfl (by rw [List.length_map, adds_len s (Sha.rnds (Sha.sched b) s 64) k (by omega)]; show k + 1 ≤ _; omega)) rfl rfl rfl (fun _ _ => ?_)
      change J _ _ _ [_, F, blk g4 ((Sha.sched b).map W32) 247] _
      refine J.dnil ?_
      refine J.blk_n ?_
      refine J.then_n (J.k hK16 ?_)
      refine J.keepE [(0, _), (127, _), (128, _)] ⟨rfl, rfl, rfl, trivial⟩ ?_
      refine J.region ?_
      refine J.y (op_add rfl rfl rfl (by omega)) rfl rfl rfl ?_
      refine J.y (op_move rfl rfl) rfl rfl rfl ?_
      refine J.nil ?_
      refine J.then_n ?_
      exact J.kk (k + 1) (fun x (hx : x ≤ 8 ∧ 8 - x < 8 - k) => hI2 x hx.1 hx.2) ⟨by omega, by omega⟩ ⟨rfl, rfl, rfl, trivial⟩ (fun _ h => by rw [← adds_set s (Sha.rnds (Sha.sched b) s 64) k (by omega)]; exact h)
    ·
      refine J.exit ?_
      refine J.then_x ?_
      refine J.then_x ?_
      refine J.blk_eq ?_
      have hk8 : k = 8 := by omega
      subst hk8
      exact J.fin hw0 (fun _ _ h => h) (res0 rfl) (retOk () rfl trivial [0, 1] (by rw [adds_all, ← Sha.mix_eq]; rfl) (by decide))

end Go.Proofs.YtnkfapecbmmpeaaDoor
