/- A part of the proof: contracts of functions of the program, each for every state of the heaps that it names. -/
import Derived.Test.YtnkfapecbmmpeaaDoorPrf2
set_option linter.unusedSimpArgs false
set_option linter.unusedVariables false
namespace Go.Proofs.YtnkfapecbmmpeaaDoor
open Go Go.Fw
set_option maxRecDepth 100000
set_option maxHeartbeats 1000000
theorem ent10 : Enters Tryd.prog 10 := Enters.of Tryd.func10 rfl (by kernel_rfl)
theorem ent26 : Enters Tryd.prog 26 := Enters.of Tryd.func26 rfl (by kernel_rfl)
theorem ent27 : Enters Tryd.prog 27 := Enters.of Tryd.func27 rfl (by kernel_rfl)
theorem ent29 : Enters Tryd.prog 29 := Enters.of Tryd.func29 rfl (by kernel_rfl)
theorem ent48 : Enters Tryd.prog 48 := Enters.of Tryd.func48 rfl (by kernel_rfl)
theorem ent59 : Enters Tryd.prog 59 := Enters.of Tryd.func59 rfl (by kernel_rfl)
theorem ent60 : Enters Tryd.prog 60 := Enters.of Tryd.func60 rfl (by kernel_rfl)
theorem ent61 : Enters Tryd.prog 61 := Enters.of Tryd.func61 rfl (by kernel_rfl)
structure Pz where
  a : UInt8
  b : UInt8
  v : List UInt8
  deriving DecidableEq
def Pz.cells (x : Pz) : List Value := [B8 (x.a), B8 (x.b), Str (x.v)]
def noPz : Pz := ⟨0, 0, []⟩
def putzV (l : List Pz) : List (List Value) := l.map Pz.cells
theorem putzV_get {l : List Pz} {k : Nat} (h : k < l.length) : (putzV l)[k]? = some (l.getD k noPz).cells := by
  unfold putzV
  rw [List.getElem?_map, getSome noPz h]; rfl
theorem putzV_len (l : List Pz) : (putzV l).length = l.length := by simp [putzV]
theorem putzV_app (a b : List Pz) : putzV (a ++ b) = putzV a ++ putzV b := by simp [putzV]
theorem putzV_snoc (a : List Pz) (x : Pz) : putzV (a ++ [x]) = putzV a ++ [x.cells] := by simp [putzV]
theorem one_putz (a : List Pz) : (putzV a).all (fun x => x.all Value.oneCell') = true := one_map Pz.cells (fun _ => rfl) a
theorem putzV_take (l : List Pz) (k : Nat) : (putzV l).take k = putzV (l.take k) := by simp [putzV]
theorem putzV_drop (l : List Pz) (k : Nat) : (putzV l).drop k = putzV (l.drop k) := by simp [putzV]
theorem putzV_set (l : List Pz) (k : Nat) (x : Pz) : (putzV l).set k x.cells = putzV (l.set k x) := by simp [putzV, List.map_set]

def keyP (a b : UInt8) : List UInt8 := [a, 0, b, 0, 0, 0, 0, 0, 0, 0, 0, 0, 0, 0, 0, 0]
theorem keyP_len (a b : UInt8) : (keyP a b).length = 16 := rfl
theorem prove_node {kv : List Sm.PR} (hf : Fine kv) {k : List UInt8} (hk : k.length = 16) {d s : Nat} (h : Stop kv k d s) : pNodeV (bsd kv k d (s - d)) (pThere kv k s) (pKey kv k s) (pVal kv k s) k d = Sm.ndB kv k d := by
  have h1 := h.le
  have h2 := h.ge
  have h3 := clm_node hf hk (d := d) (n := s - d) (by omega) (s - d) (Nat.le_refl _)
  rw [show d + (s - d) = s by omega, show s - (s - d) = d by omega] at h3
  unfold pNodeV
  rw [end_node hf h, bsd_len]
  exact h3
theorem prove_has {kv : List Sm.PR} (hf : Fine kv) {k : List UInt8} (hk : k.length = 16) {d s : Nat} (h : Stop kv k d s) :
    hasB (bsd kv k d (s - d)) (pThere kv k s) (pKey kv k s) (pVal kv k s) (Sm.ndB kv k d) k ((Sm.getP kv k).getD []) d = (Sm.getP kv k).isSome := by
  obtain ⟨t1, t2⟩ := tells hf h
  unfold hasB
  rw [prove_node hf hk h, decide_eq_true rfl, Bool.and_true, t1]
  cases ht : pThere kv k s with
  | false => rfl
  | true =>
    by_cases hkk : pKey kv k s = k
    · rw [t2 ht hkk, decide_eq_true hkk]; simp
    · rw [decide_eq_false hkk]; rfl
theorem prove_hasno {kv : List Sm.PR} (hf : Fine kv) {k : List UInt8} (hk : k.length = 16) {d s : Nat} (h : Stop kv k d s) {v : List UInt8} (hv : v ≠ (Sm.getP kv k).getD []) :
    hasB (bsd kv k d (s - d)) (pThere kv k s) (pKey kv k s) (pVal kv k s) (Sm.ndB kv k d) k v d = false := by
  obtain ⟨t1, t2⟩ := tells hf h
  unfold hasB
  cases ht : pThere kv k s with
  | false => rfl
  | true =>
    by_cases hkk : pKey kv k s = k
    · rw [t2 ht hkk] at hv
      rw [decide_eq_false (show ¬ pVal kv k s = v from fun e => hv e.symm)]; simp
    · rw [decide_eq_false hkk]; rfl
theorem prove_lacks {kv : List Sm.PR} (hf : Fine kv) {k : List UInt8} (hk : k.length = 16) {d s : Nat} (h : Stop kv k d s) :
    lacksB (bsd kv k d (s - d)) (pThere kv k s) (pKey kv k s) (pVal kv k s) (Sm.ndB kv k d) k d = !(Sm.getP kv k).isSome := by
  obtain ⟨t1, _⟩ := tells hf h
  unfold lacksB
  rw [prove_node hf hk h, decide_eq_true rfl, Bool.and_true, t1]
  cases pThere kv k s <;> by_cases hkk : pKey kv k s = k <;> simp [hkk]
theorem pVal_small {kv : List Sm.PR} (hf : Fine kv) (k : List UInt8) (s : Nat) : (pVal kv k s).length ≤ 1000000 := by
  unfold pVal
  split
  · exact getP_small hf.small _
  · exact Nat.zero_le _
theorem min_d {d : Nat} (hd : d ≤ 128) : min (((d : Nat) : Int)).toNat 128 = d := by rw [Int.toNat_natCast, Nat.min_eq_left hd]

theorem key14_ct (F : Hp) (a b : UInt8) : Ct Tryd.prog 26 [B8 (a), B8 (b)] [F] (fun _ : Unit => Str (keyP a b)) (fun _ => True) (fun _ => [F]) := by
  refine Ct.walk Tryd.func26 rfl Tryd.ntmps26 rfl (fun w0 hw0 => ?_)
  change J _ [(0, _), (1, _)] _ _ _
  refine J.seq (fun K1 hK1 => ?_)
  refine J.region ?_
  refine J.y (op_assign rfl rfl) rfl rfl rfl ?_
  refine J.nil ?_
  refine J.then_n (J.k hK1 ?_)
  refine J.keepE [(0, _), (1, _)] ⟨rfl, rfl, trivial⟩ ?_
  refine J.seq (fun K2 hK2 => ?_)
  refine J.region ?_
  refine J.e (op_makeSlice (n' := 16) rfl rfl Tryd.underlying30 el5 (by omega) (by omega)) rfl rfl rfl ?_
  rintro g6 _
  change J _ ((6, .slice (some ⟨g6, 0, none⟩) 16 16) :: _) _ [F, blk g6 (List.replicate 16 [.int .u8 0]).flatten 5] _
  refine J.y (op_assign rfl rfl) rfl rfl rfl ?_
  refine J.nil ?_
  refine J.then_n (J.k hK2 ?_)
  refine J.keepE [(0, _), (1, _), (5, _)] ⟨rfl, rfl, rfl, trivial⟩ ?_
  refine J.seq (fun K3 hK3 => ?_)
  refine J.region ?_
  refine J.y (op_move rfl rfl) rfl rfl rfl ?_
  refine J.y (op_move rfl rfl) rfl rfl rfl ?_
  refine J.y (op_move rfl rfl) rfl rfl rfl ?_
  refine J.y (op_move rfl rfl) rfl rfl rfl ?_
  refine J.y (op_indexAddrS (i := 0) (j := 0 + 0 * 1) rfl rfl rfl Tryd.underlying30 Tryd.sizeOf5 (by first | omega | decide | (simp only [List.length_set, List.length_replicate] at *; omega)) (by omega)) rfl rfl rfl ?_
  refine J.s (op_storeRow (i := 1) (k := 0) (off := 0) (b := [B8 (a)]) rfl rfl rfl rfl (row_blk (q := True) (sz := 1) (xs := bytesV (List.replicate 16 0)) rfl (by intro x hx; obtain ⟨_, _, rfl⟩ := List.mem_map.1 hx; rfl)) (vs := [B8 (a)]) rfl Tryd.sizeOf5 rfl (by omega) (bytesV_get (getSome 0 (by first | omega | decide | (simp only [List.length_set, List.length_replicate] at *; omega)))) rfl (Nat.le_refl _)) rfl rfl ?_
  rintro m2_1 hm2_1
  change J _ _ _ [F, m2_1] _
  rw [bytesV_set] at hm2_1
  refine J.y (op_indexAddrS (i := 2) (j := 0 + 2 * 1) rfl rfl rfl Tryd.underlying30 Tryd.sizeOf5 (by first | omega | decide | (simp only [List.length_set, List.length_replicate] at *; omega)) (by omega)) rfl rfl rfl ?_
  refine J.s (op_storeRow (i := 1) (k := 2) (off := 0) (b := [B8 (b)]) rfl rfl rfl rfl hm2_1 (vs := [B8 (b)]) rfl Tryd.sizeOf5 rfl (by omega) (bytesV_get (getSome 0 (by first | omega | decide | (simp only [List.length_set, List.length_replicate] at *; omega)))) rfl (Nat.le_refl _)) rfl rfl ?_
  rintro m2_2 hm2_2
  change J _ _ _ [F, m2_2] _
  rw [bytesV_set] at hm2_2
  refine J.nil ?_
  refine J.then_n (J.k hK3 ?_)
  refine J.keepE [(5, _)] ⟨rfl, trivial⟩ ?_
  refine J.seq (fun K4 hK4 => ?_)
  refine J.region ?_
  refine J.y (op_move rfl rfl) rfl rfl rfl ?_
  refine J.y (op_toStr (l := ((List.replicate 16 0).set 0 a).set 2 b) rfl rfl Tryd.underlying30 Tryd.underlying5 Tryd.underlying9 (m := m2_2) (by simp) hm2_2.sl) rfl rfl rfl ?_
  refine J.y (op_assign rfl rfl) rfl rfl rfl ?_
  refine J.nil ?_
  refine J.then_n (J.k hK4 ?_)
  refine J.keepE [(4, _)] ⟨rfl, trivial⟩ ?_
  refine J.ret ?_
  exact J.done hw0 (fun _ _ h => h) (res1 rfl rfl) (retOk () (by unfold keyP; rfl) trivial [0] rfl (by decide))

theorem both14_ct (F : Hp) (A0 : Option Addr) (n0 c0 : Nat) (l0 : List Pz) (sl0 : Sl F 3 A0 n0 c0 (putzV l0)) : Ct Tryd.prog 25 [.slice A0 n0 c0] [F] (fun x : List Pr × List Sm.PR × Option Addr × Nat × Hp × Nat × Hp => .tuple #[.slice x.2.2.1 x.1.length x.2.2.2.1, Ptr x.2.2.2.2.2.1]) (fun x => Pairs x.1 x.2.1 ∧ x.1.length ≤ 12 ∧ Row x.2.2.2.2.1 115 2 x.2.2.1 x.1.length x.2.2.2.1 (prsV x.1) ∧ TreeS x.2.2.2.2.2.2 x.2.2.2.2.2.1 x.2.1) (fun x => [F, x.2.2.2.2.1, x.2.2.2.2.2.2]) := by
  have hn0 : l0.length = n0 := by have := sl0.1; simpa [putzV] using this
  refine Ct.walk Tryd.func25 rfl Tryd.ntmps25 rfl (fun w0 hw0 => ?_)
  change J _ [(0, _)] _ _ _
  refine J.seq (fun K1 hK1 => ?_)
  refine J.region ?_
  refine J.y (op_assign rfl rfl) rfl rfl rfl ?_
  refine J.y (op_assign rfl rfl) rfl rfl rfl ?_
  refine J.nil ?_
  refine J.then_n (J.k hK1 ?_)
  refine J.keepE [(0, _)] ⟨rfl, trivial⟩ ?_
  refine J.seq (fun K2 hK2 => ?_)
  refine J.region ?_
  refine J.y (op_assign rfl rfl) rfl rfl rfl ?_
  refine J.nil ?_
  refine J.then_n (J.k hK2 ?_)
  refine J.keepE [(0, _), (4, _)] ⟨rfl, rfl, trivial⟩ ?_
  refine J.seq (fun K3 hK3 => ?_)
  refine J.region ?_
  refine J.e (op_call rfl rfl ent10 (Ct.use (new := fun x : Nat × Hp => [x.2]) (fun F' hF => Ct.swap2 (tnew_ct F' )))) rfl rfl rfl ?_
  rintro ⟨g8, m8⟩ h8
  try dsimp only at h8
  change J _ ((8, Ptr g8) :: _) _ [F, m8] _
  refine J.y (op_assign rfl rfl) rfl rfl rfl ?_
  refine J.nil ?_
  refine J.then_n (J.k hK3 ?_)
  refine J.keepE [(0, _), (4, _), (5, _)] ⟨rfl, rfl, rfl, trivial⟩ ?_
  refine J.cut (X := List Pr × List Sm.PR × Option Addr × Nat × Hp × Hp) (fun ζ => [(4, .slice ζ.2.2.1 ζ.1.length ζ.2.2.2.1), (5, Ptr g8)]) (fun ζ => [F, ζ.2.2.2.2.1, ζ.2.2.2.2.2]) (fun ζ => Pairs ζ.1 ζ.2.1 ∧ ζ.1.length ≤ 12 ∧ Row ζ.2.2.2.2.1 115 2 ζ.2.2.1 ζ.1.length ζ.2.2.2.1 (prsV ζ.1) ∧ TreeS ζ.2.2.2.2.2 g8 ζ.2.1) (fun K4 hK4 => ?_) ?_
  ·
    refine J.seq (fun K5 hK5 => ?_)
    refine J.region ?_
    refine J.y (op_assign rfl rfl) rfl rfl rfl ?_
    refine J.nil ?_
    refine J.then_n (J.k hK5 ?_)
    refine J.keepE [(0, _), (4, _), (5, _), (6, _)] ⟨rfl, rfl, rfl, rfl, trivial⟩ ?_
    refine J.block ?_
    refine J.loop (X := Nat × List Pr × List Sm.PR × Option Addr × Nat × Hp × Hp) (fun ζ => [(0, .slice A0 n0 c0), (4, .slice ζ.2.2.2.1 ζ.2.1.length ζ.2.2.2.2.1), (5, Ptr g8), (6, I ((ζ.1 : Nat) : Int))]) (fun ζ => [F, ζ.2.2.2.2.2.1, ζ.2.2.2.2.2.2]) (fun ζ => Pairs ζ.2.1 ζ.2.2.1 ∧ ζ.1 ≤ 12 ∧ ζ.2.1.length ≤ ζ.1 ∧ Row ζ.2.2.2.2.2.1 115 2 ζ.2.2.2.1 ζ.2.1.length ζ.2.2.2.2.1 (prsV ζ.2.1) ∧ TreeS ζ.2.2.2.2.2.2 g8 ζ.2.2.1) (fun ζ => 12 - ζ.1) (0, [], [], none, 0, (fun _ => none), m8) (⟨Pairs.nil, Nat.zero_le _, Nat.zero_le _, RowQ.nil, h8⟩) ⟨rfl, rfl, rfl, rfl, trivial⟩ (fun _ h => h.empty.pick [0, 2, 1] (by decide)) ?_
    rintro ⟨i, m, kv, A, c, mr, mo⟩ ⟨hp, hi, hm, hr, ht⟩ I0 hI0
    dsimp only at hp hi hm hr ht ⊢
    have hln := hp.len
    refine J.seq (fun K6 hK6 => ?_)
    refine J.seq (fun K7 hK7 => ?_)
    refine J.region ?_
    refine J.y (op_move rfl rfl) rfl rfl rfl ?_
    refine J.y (op_move rfl rfl) rfl rfl rfl ?_
    refine J.y (op_len Tryd.underlying48 rfl rfl) rfl rfl rfl ?_
    refine J.y (op_lss rfl rfl rfl) rfl rfl rfl ?_
    refine J.y (op_move rfl rfl) rfl rfl rfl ?_
    refine J.split (d := 13) rfl (fun h13 => ?_) (fun h13 => ?_)
    ·
      refine J.yg (Wan.is rfl rfl rfl rfl rfl) (op_move rfl rfl) rfl rfl ?_
      refine J.yg (Wan.is rfl rfl rfl rfl rfl) (op_lss rfl rfl rfl) rfl rfl ?_
      refine J.y (op_pickT rfl rfl rfl) rfl rfl rfl ?_
      refine J.nil ?_
      refine J.then_n (J.k hK7 ?_)
      refine J.keepE [(0, _), (4, _), (5, _), (6, _), (16, _)] ⟨rfl, rfl, rfl, rfl, rfl, trivial⟩ ?_
      refine J.ite rfl (fun h16 => ?_) (fun h16 => ?_)
      ·
        refine J.skip ?_
        refine J.then_n (J.k hK6 ?_)
        refine J.keepE [(0, _), (4, _), (5, _), (6, _)] ⟨rfl, rfl, rfl, rfl, trivial⟩ ?_
        refine J.seq (fun K8 hK8 => ?_)
        refine J.block ?_
        refine J.seq (fun K9 hK9 => ?_)
        refine J.draw [F, mr, mo] [] (.y 0 (.y 1 (.y 2 (.y 3 (.y 4 (.y 5 (.y 6 (.y 7 (.y 8 (.y 9 (.y 10 (.y 11 (.y 12 (.y 13 .nil)))))))))))))) Tryd.wide (by decide +kernel) (by simp) ?_
        refine J.dy rfl (op_move rfl rfl) rfl rfl rfl rfl ?_
        refine J.dy rfl (op_move rfl rfl) rfl rfl rfl rfl ?_
        refine J.dy rfl (op_indexAddr (i := i) rfl rfl rfl Tryd.underlying48 Tryd.sizeOf50 sl0 (by first | omega | (simp only [List.length_append, List.length_cons, List.length_nil, List.length_take, List.length_drop] at *; omega))) rfl rfl rfl rfl ?_
        refine J.dy rfl (op_fieldAddrE (off := 2) rfl rfl Tryd.underlying50 rfl Tryd.sizeOf9 sl0 (by first | omega | (simp only [List.length_append, List.length_cons, List.length_nil, List.length_take, List.length_drop] at *; omega)) rfl) rfl rfl rfl rfl ?_
        refine J.dy rfl (op_load (v := Str ((l0.getD i noPz).v)) rfl rfl Tryd.isAgg9 (m := F) (by simp) (sl0.part (putzV_get (by first | omega | (simp only [List.length_append, List.length_cons, List.length_nil, List.length_take, List.length_drop] at *; omega))) 2 1)) rfl rfl rfl rfl ?_
        refine J.dy rfl (op_move rfl rfl) rfl rfl rfl rfl ?_
        refine J.dy rfl (op_move rfl rfl) rfl rfl rfl rfl ?_
        refine J.dy rfl (op_indexAddr (i := i) rfl rfl rfl Tryd.underlying48 Tryd.sizeOf50 sl0 (by first | omega | (simp only [List.length_append, List.length_cons, List.length_nil, List.length_take, List.length_drop] at *; omega))) rfl rfl rfl rfl ?_
        refine J.dy rfl (op_fieldAddrE (off := 2) rfl rfl Tryd.underlying50 rfl Tryd.sizeOf9 sl0 (by first | omega | (simp only [List.length_append, List.length_cons, List.length_nil, List.length_take, List.length_drop] at *; omega)) rfl) rfl rfl rfl rfl ?_
        refine J.dy rfl (op_load (v := Str ((l0.getD i noPz).v)) rfl rfl Tryd.isAgg9 (m := F) (by simp) (sl0.part (putzV_get (by first | omega | (simp only [List.length_append, List.length_cons, List.length_nil, List.length_take, List.length_drop] at *; omega))) 2 1)) rfl rfl rfl rfl ?_
        refine J.dy rfl (op_slen Tryd.underlying9 rfl rfl) rfl rfl rfl rfl ?_
        refine J.dy rfl ((op_min rfl rfl rfl).as (v' := I ((min (((l0.getD i noPz).v).length) 20 : Nat) : Int)) (congrArg I (by omega))) rfl rfl rfl rfl ?_
        refine J.dy rfl ((op_sslice (a := (l0.getD i noPz).v) (l := 0) (h := (min (((l0.getD i noPz).v).length) 20)) Tryd.underlying9 rfl rfl rfl rfl ⟨by first | omega | (simp only [List.length_append, List.length_cons, List.length_nil, List.length_take, List.length_drop] at *; omega), by first | omega | (simp only [List.length_append, List.length_cons, List.length_nil, List.length_take, List.length_drop] at *; omega)⟩).as (v' := Str (((l0.getD i noPz).v).take (min (((l0.getD i noPz).v).length) 20))) (congrArg Str List.drop_zero)) rfl rfl rfl rfl ?_
        refine J.dy rfl (op_assign rfl rfl) rfl rfl rfl rfl ?_
        refine J.dnil ?_
        refine J.then_n (J.k hK9 ?_)
        refine J.keepE [(0, _), (4, _), (5, _), (6, _), (7, _)] ⟨rfl, rfl, rfl, rfl, rfl, trivial⟩ ?_
        refine J.seq (fun K10 hK10 => ?_)
        obtain ⟨v, hv⟩ : ∃ v, v = ((l0.getD i noPz).v.take (min (l0.getD i noPz).v.length 20)) := ⟨_, rfl⟩
        rw [← hv]
        have hvl : v.length ≤ 20 := by rw [hv, List.length_take]; omega
        refine J.draw [F] [] (.y 0 (.y 1 (.y 2 (.y 3 (.y 4 (.y 5 (.y 6 (.y 7 (.y 8 (.y 9 (.y 10 (.y 12 (.e 11 (.e 13 .nil)))))))))))))) Tryd.wide (by decide +kernel) (by simp) ?_
        refine J.dy rfl (op_move rfl rfl) rfl rfl rfl rfl ?_
        refine J.dy rfl (op_move rfl rfl) rfl rfl rfl rfl ?_
        refine J.dy rfl (op_move rfl rfl) rfl rfl rfl rfl ?_
        refine J.dy rfl (op_indexAddr (i := i) rfl rfl rfl Tryd.underlying48 Tryd.sizeOf50 sl0 (by first | omega | (simp only [List.length_append, List.length_cons, List.length_nil, List.length_take, List.length_drop] at *; omega))) rfl rfl rfl rfl ?_
        refine J.dy rfl (op_fieldAddrE (off := 0) rfl rfl Tryd.underlying50 rfl Tryd.sizeOf5 sl0 (by first | omega | (simp only [List.length_append, List.length_cons, List.length_nil, List.length_take, List.length_drop] at *; omega)) rfl) rfl rfl rfl rfl ?_
        refine J.dy rfl (op_load (v := B8 ((l0.getD i noPz).a)) rfl rfl Tryd.isAgg5 (m := F) (by simp) (sl0.part (putzV_get (by first | omega | (simp only [List.length_append, List.length_cons, List.length_nil, List.length_take, List.length_drop] at *; omega))) 0 1)) rfl rfl rfl rfl ?_
        refine J.dy rfl (op_move rfl rfl) rfl rfl rfl rfl ?_
        refine J.dy rfl (op_move rfl rfl) rfl rfl rfl rfl ?_
        refine J.dy rfl (op_indexAddr (i := i) rfl rfl rfl Tryd.underlying48 Tryd.sizeOf50 sl0 (by first | omega | (simp only [List.length_append, List.length_cons, List.length_nil, List.length_take, List.length_drop] at *; omega))) rfl rfl rfl rfl ?_
        refine J.dy rfl (op_fieldAddrE (off := 1) rfl rfl Tryd.underlying50 rfl Tryd.sizeOf5 sl0 (by first | omega | (simp only [List.length_append, List.length_cons, List.length_nil, List.length_take, List.length_drop] at *; omega)) rfl) rfl rfl rfl rfl ?_
        refine J.dy rfl (op_load (v := B8 ((l0.getD i noPz).b)) rfl rfl Tryd.isAgg5 (m := F) (by simp) (sl0.part (putzV_get (by first | omega | (simp only [List.length_append, List.length_cons, List.length_nil, List.length_take, List.length_drop] at *; omega))) 1 1)) rfl rfl rfl rfl ?_
        refine J.dy rfl (op_move rfl rfl) rfl rfl rfl rfl ?_
        refine J.de rfl (op_call rfl rfl ent26 (Ct.use0 (fun F' hF => key14_ct F' ((l0.getD i noPz).a) ((l0.getD i noPz).b)))) rfl rfl rfl (by simp) ?_
        intro g43 _
        refine J.de rfl (op_call rfl rfl ent29 (Ct.use1 2 (m' := fun x : Hp => x) (new := fun _ => []) rfl (fun F' hF => tput_ct F' mo g8 kv ht (keyP ((l0.getD i noPz).a) ((l0.getD i noPz).b)) v (by first | omega | rfl | assumption)))) rfl rfl rfl (by simp) ?_
        rintro m45 h45
        change J _ ((45, I ((0 : Nat) : Int)) :: _) _ [F, mr, m45] _
        refine J.dnil ?_
        refine J.then_n (J.k hK10 ?_)
        refine J.keepE [(0, _), (4, _), (5, _), (6, _), (7, _)] ⟨rfl, rfl, rfl, rfl, rfl, trivial⟩ ?_
        refine J.draw [F] [] (.y 0 (.y 1 (.y 2 (.y 3 (.y 4 (.y 5 (.y 6 (.y 7 (.y 8 (.y 9 (.y 10 (.y 12 (.e 11 (.y 13 (.e 14 (.y 15 .nil)))))))))))))))) Tryd.wide (by decide +kernel) (by simp) ?_
        refine J.dy rfl (op_move rfl rfl) rfl rfl rfl rfl ?_
        refine J.dy rfl (op_move rfl rfl) rfl rfl rfl rfl ?_
        refine J.dy rfl (op_move rfl rfl) rfl rfl rfl rfl ?_
        refine J.dy rfl (op_indexAddr (i := i) rfl rfl rfl Tryd.underlying48 Tryd.sizeOf50 sl0 (by first | omega | (simp only [List.length_append, List.length_cons, List.length_nil, List.length_take, List.length_drop] at *; omega))) rfl rfl rfl rfl ?_
        refine J.dy rfl (op_fieldAddrE (off := 0) rfl rfl Tryd.underlying50 rfl Tryd.sizeOf5 sl0 (by first | omega | (simp only [List.length_append, List.length_cons, List.length_nil, List.length_take, List.length_drop] at *; omega)) rfl) rfl rfl rfl rfl ?_
        refine J.dy rfl (op_load (v := B8 ((l0.getD i noPz).a)) rfl rfl Tryd.isAgg5 (m := F) (by simp) (sl0.part (putzV_get (by first | omega | (simp only [List.length_append, List.length_cons, List.length_nil, List.length_take, List.length_drop] at *; omega))) 0 1)) rfl rfl rfl rfl ?_
        refine J.dy rfl (op_move rfl rfl) rfl rfl rfl rfl ?_
        refine J.dy rfl (op_move rfl rfl) rfl rfl rfl rfl ?_
        refine J.dy rfl (op_indexAddr (i := i) rfl rfl rfl Tryd.underlying48 Tryd.sizeOf50 sl0 (by first | omega | (simp only [List.length_append, List.length_cons, List.length_nil, List.length_take, List.length_drop] at *; omega))) rfl rfl rfl rfl ?_
        refine J.dy rfl (op_fieldAddrE (off := 1) rfl rfl Tryd.underlying50 rfl Tryd.sizeOf5 sl0 (by first | omega | (simp only [List.length_append, List.length_cons, List.length_nil, List.length_take, List.length_drop] at *; omega)) rfl) rfl rfl rfl rfl ?_
        refine J.dy rfl (op_load (v := B8 ((l0.getD i noPz).b)) rfl rfl Tryd.isAgg5 (m := F) (by simp) (sl0.part (putzV_get (by first | omega | (simp only [List.length_append, List.length_cons, List.length_nil, List.length_take, List.length_drop] at *; omega))) 1 1)) rfl rfl rfl rfl ?_
        refine J.dy rfl (op_move rfl rfl) rfl rfl rfl rfl ?_
        refine J.de rfl (op_call rfl rfl ent26 (Ct.use0 (fun F' hF => key14_ct F' ((l0.getD i noPz).a) ((l0.getD i noPz).b)))) rfl rfl rfl (by simp) ?_
        intro g57 _
        refine J.dy rfl (op_buildStruct (l := [(0, .tmp 57), (1, .tmp 58)]) (vs := [Str (keyP ((l0.getD i noPz).a) ((l0.getD i noPz).b)), Str (v)]) (places := [(0, 1), (1, 1)]) (r := [Str (keyP ((l0.getD i noPz).a) ((l0.getD i noPz).b)), Str (v)]) rfl rfl rfl Tryd.underlying115 Tryd.zeroValue115 (fun _ => by kernel_rfl) rfl) rfl rfl rfl rfl ?_
        refine J.de rfl (op_call rfl rfl ent61 (Ct.use (new := fun x : Option Addr × Nat × Hp => [x.2.2]) (fun F' hF => rset_ct F' A m.length c m (hr.sl.mono (hF mr (by simp))) (by omega) (keyP ((l0.getD i noPz).a) ((l0.getD i noPz).b)) v))) rfl rfl rfl (by simp) ?_
        rintro ⟨A60, c60, m60⟩ h60
        try dsimp only at h60
        change J _ ((60, .slice A60 (setR m ⟨(keyP ((l0.getD i noPz).a) ((l0.getD i noPz).b)), v⟩).length c60) :: _) _ [F, mr, m45, m60] _
        refine J.dy rfl (op_assign rfl rfl) rfl rfl rfl rfl ?_
        refine J.dnil ?_
        refine J.blk_n ?_
        refine J.then_n (J.k hK8 ?_)
        refine J.keepE [(0, _), (4, _), (5, _), (6, _)] ⟨rfl, rfl, rfl, rfl, trivial⟩ ?_
        refine J.region ?_
        refine J.y (op_move rfl rfl) rfl rfl rfl ?_
        refine J.y ((op_add rfl rfl rfl (by first | omega | (simp only [List.length_append, List.length_cons, List.length_nil, List.length_take, List.length_drop] at *; omega))).as (v' := I ((i + 1 : Nat) : Int)) (congrArg I (by omega))) rfl rfl rfl ?_
        refine J.y (op_assign rfl rfl) rfl rfl rfl ?_
        refine J.nil ?_
        refine J.then_n ?_
        exact J.kk (i + 1, setR m ⟨(keyP ((l0.getD i noPz).a) ((l0.getD i noPz).b)), v⟩, Sm.putP kv (keyP (l0.getD i noPz).a (l0.getD i noPz).b) v, A60, c60, m60, m45) (fun η (hη : _ ∧ 12 - η.1 < 12 - i) => hI0 η hη.1 hη.2) ⟨⟨hp.set (keyP_len _ _) (by omega) (by omega), by dsimp only; omega, by have h1 := setR_len m ⟨(keyP (l0.getD i noPz).a (l0.getD i noPz).b), v⟩; have h2 := filtR_len (keyP (l0.getD i noPz).a (l0.getD i noPz).b) m; dsimp only at h1 ⊢; omega, h60, h45⟩, by first | omega | (dsimp only; omega)⟩ ⟨rfl, rfl, rfl, rfl, trivial⟩ (fun _ h => h.pick [0, 3, 2] (by decide))
      ·
        refine J.exit ?_
        refine J.then_x ?_
        refine J.then_x ?_
        refine J.blk_eq ?_
        refine J.then_n ?_
        exact J.kk (m, kv, A, c, mr, mo) hK4 (⟨hp, by dsimp only; omega, hr, ht⟩) ⟨rfl, rfl, trivial⟩ (fun _ h => h)
    ·
      refine J.no (Wan.is rfl rfl rfl rfl rfl) rfl rfl ?_
      refine J.no (Wan.is rfl rfl rfl rfl rfl) rfl rfl ?_
      refine J.y (op_pickF rfl rfl rfl) rfl rfl rfl ?_
      refine J.nil ?_
      refine J.then_n (J.k hK7 ?_)
      refine J.keepE [(0, _), (4, _), (5, _), (6, _), (16, _)] ⟨rfl, rfl, rfl, rfl, rfl, trivial⟩ ?_
      refine J.condF rfl rfl ?_
      refine J.exit ?_
      refine J.then_x ?_
      refine J.then_x ?_
      refine J.blk_eq ?_
      refine J.then_n ?_
      exact J.kk (m, kv, A, c, mr, mo) hK4 (⟨hp, by dsimp only; omega, hr, ht⟩) ⟨rfl, rfl, trivial⟩ (fun _ h => h)
  rintro ⟨m, kv, A, c, mr, mo⟩ ⟨hp, hm, hr, ht⟩
  dsimp only at hp hm hr ht ⊢
  refine J.seq (fun K11 hK11 => ?_)
  refine J.region ?_
  refine J.y (op_move rfl rfl) rfl rfl rfl ?_
  refine J.y (op_move rfl rfl) rfl rfl rfl ?_
  refine J.y (op_assign rfl rfl) rfl rfl rfl ?_
  refine J.y (op_assign rfl rfl) rfl rfl rfl ?_
  refine J.nil ?_
  refine J.then_n (J.k hK11 ?_)
  refine J.keepE [(2, _), (3, _)] ⟨rfl, rfl, trivial⟩ ?_
  refine J.ret ?_
  exact J.done hw0 (fun _ _ h => h) (res2 rfl rfl rfl) (retOk (m, kv, A, c, mr, g8, mo) rfl ⟨hp, hm, hr, ht⟩ [0, 1, 2] rfl (by decide))

theorem sp14 : Sm.putP [] (keyP 1 2) [118] = [(keyP 1 2, [118])] := rfl
theorem sp14g : Sm.getP [(keyP 1 2, [118])] (keyP 1 2) = some [118] := by rw [Sm.getP, if_pos rfl]
theorem sp14n : Sm.getP [(keyP 1 2, [118])] (keyP 9 9) = none := by rw [Sm.getP, if_neg (by decide)]; rfl

theorem speaks14_ct (F : Hp) (hK : Cells F ⟨1, 0, none⟩ (Sha.K.map W32)) : Ct Tryd.prog 24 [] [F] (fun _ : Unit => .bool true) (fun _ => True) (fun _ => [F]) := by
  refine Ct.walk Tryd.func24 rfl Tryd.ntmps24 rfl (fun w0 hw0 => ?_)
  change J _ [] _ _ _
  refine J.seq (fun K1 hK1 => ?_)
  refine J.region ?_
  refine J.y (op_assign rfl rfl) rfl rfl rfl ?_
  refine J.nil ?_
  refine J.then_n (J.k hK1 ?_)
  refine J.keepE [] trivial ?_
  refine J.seq (fun K2 hK2 => ?_)
  refine J.region ?_
  refine J.e (op_call rfl rfl ent10 (Ct.use (new := fun x : Nat × Hp => [x.2]) (fun F' hF => Ct.swap2 (tnew_ct F' )))) rfl rfl rfl ?_
  rintro ⟨g6, m6⟩ h6
  try dsimp only at h6
  change J _ ((6, Ptr g6) :: _) _ [F, m6] _
  refine J.y (op_assign rfl rfl) rfl rfl rfl ?_
  refine J.nil ?_
  refine J.then_n (J.k hK2 ?_)
  refine J.keepE [(1, _)] ⟨rfl, trivial⟩ ?_
  refine J.seq (fun K3 hK3 => ?_)
  refine J.region ?_
  refine J.y (op_move rfl rfl) rfl rfl rfl ?_
  refine J.e (op_call rfl rfl ent26 (Ct.use0 (fun F' hF => key14_ct F' 1 2))) rfl rfl rfl ?_
  intro g8 _
  refine J.e (op_call rfl rfl ent29 (Ct.use1 1 (m' := fun x : Hp => x) (new := fun _ => []) rfl (fun F' hF => tput_ct F' m6 g6 ([]) h6 (keyP 1 2) ([118]) (by first | omega | rfl | assumption)))) rfl rfl rfl ?_
  rintro m9 h9
  change J _ ((9, I ((0 : Nat) : Int)) :: _) _ [F, m9] _
  refine J.nil ?_
  refine J.then_n (J.k hK3 ?_)
  refine J.keepE [(1, _)] ⟨rfl, trivial⟩ ?_
  refine J.seq (fun K4 hK4 => ?_)
  rw [sp14] at h9
  have hfi := fine_one (keyP 1 2) [118] rfl (by decide)
  refine J.region ?_
  refine J.y (op_move rfl rfl) rfl rfl rfl ?_
  refine J.e (op_call rfl rfl ent26 (Ct.use0 (fun F' hF => key14_ct F' 1 2))) rfl rfl rfl ?_
  intro g12 _
  refine J.e (op_call rfl rfl ent27 (Ct.use (new := fun x : Nat × Option Addr × Nat × Hp => [x.2.2.2]) (fun F' hF => prove_ct F' (hK.mono (hF F (by simp))) g6 [(keyP 1 2, [118])] (h9.at.mono (hF m9 (by simp))) hfi (keyP 1 2) (by first | assumption | rfl) 0 (by omega)))) rfl rfl rfl ?_
  rintro ⟨s13, A13, c13, m13⟩ ⟨hst13, hr13⟩
  change J _ ((13, .tuple #[.agg #[.slice A13 (bsd [(keyP 1 2, [118])] (keyP 1 2) 0 (s13 - 0)).length c13, .bool (pThere [(keyP 1 2, [118])] (keyP 1 2) s13), Str (pKey [(keyP 1 2, [118])] (keyP 1 2) s13), Str (pVal [(keyP 1 2, [118])] (keyP 1 2) s13)], I 0]) :: _) _ [F, m9, m13] _
  refine J.y (op_move rfl rfl) rfl rfl rfl ?_
  refine J.y (op_extract (v := .agg #[.slice A13 ((bsd [(keyP 1 2, [118])] (keyP 1 2) 0 (s13 - 0)).length) c13, .bool (pThere [(keyP 1 2, [118])] (keyP 1 2) s13), Str (pKey [(keyP 1 2, [118])] (keyP 1 2) s13), Str (pVal [(keyP 1 2, [118])] (keyP 1 2) s13)]) rfl rfl rfl) rfl rfl rfl ?_
  refine J.y (op_extract (v := I ((0 : Nat) : Int)) rfl rfl rfl) rfl rfl rfl ?_
  refine J.e (op_alloc (l := [.slice none 0 0, .bool false, Str [], Str []]) rfl Tryd.zeroValue57 rfl) rfl rfl rfl ?_
  intro g2 _
  change J _ _ _ [F, m9, m13, blk g2 [.slice none 0 0, .bool false, Str [], Str []] 57] _
  refine J.s (op_storeAll (i := 3) (l := [.slice none 0 0, .bool false, Str [], Str []]) (vs := [.slice A13 ((bsd [(keyP 1 2, [118])] (keyP 1 2) 0 (s13 - 0)).length) c13, .bool (pThere [(keyP 1 2, [118])] (keyP 1 2) s13), Str (pKey [(keyP 1 2, [118])] (keyP 1 2) s13), Str (pVal [(keyP 1 2, [118])] (keyP 1 2) s13)]) rfl rfl rfl rfl rfl Tryd.sizeOf57 rfl rfl) rfl rfl (fun _ _ => ?_)
  change J _ _ _ [F, m9, m13, blk g2 [.slice A13 ((bsd [(keyP 1 2, [118])] (keyP 1 2) 0 (s13 - 0)).length) c13, .bool (pThere [(keyP 1 2, [118])] (keyP 1 2) s13), Str (pKey [(keyP 1 2, [118])] (keyP 1 2) s13), Str (pVal [(keyP 1 2, [118])] (keyP 1 2) s13)] 57] _
  refine J.y (op_assign rfl rfl) rfl rfl rfl ?_
  refine J.nil ?_
  refine J.then_n (J.k hK4 ?_)
  refine J.keepE [(1, _), (2, _), (3, _)] ⟨rfl, rfl, rfl, trivial⟩ ?_
  refine J.seq (fun K5 hK5 => ?_)
  refine J.region ?_
  refine J.y (op_move rfl rfl) rfl rfl rfl ?_
  refine J.e (op_call rfl rfl ent26 (Ct.use0 (fun F' hF => key14_ct F' 9 9))) rfl rfl rfl ?_
  intro g18 _
  refine J.e (op_call rfl rfl ent27 (Ct.use (new := fun x : Nat × Option Addr × Nat × Hp => [x.2.2.2]) (fun F' hF => prove_ct F' (hK.mono (hF F (by simp))) g6 [(keyP 1 2, [118])] (h9.at.mono (hF m9 (by simp))) hfi (keyP 9 9) (by first | assumption | rfl) 0 (by omega)))) rfl rfl rfl ?_
  rintro ⟨s19, A19, c19, m19⟩ ⟨hst19, hr19⟩
  change J _ ((19, .tuple #[.agg #[.slice A19 (bsd [(keyP 1 2, [118])] (keyP 9 9) 0 (s19 - 0)).length c19, .bool (pThere [(keyP 1 2, [118])] (keyP 9 9) s19), Str (pKey [(keyP 1 2, [118])] (keyP 9 9) s19), Str (pVal [(keyP 1 2, [118])] (keyP 9 9) s19)], I 0]) :: _) _ [F, m9, m13, blk g2 [.slice A13 ((bsd [(keyP 1 2, [118])] (keyP 1 2) 0 (s13 - 0)).length) c13, .bool (pThere [(keyP 1 2, [118])] (keyP 1 2) s13), Str (pKey [(keyP 1 2, [118])] (keyP 1 2) s13), Str (pVal [(keyP 1 2, [118])] (keyP 1 2) s13)] 57, m19] _
  refine J.y (op_move rfl rfl) rfl rfl rfl ?_
  refine J.y (op_extract (v := .agg #[.slice A19 ((bsd [(keyP 1 2, [118])] (keyP 9 9) 0 (s19 - 0)).length) c19, .bool (pThere [(keyP 1 2, [118])] (keyP 9 9) s19), Str (pKey [(keyP 1 2, [118])] (keyP 9 9) s19), Str (pVal [(keyP 1 2, [118])] (keyP 9 9) s19)]) rfl rfl rfl) rfl rfl rfl ?_
  refine J.y (op_extract (v := I ((0 : Nat) : Int)) rfl rfl rfl) rfl rfl rfl ?_
  refine J.e (op_alloc (l := [.slice none 0 0, .bool false, Str [], Str []]) rfl Tryd.zeroValue57 rfl) rfl rfl rfl ?_
  intro g4 _
  change J _ _ _ [F, m9, m13, blk g2 [.slice A13 ((bsd [(keyP 1 2, [118])] (keyP 1 2) 0 (s13 - 0)).length) c13, .bool (pThere [(keyP 1 2, [118])] (keyP 1 2) s13), Str (pKey [(keyP 1 2, [118])] (keyP 1 2) s13), Str (pVal [(keyP 1 2, [118])] (keyP 1 2) s13)] 57, m19, blk g4 [.slice none 0 0, .bool false, Str [], Str []] 57] _
  refine J.s (op_storeAll (i := 5) (l := [.slice none 0 0, .bool false, Str [], Str []]) (vs := [.slice A19 ((bsd [(keyP 1 2, [118])] (keyP 9 9) 0 (s19 - 0)).length) c19, .bool (pThere [(keyP 1 2, [118])] (keyP 9 9) s19), Str (pKey [(keyP 1 2, [118])] (keyP 9 9) s19), Str (pVal [(keyP 1 2, [118])] (keyP 9 9) s19)]) rfl rfl rfl rfl rfl Tryd.sizeOf57 rfl rfl) rfl rfl (fun _ _ => ?_)
  change J _ _ _ [F, m9, m13, blk g2 [.slice A13 ((bsd [(keyP 1 2, [118])] (keyP 1 2) 0 (s13 - 0)).length) c13, .bool (pThere [(keyP 1 2, [118])] (keyP 1 2) s13), Str (pKey [(keyP 1 2, [118])] (keyP 1 2) s13), Str (pVal [(keyP 1 2, [118])] (keyP 1 2) s13)] 57, m19, blk g4 [.slice A19 ((bsd [(keyP 1 2, [118])] (keyP 9 9) 0 (s19 - 0)).length) c19, .bool (pThere [(keyP 1 2, [118])] (keyP 9 9) s19), Str (pKey [(keyP 1 2, [118])] (keyP 9 9) s19), Str (pVal [(keyP 1 2, [118])] (keyP 9 9) s19)] 57] _
  refine J.y (op_assign rfl rfl) rfl rfl rfl ?_
  refine J.nil ?_
  refine J.then_n (J.k hK5 ?_)
  refine J.keepE [(1, _), (2, _), (3, _), (4, _), (5, _)] ⟨rfl, rfl, rfl, rfl, rfl, trivial⟩ ?_
  refine J.seq (fun K6 hK6 => ?_)
  have hga : GoodP (bsd [(keyP 1 2, [118])] (keyP 1 2) 0 (s13 - 0)) (pThere [(keyP 1 2, [118])] (keyP 1 2) s13) (pKey [(keyP 1 2, [118])] (keyP 1 2) s13) (pVal [(keyP 1 2, [118])] (keyP 1 2) s13) (keyP 1 2) 0 := prove_good hfi (by first | assumption | rfl) hst13
  have hva := pVal_small hfi (keyP 1 2) s13
  have hgb : GoodP (bsd [(keyP 1 2, [118])] (keyP 9 9) 0 (s19 - 0)) (pThere [(keyP 1 2, [118])] (keyP 9 9) s19) (pKey [(keyP 1 2, [118])] (keyP 9 9) s19) (pVal [(keyP 1 2, [118])] (keyP 9 9) s19) (keyP 9 9) 0 := prove_good hfi (by first | assumption | rfl) hst19
  have hvb := pVal_small hfi (keyP 9 9) s19
  have hz1 : Sm.ndB [(keyP 1 2, [118])] (keyP 1 2) 0 = Sm.nd 128 [(keyP 1 2, [118])] := Sm.ndB_zero _ _
  have hz2 : Sm.ndB [(keyP 1 2, [118])] (keyP 9 9) 0 = Sm.nd 128 [(keyP 1 2, [118])] := Sm.ndB_zero _ _
  have hp1 := prove_has hfi (k := (keyP 1 2)) rfl hst13
  rw [hz1, sp14g] at hp1
  have hp2 := prove_lacks hfi (k := (keyP 9 9)) rfl hst19
  rw [hz2, sp14n] at hp2
  have hp3 := prove_lacks hfi (k := (keyP 1 2)) rfl hst13
  rw [hz1, sp14g] at hp3
  dsimp only [Option.getD, Option.isSome] at hp1 hp2 hp3
  rw [Bool.not_false] at hp2
  rw [Bool.not_true] at hp3
  refine J.draw [F, m9, m13, blk g2 [.slice A13 ((bsd [(keyP 1 2, [118])] (keyP 1 2) 0 (s13 - 0)).length) c13, .bool (pThere [(keyP 1 2, [118])] (keyP 1 2) s13), Str (pKey [(keyP 1 2, [118])] (keyP 1 2) s13), Str (pVal [(keyP 1 2, [118])] (keyP 1 2) s13)] 57, m19, blk g4 [.slice A19 ((bsd [(keyP 1 2, [118])] (keyP 9 9) 0 (s19 - 0)).length) c19, .bool (pThere [(keyP 1 2, [118])] (keyP 9 9) s19), Str (pKey [(keyP 1 2, [118])] (keyP 9 9) s19), Str (pVal [(keyP 1 2, [118])] (keyP 9 9) s19)] 57] [] (.y 0 (.y 1 (.y 2 (.y 3 (.y 4 (.y 5 (.y 6 (.y 7 (.y 8 (.e 9 (.e 10 (.e 11 (.y 12 (.y 13 (.y 14 (.y 15 (.e 16 (.e 17 (.e 18 (.y 19 (.y 20 (.y 21 (.y 22 (.e 23 (.e 24 (.e 25 (.y 26 (.y 27 (.y 28 .nil))))))))))))))))))))))))))))) Tryd.wide (by decide +kernel) (by simp) ?_
  refine J.dy rfl (op_move rfl rfl) rfl rfl rfl rfl ?_
  refine J.dy rfl ((op_eql rfl rfl rfl).as (v' := .bool true) (congrArg Value.bool (decide_eq_true (by decide)))) rfl rfl rfl rfl ?_
  refine J.dy rfl (op_move rfl rfl) rfl rfl rfl rfl ?_
  refine J.dyg rfl (op_move rfl rfl) (Wan.is rfl rfl rfl rfl rfl) rfl rfl rfl ?_
  refine J.dyg rfl ((op_eql rfl rfl rfl).as (v' := .bool true) (congrArg Value.bool (decide_eq_true (by decide)))) (Wan.is rfl rfl rfl rfl rfl) rfl rfl rfl ?_
  refine J.dy rfl (op_pickT rfl rfl rfl) rfl rfl rfl rfl ?_
  refine J.dy rfl (op_move rfl rfl) rfl rfl rfl rfl ?_
  refine J.dyg rfl (op_loadBA 3 rfl rfl rfl Tryd.isAgg57 Tryd.sizeOf57 rfl) (Wan.is rfl rfl rfl rfl rfl) rfl rfl rfl ?_
  refine J.dyg rfl (op_move rfl rfl) (Wan.is rfl rfl rfl rfl rfl) rfl rfl rfl ?_
  refine J.deg rfl (op_call rfl rfl ent48 (Ct.use0 (fun F' hF => troot_ct F' (hK.mono (hF F (by simp))) g6 ([(keyP 1 2, [118])]) (h9.at.mono (hF m9 (by simp))) (by assumption)))) (Wan.is rfl rfl rfl rfl rfl) rfl rfl (by simp) ?_
  intro g31 _
  refine J.deg rfl (op_call rfl rfl ent26 (Ct.use0 (fun F' hF => key14_ct F' 1 2))) (Wan.is rfl rfl rfl rfl rfl) rfl rfl (by simp) ?_
  intro g32 _
  refine J.deg rfl (op_call rfl rfl ent59 (Ct.use0 (fun F' hF => has14_ct F' (hK.mono (hF F (by simp))) A13 c13 (bsd [(keyP 1 2, [118])] (keyP 1 2) 0 (s13 - 0)) (hr13.sl.mono (hF m13 (by simp))) (pThere [(keyP 1 2, [118])] (keyP 1 2) s13) (pKey [(keyP 1 2, [118])] (keyP 1 2) s13) (pVal [(keyP 1 2, [118])] (keyP 1 2) s13) (keyP 1 2) 0 (by assumption) (Sm.nd 128 ([(keyP 1 2, [118])])) ([118]) (by assumption)))) (Wan.is rfl rfl rfl rfl rfl) rfl rfl (by simp) ?_
  intro g33 _
  rw [hp1]
  refine J.dy rfl (op_pickT rfl rfl rfl) rfl rfl rfl rfl ?_
  refine J.dy rfl (op_move rfl rfl) rfl rfl rfl rfl ?_
  refine J.dyg rfl (op_loadBA 5 rfl rfl rfl Tryd.isAgg57 Tryd.sizeOf57 rfl) (Wan.is rfl rfl rfl rfl rfl) rfl rfl rfl ?_
  refine J.dyg rfl (op_move rfl rfl) (Wan.is rfl rfl rfl rfl rfl) rfl rfl rfl ?_
  refine J.deg rfl (op_call rfl rfl ent48 (Ct.use0 (fun F' hF => troot_ct F' (hK.mono (hF F (by simp))) g6 ([(keyP 1 2, [118])]) (h9.at.mono (hF m9 (by simp))) (by assumption)))) (Wan.is rfl rfl rfl rfl rfl) rfl rfl (by simp) ?_
  intro g38 _
  refine J.deg rfl (op_call rfl rfl ent26 (Ct.use0 (fun F' hF => key14_ct F' 9 9))) (Wan.is rfl rfl rfl rfl rfl) rfl rfl (by simp) ?_
  intro g39 _
  refine J.deg rfl (op_call rfl rfl ent60 (Ct.use0 (fun F' hF => lacks14_ct F' (hK.mono (hF F (by simp))) A19 c19 (bsd [(keyP 1 2, [118])] (keyP 9 9) 0 (s19 - 0)) (hr19.sl.mono (hF m19 (by simp))) (pThere [(keyP 1 2, [118])] (keyP 9 9) s19) (pKey [(keyP 1 2, [118])] (keyP 9 9) s19) (pVal [(keyP 1 2, [118])] (keyP 9 9) s19) (keyP 9 9) 0 (by assumption) (Sm.nd 128 ([(keyP 1 2, [118])])) (by assumption)))) (Wan.is rfl rfl rfl rfl rfl) rfl rfl (by simp) ?_
  intro g40 _
  rw [hp2]
  refine J.dy rfl (op_pickT rfl rfl rfl) rfl rfl rfl rfl ?_
  refine J.dy rfl (op_move rfl rfl) rfl rfl rfl rfl ?_
  refine J.dyg rfl (op_loadBA 3 rfl rfl rfl Tryd.isAgg57 Tryd.sizeOf57 rfl) (Wan.is rfl rfl rfl rfl rfl) rfl rfl rfl ?_
  refine J.dyg rfl (op_move rfl rfl) (Wan.is rfl rfl rfl rfl rfl) rfl rfl rfl ?_
  refine J.deg rfl (op_call rfl rfl ent48 (Ct.use0 (fun F' hF => troot_ct F' (hK.mono (hF F (by simp))) g6 ([(keyP 1 2, [118])]) (h9.at.mono (hF m9 (by simp))) (by assumption)))) (Wan.is rfl rfl rfl rfl rfl) rfl rfl (by simp) ?_
  intro g45 _
  refine J.deg rfl (op_call rfl rfl ent26 (Ct.use0 (fun F' hF => key14_ct F' 1 2))) (Wan.is rfl rfl rfl rfl rfl) rfl rfl (by simp) ?_
  intro g46 _
  refine J.deg rfl (op_call rfl rfl ent60 (Ct.use0 (fun F' hF => lacks14_ct F' (hK.mono (hF F (by simp))) A13 c13 (bsd [(keyP 1 2, [118])] (keyP 1 2) 0 (s13 - 0)) (hr13.sl.mono (hF m13 (by simp))) (pThere [(keyP 1 2, [118])] (keyP 1 2) s13) (pKey [(keyP 1 2, [118])] (keyP 1 2) s13) (pVal [(keyP 1 2, [118])] (keyP 1 2) s13) (keyP 1 2) 0 (by assumption) (Sm.nd 128 ([(keyP 1 2, [118])])) (by assumption)))) (Wan.is rfl rfl rfl rfl rfl) rfl rfl (by simp) ?_
  intro g47 _
  rw [hp3]
  refine J.dyg rfl (op_not rfl rfl) (Wan.is rfl rfl rfl rfl rfl) rfl rfl rfl ?_
  refine J.dy rfl (op_pickT rfl rfl rfl) rfl rfl rfl rfl ?_
  refine J.dy rfl (op_assign rfl rfl) rfl rfl rfl rfl ?_
  refine J.dnil ?_
  refine J.then_n (J.k hK6 ?_)
  refine J.keepE [(0, _)] ⟨rfl, trivial⟩ ?_
  refine J.ret ?_
  exact J.done hw0 (fun _ _ h => h) (res1 rfl rfl) (retOk () rfl trivial [0] rfl (by decide))

end Go.Proofs.YtnkfapecbmmpeaaDoor
