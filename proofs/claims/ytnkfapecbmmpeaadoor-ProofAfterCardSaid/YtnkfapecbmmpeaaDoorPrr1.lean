/- A part of the proof: contracts of functions of the program, each for every state of the heaps that it names. -/
import Derived.Test.YtnkfapecbmmpeaaDoorPrf3
import Derived.Test.YtnkfapecbmmpeaaDoorPrq
set_option linter.unusedSimpArgs false
set_option linter.unusedVariables false
namespace Go.Proofs.YtnkfapecbmmpeaaDoor
open Go Go.Fw
set_option maxRecDepth 100000
set_option maxHeartbeats 1000000
theorem ent71 : Enters Tryd.prog 71 := Enters.of Tryd.func71 rfl (by kernel_rfl)
theorem ent113 : Enters Tryd.prog 113 := Enters.of Tryd.func113 rfl (by kernel_rfl)
theorem ent154 : Enters Tryd.prog 154 := Enters.of Tryd.func154 rfl (by kernel_rfl)
theorem ent192 : Enters Tryd.prog 192 := Enters.of Tryd.func192 rfl (by kernel_rfl)

def len8T : List UInt8 := [0, 1, 2, 2, 3, 3, 3, 3, 4, 4, 4, 4, 4, 4, 4, 4, 5, 5, 5, 5, 5, 5, 5, 5, 5, 5, 5, 5, 5, 5, 5, 5, 6, 6, 6, 6, 6, 6, 6, 6, 6, 6, 6, 6, 6, 6, 6, 6, 6, 6, 6, 6, 6, 6, 6, 6, 6, 6, 6, 6, 6, 6, 6, 6, 7, 7, 7, 7, 7, 7, 7, 7, 7, 7, 7, 7, 7, 7, 7, 7, 7, 7, 7, 7, 7, 7, 7, 7, 7, 7, 7, 7, 7, 7, 7, 7, 7, 7, 7, 7, 7, 7, 7, 7, 7, 7, 7, 7, 7, 7, 7, 7, 7, 7, 7, 7, 7, 7, 7, 7, 7, 7, 7, 7, 7, 7, 7, 7, 8, 8, 8, 8, 8, 8, 8, 8, 8, 8, 8, 8, 8, 8, 8, 8, 8, 8, 8, 8, 8, 8, 8, 8, 8, 8, 8, 8, 8, 8, 8, 8, 8, 8, 8, 8, 8, 8, 8, 8, 8, 8, 8, 8, 8, 8, 8, 8, 8, 8, 8, 8, 8, 8, 8, 8, 8, 8, 8, 8, 8, 8, 8, 8, 8, 8, 8, 8, 8, 8, 8, 8, 8, 8, 8, 8, 8, 8, 8, 8, 8, 8, 8, 8, 8, 8, 8, 8, 8, 8, 8, 8, 8, 8, 8, 8, 8, 8, 8, 8, 8, 8, 8, 8, 8, 8, 8, 8, 8, 8, 8, 8, 8, 8, 8, 8, 8, 8, 8, 8, 8, 8, 8, 8, 8, 8, 8, 8]
theorem len8_tab : ∀ x : Fin 256, len8T[x.val]? = some (UInt8.ofNat (len8 x.val)) := by decide +kernel
theorem len8_at (x : UInt8) : len8T[x.toNat]? = some (UInt8.ofNat (len8 x.toNat)) := len8_tab ⟨x.toNat, x.toNat_lt⟩
theorem len8_le : ∀ x : Fin 256, len8 x.val ≤ 8 := by decide +kernel
theorem len8_b (x : UInt8) : (UInt8.ofNat (len8 x.toNat)).toNat = len8 x.toNat := by
  have := len8_le ⟨x.toNat, x.toNat_lt⟩
  dsimp only at this
  rw [UInt8.toNat_ofNat']; omega
theorem len8_8 (x : UInt8) : len8 x.toNat ≤ 8 := len8_le ⟨x.toNat, x.toNat_lt⟩
theorem same16 {k q : List UInt8} (hk : k.length = 16) (hq : q.length = 16) (h : ∀ j, j < 16 → k.getD j 0 = q.getD j 0) : q = k := by
  refine List.ext_getElem (by omega) fun j h1 h2 => ?_
  have := h j (by omega)
  rw [List.getD_eq_getElem?_getD, List.getD_eq_getElem?_getD, List.getElem?_eq_getElem h1, List.getElem?_eq_getElem h2] at this
  exact this.symm
/-- the node at the end of the way, once the key has a value -/
def afterE (bs : List (List UInt8)) (th : Bool) (pk pv k v : List UInt8) (d : Nat) : List UInt8 := if th = true ∧ pk ≠ k then Sm.ndB [(k, v), (pk, pv)] k (d + bs.length) else Sb.leafN k v
def afterV (bs : List (List UInt8)) (th : Bool) (pk pv k v : List UInt8) (d : Nat) : List UInt8 := clm k d bs (afterE bs th pk pv k v d) bs.length
theorem prove_after {kv : List Sm.PR} (hf : Fine kv) {k v : List UInt8} (hk : k.length = 16) (hv : v.length ≤ 1000000) (hl : kv.length ≤ 100000) {d s : Nat} (h : Stop kv k d s) :
    afterV (bsd kv k d (s - d)) (pThere kv k s) (pKey kv k s) (pVal kv k s) k v d = Sm.ndB (Sm.putP kv k v) k d := by
  have h1 := h.le
  have h2 := h.ge
  have hone := h.one
  have hf' := hf.put hk hv hl
  have h3 := clm_node hf' hk (d := d) (n := s - d) (by omega) (s - d) (Nat.le_refl _)
  rw [show d + (s - d) = s by omega, show s - (s - d) = d by omega, bsd_put hf hk hv hl (by omega)] at h3
  unfold afterV
  rw [bsd_len, ← h3]
  congr 1
  unfold afterE
  rw [bsd_len, show d + (s - d) = s by omega]
  split
  · rename_i hc
    have hc1 : (kd kv k s).length = 1 := of_decide_eq_true hc.1
    exact (put_end2 hf hk hv hl h1 (cur_one hf.once hc1) hc.2).symm
  · rename_i hc
    refine (put_end hf hk hv hl h1 fun p hp => ?_).symm
    have hc1 : (kd kv k s).length = 1 := by
      rw [kd_len hf.once]
      have := List.length_pos_of_mem hp
      omega
    have ht : pThere kv k s = true := decide_eq_true hc1
    rw [cur_one hf.once hc1, List.mem_singleton] at hp
    rw [hp]
    exact Decidable.by_contra fun q => hc ⟨ht, q⟩

theorem xor_eq {x y : UInt8} (h : (x ^^^ y).toNat = 0) : x = y := by
  have : x ^^^ y = 0 := UInt8.toNat_inj.1 h
  exact UInt8.xor_eq_zero_iff.1 this

theorem len8_ct (F : Hp) (x : UInt8) : Ct Tryd.prog 192 [B8 (x)] [F] (fun _ : Unit => I ((len8 x.toNat : Nat) : Int)) (fun _ => True) (fun _ => [F]) := by
  refine Ct.walk Tryd.func192 rfl Tryd.ntmps192 rfl (fun w0 hw0 => ?_)
  change J _ [(0, _)] _ _ _
  refine J.seq (fun K1 hK1 => ?_)
  refine J.region ?_
  refine J.y (op_assign rfl rfl) rfl rfl rfl ?_
  refine J.nil ?_
  refine J.then_n (J.k hK1 ?_)
  refine J.keepE [(0, _)] ⟨rfl, trivial⟩ ?_
  refine J.seq (fun K2 hK2 => ?_)
  refine J.region ?_
  refine J.y (op_move rfl rfl) rfl rfl rfl ?_
  refine J.y (op_sindex (a := len8T) Tryd.underlying9 rfl rfl rfl (len8_at x)) rfl rfl rfl ?_
  refine J.y (op_cv_u8_i64 rfl rfl Tryd.underlying5 Tryd.underlying3) rfl rfl rfl ?_
  refine J.y (op_assign rfl rfl) rfl rfl rfl ?_
  refine J.nil ?_
  refine J.then_n (J.k hK2 ?_)
  refine J.keepE [(2, _)] ⟨rfl, trivial⟩ ?_
  refine J.ret ?_
  exact J.done hw0 (fun _ _ h => h) (res1 rfl rfl) (retOk () (by rw [len8_b]) trivial [0] rfl (by decide))

theorem lead8_ct (F : Hp) (x : UInt8) : Ct Tryd.prog 154 [B8 (x)] [F] (fun _ : Unit => I ((8 - len8 x.toNat : Nat) : Int)) (fun _ => True) (fun _ => [F]) := by
  have h8 := len8_8 x
  refine Ct.walk Tryd.func154 rfl Tryd.ntmps154 rfl (fun w0 hw0 => ?_)
  change J _ [(0, _)] _ _ _
  refine J.seq (fun K1 hK1 => ?_)
  refine J.region ?_
  refine J.y (op_assign rfl rfl) rfl rfl rfl ?_
  refine J.nil ?_
  refine J.then_n (J.k hK1 ?_)
  refine J.keepE [(0, _)] ⟨rfl, trivial⟩ ?_
  refine J.seq (fun K2 hK2 => ?_)
  refine J.region ?_
  refine J.y (op_move rfl rfl) rfl rfl rfl ?_
  refine J.e (op_call rfl rfl ent192 (Ct.use0 (fun F' hF => len8_ct F' x))) rfl rfl rfl ?_
  intro g4 _
  refine J.y (op_sub rfl rfl rfl (by first | omega | (simp only [List.length_append, List.length_cons, List.length_nil, List.length_take, List.length_drop] at *; omega))) rfl rfl rfl ?_
  refine J.y (op_assign rfl rfl) rfl rfl rfl ?_
  refine J.nil ?_
  refine J.then_n (J.k hK2 ?_)
  refine J.keepE [(2, _)] ⟨rfl, trivial⟩ ?_
  refine J.ret ?_
  exact J.done hw0 (fun _ _ h => h) (res1 rfl rfl) (retOk () (congrArg I (by omega)) trivial [0] rfl (by decide))

theorem common_ct (F : Hp) (k q : List UInt8) (hk : k.length = 16) (hq : q.length = 16) (hne : q ≠ k) : Ct Tryd.prog 113 [Str k, Str q] [F] (fun x : Nat => I ((x : Nat) : Int)) (fun x => Two k q x) (fun _ => [F]) := by
  refine Ct.walk Tryd.func113 rfl Tryd.ntmps113 rfl (fun w0 hw0 => ?_)
  change J _ [(0, _), (1, _)] _ _ _
  refine J.seq (fun K1 hK1 => ?_)
  refine J.region ?_
  refine J.y (op_assign rfl rfl) rfl rfl rfl ?_
  refine J.nil ?_
  refine J.then_n (J.k hK1 ?_)
  refine J.keepE [(0, _), (1, _)] ⟨rfl, rfl, trivial⟩ ?_
  refine J.seq (fun K2 hK2 => ?_)
  refine J.region ?_
  refine J.y (op_move rfl rfl) rfl rfl rfl ?_
  refine J.y (op_slen Tryd.underlying9 rfl rfl) rfl rfl rfl ?_
  refine J.y (op_move rfl rfl) rfl rfl rfl ?_
  refine J.y (op_slen Tryd.underlying9 rfl rfl) rfl rfl rfl ?_
  refine J.y ((op_min rfl rfl rfl).as (v' := I ((min k.length q.length : Nat) : Int)) (congrArg I (by omega))) rfl rfl rfl ?_
  refine J.y (op_assign rfl rfl) rfl rfl rfl ?_
  refine J.nil ?_
  refine J.then_n (J.k hK2 ?_)
  refine J.keepE [(0, _), (1, _), (5, _)] ⟨rfl, rfl, rfl, trivial⟩ ?_
  refine J.seq (fun K3 hK3 => ?_)
  refine J.seq (fun K4 hK4 => ?_)
  refine J.region ?_
  refine J.y (op_move rfl rfl) rfl rfl rfl ?_
  refine J.y (op_move rfl rfl) rfl rfl rfl ?_
  refine J.nil ?_
  refine J.then_n (J.k hK4 ?_)
  refine J.keepE [(0, _), (1, _), (5, _), (13, _), (14, _)] ⟨rfl, rfl, rfl, rfl, rfl, trivial⟩ ?_
  refine J.block ?_
  refine J.loop (X := Nat) (fun ζ => [(0, Str (k)), (1, Str (q)), (5, I ((min k.length q.length : Nat) : Int)), (13, I ((min k.length q.length : Nat) : Int)), (14, I ((ζ : Nat) : Int))]) (fun ζ => [F]) (fun ζ => ζ ≤ 16 ∧ ∀ j, j < ζ → k.getD j 0 = q.getD j 0) (fun ζ => 16 - ζ) 0 (⟨Nat.zero_le _, fun j h => absurd h (Nat.not_lt_zero j)⟩) ⟨rfl, rfl, rfl, rfl, rfl, trivial⟩ (fun _ h => h) ?_
  rintro i ⟨hi, hs⟩ I0 hI0
  refine J.seq (fun K5 hK5 => ?_)
  refine J.region ?_
  refine J.y (op_lss rfl rfl rfl) rfl rfl rfl ?_
  refine J.nil ?_
  refine J.then_n (J.k hK5 ?_)
  refine J.keepE [(0, _), (1, _), (5, _), (13, _), (14, _), (15, _)] ⟨rfl, rfl, rfl, rfl, rfl, rfl, trivial⟩ ?_
  refine J.seq (fun K6 hK6 => ?_)
  refine J.ite rfl (fun h15 => ?_) (fun h15 => ?_)
  ·
    refine J.skip ?_
    refine J.then_n (J.k hK6 ?_)
    refine J.keepE [(0, _), (1, _), (5, _), (13, _), (14, _)] ⟨rfl, rfl, rfl, rfl, rfl, trivial⟩ ?_
    refine J.seq (fun K7 hK7 => ?_)
    refine J.block ?_
    refine J.seq (fun K8 hK8 => ?_)
    refine J.region ?_
    refine J.y (op_move rfl rfl) rfl rfl rfl ?_
    refine J.y (op_assign rfl rfl) rfl rfl rfl ?_
    refine J.nil ?_
    refine J.then_n (J.k hK8 ?_)
    refine J.keepE [(0, _), (1, _), (5, _), (6, _), (13, _), (14, _)] ⟨rfl, rfl, rfl, rfl, rfl, rfl, trivial⟩ ?_
    refine J.seq (fun K9 hK9 => ?_)
    refine J.draw [F] [] (.y 0 (.y 1 (.y 2 (.y 3 (.y 4 (.y 5 (.y 6 (.y 7 .nil)))))))) Tryd.wide (by decide +kernel) (by simp) ?_
    refine J.dy rfl (op_move rfl rfl) rfl rfl rfl rfl ?_
    refine J.dy rfl (op_move rfl rfl) rfl rfl rfl rfl ?_
    refine J.dy rfl (op_sindex (c := k.getD i 0) Tryd.underlying9 rfl rfl rfl (getSome 0 (by first | omega | (simp only [List.length_append, List.length_cons, List.length_nil, List.length_take, List.length_drop] at *; omega)))) rfl rfl rfl rfl ?_
    refine J.dy rfl (op_move rfl rfl) rfl rfl rfl rfl ?_
    refine J.dy rfl (op_move rfl rfl) rfl rfl rfl rfl ?_
    refine J.dy rfl (op_sindex (c := q.getD i 0) Tryd.underlying9 rfl rfl rfl (getSome 0 (by first | omega | (simp only [List.length_append, List.length_cons, List.length_nil, List.length_take, List.length_drop] at *; omega)))) rfl rfl rfl rfl ?_
    refine J.dy rfl (op_xor8 rfl rfl rfl) rfl rfl rfl rfl ?_
    refine J.dy rfl (op_assign rfl rfl) rfl rfl rfl rfl ?_
    refine J.dnil ?_
    refine J.then_n (J.k hK9 ?_)
    refine J.keepE [(0, _), (1, _), (5, _), (6, _), (7, _), (13, _), (14, _)] ⟨rfl, rfl, rfl, rfl, rfl, rfl, rfl, trivial⟩ ?_
    refine J.seq (fun K10 hK10 => ?_)
    refine J.region ?_
    refine J.y (op_move rfl rfl) rfl rfl rfl ?_
    refine J.y (op_neq rfl rfl rfl) rfl rfl rfl ?_
    refine J.nil ?_
    refine J.then_n (J.k hK10 ?_)
    refine J.keepE [(0, _), (1, _), (5, _), (6, _), (7, _), (13, _), (14, _), (25, _)] ⟨rfl, rfl, rfl, rfl, rfl, rfl, rfl, rfl, trivial⟩ ?_
    refine J.ite rfl (fun h25 => ?_) (fun h25 => ?_)
    ·
      refine J.seq (fun K11 hK11 => ?_)
      refine J.region ?_
      refine J.y (op_move rfl rfl) rfl rfl rfl ?_
      refine J.y ((op_mul rfl rfl rfl (by first | omega | (simp only [List.length_append, List.length_cons, List.length_nil, List.length_take, List.length_drop] at *; omega))).as (v' := I ((8 * i : Nat) : Int)) (congrArg I (by omega))) rfl rfl rfl ?_
      refine J.y (op_move rfl rfl) rfl rfl rfl ?_
      refine J.e (op_call rfl rfl ent154 (Ct.use0 (fun F' hF => lead8_ct F' ((k.getD i 0) ^^^ (q.getD i 0))))) rfl rfl rfl ?_
      intro g29 _
      refine J.y ((op_add rfl rfl rfl (by first | omega | (simp only [List.length_append, List.length_cons, List.length_nil, List.length_take, List.length_drop] at *; omega))).as (v' := I ((8 * i + (8 - len8 ((k.getD i 0) ^^^ (q.getD i 0)).toNat) : Nat) : Int)) (congrArg I (by omega))) rfl rfl rfl ?_
      refine J.y (op_assign rfl rfl) rfl rfl rfl ?_
      refine J.nil ?_
      refine J.then_n (J.k hK11 ?_)
      refine J.keepE [(4, _)] ⟨rfl, trivial⟩ ?_
      refine J.ret ?_
      refine J.blk_r ?_
      refine J.then_r ?_
      refine J.then_r ?_
      refine J.blk_r ?_
      refine J.then_r ?_
      exact J.done hw0 (fun _ _ h => h) (res1 rfl rfl) (retOk (8 * i + (8 - len8 (k.getD i 0 ^^^ q.getD i 0).toNat)) rfl (two_of hk hq (by omega) hs (by omega)) [0] rfl (by decide))
    ·
      refine J.skip ?_
      refine J.blk_n ?_
      refine J.then_n (J.k hK7 ?_)
      refine J.keepE [(0, _), (1, _), (5, _), (13, _), (14, _)] ⟨rfl, rfl, rfl, rfl, rfl, trivial⟩ ?_
      refine J.region ?_
      refine J.y ((op_add rfl rfl rfl (by first | omega | (simp only [List.length_append, List.length_cons, List.length_nil, List.length_take, List.length_drop] at *; omega))).as (v' := I ((i + 1 : Nat) : Int)) (congrArg I (by omega))) rfl rfl rfl ?_
      refine J.y (op_move rfl rfl) rfl rfl rfl ?_
      refine J.nil ?_
      refine J.then_n ?_
      exact J.kk (i + 1) (fun η (hη : _ ∧ 16 - η < 16 - i) => hI0 η hη.1 hη.2) ⟨⟨by omega, fun j hj => by rcases Nat.lt_succ_iff_lt_or_eq.1 hj with h | rfl; exact hs j h; exact xor_eq (by omega)⟩, by first | omega | (dsimp only; omega)⟩ ⟨rfl, rfl, rfl, rfl, rfl, trivial⟩ (fun _ h => h)
  ·
    refine J.exit ?_
    refine J.then_x ?_
    refine J.then_x ?_
    refine J.blk_eq ?_
    refine J.then_n (J.k hK3 ?_)
    refine J.keepE [(5, _)] ⟨rfl, trivial⟩ ?_
    refine J.seq (fun K12 hK12 => ?_)
    have hfalse : False := hne (same16 hk hq fun j hj => hs j (by omega))
    refine J.region ?_
    refine J.y (op_move rfl rfl) rfl rfl rfl ?_
    refine J.y ((op_mul rfl rfl rfl (by first | omega | (simp only [List.length_append, List.length_cons, List.length_nil, List.length_take, List.length_drop] at *; omega))).as (v' := I ((8 * (min k.length q.length) : Nat) : Int)) (congrArg I (by omega))) rfl rfl rfl ?_
    refine J.y (op_assign rfl rfl) rfl rfl rfl ?_
    refine J.nil ?_
    refine J.then_n (J.k hK12 ?_)
    refine J.keepE [(4, _)] ⟨rfl, trivial⟩ ?_
    refine J.ret ?_
    exact J.done hw0 (fun _ _ h => h) (res1 rfl rfl) hfalse.elim

theorem ppair_ct (F : Hp) (hK : Cells F ⟨1, 0, none⟩ (Sha.K.map W32)) (k q : List UInt8) (hk : k.length = 16) (hq : q.length = 16) (hne : q ≠ k) (v w : List UInt8) (hv : v.length ≤ 1000000) (hw : w.length ≤ 1000000) (d : Nat) (hb : Sm.belowB q k d = true) : Ct Tryd.prog 71 [Str k, Str q, Str (Sb.leafN k v), Str (Sb.leafN q w), I ((d : Nat) : Int)] [F] (fun _ : Unit => Str (Sm.ndB [(k, v), (q, w)] k d)) (fun _ => True) (fun _ => [F]) := by
  have hl1 := leafN_17 k v
  have hl2 := leafN_17 q w
  refine Ct.walk Tryd.func71 rfl Tryd.ntmps71 rfl (fun w0 hw0 => ?_)
  change J _ [(0, _), (1, _), (2, _), (3, _), (4, _)] _ _ _
  refine J.seq (fun K1 hK1 => ?_)
  refine J.region ?_
  refine J.y (op_assign rfl rfl) rfl rfl rfl ?_
  refine J.nil ?_
  refine J.then_n (J.k hK1 ?_)
  refine J.keepE [(0, _), (1, _), (2, _), (3, _), (4, _)] ⟨rfl, rfl, rfl, rfl, rfl, trivial⟩ ?_
  refine J.seq (fun K2 hK2 => ?_)
  refine J.region ?_
  refine J.y (op_move rfl rfl) rfl rfl rfl ?_
  refine J.y (op_move rfl rfl) rfl rfl rfl ?_
  refine J.e (op_call rfl rfl ent113 (Ct.use (new := fun _ : Nat => []) (fun F' _ => common_ct F' k q hk hq hne))) rfl rfl rfl ?_
  rintro a15 h15
  change J _ ((15, I ((a15 : Nat) : Int)) :: _) _ [F] _
  refine J.y (op_assign rfl rfl) rfl rfl rfl ?_
  refine J.nil ?_
  refine J.then_n (J.k hK2 ?_)
  refine J.keepE [(0, _), (2, _), (3, _), (4, _), (11, _)] ⟨rfl, rfl, rfl, rfl, rfl, trivial⟩ ?_
  refine J.seq (fun K3 hK3 => ?_)
  refine J.seq (fun K4 hK4 => ?_)
  have hlt := h15.lt
  have hda := h15.le hb
  have htop := h15.top hv hw
  unfold up at htop
  refine J.region ?_
  refine J.y (op_move rfl rfl) rfl rfl rfl ?_
  refine J.y (op_move rfl rfl) rfl rfl rfl ?_
  refine J.e (op_call rfl rfl ent112 (Ct.use0 (fun F' hF => bit_ct F' k (by first | omega | exact hsm _) a15 (by omega)))) rfl rfl rfl ?_
  intro g18 _
  refine J.y (op_eql rfl rfl rfl) rfl rfl rfl ?_
  refine J.nil ?_
  refine J.then_n (J.k hK4 ?_)
  refine J.keepE [(0, _), (2, _), (3, _), (4, _), (11, _), (19, _)] ⟨rfl, rfl, rfl, rfl, rfl, rfl, trivial⟩ ?_
  refine J.ite rfl (fun h19 => ?_) (fun h19 => ?_)
  ·
    refine J.region ?_
    refine J.y (op_move rfl rfl) rfl rfl rfl ?_
    refine J.y (op_move rfl rfl) rfl rfl rfl ?_
    refine J.y (op_assign rfl rfl) rfl rfl rfl ?_
    refine J.y (op_assign rfl rfl) rfl rfl rfl ?_
    refine J.nil ?_
    refine J.then_n (J.k hK3 ?_)
    refine J.keepE [(0, _), (2, _), (3, _), (4, _), (11, _)] ⟨rfl, rfl, rfl, rfl, rfl, trivial⟩ ?_
    refine J.seq (fun K5 hK5 => ?_)
    refine J.region ?_
    refine J.y (op_move rfl rfl) rfl rfl rfl ?_
    refine J.y (op_move rfl rfl) rfl rfl rfl ?_
    refine J.e (op_call rfl rfl ent114 (Ct.use0 (fun F' hF => sjoin_ct F' (hK.mono (hF F (by simp))) (Sb.leafN q w) (Sb.leafN k v) (by omega) (by omega)))) rfl rfl rfl ?_
    intro g24 _
    refine J.y (op_assign rfl rfl) rfl rfl rfl ?_
    refine J.nil ?_
    refine J.then_n (J.k hK5 ?_)
    refine J.keepE [(0, _), (4, _), (11, _), (12, _)] ⟨rfl, rfl, rfl, rfl, trivial⟩ ?_
    refine J.seq (fun K6 hK6 => ?_)
    refine J.seq (fun K7 hK7 => ?_)
    first | rw [if_neg (by omega)] at htop | rw [if_pos (by have := Sm.bit_le k a15; omega)] at htop
    rw [← htop]
    refine J.region ?_
    refine J.y (op_move rfl rfl) rfl rfl rfl ?_
    refine J.y (op_sub rfl rfl rfl (by first | omega | (simp only [List.length_append, List.length_cons, List.length_nil, List.length_take, List.length_drop] at *; omega))) rfl rfl rfl ?_
    refine J.y (op_assign rfl rfl) rfl rfl rfl ?_
    refine J.nil ?_
    refine J.then_n (J.k hK7 ?_)
    refine J.keepE [(0, _), (4, _), (11, _), (12, _)] ⟨rfl, rfl, rfl, rfl, trivial⟩ ?_
    refine J.block ?_
    refine J.loop (X := Nat) (fun ζ => [(0, Str (k)), (4, I ((d : Nat) : Int)), (11, I (((ζ : Nat) : Int) - 1)), (12, Str (Sm.ndB [(k, v), (q, w)] k ζ))]) (fun ζ => [F]) (fun ζ => d ≤ ζ ∧ ζ ≤ a15) (fun ζ => ζ) a15 (⟨hda, Nat.le_refl _⟩) ⟨rfl, rfl, rfl, rfl, trivial⟩ (fun _ h => h) ?_
    rintro e ⟨he1, he2⟩ I0 hI0
    have hone : ([0] : List UInt8).length = 1 := rfl
    have hns := ndB_small [(k, v), (q, w)] k e
    refine J.seq (fun K8 hK8 => ?_)
    refine J.seq (fun K9 hK9 => ?_)
    refine J.region ?_
    refine J.y (op_move rfl rfl) rfl rfl rfl ?_
    refine J.y (op_move rfl rfl) rfl rfl rfl ?_
    refine J.y (op_geq rfl rfl rfl) rfl rfl rfl ?_
    refine J.nil ?_
    refine J.then_n (J.k hK9 ?_)
    refine J.keepE [(0, _), (4, _), (11, _), (12, _), (29, _)] ⟨rfl, rfl, rfl, rfl, rfl, trivial⟩ ?_
    refine J.ite rfl (fun h29 => ?_) (fun h29 => ?_)
    ·
      refine J.skip ?_
      refine J.then_n (J.k hK8 ?_)
      refine J.keepE [(0, _), (4, _), (11, _), (12, _)] ⟨rfl, rfl, rfl, rfl, trivial⟩ ?_
      refine J.seq (fun K10 hK10 => ?_)
      refine J.block ?_
      refine J.seq (fun K11 hK11 => ?_)
      refine J.region ?_
      refine J.y (op_move rfl rfl) rfl rfl rfl ?_
      refine J.y ((op_move rfl rfl).as (v' := I ((e - 1 : Nat) : Int)) (congrArg I (by omega))) rfl rfl rfl ?_
      refine J.e (op_call rfl rfl ent112 (Ct.use0 (fun F' hF => bit_ct F' k (by first | omega | exact hsm _) (e - 1) (by omega)))) rfl rfl rfl ?_
      intro g34 _
      refine J.y (op_eql rfl rfl rfl) rfl rfl rfl ?_
      refine J.nil ?_
      refine J.then_n (J.k hK11 ?_)
      refine J.keepE [(0, _), (4, _), (11, _), (12, _), (35, _)] ⟨rfl, rfl, rfl, rfl, rfl, trivial⟩ ?_
      refine J.ite rfl (fun h35 => ?_) (fun h35 => ?_)
      ·
        refine J.region ?_
        refine J.y (op_move rfl rfl) rfl rfl rfl ?_
        refine J.e (op_call rfl rfl ent114 (Ct.use0 (fun F' hF => sjoin_ct F' (hK.mono (hF F (by simp))) (Sm.ndB [(k, v), (q, w)] k e) ([0]) (by omega) (by omega)))) rfl rfl rfl ?_
        intro g37 _
        refine J.y (op_assign rfl rfl) rfl rfl rfl ?_
        refine J.nil ?_
        refine J.blk_n ?_
        refine J.then_n (J.k hK10 ?_)
        refine J.keepE [(0, _), (4, _), (11, _), (12, _)] ⟨rfl, rfl, rfl, rfl, trivial⟩ ?_
        refine J.region ?_
        refine J.y (op_move rfl rfl) rfl rfl rfl ?_
        refine J.y (op_sub rfl rfl rfl (by omega)) rfl rfl rfl ?_
        refine J.y (op_assign rfl rfl) rfl rfl rfl ?_
        refine J.nil ?_
        refine J.then_n ?_
        exact J.kk (e - 1) (fun η (hη : _ ∧ η < e) => hI0 η hη.1 hη.2) ⟨⟨by omega, by omega⟩, by first | omega | (dsimp only; omega)⟩ ⟨rfl, rfl, congrArg (fun z => some (I z)) (by omega), congrArg (fun z => some (Str z)) (by rw [h15.step hv hw (show e - 1 < a15 by omega), show e - 1 + 1 = e by omega]; unfold up; first | rw [if_pos (by omega)] | rw [if_neg (by omega)]), trivial⟩ (fun _ h => h)
      ·
        refine J.region ?_
        refine J.y (op_move rfl rfl) rfl rfl rfl ?_
        refine J.e (op_call rfl rfl ent114 (Ct.use0 (fun F' hF => sjoin_ct F' (hK.mono (hF F (by simp))) ([0]) (Sm.ndB [(k, v), (q, w)] k e) (by omega) (by omega)))) rfl rfl rfl ?_
        intro g39 _
        refine J.y (op_assign rfl rfl) rfl rfl rfl ?_
        refine J.nil ?_
        refine J.blk_n ?_
        refine J.then_n (J.k hK10 ?_)
        refine J.keepE [(0, _), (4, _), (11, _), (12, _)] ⟨rfl, rfl, rfl, rfl, trivial⟩ ?_
        refine J.region ?_
        refine J.y (op_move rfl rfl) rfl rfl rfl ?_
        refine J.y (op_sub rfl rfl rfl (by omega)) rfl rfl rfl ?_
        refine J.y (op_assign rfl rfl) rfl rfl rfl ?_
        refine J.nil ?_
        refine J.then_n ?_
        exact J.kk (e - 1) (fun η (hη : _ ∧ η < e) => hI0 η hη.1 hη.2) ⟨⟨by omega, by omega⟩, by first | omega | (dsimp only; omega)⟩ ⟨rfl, rfl, congrArg (fun z => some (I z)) (by omega), congrArg (fun z => some (Str z)) (by rw [h15.step hv hw (show e - 1 < a15 by omega), show e - 1 + 1 = e by omega]; unfold up; first | rw [if_pos (by omega)] | rw [if_neg (by omega)]), trivial⟩ (fun _ h => h)
    ·
      refine J.exit ?_
      refine J.then_x ?_
      refine J.then_x ?_
      refine J.blk_eq ?_
      refine J.then_n (J.k hK6 ?_)
      refine J.keepE [(12, _)] ⟨rfl, trivial⟩ ?_
      refine J.seq (fun K12 hK12 => ?_)
      refine J.region ?_
      refine J.y (op_move rfl rfl) rfl rfl rfl ?_
      refine J.y (op_assign rfl rfl) rfl rfl rfl ?_
      refine J.nil ?_
      refine J.then_n (J.k hK12 ?_)
      refine J.keepE [(10, _)] ⟨rfl, trivial⟩ ?_
      refine J.ret ?_
      exact J.done hw0 (fun _ _ h => h) (res1 rfl rfl) (retOk () (congrArg Str (by rw [show e = d by omega])) trivial [0] rfl (by decide))
  ·
    refine J.skip ?_
    refine J.then_n (J.k hK3 ?_)
    refine J.keepE [(0, _), (2, _), (3, _), (4, _), (11, _)] ⟨rfl, rfl, rfl, rfl, rfl, trivial⟩ ?_
    refine J.seq (fun K13 hK13 => ?_)
    refine J.region ?_
    refine J.y (op_move rfl rfl) rfl rfl rfl ?_
    refine J.y (op_move rfl rfl) rfl rfl rfl ?_
    refine J.e (op_call rfl rfl ent114 (Ct.use0 (fun F' hF => sjoin_ct F' (hK.mono (hF F (by simp))) (Sb.leafN k v) (Sb.leafN q w) (by omega) (by omega)))) rfl rfl rfl ?_
    intro g24 _
    refine J.y (op_assign rfl rfl) rfl rfl rfl ?_
    refine J.nil ?_
    refine J.then_n (J.k hK13 ?_)
    refine J.keepE [(0, _), (4, _), (11, _), (12, _)] ⟨rfl, rfl, rfl, rfl, trivial⟩ ?_
    refine J.seq (fun K14 hK14 => ?_)
    refine J.seq (fun K15 hK15 => ?_)
    first | rw [if_neg (by omega)] at htop | rw [if_pos (by have := Sm.bit_le k a15; omega)] at htop
    rw [← htop]
    refine J.region ?_
    refine J.y (op_move rfl rfl) rfl rfl rfl ?_
    refine J.y (op_sub rfl rfl rfl (by first | omega | (simp only [List.length_append, List.length_cons, List.length_nil, List.length_take, List.length_drop] at *; omega))) rfl rfl rfl ?_
    refine J.y (op_assign rfl rfl) rfl rfl rfl ?_
    refine J.nil ?_
    refine J.then_n (J.k hK15 ?_)
    refine J.keepE [(0, _), (4, _), (11, _), (12, _)] ⟨rfl, rfl, rfl, rfl, trivial⟩ ?_
    refine J.block ?_
    refine J.loop (X := Nat) (fun ζ => [(0, Str (k)), (4, I ((d : Nat) : Int)), (11, I (((ζ : Nat) : Int) - 1)), (12, Str (Sm.ndB [(k, v), (q, w)] k ζ))]) (fun ζ => [F]) (fun ζ => d ≤ ζ ∧ ζ ≤ a15) (fun ζ => ζ) a15 (⟨hda, Nat.le_refl _⟩) ⟨rfl, rfl, rfl, rfl, trivial⟩ (fun _ h => h) ?_
    rintro e ⟨he1, he2⟩ I0 hI0
    have hone : ([0] : List UInt8).length = 1 := rfl
    have hns := ndB_small [(k, v), (q, w)] k e
    refine J.seq (fun K16 hK16 => ?_)
    refine J.seq (fun K17 hK17 => ?_)
    refine J.region ?_
    refine J.y (op_move rfl rfl) rfl rfl rfl ?_
    refine J.y (op_move rfl rfl) rfl rfl rfl ?_
    refine J.y (op_geq rfl rfl rfl) rfl rfl rfl ?_
    refine J.nil ?_
    refine J.then_n (J.k hK17 ?_)
    refine J.keepE [(0, _), (4, _), (11, _), (12, _), (29, _)] ⟨rfl, rfl, rfl, rfl, rfl, trivial⟩ ?_
    refine J.ite rfl (fun h29 => ?_) (fun h29 => ?_)
    ·
      refine J.skip ?_
      refine J.then_n (J.k hK16 ?_)
      refine J.keepE [(0, _), (4, _), (11, _), (12, _)] ⟨rfl, rfl, rfl, rfl, trivial⟩ ?_
      refine J.seq (fun K18 hK18 => ?_)
      refine J.block ?_
      refine J.seq (fun K19 hK19 => ?_)
      refine J.region ?_
      refine J.y (op_move rfl rfl) rfl rfl rfl ?_
      refine J.y ((op_move rfl rfl).as (v' := I ((e - 1 : Nat) : Int)) (congrArg I (by omega))) rfl rfl rfl ?_
      refine J.e (op_call rfl rfl ent112 (Ct.use0 (fun F' hF => bit_ct F' k (by first | omega | exact hsm _) (e - 1) (by omega)))) rfl rfl rfl ?_
      intro g34 _
      refine J.y (op_eql rfl rfl rfl) rfl rfl rfl ?_
      refine J.nil ?_
      refine J.then_n (J.k hK19 ?_)
      refine J.keepE [(0, _), (4, _), (11, _), (12, _), (35, _)] ⟨rfl, rfl, rfl, rfl, rfl, trivial⟩ ?_
      refine J.ite rfl (fun h35 => ?_) (fun h35 => ?_)
      ·
        refine J.region ?_
        refine J.y (op_move rfl rfl) rfl rfl rfl ?_
        refine J.e (op_call rfl rfl ent114 (Ct.use0 (fun F' hF => sjoin_ct F' (hK.mono (hF F (by simp))) (Sm.ndB [(k, v), (q, w)] k e) ([0]) (by omega) (by omega)))) rfl rfl rfl ?_
        intro g37 _
        refine J.y (op_assign rfl rfl) rfl rfl rfl ?_
        refine J.nil ?_
        refine J.blk_n ?_
        refine J.then_n (J.k hK18 ?_)
        refine J.keepE [(0, _), (4, _), (11, _), (12, _)] ⟨rfl, rfl, rfl, rfl, trivial⟩ ?_
        refine J.region ?_
        refine J.y (op_move rfl rfl) rfl rfl rfl ?_
        refine J.y (op_sub rfl rfl rfl (by omega)) rfl rfl rfl ?_
        refine J.y (op_assign rfl rfl) rfl rfl rfl ?_
        refine J.nil ?_
        refine J.then_n ?_
        exact J.kk (e - 1) (fun η (hη : _ ∧ η < e) => hI0 η hη.1 hη.2) ⟨⟨by omega, by omega⟩, by first | omega | (dsimp only; omega)⟩ ⟨rfl, rfl, congrArg (fun z => some (I z)) (by omega), congrArg (fun z => some (Str z)) (by rw [h15.step hv hw (show e - 1 < a15 by omega), show e - 1 + 1 = e by omega]; unfold up; first | rw [if_pos (by omega)] | rw [if_neg (by omega)]), trivial⟩ (fun _ h => h)
      ·
        refine J.region ?_
        refine J.y (op_move rfl rfl) rfl rfl rfl ?_
        refine J.e (op_call rfl rfl ent114 (Ct.use0 (fun F' hF => sjoin_ct F' (hK.mono (hF F (by simp))) ([0]) (Sm.ndB [(k, v), (q, w)] k e) (by omega) (by omega)))) rfl rfl rfl ?_
        intro g39 _
        refine J.y (op_assign rfl rfl) rfl rfl rfl ?_
        refine J.nil ?_
        refine J.blk_n ?_
        refine J.then_n (J.k hK18 ?_)
        refine J.keepE [(0, _), (4, _), (11, _), (12, _)] ⟨rfl, rfl, rfl, rfl, trivial⟩ ?_
        refine J.region ?_
        refine J.y (op_move rfl rfl) rfl rfl rfl ?_
        refine J.y (op_sub rfl rfl rfl (by omega)) rfl rfl rfl ?_
        refine J.y (op_assign rfl rfl) rfl rfl rfl ?_
        refine J.nil ?_
        refine J.then_n ?_
        exact J.kk (e - 1) (fun η (hη : _ ∧ η < e) => hI0 η hη.1 hη.2) ⟨⟨by omega, by omega⟩, by first | omega | (dsimp only; omega)⟩ ⟨rfl, rfl, congrArg (fun z => some (I z)) (by omega), congrArg (fun z => some (Str z)) (by rw [h15.step hv hw (show e - 1 < a15 by omega), show e - 1 + 1 = e by omega]; unfold up; first | rw [if_pos (by omega)] | rw [if_neg (by omega)]), trivial⟩ (fun _ h => h)
    ·
      refine J.exit ?_
      refine J.then_x ?_
      refine J.then_x ?_
      refine J.blk_eq ?_
      refine J.then_n (J.k hK14 ?_)
      refine J.keepE [(12, _)] ⟨rfl, trivial⟩ ?_
      refine J.seq (fun K20 hK20 => ?_)
      refine J.region ?_
      refine J.y (op_move rfl rfl) rfl rfl rfl ?_
      refine J.y (op_assign rfl rfl) rfl rfl rfl ?_
      refine J.nil ?_
      refine J.then_n (J.k hK20 ?_)
      refine J.keepE [(10, _)] ⟨rfl, trivial⟩ ?_
      refine J.ret ?_
      exact J.done hw0 (fun _ _ h => h) (res1 rfl rfl) (retOk () (congrArg Str (by rw [show e = d by omega])) trivial [0] rfl (by decide))

theorem after14_ct (F : Hp) (hK : Cells F ⟨1, 0, none⟩ (Sha.K.map W32)) (A : Option Addr) (c : Nat) (bs : List (List UInt8)) (hs : Sl F 1 A bs.length c (strsV bs)) (th : Bool) (pk pv k : List UInt8) (d : Nat) (hg : GoodP bs th pk pv k d) (v : List UInt8) (hv : v.length ≤ 1000000) (hpv : pv.length ≤ 1000000) : Ct Tryd.prog 28 [.agg #[.slice A bs.length c, .bool (th), Str (pk), Str (pv)], Str (k), Str (v), I ((d : Nat) : Int)] [F] (fun _ : Unit => .tuple #[Str (afterV bs th pk pv k v d), I ((0 : Nat) : Int)]) (fun _ => True) (fun _ => [F]) := by
  have hle := hg.le
  have hk16 := hg.k16
  have hsm := hg.small
  have hl17 := leafN_17 k v
  have hn17 := ndB_small [(k, v), (pk, pv)] k (d + bs.length)
  refine Ct.walk Tryd.func28 rfl Tryd.ntmps28 rfl (fun w0 hw0 => ?_)
  change J _ [(0, _), (1, _), (2, _), (3, _)] _ _ _
  refine J.seq (fun K1 hK1 => ?_)
  refine J.region ?_
  refine J.e (op_box (l := [.slice A bs.length c, .bool (th), Str (pk), Str (pv)]) rfl rfl rfl) rfl rfl rfl ?_
  intro g4 _
  change J _ _ _ [F, blk g4 [.slice A bs.length c, .bool (th), Str (pk), Str (pv)] 57] _
  refine J.y (op_assign rfl rfl) rfl rfl rfl ?_
  refine J.y (op_assign rfl rfl) rfl rfl rfl ?_
  refine J.nil ?_
  refine J.then_n (J.k hK1 ?_)
  refine J.keepE [(1, _), (2, _), (3, _), (4, _)] ⟨rfl, rfl, rfl, rfl, trivial⟩ ?_
  refine J.seq (fun K2 hK2 => ?_)
  refine J.seq (fun K3 hK3 => ?_)
  refine J.region ?_
  refine J.y (op_loadBA 1 rfl rfl rfl Tryd.isAgg57 Tryd.sizeOf57 rfl) rfl rfl rfl ?_
  refine J.y (op_move rfl rfl) rfl rfl rfl ?_
  refine J.y (op_move rfl rfl) rfl rfl rfl ?_
  refine J.e (op_call rfl rfl ent49 (Ct.use0 (fun F' hF => good_ct F' A c bs (hs.mono (hF F (by simp))) th pk pv k d (by assumption)))) rfl rfl rfl ?_
  intro g14 _
  refine J.y ((op_not rfl rfl).as (v' := .bool false) rfl) rfl rfl rfl ?_
  refine J.nil ?_
  refine J.then_n (J.k hK3 ?_)
  refine J.keepE [(1, _), (2, _), (3, _), (4, _), (15, _)] ⟨rfl, rfl, rfl, rfl, rfl, trivial⟩ ?_
  refine J.condF rfl rfl ?_
  refine J.skip ?_
  refine J.then_n (J.k hK2 ?_)
  refine J.keepE [(1, _), (2, _), (3, _), (4, _)] ⟨rfl, rfl, rfl, rfl, trivial⟩ ?_
  refine J.seq (fun K4 hK4 => ?_)
  refine J.region ?_
  refine J.y (op_move rfl rfl) rfl rfl rfl ?_
  refine J.y (op_move rfl rfl) rfl rfl rfl ?_
  refine J.e (op_call rfl rfl ent70 (Ct.use0 (fun F' hF => sLeaf_ct F' (hK.mono (hF F (by simp))) k v (by first | omega | exact Nat.le_of_ble_eq_true rfl) (by first | omega | exact Nat.le_of_ble_eq_true rfl)))) rfl rfl rfl ?_
  intro g18 _
  refine J.y (op_assign rfl rfl) rfl rfl rfl ?_
  refine J.nil ?_
  refine J.then_n (J.k hK4 ?_)
  refine J.keepE [(1, _), (3, _), (4, _), (10, _)] ⟨rfl, rfl, rfl, rfl, trivial⟩ ?_
  refine J.seq (fun K5 hK5 => ?_)
  refine J.seq (fun K6 hK6 => ?_)
  refine J.region ?_
  refine J.y (op_fieldAddr (j := 1) rfl rfl Tryd.underlying57 rfl Tryd.sizeOf4 rfl) rfl rfl rfl ?_
  refine J.y (op_loadB 1 (v := .bool (th)) rfl rfl rfl Tryd.isAgg4 rfl) rfl rfl rfl ?_
  refine J.y (op_move rfl rfl) rfl rfl rfl ?_
  refine J.splitB (d := 21) rfl (fun h21 => ?_) (fun h21 => ?_)
  ·
    refine J.yg (Wan.is rfl rfl rfl rfl rfl) (op_fieldAddr (j := 2) rfl rfl Tryd.underlying57 rfl Tryd.sizeOf9 rfl) rfl rfl ?_
    refine J.yg (Wan.is rfl rfl rfl rfl rfl) (op_loadB 1 (v := Str (pk)) rfl rfl rfl Tryd.isAgg9 rfl) rfl rfl ?_
    refine J.yg (Wan.is rfl rfl rfl rfl rfl) (op_move rfl rfl) rfl rfl ?_
    refine J.yg (Wan.is rfl rfl rfl rfl rfl) (op_sne rfl rfl rfl) rfl rfl ?_
    refine J.y (op_pickT rfl rfl rfl) rfl rfl rfl ?_
    refine J.nil ?_
    refine J.then_n (J.k hK6 ?_)
    refine J.keepE [(1, _), (3, _), (4, _), (10, _), (26, _)] ⟨rfl, rfl, rfl, rfl, rfl, trivial⟩ ?_
    refine J.ite rfl (fun h26 => ?_) (fun h26 => ?_)
    ·
      obtain ⟨hpt, hpn⟩ : th = true ∧ pk ≠ k := ⟨h21, h26⟩
      obtain ⟨hpl, hpb⟩ := hg.yes hpt
      have haE : afterE bs th pk pv k v d = Sm.ndB [(k, v), (pk, pv)] k (d + bs.length) := if_pos ⟨hpt, hpn⟩
      refine J.draw [F, blk g4 [.slice A bs.length c, .bool (th), Str (pk), Str (pv)] 57] [] (.y 0 (.y 1 (.y 2 (.y 3 (.y 4 (.y 5 (.y 6 (.y 7 (.y 9 (.y 10 (.y 11 (.y 12 (.y 13 (.e 8 (.e 14 (.y 15 .nil)))))))))))))))) Tryd.wide (by decide +kernel) (by simp) ?_
      refine J.dy rfl (op_move rfl rfl) rfl rfl rfl rfl ?_
      refine J.dy rfl (op_fieldAddr (j := 2) rfl rfl Tryd.underlying57 rfl Tryd.sizeOf9 rfl) rfl rfl rfl rfl ?_
      refine J.dy rfl (op_loadB 1 (v := Str (pk)) rfl rfl rfl Tryd.isAgg9 rfl) rfl rfl rfl rfl ?_
      refine J.dy rfl (op_move rfl rfl) rfl rfl rfl rfl ?_
      refine J.dy rfl (op_fieldAddr (j := 2) rfl rfl Tryd.underlying57 rfl Tryd.sizeOf9 rfl) rfl rfl rfl rfl ?_
      refine J.dy rfl (op_loadB 1 (v := Str (pk)) rfl rfl rfl Tryd.isAgg9 rfl) rfl rfl rfl rfl ?_
      refine J.dy rfl (op_fieldAddr (j := 3) rfl rfl Tryd.underlying57 rfl Tryd.sizeOf9 rfl) rfl rfl rfl rfl ?_
      refine J.dy rfl (op_loadB 1 (v := Str (pv)) rfl rfl rfl Tryd.isAgg9 rfl) rfl rfl rfl rfl ?_
      refine J.dy rfl (op_move rfl rfl) rfl rfl rfl rfl ?_
      refine J.dy rfl (op_fieldAddr (j := 0) rfl rfl Tryd.underlying57 rfl Tryd.sizeOf55 rfl) rfl rfl rfl rfl ?_
      refine J.dy rfl (op_loadB 1 (v := .slice A bs.length c) rfl rfl rfl Tryd.isAgg55 rfl) rfl rfl rfl rfl ?_
      refine J.dy rfl (op_len Tryd.underlying55 rfl rfl) rfl rfl rfl rfl ?_
      refine J.dy rfl ((op_add rfl rfl rfl (by first | omega | (simp only [List.length_append, List.length_cons, List.length_nil, List.length_take, List.length_drop] at *; omega))).as (v' := I ((d + bs.length : Nat) : Int)) (congrArg I (by omega))) rfl rfl rfl rfl ?_
      refine J.de rfl (op_call rfl rfl ent70 (Ct.use0 (fun F' hF => sLeaf_ct F' (hK.mono (hF F (by simp))) pk pv (by first | omega | exact Nat.le_of_ble_eq_true rfl) (by first | omega | exact Nat.le_of_ble_eq_true rfl)))) rfl rfl rfl (by simp) ?_
      intro g35 _
      refine J.de rfl (op_call rfl rfl ent71 (Ct.use0 (fun F' hF => ppair_ct F' (hK.mono (hF F (by simp))) k pk hk16 hpl hpn v pv hv hpv (d + bs.length) hpb))) rfl rfl rfl (by simp) ?_
      intro g41 _
      refine J.dy rfl (op_assign rfl rfl) rfl rfl rfl rfl ?_
      refine J.dnil ?_
      refine J.then_n (J.k hK5 ?_)
      refine J.keepE [(1, _), (3, _), (4, _), (10, _)] ⟨rfl, rfl, rfl, rfl, trivial⟩ ?_
      refine J.seq (fun K7 hK7 => ?_)
      refine J.region ?_
      refine J.y (op_loadBA 1 rfl rfl rfl Tryd.isAgg57 Tryd.sizeOf57 rfl) rfl rfl rfl ?_
      refine J.y (op_move rfl rfl) rfl rfl rfl ?_
      refine J.y (op_move rfl rfl) rfl rfl rfl ?_
      refine J.y (op_move rfl rfl) rfl rfl rfl ?_
      refine J.e (op_call rfl rfl ent72 (Ct.use0 (fun F' hF => climb_ct F' (hK.mono (hF F (by simp))) A c bs (hs.mono (hF F (by simp))) th pk pv (Sm.ndB [(k, v), (pk, pv)] k (d + bs.length)) k d (by assumption) (by assumption) (by assumption) (by first | assumption | exact leafN_17 _ _ | exact Nat.le_of_ble_eq_true rfl)))) rfl rfl rfl ?_
      intro g46 _
      refine J.y (op_assign rfl rfl) rfl rfl rfl ?_
      refine J.y (op_assign rfl rfl) rfl rfl rfl ?_
      refine J.nil ?_
      refine J.then_n (J.k hK7 ?_)
      refine J.keepE [(8, _), (9, _)] ⟨rfl, rfl, trivial⟩ ?_
      refine J.ret ?_
      exact J.done hw0 (fun _ _ h => h) (res2 rfl rfl rfl) (retOk () (by unfold afterV; rw [haE]; rfl) trivial [0] rfl (by decide))
    ·
      have haE : afterE bs th pk pv k v d = Sb.leafN k v := if_neg (fun h => h26 h.2)
      refine J.skip ?_
      refine J.then_n (J.k hK5 ?_)
      refine J.keepE [(1, _), (3, _), (4, _), (10, _)] ⟨rfl, rfl, rfl, rfl, trivial⟩ ?_
      refine J.seq (fun K8 hK8 => ?_)
      refine J.region ?_
      refine J.y (op_loadBA 1 rfl rfl rfl Tryd.isAgg57 Tryd.sizeOf57 rfl) rfl rfl rfl ?_
      refine J.y (op_move rfl rfl) rfl rfl rfl ?_
      refine J.y (op_move rfl rfl) rfl rfl rfl ?_
      refine J.y (op_move rfl rfl) rfl rfl rfl ?_
      refine J.e (op_call rfl rfl ent72 (Ct.use0 (fun F' hF => climb_ct F' (hK.mono (hF F (by simp))) A c bs (hs.mono (hF F (by simp))) th pk pv (Sb.leafN k v) k d (by assumption) (by assumption) (by assumption) (by first | assumption | exact leafN_17 _ _ | exact Nat.le_of_ble_eq_true rfl)))) rfl rfl rfl ?_
      intro g46 _
      refine J.y (op_assign rfl rfl) rfl rfl rfl ?_
      refine J.y (op_assign rfl rfl) rfl rfl rfl ?_
      refine J.nil ?_
      refine J.then_n (J.k hK8 ?_)
      refine J.keepE [(8, _), (9, _)] ⟨rfl, rfl, trivial⟩ ?_
      refine J.ret ?_
      exact J.done hw0 (fun _ _ h => h) (res2 rfl rfl rfl) (retOk () (by unfold afterV; rw [haE]; rfl) trivial [0] rfl (by decide))
  ·
    have haE : afterE bs th pk pv k v d = Sb.leafN k v := if_neg (fun h => by rw [h21] at h; exact absurd h.1 (by decide))
    refine J.no (Wan.is rfl rfl rfl rfl rfl) rfl rfl ?_
    refine J.no (Wan.is rfl rfl rfl rfl rfl) rfl rfl ?_
    refine J.no (Wan.is rfl rfl rfl rfl rfl) rfl rfl ?_
    refine J.no (Wan.is rfl rfl rfl rfl rfl) rfl rfl ?_
    refine J.y (op_pickF rfl rfl rfl) rfl rfl rfl ?_
    refine J.nil ?_
    refine J.then_n (J.k hK6 ?_)
    refine J.keepE [(1, _), (3, _), (4, _), (10, _), (26, _)] ⟨rfl, rfl, rfl, rfl, rfl, trivial⟩ ?_
    refine J.condF rfl rfl ?_
    refine J.skip ?_
    refine J.then_n (J.k hK5 ?_)
    refine J.keepE [(1, _), (3, _), (4, _), (10, _)] ⟨rfl, rfl, rfl, rfl, trivial⟩ ?_
    refine J.seq (fun K9 hK9 => ?_)
    refine J.region ?_
    refine J.y (op_loadBA 1 rfl rfl rfl Tryd.isAgg57 Tryd.sizeOf57 rfl) rfl rfl rfl ?_
    refine J.y (op_move rfl rfl) rfl rfl rfl ?_
    refine J.y (op_move rfl rfl) rfl rfl rfl ?_
    refine J.y (op_move rfl rfl) rfl rfl rfl ?_
    refine J.e (op_call rfl rfl ent72 (Ct.use0 (fun F' hF => climb_ct F' (hK.mono (hF F (by simp))) A c bs (hs.mono (hF F (by simp))) th pk pv (Sb.leafN k v) k d (by assumption) (by assumption) (by assumption) (by first | assumption | exact leafN_17 _ _ | exact Nat.le_of_ble_eq_true rfl)))) rfl rfl rfl ?_
    intro g46 _
    refine J.y (op_assign rfl rfl) rfl rfl rfl ?_
    refine J.y (op_assign rfl rfl) rfl rfl rfl ?_
    refine J.nil ?_
    refine J.then_n (J.k hK9 ?_)
    refine J.keepE [(8, _), (9, _)] ⟨rfl, rfl, trivial⟩ ?_
    refine J.ret ?_
    exact J.done hw0 (fun _ _ h => h) (res2 rfl rfl rfl) (retOk () (by unfold afterV; rw [haE]; rfl) trivial [0] rfl (by decide))

end Go.Proofs.YtnkfapecbmmpeaaDoor
