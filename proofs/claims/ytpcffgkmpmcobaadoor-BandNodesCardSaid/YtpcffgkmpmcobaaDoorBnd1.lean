/- A part of the proof: contracts of functions of the program, each for every state of the heaps that it names. -/
import Derived.Test.YtpcffgkmpmcobaaDoorSbD
set_option linter.unusedSimpArgs false
set_option linter.unusedVariables false
namespace Go.Proofs.YtpcffgkmpmcobaaDoor
open Go Go.Fw
set_option maxRecDepth 100000
set_option maxHeartbeats 1000000
theorem ent115 : Enters Tryd.prog 115 := Enters.of Tryd.func115 rfl (by kernel_rfl)
structure Tw where
  a : UInt8
  b : UInt8
  deriving DecidableEq
def Tw.cells (x : Tw) : List Value := [B8 (x.a), B8 (x.b)]
def noTw : Tw := ⟨0, 0⟩
def twosV (l : List Tw) : List (List Value) := l.map Tw.cells
theorem twosV_get {l : List Tw} {k : Nat} (h : k < l.length) : (twosV l)[k]? = some (l.getD k noTw).cells := by
  unfold twosV
  rw [List.getElem?_map, getSome noTw h]; rfl
theorem twosV_len (l : List Tw) : (twosV l).length = l.length := by simp [twosV]
theorem twosV_app (a b : List Tw) : twosV (a ++ b) = twosV a ++ twosV b := by simp [twosV]
theorem twosV_snoc (a : List Tw) (x : Tw) : twosV (a ++ [x]) = twosV a ++ [x.cells] := by simp [twosV]
theorem one_twos (a : List Tw) : (twosV a).all (fun x => x.all Value.oneCell') = true := one_map Tw.cells (fun _ => rfl) a
theorem twosV_take (l : List Tw) (k : Nat) : (twosV l).take k = twosV (l.take k) := by simp [twosV]
theorem twosV_drop (l : List Tw) (k : Nat) : (twosV l).drop k = twosV (l.drop k) := by simp [twosV]
theorem twosV_set (l : List Tw) (k : Nat) (x : Tw) : (twosV l).set k x.cells = twosV (l.set k x) := by simp [twosV, List.map_set]

def nodesK (l : List Sm.PR) (d i : Nat) : List (List UInt8) := (List.range i).map fun j => Sm.ndB l (kF j d) d
abbrev nodesL (l : List Sm.PR) (d : Nat) : List (List UInt8) := nodesK l d (2 ^ d)
theorem nodesK_succ (l : List Sm.PR) (d i : Nat) : nodesK l d (i + 1) = nodesK l d i ++ [Sm.ndB l (kF i d) d] := by unfold nodesK; rw [List.range_succ, List.map_append]; rfl
theorem nodesK_len (l : List Sm.PR) (d i : Nat) : (nodesK l d i).length = i := by unfold nodesK; rw [List.length_map, List.length_range]
theorem nodesK_get (l : List Sm.PR) (d : Nat) {i j : Nat} (h : j < i) : (nodesK l d i).getD j [] = Sm.ndB l (kF j d) d := by
  unfold nodesK
  rw [List.getD_eq_getElem?_getD, List.getElem?_map, List.getElem?_range h]; rfl
theorem nodesK_small (l : List Sm.PR) (d i : Nat) : ∀ s ∈ nodesK l d i, s.length ≤ 1048576 := fun s hs => by
  unfold nodesK at hs
  obtain ⟨j, _, rfl⟩ := List.mem_map.1 hs
  exact Nat.le_trans (ndB_small _ _ _) (by decide)
theorem cnt_nat {d : Nat} (hd : d ≤ 4) : cnt ((d : Nat) : Int) = 2 ^ d := by
  unfold cnt
  rw [if_neg (by omega)]; rfl
theorem pow4 {d : Nat} (hd : d ≤ 4) : 0 < 2 ^ d ∧ 2 ^ d ≤ 16 := ⟨Nat.two_pow_pos _, Nat.le_trans (Nat.pow_le_pow_right (by decide) hd) (by decide)⟩
theorem nodes_lvl {l : List Sm.PR} (hf : Fine l) {e : Nat} (he : e ≤ 15) : Sb.lvl (nodesL l (e + 1)) = nodesL l e := by
  have e2 : 2 ^ (e + 1) / 2 = 2 ^ e := by rw [Nat.pow_succ, Nat.mul_div_cancel _ (by decide)]
  have h2 : 2 ^ (e + 1) = 2 ^ e * 2 := Nat.pow_succ 2 e
  unfold Sb.lvl
  rw [nodesK_len, e2]
  show _ = (List.range (2 ^ e)).map _
  refine List.map_congr_left fun j hj => ?_
  have hj2 := List.mem_range.1 hj
  rw [nodesK_get _ _ (by omega), nodesK_get _ _ (by omega)]
  exact ndB_halves hf (kF_len j e) he (kF_div (by omega) hj2).symm
theorem nodes_lvls {l : List Sm.PR} (hf : Fine l) {d : Nat} (hd : d ≤ 16) : ∀ j, j ≤ d → Sb.lvls (nodesL l d) j = nodesL l (d - j)
  | 0, _ => rfl
  | j + 1, hj => by
    rw [Sb.lvls_succ, nodes_lvls hf hd j (by omega), show d - j = (d - (j + 1)) + 1 by omega, nodes_lvl hf (by omega)]
theorem nodes_root {l : List Sm.PR} (hf : Fine l) {d : Nat} (hd : d ≤ 16) : Sb.root (nodesL l d) d = Sm.nd 128 l := by
  have e : Sb.root (nodesL l d) d = (Sb.lvls (nodesL l d) d).getD 0 [] := by unfold Sb.root; rfl
  rw [e, nodes_lvls hf hd d (Nat.le_refl _), Nat.sub_self, nodesK_get _ _ (by decide), Sm.ndB_zero]
theorem nodes_br {l : List Sm.PR} (hf : Fine l) {d : Nat} (hd : d ≤ 4) : brErr (nodesL l d) ((d : Nat) : Int) = 0 ∧ brVal (nodesL l d) ((d : Nat) : Int) = Sm.nd 128 l := by
  have h1 : brErr (nodesL l d) ((d : Nat) : Int) = 0 := by
    unfold brErr
    rw [cnt_nat hd, if_neg (by have := pow4 hd; omega), nodesK_len, if_neg (fun h => h rfl)]
  refine ⟨h1, ?_⟩
  unfold brVal
  rw [if_pos h1]
  exact nodes_root hf (by omega)
def nbd (i d : Nat) (k : List UInt8) : Bool := decide (bandN k d ≠ i)
def bkeysL (l : List Sm.PR) (i d : Nat) : List (List UInt8) := (Sm.keysS l).filter fun k => !nbd i d k
def ofV (k : List UInt8) (d : Nat) : Nat := if k.length = 16 then bandN k d else 0
def ofE (k : List UInt8) : Nat := if k.length = 16 then 0 else 10
def bandR (m : List Pr) (i d : Nat) : List Pr := m.filter fun p => decide (bandN p.k d = i)
theorem bandR_len (m : List Pr) (i d : Nat) : (bandR m i d).length ≤ m.length := List.length_filter_le _ _
theorem bandR_take {m : List Pr} {j : Nat} (hj : j < m.length) (i d : Nat) : bandR (m.take (j + 1)) i d = bandR (m.take j) i d ++ if bandN (m.getD j noPr).k d = i then [m.getD j noPr] else [] := by
  have e : m.getD j noPr = m[j] := by rw [List.getD_eq_getElem?_getD, List.getElem?_eq_getElem hj]; rfl
  unfold bandR
  rw [e, List.take_succ_eq_append_getElem hj, List.filter_append, List.filter_cons, List.filter_nil]
  by_cases h : bandN m[j].k d = i
  · rw [if_pos (decide_eq_true h), if_pos h]
  · rw [if_neg (by simpa using h), if_neg h]
theorem bandR_bel {m : List Pr} {kv : List Sm.PR} (hp : Pairs m kv) {i d : Nat} (hd : d ≤ 4) (hi : i < 2 ^ d) : bandR m i d = belR m (kF i d) d := by
  unfold bandR belR
  refine List.filter_congr fun p q => ?_
  have hk : p.k.length = 16 := hp.k16 (toP p) (List.mem_map.2 ⟨p, q, rfl⟩)
  rw [Bool.eq_iff_iff, decide_eq_true_eq, Sm.belowB_kv hk (kF_len i d) (by omega), kF_div (by omega) hi, bandN_kv hk (by omega)]
theorem bkeys_len {m : List Pr} {kv : List Sm.PR} (hp : Pairs m kv) (i d : Nat) : (bkeysL kv i d).length = (bandR m i d).length := by
  have h1 : ((Sm.prs kv (Sm.keysS kv)).filter fun p => decide (bandN p.1 d = i)).length = (bkeysL kv i d).length := by
    rw [← Sm.prs_filter kv (Sm.keysS kv) (fun k => decide (bandN k d = i)), Sm.prs_len]
    unfold bkeysL nbd
    congr 2
    funext k
    by_cases h : bandN k d = i <;> simp [h]
  have h2 : (((m.map toP)).filter fun p => decide (bandN p.1 d = i)).length = (bandR m i d).length := by
    unfold bandR
    rw [List.filter_map, List.length_map]; rfl
  rw [← h1, ← h2]
  exact (((Sm.prs_perm hp.fine.once).trans hp.perm.symm).filter _).length_eq
def keyB (a b : UInt8) : List UInt8 := [a, 0, b, 0, 0, 0, 0, 0, 0, 0, 0, 0, 0, 0, 0, 0]
theorem keyB_len (a b : UInt8) : (keyB a b).length = 16 := rfl

theorem c15_ct (F : Hp) (d : Int) : Ct Tryd.prog 65 [I (d)] [F] (fun _ : Unit => I ((cnt d : Nat) : Int)) (fun _ => True) (fun _ => [F]) := by
  refine Ct.walk Tryd.func65 rfl Tryd.ntmps65 rfl (fun w0 hw0 => ?_)
  change J _ [(0, _)] _ _ _
  refine J.seq (fun K1 hK1 => ?_)
  refine J.region ?_
  refine J.y (op_assign rfl rfl) rfl rfl rfl ?_
  refine J.nil ?_
  refine J.then_n (J.k hK1 ?_)
  refine J.keepE [(0, _)] ⟨rfl, trivial⟩ ?_
  refine J.seq (fun K2 hK2 => ?_)
  refine J.seq (fun K3 hK3 => ?_)
  refine J.region ?_
  refine J.y (op_move rfl rfl) rfl rfl rfl ?_
  refine J.y (op_lss rfl rfl rfl) rfl rfl rfl ?_
  refine J.y (op_move rfl rfl) rfl rfl rfl ?_
  refine J.split (d := 7) rfl (fun h7 => ?_) (fun h7 => ?_)
  ·
    refine J.no (Wan.is rfl rfl rfl rfl rfl) rfl rfl ?_
    refine J.no (Wan.is rfl rfl rfl rfl rfl) rfl rfl ?_
    refine J.y (op_pickT rfl rfl rfl) rfl rfl rfl ?_
    refine J.nil ?_
    refine J.then_n (J.k hK3 ?_)
    refine J.keepE [(0, _), (10, _)] ⟨rfl, rfl, trivial⟩ ?_
    refine J.condT rfl rfl ?_
    refine J.seq (fun K4 hK4 => ?_)
    refine J.region ?_
    refine J.y (op_assign rfl rfl) rfl rfl rfl ?_
    refine J.nil ?_
    refine J.then_n (J.k hK4 ?_)
    refine J.keepE [(2, _)] ⟨rfl, trivial⟩ ?_
    refine J.ret ?_
    refine J.then_r ?_
    exact J.done hw0 (fun _ _ h => h) (res1 rfl rfl) (retOk () (by rw [cnt_zero.2 (by omega)]; rfl) trivial [0] rfl (by decide))
  ·
    refine J.yg (Wan.is rfl rfl rfl rfl rfl) (op_move rfl rfl) rfl rfl ?_
    refine J.yg (Wan.is rfl rfl rfl rfl rfl) (op_gtr rfl rfl rfl) rfl rfl ?_
    refine J.y (op_pickF rfl rfl rfl) rfl rfl rfl ?_
    refine J.nil ?_
    refine J.then_n (J.k hK3 ?_)
    refine J.keepE [(0, _), (10, _)] ⟨rfl, rfl, trivial⟩ ?_
    refine J.ite rfl (fun h10 => ?_) (fun h10 => ?_)
    ·
      refine J.seq (fun K5 hK5 => ?_)
      refine J.region ?_
      refine J.y (op_assign rfl rfl) rfl rfl rfl ?_
      refine J.nil ?_
      refine J.then_n (J.k hK5 ?_)
      refine J.keepE [(2, _)] ⟨rfl, trivial⟩ ?_
      refine J.ret ?_
      refine J.then_r ?_
      exact J.done hw0 (fun _ _ h => h) (res1 rfl rfl) (retOk () (by rw [cnt_zero.2 (by omega)]; rfl) trivial [0] rfl (by decide))
    ·
      refine J.skip ?_
      refine J.then_n (J.k hK2 ?_)
      refine J.keepE [(0, _)] ⟨rfl, trivial⟩ ?_
      refine J.seq (fun K6 hK6 => ?_)
      obtain ⟨e, rfl⟩ := Int.eq_ofNat_of_zero_le (show 0 ≤ d by omega)
      have he : e ≤ 4 := by omega
      refine J.region ?_
      refine J.y (op_assign rfl rfl) rfl rfl rfl ?_
      refine J.nil ?_
      refine J.then_n (J.k hK6 ?_)
      refine J.keepE [(0, _), (3, _)] ⟨rfl, rfl, trivial⟩ ?_
      refine J.seq (fun K7 hK7 => ?_)
      refine J.seq (fun K8 hK8 => ?_)
      refine J.region ?_
      refine J.y (op_assign rfl rfl) rfl rfl rfl ?_
      refine J.nil ?_
      refine J.then_n (J.k hK8 ?_)
      refine J.keepE [(0, _), (3, _), (4, _)] ⟨rfl, rfl, rfl, trivial⟩ ?_
      refine J.block ?_
      refine J.loop (X := Nat × Nat) (fun ζ => [(0, I ((e : Nat) : Int)), (3, I ((ζ.2 : Nat) : Int)), (4, I ((ζ.1 : Nat) : Int))]) (fun ζ => [F]) (fun ζ => ζ.1 ≤ e ∧ ζ.2 = 2 ^ ζ.1) (fun ζ => e - ζ.1) (0, 1) (⟨Nat.zero_le _, rfl⟩) ⟨rfl, rfl, rfl, trivial⟩ (fun _ h => h) ?_
      rintro ⟨i, q⟩ ⟨hi, hq⟩ I0 hI0
      dsimp only at hi hq ⊢
      have hp16 := pow16 (i := i) (by omega)
      rw [← hq] at hp16
      refine J.seq (fun K9 hK9 => ?_)
      refine J.seq (fun K10 hK10 => ?_)
      refine J.region ?_
      refine J.y (op_move rfl rfl) rfl rfl rfl ?_
      refine J.y (op_move rfl rfl) rfl rfl rfl ?_
      refine J.y (op_lss rfl rfl rfl) rfl rfl rfl ?_
      refine J.nil ?_
      refine J.then_n (J.k hK10 ?_)
      refine J.keepE [(0, _), (3, _), (4, _), (13, _)] ⟨rfl, rfl, rfl, rfl, trivial⟩ ?_
      refine J.ite rfl (fun h13 => ?_) (fun h13 => ?_)
      ·
        refine J.skip ?_
        refine J.then_n (J.k hK9 ?_)
        refine J.keepE [(0, _), (3, _), (4, _)] ⟨rfl, rfl, rfl, trivial⟩ ?_
        refine J.seq (fun K11 hK11 => ?_)
        refine J.block ?_
        refine J.region ?_
        refine J.y (op_move rfl rfl) rfl rfl rfl ?_
        refine J.y ((op_mul rfl rfl rfl (by first | omega | (simp only [List.length_append, List.length_cons, List.length_nil, List.length_take, List.length_drop] at *; omega))).as (v' := I ((q * 2 : Nat) : Int)) (congrArg I (by omega))) rfl rfl rfl ?_
        refine J.y (op_assign rfl rfl) rfl rfl rfl ?_
        refine J.nil ?_
        refine J.blk_n ?_
        refine J.then_n (J.k hK11 ?_)
        refine J.keepE [(0, _), (3, _), (4, _)] ⟨rfl, rfl, rfl, trivial⟩ ?_
        refine J.region ?_
        refine J.y (op_move rfl rfl) rfl rfl rfl ?_
        refine J.y ((op_add rfl rfl rfl (by first | omega | (simp only [List.length_append, List.length_cons, List.length_nil, List.length_take, List.length_drop] at *; omega))).as (v' := I ((i + 1 : Nat) : Int)) (congrArg I (by omega))) rfl rfl rfl ?_
        refine J.y (op_assign rfl rfl) rfl rfl rfl ?_
        refine J.nil ?_
        refine J.then_n ?_
        exact J.kk (i + 1, q * 2) (fun η (hη : _ ∧ e - η.1 < e - i) => hI0 η hη.1 hη.2) ⟨⟨by dsimp only; omega, by dsimp only; rw [Nat.pow_succ, ← hq]⟩, by first | omega | (dsimp only; omega)⟩ ⟨rfl, rfl, rfl, trivial⟩ (fun _ h => h)
      ·
        refine J.exit ?_
        refine J.then_x ?_
        refine J.then_x ?_
        refine J.blk_eq ?_
        refine J.then_n (J.k hK7 ?_)
        refine J.keepE [(3, _)] ⟨rfl, trivial⟩ ?_
        refine J.seq (fun K12 hK12 => ?_)
        refine J.region ?_
        refine J.y (op_move rfl rfl) rfl rfl rfl ?_
        refine J.y (op_assign rfl rfl) rfl rfl rfl ?_
        refine J.nil ?_
        refine J.then_n (J.k hK12 ?_)
        refine J.keepE [(2, _)] ⟨rfl, trivial⟩ ?_
        refine J.ret ?_
        exact J.done hw0 (fun _ _ h => h) (res1 rfl rfl) (retOk () (by rw [cnt_nat he, hq, show i = e by omega]) trivial [0] rfl (by decide))

theorem bnodes_ct (F : Hp) (hK : Cells F ⟨4, 0, none⟩ (Sha.K.map W32)) (g : Nat) (l : List Sm.PR) (hT : TreeA F g l) (hf : Fine l) (d : Nat) (hd : d ≤ 4) : Ct Tryd.prog 64 [Ptr g, I ((d : Nat) : Int)] [F] (fun x : Option Addr × Nat × Hp => .tuple #[.slice x.1 (nodesL l d).length x.2.1, I ((0 : Nat) : Int)]) (fun x => Row x.2.2 9 1 x.1 (nodesL l d).length x.2.1 (strsV (nodesL l d))) (fun x => [F, x.2.2]) := by
  have hpw := pow4 hd
  have hcn := cnt_nat hd
  refine Ct.walk Tryd.func64 rfl Tryd.ntmps64 rfl (fun w0 hw0 => ?_)
  change J _ [(0, _), (1, _)] _ _ _
  refine J.seq (fun K1 hK1 => ?_)
  refine J.region ?_
  refine J.y (op_assign rfl rfl) rfl rfl rfl ?_
  refine J.y (op_assign rfl rfl) rfl rfl rfl ?_
  refine J.nil ?_
  refine J.then_n (J.k hK1 ?_)
  refine J.keepE [(0, _), (1, _)] ⟨rfl, rfl, trivial⟩ ?_
  refine J.seq (fun K2 hK2 => ?_)
  refine J.region ?_
  refine J.y (op_move rfl rfl) rfl rfl rfl ?_
  refine J.e (op_call rfl rfl ent66 (Ct.use0 (fun F' hF => bcount_ct F' ((d : Nat) : Int)))) rfl rfl rfl ?_
  intro g10 _
  refine J.y (op_assign rfl rfl) rfl rfl rfl ?_
  refine J.nil ?_
  refine J.then_n (J.k hK2 ?_)
  refine J.keepE [(0, _), (1, _), (6, _)] ⟨rfl, rfl, rfl, trivial⟩ ?_
  refine J.seq (fun K3 hK3 => ?_)
  refine J.seq (fun K4 hK4 => ?_)
  rw [hcn]
  refine J.region ?_
  refine J.y (op_move rfl rfl) rfl rfl rfl ?_
  refine J.y ((op_eql rfl rfl rfl).as (v' := .bool false) (congrArg Value.bool (decide_eq_false (by omega)))) rfl rfl rfl ?_
  refine J.nil ?_
  refine J.then_n (J.k hK4 ?_)
  refine J.keepE [(0, _), (1, _), (6, _), (12, _)] ⟨rfl, rfl, rfl, rfl, trivial⟩ ?_
  refine J.condF rfl rfl ?_
  refine J.skip ?_
  refine J.then_n (J.k hK3 ?_)
  refine J.keepE [(0, _), (1, _), (6, _)] ⟨rfl, rfl, rfl, trivial⟩ ?_
  refine J.seq (fun K5 hK5 => ?_)
  refine J.region ?_
  refine J.y (op_assign rfl rfl) rfl rfl rfl ?_
  refine J.nil ?_
  refine J.then_n (J.k hK5 ?_)
  refine J.keepE [(0, _), (1, _), (6, _), (7, _)] ⟨rfl, rfl, rfl, rfl, trivial⟩ ?_
  refine J.seq (fun K6 hK6 => ?_)
  refine J.seq (fun K7 hK7 => ?_)
  refine J.region ?_
  refine J.y (op_move rfl rfl) rfl rfl rfl ?_
  refine J.y (op_move rfl rfl) rfl rfl rfl ?_
  refine J.nil ?_
  refine J.then_n (J.k hK7 ?_)
  refine J.keepE [(0, _), (1, _), (7, _), (13, _), (14, _)] ⟨rfl, rfl, rfl, rfl, rfl, trivial⟩ ?_
  refine J.block ?_
  refine J.loop (X := Nat × Option Addr × Nat × Hp) (fun ζ => [(0, Ptr g), (1, I ((d : Nat) : Int)), (7, .slice ζ.2.1 ((nodesK l d ζ.1).length) ζ.2.2.1), (13, I ((2 ^ d : Nat) : Int)), (14, I ((ζ.1 : Nat) : Int))]) (fun ζ => [F, ζ.2.2.2]) (fun ζ => ζ.1 ≤ 2 ^ d ∧ Row ζ.2.2.2 9 1 ζ.2.1 (nodesK l d ζ.1).length ζ.2.2.1 (strsV (nodesK l d ζ.1))) (fun ζ => 2 ^ d - ζ.1) (0, none, 0, (fun _ => none)) (⟨Nat.zero_le _, RowQ.nil⟩) ⟨rfl, rfl, rfl, rfl, rfl, trivial⟩ (fun _ h => h.empty.pick [0, 1] (by decide)) ?_
  rintro ⟨i, A, c, m⟩ ⟨hi, hr⟩ I0 hI0
  dsimp only at hi hr ⊢
  have hnl := nodesK_len l d i
  refine J.seq (fun K8 hK8 => ?_)
  refine J.region ?_
  refine J.y (op_lss rfl rfl rfl) rfl rfl rfl ?_
  refine J.nil ?_
  refine J.then_n (J.k hK8 ?_)
  refine J.keepE [(0, _), (1, _), (7, _), (13, _), (14, _), (15, _)] ⟨rfl, rfl, rfl, rfl, rfl, rfl, trivial⟩ ?_
  refine J.seq (fun K9 hK9 => ?_)
  refine J.ite rfl (fun h15 => ?_) (fun h15 => ?_)
  ·
    have hi2 : i < 2 ^ d := by omega
    have hkf := kF_len i d
    have hmd : min (((d : Nat) : Int)).toNat 128 = d := by rw [Int.toNat_natCast]; omega
    refine J.skip ?_
    refine J.then_n (J.k hK9 ?_)
    refine J.keepE [(0, _), (1, _), (7, _), (13, _), (14, _)] ⟨rfl, rfl, rfl, rfl, rfl, trivial⟩ ?_
    refine J.seq (fun K10 hK10 => ?_)
    refine J.block ?_
    refine J.seq (fun K11 hK11 => ?_)
    refine J.region ?_
    refine J.y (op_move rfl rfl) rfl rfl rfl ?_
    refine J.y (op_assign rfl rfl) rfl rfl rfl ?_
    refine J.nil ?_
    refine J.then_n (J.k hK11 ?_)
    refine J.keepE [(0, _), (1, _), (7, _), (8, _), (13, _), (14, _)] ⟨rfl, rfl, rfl, rfl, rfl, rfl, trivial⟩ ?_
    refine J.region ?_
    refine J.y (op_move rfl rfl) rfl rfl rfl ?_
    refine J.y (op_move rfl rfl) rfl rfl rfl ?_
    refine J.y (op_move rfl rfl) rfl rfl rfl ?_
    refine J.y (op_move rfl rfl) rfl rfl rfl ?_
    refine J.e (op_call rfl rfl ent58 (Ct.use0 (fun F' hF => firstb_ct F' i d (by omega) (by assumption)))) rfl rfl rfl ?_
    intro g21 _
    refine J.y (op_move rfl rfl) rfl rfl rfl ?_
    refine J.e (op_call rfl rfl ent55 (Ct.use0 (fun F' hF => tNode_ct F' (hK.mono (hF F (by simp))) g l (hT.mono (hF F (by simp))) (by assumption) (kF i d) (by first | omega | decide) ((d : Nat) : Int) (by first | assumption | exact wf_zero (by assumption) | exact wf_bel (by assumption) (by assumption))))) rfl rfl rfl ?_
    intro g23 _
    refine J.e (op_buildSlice (l := [.tmp 23]) (xs := [[Str (Sm.ndB l (kF i d) (min ((d : Nat) : Int).toNat 128))]]) rfl rfl rfl rfl Tryd.underlying36 el9 rfl (by decide) (by decide) (by simp)) rfl rfl rfl ?_
    intro g24 _
    change J _ _ _ [F, m, blk g24 [Str (Sm.ndB l (kF i d) (min ((d : Nat) : Int).toNat 128))] 9] _
    refine J.e (op_append (i := 1) (xs := strsV (nodesK l d i)) (m2 := blk g24 [Str (Sm.ndB l (kF i d) (min ((d : Nat) : Int).toNat 128))] 9) (ys := [[Str (Sm.ndB l (kF i d) (min ((d : Nat) : Int).toNat 128))]]) rfl rfl rfl Tryd.underlying36 Tryd.underlying36 el9 rfl hr (by simp) ((row_lit (q := True) (strsV [Sm.ndB l (kF i d) (min ((d : Nat) : Int).toNat 128)]) rfl (by simp [strsV]) rfl).sl) rfl (by first | omega | (simp only [List.length_append, List.length_cons, List.length_nil, List.length_take, List.length_drop] at *; omega)) (by first | omega | (simp only [List.length_append, List.length_cons, List.length_nil, List.length_take, List.length_drop] at *; omega))) rfl rfl rfl ?_
    rintro ⟨A25, c25, m25⟩ h25
    try dsimp only at h25
    change J _ ((25, .slice A25 (((nodesK l d i).length) + 1) c25) :: _) _ [F, m25, blk g24 [Str (Sm.ndB l (kF i d) (min ((d : Nat) : Int).toNat 128))] 9] _
    rw [← strsV_snoc] at h25
    refine J.y (op_assign rfl rfl) rfl rfl rfl ?_
    refine J.nil ?_
    refine J.blk_n ?_
    refine J.then_n (J.k hK10 ?_)
    refine J.keepE [(0, _), (1, _), (7, _), (13, _), (14, _)] ⟨rfl, rfl, rfl, rfl, rfl, trivial⟩ ?_
    refine J.region ?_
    refine J.y ((op_add rfl rfl rfl (by first | omega | (simp only [List.length_append, List.length_cons, List.length_nil, List.length_take, List.length_drop] at *; omega))).as (v' := I ((i + 1 : Nat) : Int)) (congrArg I (by omega))) rfl rfl rfl ?_
    refine J.y (op_move rfl rfl) rfl rfl rfl ?_
    refine J.nil ?_
    refine J.then_n ?_
    exact J.kk (i + 1, A25, c25, m25) (fun η (hη : _ ∧ 2 ^ d - η.1 < 2 ^ d - i) => hI0 η hη.1 hη.2) ⟨⟨by dsimp only; omega, by dsimp only; rw [nodesK_succ, List.length_append]; rw [hmd] at h25; exact h25⟩, by first | omega | (dsimp only; omega)⟩ ⟨rfl, rfl, by dsimp only; rw [nodesK_succ, List.length_append]; rfl, rfl, rfl, trivial⟩ (fun _ h => h.pick [0, 1] (by decide))
  ·
    refine J.exit ?_
    refine J.then_x ?_
    refine J.then_x ?_
    refine J.blk_eq ?_
    refine J.then_n (J.k hK6 ?_)
    refine J.keepE [(7, _)] ⟨rfl, trivial⟩ ?_
    refine J.seq (fun K12 hK12 => ?_)
    refine J.region ?_
    refine J.y (op_move rfl rfl) rfl rfl rfl ?_
    refine J.y (op_assign rfl rfl) rfl rfl rfl ?_
    refine J.y (op_assign rfl rfl) rfl rfl rfl ?_
    refine J.nil ?_
    refine J.then_n (J.k hK12 ?_)
    refine J.keepE [(4, _), (5, _)] ⟨rfl, rfl, trivial⟩ ?_
    refine J.ret ?_
    obtain rfl : i = 2 ^ d := by omega
    exact J.done hw0 (fun _ _ h => h) (res2 rfl rfl rfl) (retOk (A, c, m) rfl hr [0, 1] rfl (by decide))

theorem bnodesB_ct (F : Hp) (g : Nat) (d : Int) (hd : cnt d = 0) : Ct Tryd.prog 64 [Ptr g, I (d)] [F] (fun _ : Unit => .tuple #[.slice none 0 0, I ((1 : Nat) : Int)]) (fun _ => True) (fun _ => [F]) := by
  refine Ct.walk Tryd.func64 rfl Tryd.ntmps64 rfl (fun w0 hw0 => ?_)
  change J _ [(0, _), (1, _)] _ _ _
  refine J.seq (fun K1 hK1 => ?_)
  refine J.region ?_
  refine J.y (op_assign rfl rfl) rfl rfl rfl ?_
  refine J.y (op_assign rfl rfl) rfl rfl rfl ?_
  refine J.nil ?_
  refine J.then_n (J.k hK1 ?_)
  refine J.keepE [(0, _), (1, _)] ⟨rfl, rfl, trivial⟩ ?_
  refine J.seq (fun K2 hK2 => ?_)
  refine J.region ?_
  refine J.y (op_move rfl rfl) rfl rfl rfl ?_
  refine J.e (op_call rfl rfl ent66 (Ct.use0 (fun F' hF => bcount_ct F' d))) rfl rfl rfl ?_
  intro g10 _
  refine J.y (op_assign rfl rfl) rfl rfl rfl ?_
  refine J.nil ?_
  refine J.then_n (J.k hK2 ?_)
  refine J.keepE [(0, _), (1, _), (6, _)] ⟨rfl, rfl, rfl, trivial⟩ ?_
  refine J.seq (fun K3 hK3 => ?_)
  refine J.seq (fun K4 hK4 => ?_)
  refine J.region ?_
  refine J.y (op_move rfl rfl) rfl rfl rfl ?_
  refine J.y ((op_eql rfl rfl rfl).as (v' := .bool true) (congrArg Value.bool (decide_eq_true (by omega)))) rfl rfl rfl ?_
  refine J.nil ?_
  refine J.then_n (J.k hK4 ?_)
  refine J.keepE [(0, _), (1, _), (6, _), (12, _)] ⟨rfl, rfl, rfl, rfl, trivial⟩ ?_
  refine J.condT rfl rfl ?_
  refine J.seq (fun K5 hK5 => ?_)
  refine J.region ?_
  refine J.y (op_assign rfl rfl) rfl rfl rfl ?_
  refine J.y (op_assign rfl rfl) rfl rfl rfl ?_
  refine J.nil ?_
  refine J.then_n (J.k hK5 ?_)
  refine J.keepE [(4, _), (5, _)] ⟨rfl, rfl, trivial⟩ ?_
  refine J.ret ?_
  refine J.then_r ?_
  exact J.done hw0 (fun _ _ h => h) (res2 rfl rfl rfl) (retOk () rfl trivial [0] rfl (by decide))

theorem bk1_ct (F : Hp) (k : List UInt8) (hk : k.length ≤ 1000000) (pd pi : Nat) (d i : Nat) (hpd : Cells F ⟨pd, 0, none⟩ [I ((d : Nat) : Int)]) (hpi : Cells F ⟨pi, 0, none⟩ [I ((i : Nat) : Int)]) (hd4 : d ≤ 16) : Ct Tryd.prog 115 [Str (k), Ptr pd, Ptr pi] [F] (fun _ : Unit => .bool (nbd i d k)) (fun _ => True) (fun _ => [F]) := by
  refine Ct.walk Tryd.func115 rfl Tryd.ntmps115 rfl (fun w0 hw0 => ?_)
  change J _ [(0, _), (1, _), (2, _)] _ _ _
  refine J.seq (fun K1 hK1 => ?_)
  refine J.region ?_
  refine J.y (op_assign rfl rfl) rfl rfl rfl ?_
  refine J.nil ?_
  refine J.then_n (J.k hK1 ?_)
  refine J.keepE [(0, _), (1, _), (2, _)] ⟨rfl, rfl, rfl, trivial⟩ ?_
  refine J.seq (fun K2 hK2 => ?_)
  refine J.draw [F] [] (.y 0 (.y 1 (.y 3 (.e 2 (.y 4 (.y 5 .nil)))))) Tryd.wide (by decide +kernel) (by simp) ?_
  refine J.dy rfl (op_move rfl rfl) rfl rfl rfl rfl ?_
  refine J.dy rfl (op_load (v := I ((d : Nat) : Int)) rfl rfl Tryd.isAgg3 (m := F) (by simp) (hpd)) rfl rfl rfl rfl ?_
  refine J.dy rfl (op_load (v := I ((i : Nat) : Int)) rfl rfl Tryd.isAgg3 (m := F) (by simp) (hpi)) rfl rfl rfl rfl ?_
  refine J.de rfl (op_call rfl rfl ent56 (Ct.use0 (fun F' hF => band_ct F' k (by first | omega | exact hsm _) d (by omega)))) rfl rfl rfl (by simp) ?_
  intro g7 _
  refine J.dy rfl (op_neq rfl rfl rfl) rfl rfl rfl rfl ?_
  refine J.dy rfl (op_assign rfl rfl) rfl rfl rfl rfl ?_
  refine J.dnil ?_
  refine J.then_n (J.k hK2 ?_)
  refine J.keepE [(4, _)] ⟨rfl, trivial⟩ ?_
  refine J.ret ?_
  exact J.done hw0 (fun _ _ h => h) (res1 rfl rfl) (retOk () (by unfold nbd; exact congrArg Value.bool (decide_eq_decide.2 (by omega))) trivial [0] rfl (by decide))

theorem sidx_ctB (F : Hp) (A : Option Addr) (n c : Nat) (ks : List (List UInt8)) (hs : Sl F 1 A n c (strsV ks)) (hn : n ≤ 1000000) (hsm : ∀ k : Nat, (ks.getD k []).length ≤ 1000000) (pd pi : Nat) (d i : Nat) (hpd : Cells F ⟨pd, 0, none⟩ [I ((d : Nat) : Int)]) (hpi : Cells F ⟨pi, 0, none⟩ [I ((i : Nat) : Int)]) (hd4 : d ≤ 16) : Ct Tryd.prog 148 [.slice A n c, .func (.func 115) #[] #[Ptr pd, Ptr pi]] [F] (fun _ : Unit => I (ixS (nbd i d) ks)) (fun _ => True) (fun _ => [F]) := by
  have hkn : ks.length = n := by have := hs.1; simpa [strsV] using this
  refine Ct.walk Tryd.func148 rfl Tryd.ntmps148 rfl (fun w0 hw0 => ?_)
  change J _ [(0, _), (1, _)] _ _ _
  refine J.seq (fun K1 hK1 => ?_)
  refine J.region ?_
  refine J.y (op_assign rfl rfl) rfl rfl rfl ?_
  refine J.nil ?_
  refine J.then_n (J.k hK1 ?_)
  refine J.keepE [(0, _), (1, _)] ⟨rfl, rfl, trivial⟩ ?_
  refine J.seq (fun K2 hK2 => ?_)
  refine J.seq (fun K3 hK3 => ?_)
  refine J.region ?_
  refine J.y (op_move rfl rfl) rfl rfl rfl ?_
  refine J.y (op_len Tryd.underlying36 rfl rfl) rfl rfl rfl ?_
  refine J.y (op_move rfl rfl) rfl rfl rfl ?_
  refine J.nil ?_
  refine J.then_n (J.k hK3 ?_)
  refine J.keepE [(0, _), (1, _), (7, _), (8, _)] ⟨rfl, rfl, rfl, rfl, trivial⟩ ?_
  refine J.block ?_
  refine J.loop (X := Nat) (fun ζ => [(0, .slice A n c), (1, .func (.func 115) #[] #[Ptr pd, Ptr pi]), (7, I ((n : Nat) : Int)), (8, I ((ζ : Nat) : Int))]) (fun ζ => [F]) (fun ζ => ζ ≤ n ∧ ∀ j < ζ, nbd i d (ks.getD j []) = false) (fun ζ => n - ζ) 0 (⟨Nat.zero_le _, fun j h => absurd h (Nat.not_lt_zero j)⟩) ⟨rfl, rfl, rfl, rfl, trivial⟩ (fun _ h => h) ?_
  rintro k ⟨hk, hno⟩ I0 hI0
  refine J.seq (fun K4 hK4 => ?_)
  refine J.region ?_
  refine J.y (op_lss rfl rfl rfl) rfl rfl rfl ?_
  refine J.nil ?_
  refine J.then_n (J.k hK4 ?_)
  refine J.keepE [(0, _), (1, _), (7, _), (8, _), (9, _)] ⟨rfl, rfl, rfl, rfl, rfl, trivial⟩ ?_
  refine J.seq (fun K5 hK5 => ?_)
  refine J.ite rfl (fun h9 => ?_) (fun h9 => ?_)
  ·
    refine J.skip ?_
    refine J.then_n (J.k hK5 ?_)
    refine J.keepE [(0, _), (1, _), (7, _), (8, _)] ⟨rfl, rfl, rfl, rfl, trivial⟩ ?_
    refine J.seq (fun K6 hK6 => ?_)
    refine J.block ?_
    refine J.seq (fun K7 hK7 => ?_)
    refine J.region ?_
    refine J.y (op_move rfl rfl) rfl rfl rfl ?_
    refine J.y (op_assign rfl rfl) rfl rfl rfl ?_
    refine J.nil ?_
    refine J.then_n (J.k hK7 ?_)
    refine J.keepE [(0, _), (1, _), (5, _), (7, _), (8, _)] ⟨rfl, rfl, rfl, rfl, rfl, trivial⟩ ?_
    refine J.seq (fun K8 hK8 => ?_)
    refine J.region ?_
    refine J.y (op_move rfl rfl) rfl rfl rfl ?_
    refine J.y (op_move rfl rfl) rfl rfl rfl ?_
    refine J.y (op_move rfl rfl) rfl rfl rfl ?_
    refine J.y (op_indexAddr (i := k) rfl rfl rfl Tryd.underlying36 Tryd.sizeOf9 hs (by first | omega | (simp only [List.length_append, List.length_cons, List.length_nil, List.length_take, List.length_drop] at *; omega))) rfl rfl rfl ?_
    refine J.y (op_load rfl rfl Tryd.isAgg9 (m := F) (by simp) (hs.elem (strsV_get (getSome [] (by first | omega | (simp only [List.length_append, List.length_cons, List.length_nil, List.length_take, List.length_drop] at *; omega)))))) rfl rfl rfl ?_
    refine J.e (op_callV rfl rfl rfl ent115 (Ct.use0 (fun F' hF => bk1_ct F' (ks.getD k []) (by first | omega | (exact hsm _)) pd pi d i (hpd.mono (hF F (by simp))) (hpi.mono (hF F (by simp))) (by omega)))) rfl rfl rfl ?_
    intro g16 _
    refine J.nil ?_
    refine J.then_n (J.k hK8 ?_)
    refine J.keepE [(0, _), (1, _), (5, _), (7, _), (8, _), (16, _)] ⟨rfl, rfl, rfl, rfl, rfl, rfl, trivial⟩ ?_
    refine J.cond rfl (fun h16 => ?_) (fun h16 => ?_)
    ·
      refine J.seq (fun K9 hK9 => ?_)
      refine J.region ?_
      refine J.y (op_move rfl rfl) rfl rfl rfl ?_
      refine J.y (op_assign rfl rfl) rfl rfl rfl ?_
      refine J.nil ?_
      refine J.then_n (J.k hK9 ?_)
      refine J.keepE [(4, _)] ⟨rfl, trivial⟩ ?_
      refine J.ret ?_
      refine J.blk_r ?_
      refine J.then_r ?_
      refine J.then_r ?_
      refine J.blk_r ?_
      refine J.then_r ?_
      exact J.done hw0 (fun _ _ h => h) (res1 rfl rfl) (retOk () (by rw [ixS_at (k := k) (by omega) (by simpa using h16) hno]) trivial [0] rfl (by decide))
    ·
      refine J.skip ?_
      refine J.blk_n ?_
      refine J.then_n (J.k hK6 ?_)
      refine J.keepE [(0, _), (1, _), (7, _), (8, _)] ⟨rfl, rfl, rfl, rfl, trivial⟩ ?_
      refine J.region ?_
      refine J.y ((op_add rfl rfl rfl (by first | omega | (simp only [List.length_append, List.length_cons, List.length_nil, List.length_take, List.length_drop] at *; omega))).as (v' := I ((k + 1 : Nat) : Int)) (congrArg I (by omega))) rfl rfl rfl ?_
      refine J.y (op_move rfl rfl) rfl rfl rfl ?_
      refine J.nil ?_
      refine J.then_n ?_
      exact J.kk (k + 1) (fun η (hη : _ ∧ n - η < n - k) => hI0 η hη.1 hη.2) ⟨⟨by omega, fun j hj => by rcases Nat.lt_succ_iff_lt_or_eq.1 hj with h | rfl; exact hno j h; simpa using h16⟩, by first | omega | (dsimp only; omega)⟩ ⟨rfl, rfl, rfl, rfl, trivial⟩ (fun _ h => h)
  ·
    refine J.exit ?_
    refine J.then_x ?_
    refine J.then_x ?_
    refine J.blk_eq ?_
    refine J.then_n (J.k hK2 ?_)
    refine J.keepE [] trivial ?_
    refine J.seq (fun K10 hK10 => ?_)
    refine J.region ?_
    refine J.y (op_assign rfl rfl) rfl rfl rfl ?_
    refine J.nil ?_
    refine J.then_n (J.k hK10 ?_)
    refine J.keepE [(4, _)] ⟨rfl, trivial⟩ ?_
    refine J.ret ?_
    exact J.done hw0 (fun _ _ h => h) (res1 rfl rfl) (retOk () (by rw [ixS_no (fun j hj => hno j (by omega))]) trivial [0] rfl (by decide))

theorem sdel_ctB (F m : Hp) (A : Option Addr) (n c : Nat) (ks : List (List UInt8)) (hr : Row m 9 1 A n c (strsV ks)) (hn : n ≤ 1000000) (hsm : ∀ k : Nat, (ks.getD k []).length ≤ 1000000) (pd pi : Nat) (d i : Nat) (hpd : Cells F ⟨pd, 0, none⟩ [I ((d : Nat) : Int)]) (hpi : Cells F ⟨pi, 0, none⟩ [I ((i : Nat) : Int)]) (hd4 : d ≤ 16) :
    Ct Tryd.prog 109 [.slice A n c, .func (.func 115) #[] #[Ptr pd, Ptr pi]] [m, F] (fun _ : Hp => .slice A (ks.filter fun k => !nbd i d k).length c) (fun m' => Row m' 9 1 A (ks.filter fun k => !nbd i d k).length c (strsV (ks.filter fun k => !nbd i d k))) (fun m' => [m', F]) := by
  have hkn : ks.length = n := by have := hr.len; simpa [strsV] using this
  have hnc := hr.2.2.1
  refine Ct.walk Tryd.func109 rfl Tryd.ntmps109 rfl (fun w0 hw0 => ?_)
  change J _ [(0, _), (1, _)] _ _ _
  refine J.seq (fun K1 hK1 => ?_)
  refine J.region ?_
  refine J.y (op_assign rfl rfl) rfl rfl rfl ?_
  refine J.nil ?_
  refine J.then_n (J.k hK1 ?_)
  refine J.keepE [(0, _), (1, _)] ⟨rfl, rfl, trivial⟩ ?_
  refine J.seq (fun K2 hK2 => ?_)
  refine J.region ?_
  refine J.y (op_move rfl rfl) rfl rfl rfl ?_
  refine J.y (op_move rfl rfl) rfl rfl rfl ?_
  refine J.e (op_call rfl rfl ent148 (Ct.use0 (fun F' hF => sidx_ctB F' A n c ks (hr.sl.mono (hF m (by simp))) (by omega) (hsm) pd pi d i (hpd.mono (hF F (by simp))) (hpi.mono (hF F (by simp))) (by omega)))) rfl rfl rfl ?_
  intro g10 _
  refine J.y (op_assign rfl rfl) rfl rfl rfl ?_
  refine J.nil ?_
  refine J.then_n (J.k hK2 ?_)
  refine J.keepE [(0, _), (1, _), (5, _)] ⟨rfl, rfl, rfl, trivial⟩ ?_
  refine J.seq (fun K3 hK3 => ?_)
  refine J.seq (fun K4 hK4 => ?_)
  refine J.region ?_
  refine J.y (op_move rfl rfl) rfl rfl rfl ?_
  refine J.y (op_eql rfl rfl rfl) rfl rfl rfl ?_
  refine J.nil ?_
  refine J.then_n (J.k hK4 ?_)
  refine J.keepE [(0, _), (1, _), (5, _), (12, _)] ⟨rfl, rfl, rfl, rfl, trivial⟩ ?_
  refine J.ite rfl (fun h12 => ?_) (fun h12 => ?_)
  ·
    refine J.seq (fun K5 hK5 => ?_)
    refine J.region ?_
    refine J.y (op_move rfl rfl) rfl rfl rfl ?_
    refine J.y (op_assign rfl rfl) rfl rfl rfl ?_
    refine J.nil ?_
    refine J.then_n (J.k hK5 ?_)
    refine J.keepE [(4, _)] ⟨rfl, trivial⟩ ?_
    refine J.ret ?_
    refine J.then_r ?_
    have hf : (ks.filter fun k => !nbd i d k) = ks := ixS_none h12
    exact J.done hw0 (fun _ _ h => h) (res1 rfl rfl) (retOk m (by rw [hf, hkn]) (by rw [hf, hkn]; exact hr) [0, 1] rfl (by decide))
  ·
    refine J.skip ?_
    refine J.then_n (J.k hK3 ?_)
    refine J.keepE [(0, _), (1, _), (5, _)] ⟨rfl, rfl, rfl, trivial⟩ ?_
    refine J.seq (fun K6 hK6 => ?_)
    refine J.seq (fun K7 hK7 => ?_)
    obtain ⟨i0, h5, hi0, hf0⟩ := ixS_ex h12
    obtain ⟨ga, rfl⟩ := hr.at (by omega)
    rw [h5]
    refine J.region ?_
    refine J.y (op_move rfl rfl) rfl rfl rfl ?_
    refine J.y ((op_add rfl rfl rfl (by first | omega | (simp only [List.length_append, List.length_cons, List.length_nil, List.length_take, List.length_drop] at *; omega))).as (v' := I ((i0 + 1 : Nat) : Int)) (congrArg I (by omega))) rfl rfl rfl ?_
    refine J.y (op_assign rfl rfl) rfl rfl rfl ?_
    refine J.nil ?_
    refine J.then_n (J.k hK7 ?_)
    refine J.keepE [(0, _), (1, _), (5, _), (6, _)] ⟨rfl, rfl, rfl, rfl, trivial⟩ ?_
    refine J.block ?_
    refine J.loop (X := Nat × Nat × List (List UInt8) × Hp) (fun ζ => [(0, .slice (some ⟨ga, 0, none⟩) n c), (1, .func (.func 115) #[] #[Ptr pd, Ptr pi]), (5, I ((ζ.1 : Nat) : Int)), (6, I ((ζ.2.1 : Nat) : Int))]) (fun ζ => [ζ.2.2.2, F]) (fun ζ => ζ.1 < ζ.2.1 ∧ ζ.2.1 ≤ n ∧ ζ.2.2.1.length = n ∧ ζ.2.2.1.take ζ.1 = (ks.take ζ.2.1).filter (fun k => !nbd i d k) ∧ ζ.2.2.1.drop ζ.2.1 = ks.drop ζ.2.1 ∧ Row ζ.2.2.2 9 1 (some ⟨ga, 0, none⟩) n c (strsV ζ.2.2.1)) (fun ζ => n - ζ.2.1) (i0, i0 + 1, ks, m) (⟨by dsimp only; omega, by dsimp only; omega, hkn, hf0, rfl, hr⟩) ⟨rfl, rfl, rfl, rfl, trivial⟩ (fun _ h => h) ?_
    rintro ⟨w, j, L, m⟩ ⟨hw, hj, hL, hA, hB, hr⟩ I0 hI0
    dsimp only at hw hj hL hA hB hr ⊢
    refine J.seq (fun K8 hK8 => ?_)
    refine J.seq (fun K9 hK9 => ?_)
    refine J.region ?_
    refine J.y (op_move rfl rfl) rfl rfl rfl ?_
    refine J.y (op_move rfl rfl) rfl rfl rfl ?_
    refine J.y (op_len Tryd.underlying36 rfl rfl) rfl rfl rfl ?_
    refine J.y (op_lss rfl rfl rfl) rfl rfl rfl ?_
    refine J.nil ?_
    refine J.then_n (J.k hK9 ?_)
    refine J.keepE [(0, _), (1, _), (5, _), (6, _), (19, _)] ⟨rfl, rfl, rfl, rfl, rfl, trivial⟩ ?_
    refine J.ite rfl (fun h19 => ?_) (fun h19 => ?_)
    ·
      refine J.skip ?_
      refine J.then_n (J.k hK8 ?_)
      refine J.keepE [(0, _), (1, _), (5, _), (6, _)] ⟨rfl, rfl, rfl, rfl, trivial⟩ ?_
      refine J.seq (fun K10 hK10 => ?_)
      refine J.block ?_
      refine J.seq (fun K11 hK11 => ?_)
      refine J.region ?_
      refine J.y (op_move rfl rfl) rfl rfl rfl ?_
      refine J.y (op_move rfl rfl) rfl rfl rfl ?_
      refine J.y (op_indexAddrS (i := j) (j := 0 + j * 1) rfl rfl rfl Tryd.underlying36 Tryd.sizeOf9 (by first | omega | (simp only [List.length_append, List.length_cons, List.length_nil, List.length_take, List.length_drop] at *; omega)) (by omega)) rfl rfl rfl ?_
      have hnw : w < j := hw
      refine J.y (op_load rfl rfl Tryd.isAgg9 (m := m) (by simp) (hr.sl.cells (strsV_get (getSome [] (by first | omega | (simp only [List.length_append, List.length_cons, List.length_nil, List.length_take, List.length_drop] at *; omega)))))) rfl rfl rfl ?_
      refine J.y (op_assign rfl rfl) rfl rfl rfl ?_
      refine J.nil ?_
      refine J.then_n (J.k hK11 ?_)
      refine J.keepE [(0, _), (1, _), (5, _), (6, _), (7, _)] ⟨rfl, rfl, rfl, rfl, rfl, trivial⟩ ?_
      refine J.seq (fun K12 hK12 => ?_)
      have hgj : (L.getD j []).length ≤ 1000000 := by
        have e0 := congrArg (fun z => z.getD 0 []) hB
        have e1 : L.getD j [] = ks.getD j [] := by simpa [List.getD_eq_getElem?_getD, List.getElem?_drop] using e0
        rw [e1]; exact hsm j
      refine J.region ?_
      refine J.y (op_move rfl rfl) rfl rfl rfl ?_
      refine J.y (op_move rfl rfl) rfl rfl rfl ?_
      refine J.e (op_callV rfl rfl rfl ent115 (Ct.use0 (fun F' hF => bk1_ct F' (L.getD j []) (by first | omega | (exact hsm _)) pd pi d i (hpd.mono (hF F (by simp))) (hpi.mono (hF F (by simp))) (by omega)))) rfl rfl rfl ?_
      intro g28 _
      refine J.y (op_not rfl rfl) rfl rfl rfl ?_
      refine J.nil ?_
      refine J.then_n (J.k hK12 ?_)
      refine J.keepE [(0, _), (1, _), (5, _), (6, _), (7, _), (29, _)] ⟨rfl, rfl, rfl, rfl, rfl, rfl, trivial⟩ ?_
      refine J.cond rfl (fun h29 => ?_) (fun h29 => ?_)
      ·
        refine J.seq (fun K13 hK13 => ?_)
        refine J.region ?_
        refine J.y (op_move rfl rfl) rfl rfl rfl ?_
        refine J.y (op_move rfl rfl) rfl rfl rfl ?_
        refine J.y (op_move rfl rfl) rfl rfl rfl ?_
        refine J.y (op_indexAddrS (i := w) (j := 0 + w * 1) rfl rfl rfl Tryd.underlying36 Tryd.sizeOf9 (by first | omega | (simp only [List.length_append, List.length_cons, List.length_nil, List.length_take, List.length_drop] at *; omega)) (by omega)) rfl rfl rfl ?_
        refine J.s (op_storeRow (i := 0) (k := w) (off := 0) (b := [Str (L.getD j [])]) rfl rfl rfl rfl hr (vs := [Str (L.getD j [])]) rfl Tryd.sizeOf9 rfl (by omega) (strsV_get (getSome [] (by first | omega | (simp only [List.length_append, List.length_cons, List.length_nil, List.length_take, List.length_drop] at *; omega)))) rfl (Nat.le_refl _)) rfl rfl ?_
        rintro m9_1 hm9_1
        change J _ _ _ [m9_1, F] _
        rw [strsV_set] at hm9_1
        refine J.nil ?_
        refine J.then_n (J.k hK13 ?_)
        refine J.keepE [(0, _), (1, _), (5, _), (6, _)] ⟨rfl, rfl, rfl, rfl, trivial⟩ ?_
        refine J.region ?_
        refine J.y (op_move rfl rfl) rfl rfl rfl ?_
        refine J.y ((op_add rfl rfl rfl (by first | omega | (simp only [List.length_append, List.length_cons, List.length_nil, List.length_take, List.length_drop] at *; omega))).as (v' := I ((w + 1 : Nat) : Int)) (congrArg I (by omega))) rfl rfl rfl ?_
        refine J.y (op_assign rfl rfl) rfl rfl rfl ?_
        refine J.nil ?_
        refine J.blk_n ?_
        refine J.then_n (J.k hK10 ?_)
        refine J.keepE [(0, _), (1, _), (5, _), (6, _)] ⟨rfl, rfl, rfl, rfl, trivial⟩ ?_
        refine J.region ?_
        refine J.y (op_move rfl rfl) rfl rfl rfl ?_
        refine J.y ((op_add rfl rfl rfl (by first | omega | (simp only [List.length_append, List.length_cons, List.length_nil, List.length_take, List.length_drop] at *; omega))).as (v' := I ((j + 1 : Nat) : Int)) (congrArg I (by omega))) rfl rfl rfl ?_
        refine J.y (op_assign rfl rfl) rfl rfl rfl ?_
        refine J.nil ?_
        refine J.then_n ?_
        exact J.kk (w + 1, j + 1, L.set w (L.getD j []), m9_1) (fun η (hη : _ ∧ n - η.2.1 < n - j) => hI0 η hη.1 hη.2) ⟨⟨by dsimp only; omega, by dsimp only; omega, by dsimp only; rw [List.length_set]; exact hL, (del_keep hw (by omega) (by omega) hA hB (by simpa using h29)).1, (del_keep hw (by omega) (by omega) hA hB (by simpa using h29)).2, by assumption⟩, by first | omega | (dsimp only; omega)⟩ ⟨rfl, rfl, rfl, rfl, trivial⟩ (fun _ h => h)
      ·
        refine J.skip ?_
        refine J.blk_n ?_
        refine J.then_n (J.k hK10 ?_)
        refine J.keepE [(0, _), (1, _), (5, _), (6, _)] ⟨rfl, rfl, rfl, rfl, trivial⟩ ?_
        refine J.region ?_
        refine J.y (op_move rfl rfl) rfl rfl rfl ?_
        refine J.y ((op_add rfl rfl rfl (by first | omega | (simp only [List.length_append, List.length_cons, List.length_nil, List.length_take, List.length_drop] at *; omega))).as (v' := I ((j + 1 : Nat) : Int)) (congrArg I (by omega))) rfl rfl rfl ?_
        refine J.y (op_assign rfl rfl) rfl rfl rfl ?_
        refine J.nil ?_
        refine J.then_n ?_
        exact J.kk (w, j + 1, L, m) (fun η (hη : _ ∧ n - η.2.1 < n - j) => hI0 η hη.1 hη.2) ⟨⟨by dsimp only; omega, by dsimp only; omega, hL, (del_drop (by omega) hA hB (by simpa using h29)).1, (del_drop (by omega) hA hB (by simpa using h29)).2, hr⟩, by first | omega | (dsimp only; omega)⟩ ⟨rfl, rfl, rfl, rfl, trivial⟩ (fun _ h => h)
    ·
      refine J.exit ?_
      refine J.then_x ?_
      refine J.then_x ?_
      refine J.blk_eq ?_
      refine J.then_n (J.k hK6 ?_)
      refine J.keepE [(0, _), (5, _)] ⟨rfl, rfl, trivial⟩ ?_
      refine J.seq (fun K14 hK14 => ?_)
      refine J.region ?_
      refine J.y (op_move rfl rfl) rfl rfl rfl ?_
      refine J.y (op_move rfl rfl) rfl rfl rfl ?_
      refine J.y (op_slice (l := w) (h := n) rfl rfl Tryd.underlying36 Tryd.sizeOf9 rfl rfl (by omega)) rfl rfl rfl ?_
      refine J.s (op_clearSpare (i := 0) (l := w) (h := n) rfl rfl (by split <;> simp [Addr.add_lit]) Tryd.underlying36 el9 rfl rfl rfl (hr.shrink (by omega)) rfl (by omega) (by omega)) rfl rfl ?_
      rintro mc hmc
      change J _ _ _ [mc, F] _
      refine J.nil ?_
      refine J.then_n (J.k hK14 ?_)
      refine J.keepE [(0, _), (5, _)] ⟨rfl, rfl, trivial⟩ ?_
      refine J.seq (fun K15 hK15 => ?_)
      refine J.region ?_
      refine J.y (op_move rfl rfl) rfl rfl rfl ?_
      refine J.y (op_move rfl rfl) rfl rfl rfl ?_
      refine J.y (op_sliceTo (h := w) rfl rfl Tryd.underlying36 Tryd.sizeOf9 rfl (by omega)) rfl rfl rfl ?_
      refine J.y (op_assign rfl rfl) rfl rfl rfl ?_
      refine J.nil ?_
      refine J.then_n (J.k hK15 ?_)
      refine J.keepE [(4, _)] ⟨rfl, trivial⟩ ?_
      refine J.ret ?_
      have hfl : (ks.filter fun k => !nbd i d k) = L.take w := by rw [hA, List.take_of_length_le (by omega)]
      have hfw : (ks.filter fun k => !nbd i d k).length = w := by rw [hfl, List.length_take]; omega
      rw [strsV_take, ← hfl] at hmc
      exact J.done hw0 (fun _ _ h => h) (res1 rfl rfl) (retOk mc (by rw [hfw]) (by rw [hfw]; exact hmc) [0, 1] rfl (by decide))

theorem bkeys_ct (F : Hp) (g : Nat) (l : List Sm.PR) (hT : TreeA F g l) (hf : Fine l) (i d : Nat) (hd : d ≤ 4) (hi : i < 2 ^ d) : Ct Tryd.prog 68 [Ptr g, I ((i : Nat) : Int), I ((d : Nat) : Int)] [F] (fun x : Option Addr × Nat × Hp => .tuple #[.slice x.1 (bkeysL l i d).length x.2.1, I ((0 : Nat) : Int)]) (fun x => Row x.2.2 9 1 x.1 (bkeysL l i d).length x.2.1 (strsV (bkeysL l i d))) (fun x => [F, x.2.2]) := by
  have hpw := pow4 hd
  have hcn := cnt_nat hd
  have hkl := Sm.keysS_len l
  have hln := hf.few
  refine Ct.walk Tryd.func68 rfl Tryd.ntmps68 rfl (fun w0 hw0 => ?_)
  change J _ [(0, _), (1, _), (2, _)] _ _ _
  refine J.seq (fun K1 hK1 => ?_)
  refine J.region ?_
  refine J.e (op_box (l := [I ((i : Nat) : Int)]) rfl rfl rfl) rfl rfl rfl ?_
  intro g4 _
  change J _ _ _ [F, blk g4 [I ((i : Nat) : Int)] 3] _
  refine J.e (op_box (l := [I ((d : Nat) : Int)]) rfl rfl rfl) rfl rfl rfl ?_
  intro g5 _
  change J _ _ _ [F, blk g4 [I ((i : Nat) : Int)] 3, blk g5 [I ((d : Nat) : Int)] 3] _
  refine J.y (op_assign rfl rfl) rfl rfl rfl ?_
  refine J.y (op_assign rfl rfl) rfl rfl rfl ?_
  refine J.nil ?_
  refine J.then_n (J.k hK1 ?_)
  refine J.keepE [(0, _), (4, _), (5, _)] ⟨rfl, rfl, rfl, trivial⟩ ?_
  refine J.seq (fun K2 hK2 => ?_)
  refine J.seq (fun K3 hK3 => ?_)
  refine J.region ?_
  refine J.y (op_loadB 2 (v := I ((d : Nat) : Int)) rfl rfl rfl Tryd.isAgg3 rfl) rfl rfl rfl ?_
  refine J.e (op_call rfl rfl ent66 (Ct.use0 (fun F' hF => bcount_ct F' ((d : Nat) : Int)))) rfl rfl rfl ?_
  intro g10 _
  refine J.y (op_assign rfl rfl) rfl rfl rfl ?_
  refine J.nil ?_
  refine J.then_n (J.k hK3 ?_)
  refine J.keepE [(0, _), (4, _), (5, _), (8, _)] ⟨rfl, rfl, rfl, rfl, trivial⟩ ?_
  refine J.block ?_
  refine J.seq (fun K4 hK4 => ?_)
  rw [hcn]
  refine J.region ?_
  refine J.y (op_move rfl rfl) rfl rfl rfl ?_
  refine J.y ((op_eql rfl rfl rfl).as (v' := .bool false) (congrArg Value.bool (decide_eq_false (by omega)))) rfl rfl rfl ?_
  refine J.y (op_assign rfl rfl) rfl rfl rfl ?_
  refine J.nil ?_
  refine J.then_n (J.k hK4 ?_)
  refine J.keepE [(0, _), (4, _), (5, _), (8, _), (11, _)] ⟨rfl, rfl, rfl, rfl, rfl, trivial⟩ ?_
  refine J.condF rfl rfl ?_
  refine J.seq (fun K5 hK5 => ?_)
  refine J.region ?_
  refine J.y (op_loadB 1 (v := I ((i : Nat) : Int)) rfl rfl rfl Tryd.isAgg3 rfl) rfl rfl rfl ?_
  refine J.y ((op_lss rfl rfl rfl).as (v' := .bool false) (congrArg Value.bool (decide_eq_false (by omega)))) rfl rfl rfl ?_
  refine J.y (op_move rfl rfl) rfl rfl rfl ?_
  refine J.yg (Wan.is rfl rfl rfl rfl rfl) (op_loadB 1 (v := I ((i : Nat) : Int)) rfl rfl rfl Tryd.isAgg3 rfl) rfl rfl ?_
  refine J.yg (Wan.is rfl rfl rfl rfl rfl) (op_move rfl rfl) rfl rfl ?_
  refine J.yg (Wan.is rfl rfl rfl rfl rfl) ((op_geq rfl rfl rfl).as (v' := .bool false) (congrArg Value.bool (decide_eq_false (by omega)))) rfl rfl ?_
  refine J.y (op_pickF rfl rfl rfl) rfl rfl rfl ?_
  refine J.y (op_assign rfl rfl) rfl rfl rfl ?_
  refine J.nil ?_
  refine J.then_n (J.k hK5 ?_)
  refine J.keepE [(0, _), (4, _), (5, _), (14, _)] ⟨rfl, rfl, rfl, rfl, trivial⟩ ?_
  refine J.condF rfl rfl ?_
  refine J.skip ?_
  refine J.blk_n ?_
  refine J.then_n (J.k hK2 ?_)
  refine J.keepE [(0, _), (4, _), (5, _)] ⟨rfl, rfl, rfl, trivial⟩ ?_
  refine J.seq (fun K6 hK6 => ?_)
  refine J.region ?_
  refine J.y (op_move rfl rfl) rfl rfl rfl ?_
  refine J.e (op_call rfl rfl ent51 (Ct.use (new := fun x : Option Addr × Nat × Hp => [x.2.2]) (fun F' hF => tkeys_ct F' g l (hT.mono (hF F (by simp))) (by omega)))) rfl rfl rfl ?_
  rintro ⟨A23, c23, m23⟩ h23
  try dsimp only at h23
  change J _ ((23, .slice A23 (Sm.keysS l).length c23) :: _) _ [F, blk g4 [I ((i : Nat) : Int)] 3, blk g5 [I ((d : Nat) : Int)] 3, m23] _
  refine J.y (op_makeFunc rfl rfl) rfl rfl rfl ?_
  refine J.e (op_call rfl rfl ent109 (Ct.use1 3 (m' := fun x : Hp => x) (new := fun _ => []) rfl (fun F' hF => sdel_ctB F' m23 A23 (Sm.keysS l).length c23 (Sm.keysS l) h23 (by omega) (keysS_small hf.k16) g5 g4 d i (Cells.blk0.mono (hF (blk g5 [I ((d : Nat) : Int)] 3) (by simp))) (Cells.blk0.mono (hF (blk g4 [I ((i : Nat) : Int)] 3) (by simp))) (by omega)))) rfl rfl rfl ?_
  rintro m25 h25
  change J _ ((25, .slice A23 (bkeysL l i d).length c23) :: _) _ [F, blk g4 [I ((i : Nat) : Int)] 3, blk g5 [I ((d : Nat) : Int)] 3, m25] _
  refine J.y (op_assign rfl rfl) rfl rfl rfl ?_
  refine J.y (op_assign rfl rfl) rfl rfl rfl ?_
  refine J.nil ?_
  refine J.then_n (J.k hK6 ?_)
  refine J.keepE [(6, _), (7, _)] ⟨rfl, rfl, trivial⟩ ?_
  refine J.ret ?_
  exact J.done hw0 (fun _ _ h => h) (res2 rfl rfl rfl) (retOk (A23, c23, m25) rfl h25 [0, 3] rfl (by decide))

theorem bkeysB_ct (F : Hp) (g : Nat) (i d : Int) (hd : cnt d = 0) : Ct Tryd.prog 68 [Ptr g, I (i), I (d)] [F] (fun _ : Unit => .tuple #[.slice none 0 0, I ((1 : Nat) : Int)]) (fun _ => True) (fun _ => [F]) := by
  refine Ct.walk Tryd.func68 rfl Tryd.ntmps68 rfl (fun w0 hw0 => ?_)
  change J _ [(0, _), (1, _), (2, _)] _ _ _
  refine J.seq (fun K1 hK1 => ?_)
  refine J.region ?_
  refine J.e (op_box (l := [I (i)]) rfl rfl rfl) rfl rfl rfl ?_
  intro g4 _
  change J _ _ _ [F, blk g4 [I (i)] 3] _
  refine J.e (op_box (l := [I (d)]) rfl rfl rfl) rfl rfl rfl ?_
  intro g5 _
  change J _ _ _ [F, blk g4 [I (i)] 3, blk g5 [I (d)] 3] _
  refine J.y (op_assign rfl rfl) rfl rfl rfl ?_
  refine J.y (op_assign rfl rfl) rfl rfl rfl ?_
  refine J.nil ?_
  refine J.then_n (J.k hK1 ?_)
  refine J.keepE [(0, _), (4, _), (5, _)] ⟨rfl, rfl, rfl, trivial⟩ ?_
  refine J.seq (fun K2 hK2 => ?_)
  refine J.seq (fun K3 hK3 => ?_)
  refine J.region ?_
  refine J.y (op_loadB 2 (v := I (d)) rfl rfl rfl Tryd.isAgg3 rfl) rfl rfl rfl ?_
  refine J.e (op_call rfl rfl ent66 (Ct.use0 (fun F' hF => bcount_ct F' d))) rfl rfl rfl ?_
  intro g10 _
  refine J.y (op_assign rfl rfl) rfl rfl rfl ?_
  refine J.nil ?_
  refine J.then_n (J.k hK3 ?_)
  refine J.keepE [(0, _), (4, _), (5, _), (8, _)] ⟨rfl, rfl, rfl, rfl, trivial⟩ ?_
  refine J.block ?_
  refine J.seq (fun K4 hK4 => ?_)
  refine J.region ?_
  refine J.y (op_move rfl rfl) rfl rfl rfl ?_
  refine J.y ((op_eql rfl rfl rfl).as (v' := .bool true) (congrArg Value.bool (decide_eq_true (by omega)))) rfl rfl rfl ?_
  refine J.y (op_assign rfl rfl) rfl rfl rfl ?_
  refine J.nil ?_
  refine J.then_n (J.k hK4 ?_)
  refine J.keepE [(0, _), (4, _), (5, _), (8, _), (11, _)] ⟨rfl, rfl, rfl, rfl, rfl, trivial⟩ ?_
  refine J.condT rfl rfl ?_
  refine J.seq (fun K5 hK5 => ?_)
  refine J.region ?_
  refine J.y (op_assign rfl rfl) rfl rfl rfl ?_
  refine J.y (op_assign rfl rfl) rfl rfl rfl ?_
  refine J.nil ?_
  refine J.then_n (J.k hK5 ?_)
  refine J.keepE [(6, _), (7, _)] ⟨rfl, rfl, trivial⟩ ?_
  refine J.ret ?_
  refine J.blk_r ?_
  refine J.then_r ?_
  exact J.done hw0 (fun _ _ h => h) (res2 rfl rfl rfl) (retOk () rfl trivial [0] rfl (by decide))

theorem bkeysN_ct (F : Hp) (g : Nat) (i d : Nat) (hd : d ≤ 4) (hi : 2 ^ d ≤ i) : Ct Tryd.prog 68 [Ptr g, I ((i : Nat) : Int), I ((d : Nat) : Int)] [F] (fun _ : Unit => .tuple #[.slice none 0 0, I 10]) (fun _ => True) (fun _ => [F]) := by
  have hpw := pow4 hd
  have hcn := cnt_nat hd
  refine Ct.walk Tryd.func68 rfl Tryd.ntmps68 rfl (fun w0 hw0 => ?_)
  change J _ [(0, _), (1, _), (2, _)] _ _ _
  refine J.seq (fun K1 hK1 => ?_)
  refine J.region ?_
  refine J.e (op_box (l := [I ((i : Nat) : Int)]) rfl rfl rfl) rfl rfl rfl ?_
  intro g4 _
  change J _ _ _ [F, blk g4 [I ((i : Nat) : Int)] 3] _
  refine J.e (op_box (l := [I ((d : Nat) : Int)]) rfl rfl rfl) rfl rfl rfl ?_
  intro g5 _
  change J _ _ _ [F, blk g4 [I ((i : Nat) : Int)] 3, blk g5 [I ((d : Nat) : Int)] 3] _
  refine J.y (op_assign rfl rfl) rfl rfl rfl ?_
  refine J.y (op_assign rfl rfl) rfl rfl rfl ?_
  refine J.nil ?_
  refine J.then_n (J.k hK1 ?_)
  refine J.keepE [(0, _), (4, _), (5, _)] ⟨rfl, rfl, rfl, trivial⟩ ?_
  refine J.seq (fun K2 hK2 => ?_)
  refine J.seq (fun K3 hK3 => ?_)
  refine J.region ?_
  refine J.y (op_loadB 2 (v := I ((d : Nat) : Int)) rfl rfl rfl Tryd.isAgg3 rfl) rfl rfl rfl ?_
  refine J.e (op_call rfl rfl ent66 (Ct.use0 (fun F' hF => bcount_ct F' ((d : Nat) : Int)))) rfl rfl rfl ?_
  intro g10 _
  refine J.y (op_assign rfl rfl) rfl rfl rfl ?_
  refine J.nil ?_
  refine J.then_n (J.k hK3 ?_)
  refine J.keepE [(0, _), (4, _), (5, _), (8, _)] ⟨rfl, rfl, rfl, rfl, trivial⟩ ?_
  refine J.block ?_
  refine J.seq (fun K4 hK4 => ?_)
  rw [hcn]
  refine J.region ?_
  refine J.y (op_move rfl rfl) rfl rfl rfl ?_
  refine J.y ((op_eql rfl rfl rfl).as (v' := .bool false) (congrArg Value.bool (decide_eq_false (by omega)))) rfl rfl rfl ?_
  refine J.y (op_assign rfl rfl) rfl rfl rfl ?_
  refine J.nil ?_
  refine J.then_n (J.k hK4 ?_)
  refine J.keepE [(0, _), (4, _), (5, _), (8, _), (11, _)] ⟨rfl, rfl, rfl, rfl, rfl, trivial⟩ ?_
  refine J.condF rfl rfl ?_
  refine J.seq (fun K5 hK5 => ?_)
  refine J.region ?_
  refine J.y (op_loadB 1 (v := I ((i : Nat) : Int)) rfl rfl rfl Tryd.isAgg3 rfl) rfl rfl rfl ?_
  refine J.y ((op_lss rfl rfl rfl).as (v' := .bool false) (congrArg Value.bool (decide_eq_false (by omega)))) rfl rfl rfl ?_
  refine J.y (op_move rfl rfl) rfl rfl rfl ?_
  refine J.yg (Wan.is rfl rfl rfl rfl rfl) (op_loadB 1 (v := I ((i : Nat) : Int)) rfl rfl rfl Tryd.isAgg3 rfl) rfl rfl ?_
  refine J.yg (Wan.is rfl rfl rfl rfl rfl) (op_move rfl rfl) rfl rfl ?_
  refine J.yg (Wan.is rfl rfl rfl rfl rfl) ((op_geq rfl rfl rfl).as (v' := .bool true) (congrArg Value.bool (decide_eq_true (by omega)))) rfl rfl ?_
  refine J.y (op_pickF rfl rfl rfl) rfl rfl rfl ?_
  refine J.y (op_assign rfl rfl) rfl rfl rfl ?_
  refine J.nil ?_
  refine J.then_n (J.k hK5 ?_)
  refine J.keepE [(0, _), (4, _), (5, _), (14, _)] ⟨rfl, rfl, rfl, rfl, trivial⟩ ?_
  refine J.condT rfl rfl ?_
  refine J.seq (fun K6 hK6 => ?_)
  refine J.region ?_
  refine J.y (op_assign rfl rfl) rfl rfl rfl ?_
  refine J.y (op_assign rfl rfl) rfl rfl rfl ?_
  refine J.nil ?_
  refine J.then_n (J.k hK6 ?_)
  refine J.keepE [(6, _), (7, _)] ⟨rfl, rfl, trivial⟩ ?_
  refine J.ret ?_
  refine J.blk_r ?_
  refine J.then_r ?_
  exact J.done hw0 (fun _ _ h => h) (res2 rfl rfl rfl) (retOk () rfl trivial [0] rfl (by decide))

theorem bof_ct (F : Hp) (k : List UInt8) (hk : k.length ≤ 1000000) (d : Nat) (hd : d ≤ 4) : Ct Tryd.prog 69 [Str (k), I ((d : Nat) : Int)] [F] (fun _ : Unit => .tuple #[I ((ofV k d : Nat) : Int), I ((ofE k : Nat) : Int)]) (fun _ => True) (fun _ => [F]) := by
  have hpw := pow4 hd
  have hcn := cnt_nat hd
  refine Ct.walk Tryd.func69 rfl Tryd.ntmps69 rfl (fun w0 hw0 => ?_)
  change J _ [(0, _), (1, _)] _ _ _
  refine J.seq (fun K1 hK1 => ?_)
  refine J.region ?_
  refine J.y (op_assign rfl rfl) rfl rfl rfl ?_
  refine J.y (op_assign rfl rfl) rfl rfl rfl ?_
  refine J.nil ?_
  refine J.then_n (J.k hK1 ?_)
  refine J.keepE [(0, _), (1, _)] ⟨rfl, rfl, trivial⟩ ?_
  refine J.seq (fun K2 hK2 => ?_)
  refine J.block ?_
  refine J.seq (fun K3 hK3 => ?_)
  refine J.region ?_
  refine J.y (op_move rfl rfl) rfl rfl rfl ?_
  refine J.e (op_call rfl rfl ent66 (Ct.use0 (fun F' hF => bcount_ct F' ((d : Nat) : Int)))) rfl rfl rfl ?_
  intro g8 _
  refine J.y ((op_eql rfl rfl rfl).as (v' := .bool false) (congrArg Value.bool (decide_eq_false (by omega)))) rfl rfl rfl ?_
  refine J.y (op_assign rfl rfl) rfl rfl rfl ?_
  refine J.nil ?_
  refine J.then_n (J.k hK3 ?_)
  refine J.keepE [(0, _), (1, _), (6, _)] ⟨rfl, rfl, rfl, trivial⟩ ?_
  refine J.condF rfl rfl ?_
  refine J.seq (fun K4 hK4 => ?_)
  refine J.region ?_
  refine J.y (op_move rfl rfl) rfl rfl rfl ?_
  refine J.y (op_slen Tryd.underlying9 rfl rfl) rfl rfl rfl ?_
  refine J.y (op_neq rfl rfl rfl) rfl rfl rfl ?_
  refine J.y (op_assign rfl rfl) rfl rfl rfl ?_
  refine J.nil ?_
  refine J.then_n (J.k hK4 ?_)
  refine J.keepE [(0, _), (1, _), (10, _)] ⟨rfl, rfl, rfl, trivial⟩ ?_
  refine J.ite rfl (fun h10 => ?_) (fun h10 => ?_)
  ·
    refine J.seq (fun K5 hK5 => ?_)
    refine J.region ?_
    refine J.y (op_assign rfl rfl) rfl rfl rfl ?_
    refine J.y (op_assign rfl rfl) rfl rfl rfl ?_
    refine J.nil ?_
    refine J.then_n (J.k hK5 ?_)
    refine J.keepE [(4, _), (5, _)] ⟨rfl, rfl, trivial⟩ ?_
    refine J.ret ?_
    refine J.blk_r ?_
    refine J.then_r ?_
    exact J.done hw0 (fun _ _ h => h) (res2 rfl rfl rfl) (retOk () (by unfold ofV ofE; rw [if_neg (by omega), if_neg (by omega)]; rfl) trivial [0] rfl (by decide))
  ·
    refine J.skip ?_
    refine J.blk_n ?_
    refine J.then_n (J.k hK2 ?_)
    refine J.keepE [(0, _), (1, _)] ⟨rfl, rfl, trivial⟩ ?_
    refine J.seq (fun K6 hK6 => ?_)
    refine J.region ?_
    refine J.y (op_move rfl rfl) rfl rfl rfl ?_
    refine J.y (op_move rfl rfl) rfl rfl rfl ?_
    refine J.e (op_call rfl rfl ent56 (Ct.use0 (fun F' hF => band_ct F' k (by first | omega | exact hsm _) d (by omega)))) rfl rfl rfl ?_
    intro g16 _
    refine J.y (op_assign rfl rfl) rfl rfl rfl ?_
    refine J.y (op_assign rfl rfl) rfl rfl rfl ?_
    refine J.nil ?_
    refine J.then_n (J.k hK6 ?_)
    refine J.keepE [(4, _), (5, _)] ⟨rfl, rfl, trivial⟩ ?_
    refine J.ret ?_
    exact J.done hw0 (fun _ _ h => h) (res2 rfl rfl rfl) (retOk () (by unfold ofV ofE; rw [if_pos (by omega), if_pos (by omega)]; rfl) trivial [0] rfl (by decide))

theorem bofB_ct (F : Hp) (k : List UInt8) (d : Int) (hd : cnt d = 0) : Ct Tryd.prog 69 [Str (k), I (d)] [F] (fun _ : Unit => .tuple #[I ((0 : Nat) : Int), I ((1 : Nat) : Int)]) (fun _ => True) (fun _ => [F]) := by
  refine Ct.walk Tryd.func69 rfl Tryd.ntmps69 rfl (fun w0 hw0 => ?_)
  change J _ [(0, _), (1, _)] _ _ _
  refine J.seq (fun K1 hK1 => ?_)
  refine J.region ?_
  refine J.y (op_assign rfl rfl) rfl rfl rfl ?_
  refine J.y (op_assign rfl rfl) rfl rfl rfl ?_
  refine J.nil ?_
  refine J.then_n (J.k hK1 ?_)
  refine J.keepE [(0, _), (1, _)] ⟨rfl, rfl, trivial⟩ ?_
  refine J.seq (fun K2 hK2 => ?_)
  refine J.block ?_
  refine J.seq (fun K3 hK3 => ?_)
  refine J.region ?_
  refine J.y (op_move rfl rfl) rfl rfl rfl ?_
  refine J.e (op_call rfl rfl ent66 (Ct.use0 (fun F' hF => bcount_ct F' d))) rfl rfl rfl ?_
  intro g8 _
  refine J.y ((op_eql rfl rfl rfl).as (v' := .bool true) (congrArg Value.bool (decide_eq_true (by omega)))) rfl rfl rfl ?_
  refine J.y (op_assign rfl rfl) rfl rfl rfl ?_
  refine J.nil ?_
  refine J.then_n (J.k hK3 ?_)
  refine J.keepE [(0, _), (1, _), (6, _)] ⟨rfl, rfl, rfl, trivial⟩ ?_
  refine J.condT rfl rfl ?_
  refine J.seq (fun K4 hK4 => ?_)
  refine J.region ?_
  refine J.y (op_assign rfl rfl) rfl rfl rfl ?_
  refine J.y (op_assign rfl rfl) rfl rfl rfl ?_
  refine J.nil ?_
  refine J.then_n (J.k hK4 ?_)
  refine J.keepE [(4, _), (5, _)] ⟨rfl, rfl, trivial⟩ ?_
  refine J.ret ?_
  refine J.blk_r ?_
  refine J.then_r ?_
  exact J.done hw0 (fun _ _ h => h) (res2 rfl rfl rfl) (retOk () rfl trivial [0] rfl (by decide))

theorem key15_ct (F : Hp) (a b : UInt8) : Ct Tryd.prog 62 [B8 (a), B8 (b)] [F] (fun _ : Unit => Str (keyB a b)) (fun _ => True) (fun _ => [F]) := by
  refine Ct.walk Tryd.func62 rfl Tryd.ntmps62 rfl (fun w0 hw0 => ?_)
  change J _ [(0, _), (1, _)] _ _ _
  refine J.seq (fun K1 hK1 => ?_)
  refine J.region ?_
  refine J.y (op_assign rfl rfl) rfl rfl rfl ?_
  refine J.nil ?_
  refine J.then_n (J.k hK1 ?_)
  refine J.keepE [(0, _), (1, _)] ⟨rfl, rfl, trivial⟩ ?_
  refine J.seq (fun K2 hK2 => ?_)
  refine J.region ?_
  refine J.e (op_makeSlice (n' := 16) rfl rfl Tryd.underlying66 el5 (by omega) (by omega)) rfl rfl rfl ?_
  rintro g6 _
  change J _ ((6, .slice (some ⟨g6, 0, none⟩) 16 16) :: _) _ [F, blk g6 (List.replicate 16 [.int .u8 0]).flatten 5] _
  refine J.y (op_assign rfl rfl) rfl rfl rfl ?_
  refine J.nil ?_
  refine J.then_n (J.k hK2 ?_)
  refine J.keepE [(0, _), (1, _), (5, _)] ⟨rfl, rfl, rfl, trivial⟩ ?_
  refine J.seq (fun K3 hK3 => ?_)
  refine J.region ?_
  refine J.y (op_move rfl rfl) rfl rfl rfl ?_
  refine J.y (op_move rfl rfl) rfl rfl rfl ?_
  refine J.y (op_move rfl rfl) rfl rfl rfl ?_
  refine J.y (op_move rfl rfl) rfl rfl rfl ?_
  refine J.y (op_indexAddrS (i := 0) (j := 0 + 0 * 1) rfl rfl rfl Tryd.underlying66 Tryd.sizeOf5 (by first | omega | decide | (simp only [List.length_set, List.length_replicate] at *; omega)) (by omega)) rfl rfl rfl ?_
  refine J.s (op_storeRow (i := 1) (k := 0) (off := 0) (b := [B8 (a)]) rfl rfl rfl rfl (row_blk (q := True) (sz := 1) (xs := bytesV (List.replicate 16 0)) rfl (by intro x hx; obtain ⟨_, _, rfl⟩ := List.mem_map.1 hx; rfl)) (vs := [B8 (a)]) rfl Tryd.sizeOf5 rfl (by omega) (bytesV_get (getSome 0 (by first | omega | decide | (simp only [List.length_set, List.length_replicate] at *; omega)))) rfl (Nat.le_refl _)) rfl rfl ?_
  rintro m2_1 hm2_1
  change J _ _ _ [F, m2_1] _
  rw [bytesV_set] at hm2_1
  refine J.y (op_indexAddrS (i := 2) (j := 0 + 2 * 1) rfl rfl rfl Tryd.underlying66 Tryd.sizeOf5 (by first | omega | decide | (simp only [List.length_set, List.length_replicate] at *; omega)) (by omega)) rfl rfl rfl ?_
  refine J.s (op_storeRow (i := 1) (k := 2) (off := 0) (b := [B8 (b)]) rfl rfl rfl rfl hm2_1 (vs := [B8 (b)]) rfl Tryd.sizeOf5 rfl (by omega) (bytesV_get (getSome 0 (by first | omega | decide | (simp only [List.length_set, List.length_replicate] at *; omega)))) rfl (Nat.le_refl _)) rfl rfl ?_
  rintro m2_2 hm2_2
  change J _ _ _ [F, m2_2] _
  rw [bytesV_set] at hm2_2
  refine J.nil ?_
  refine J.then_n (J.k hK3 ?_)
  refine J.keepE [(5, _)] ⟨rfl, trivial⟩ ?_
  refine J.seq (fun K4 hK4 => ?_)
  refine J.region ?_
  refine J.y (op_move rfl rfl) rfl rfl rfl ?_
  refine J.y (op_toStr (l := ((List.replicate 16 0).set 0 a).set 2 b) rfl rfl Tryd.underlying66 Tryd.underlying5 Tryd.underlying9 (m := m2_2) (by simp) hm2_2.sl) rfl rfl rfl ?_
  refine J.y (op_assign rfl rfl) rfl rfl rfl ?_
  refine J.nil ?_
  refine J.then_n (J.k hK4 ?_)
  refine J.keepE [(4, _)] ⟨rfl, trivial⟩ ?_
  refine J.ret ?_
  exact J.done hw0 (fun _ _ h => h) (res1 rfl rfl) (retOk () (by unfold keyB; rfl) trivial [0] rfl (by decide))

end Go.Proofs.YtpcffgkmpmcobaaDoor
