/- A part of the proof: contracts of functions of the program, each for every state of the heaps that it names. -/
import Derived.Test.YtnkfapecbmmpeaaDoorPcd1
import Derived.Test.YtnkfapecbmmpeaaDoorPcd2
import Derived.Test.YtnkfapecbmmpeaaDoorPrq
import Derived.Test.YtnkfapecbmmpeaaDoorFwR
set_option linter.unusedSimpArgs false
set_option linter.unusedVariables false
namespace Go.Proofs.YtnkfapecbmmpeaaDoor
open Go Go.Fw
set_option maxRecDepth 100000
set_option maxHeartbeats 1000000
theorem ent24 : Enters Tryd.prog 24 := Enters.of Tryd.func24 rfl (by kernel_rfl)
theorem ent25 : Enters Tryd.prog 25 := Enters.of Tryd.func25 rfl (by kernel_rfl)
theorem ent28 : Enters Tryd.prog 28 := Enters.of Tryd.func28 rfl (by kernel_rfl)
theorem ent45 : Enters Tryd.prog 45 := Enters.of Tryd.func45 rfl (by kernel_rfl)
theorem ent46 : Enters Tryd.prog 46 := Enters.of Tryd.func46 rfl (by kernel_rfl)

theorem putP_small {kv : List Sm.PR} (ho : Sm.Once kv) (h : ∀ p ∈ kv, p.2.length ≤ 20) (k v : List UInt8) (hv : v.length ≤ 20) : ∀ p ∈ Sm.putP kv k v, p.2.length ≤ 20 := fun p hp => by
  rcases (putP_mem ho).1 hp with ⟨q, _⟩ | rfl
  · exact h p q
  · exact hv
theorem getP_le {n : Nat} (k : List UInt8) : ∀ l : List Sm.PR, (∀ p ∈ l, p.2.length ≤ n) → ((Sm.getP l k).getD []).length ≤ n
  | [], _ => Nat.zero_le _
  | p :: r, h => by
    rw [Sm.getP]
    split
    · exact h p (.head _)
    · exact getP_le k r (fun q hq => h q (.tail _ hq))
theorem pVal_20 {kv : List Sm.PR} (h : ∀ p ∈ kv, p.2.length ≤ 20) (k : List UInt8) (s : Nat) : (pVal kv k s).length ≤ 20 := by
  unfold pVal
  split
  · exact getP_le _ kv h
  · exact Nat.zero_le _
theorem pKey_16 {bs : List (List UInt8)} {th : Bool} {pk pv k : List UInt8} {d : Nat} (h : GoodP bs th pk pv k d) : pk.length ≤ 16 := by
  cases e : th with
  | true => exact Nat.le_of_eq (h.yes e).1
  | false => rw [(h.no e).1]; exact Nat.zero_le _
theorem pdecR_ct (F : Hp) (bs : List (List UInt8)) (th : Bool) (pk pv : List UInt8) (hb : bs.length ≤ 128) (h : ∀ s ∈ bs, s.length ≤ 4096) (h1 : pk.length ≤ 4096) (h2 : pv.length ≤ 4096) : Ct Tryd.prog 46 [Str (pfB bs th pk pv)] [F] (fun x : Option Addr × Nat × Hp => .tuple #[.agg #[.slice x.1 (bs).length x.2.1, .bool (th), Str (pk), Str (pv)], I (0)]) (fun x => Row x.2.2 9 1 x.1 (bs).length x.2.1 (strsV (bs))) (fun x => [F, x.2.2]) := by
  obtain ⟨e1, e2, e3, e4, e5⟩ := pd_fwd hb h h1 h2
  have h3 := tbs_len h
  have h4 : (pfB bs th pk pv).length ≤ 1000000 := by
    unfold pfB
    simp only [List.length_append, List.length_singleton, tb_len]
    omega
  have := pdec14_ct F (pfB bs th pk pv) h4
  rw [e1, e2, e3, e4, e5] at this
  exact this

theorem both14s_ct (F : Hp) (A0 : Option Addr) (n0 c0 : Nat) (l0 : List Pz) (sl0 : Sl F 3 A0 n0 c0 (putzV l0)) : Ct Tryd.prog 25 [.slice A0 n0 c0] [F] (fun x : List Pr × List Sm.PR × Option Addr × Nat × Hp × Nat × Hp => .tuple #[.slice x.2.2.1 x.1.length x.2.2.2.1, Ptr x.2.2.2.2.2.1]) (fun x => (∀ p ∈ x.2.1, p.2.length ≤ 20) ∧ Pairs x.1 x.2.1 ∧ x.1.length ≤ 12 ∧ Row x.2.2.2.2.1 115 2 x.2.2.1 x.1.length x.2.2.2.1 (prsV x.1) ∧ TreeS x.2.2.2.2.2.2 x.2.2.2.2.2.1 x.2.1) (fun x => [F, x.2.2.2.2.1, x.2.2.2.2.2.2]) := by
  have hn0 : l0.length = n0 := by have := sl0.1; simpa [putzV] using this
  refine Ct.walk Tryd.func25 rfl Tryd.ntmps25 rfl (fun w0 hw0 => ?_)
  change J _ [(0, _)] _ _ _
  refine J.seq (fun K1 hK1 => ?_)
  refine J.region ?_
  refine J.y (op_assign rfl rfl) rfl rfl rfl ?_
  refine J.y (op_assign rfl rfl) rfl rfl rfl ?_
  refine J.nil ?_
  refine J.then_n (J.k hK1 ?_)
  refine J.keepE [(0, _)] ⟨rfl, trivial⟩ ?_
  refine J.seq (fun K2 hK2 => ?_)
  refine J.region ?_
  refine J.y (op_assign rfl rfl) rfl rfl rfl ?_
  refine J.nil ?_
  refine J.then_n (J.k hK2 ?_)
  refine J.keepE [(0, _), (4, _)] ⟨rfl, rfl, trivial⟩ ?_
  refine J.seq (fun K3 hK3 => ?_)
  refine J.region ?_
  refine J.e (op_call rfl rfl ent10 (Ct.use (new := fun x : Nat × Hp => [x.2]) (fun F' hF => Ct.swap2 (tnew_ct F' )))) rfl rfl rfl ?_
  rintro ⟨g8, m8⟩ h8
  try dsimp only at h8
  change J _ ((8, Ptr g8) :: _) _ [F, m8] _
  refine J.y (op_assign rfl rfl) rfl rfl rfl ?_
  refine J.nil ?_
  refine J.then_n (J.k hK3 ?_)
  refine J.keepE [(0, _), (4, _), (5, _)] ⟨rfl, rfl, rfl, trivial⟩ ?_
  refine J.cut (X := List Pr × List Sm.PR × Option Addr × Nat × Hp × Hp) (fun ζ => [(4, .slice ζ.2.2.1 ζ.1.length ζ.2.2.2.1), (5, Ptr g8)]) (fun ζ => [F, ζ.2.2.2.2.1, ζ.2.2.2.2.2]) (fun ζ => (∀ p ∈ ζ.2.1, p.2.length ≤ 20) ∧ Pairs ζ.1 ζ.2.1 ∧ ζ.1.length ≤ 12 ∧ Row ζ.2.2.2.2.1 115 2 ζ.2.2.1 ζ.1.length ζ.2.2.2.1 (prsV ζ.1) ∧ TreeS ζ.2.2.2.2.2 g8 ζ.2.1) (fun K4 hK4 => ?_) ?_
  ·
    refine J.seq (fun K5 hK5 => ?_)
    refine J.region ?_
    refine J.y (op_assign rfl rfl) rfl rfl rfl ?_
    refine J.nil ?_
    refine J.then_n (J.k hK5 ?_)
    refine J.keepE [(0, _), (4, _), (5, _), (6, _)] ⟨rfl, rfl, rfl, rfl, trivial⟩ ?_
    refine J.block ?_
    refine J.loop (X := Nat × List Pr × List Sm.PR × Option Addr × Nat × Hp × Hp) (fun ζ => [(0, .slice A0 n0 c0), (4, .slice ζ.2.2.2.1 ζ.2.1.length ζ.2.2.2.2.1), (5, Ptr g8), (6, I ((ζ.1 : Nat) : Int))]) (fun ζ => [F, ζ.2.2.2.2.2.1, ζ.2.2.2.2.2.2]) (fun ζ => (∀ p ∈ ζ.2.2.1, p.2.length ≤ 20) ∧ Pairs ζ.2.1 ζ.2.2.1 ∧ ζ.1 ≤ 12 ∧ ζ.2.1.length ≤ ζ.1 ∧ Row ζ.2.2.2.2.2.1 115 2 ζ.2.2.2.1 ζ.2.1.length ζ.2.2.2.2.1 (prsV ζ.2.1) ∧ TreeS ζ.2.2.2.2.2.2 g8 ζ.2.2.1) (fun ζ => 12 - ζ.1) (0, [], [], none, 0, (fun _ => none), m8) (⟨by simp, Pairs.nil, Nat.zero_le _, Nat.zero_le _, RowQ.nil, h8⟩) ⟨rfl, rfl, rfl, rfl, trivial⟩ (fun _ h => h.empty.pick [0, 2, 1] (by decide)) ?_
    rintro ⟨i, m, kv, A, c, mr, mo⟩ ⟨hsv, hp, hi, hm, hr, ht⟩ I0 hI0
    dsimp only at hsv hp hi hm hr ht ⊢
    have hln := hp.len
    refine J.seq (fun K6 hK6 => ?_)
    refine J.seq (fun K7 hK7 => ?_)
    refine J.region ?_
    refine J.y (op_move rfl rfl) rfl rfl rfl ?_
    refine J.y (op_move rfl rfl) rfl rfl rfl ?_
    refine J.y (op_len Tryd.underlying48 rfl rfl) rfl rfl rfl ?_
    refine J.y (op_lss rfl rfl rfl) rfl rfl rfl ?_
    refine J.y (op_move rfl rfl) rfl rfl rfl ?_
    refine J.split (d := 13) rfl (fun h13 => ?_) (fun h13 => ?_)
    ·
      refine J.yg (Wan.is rfl rfl rfl rfl rfl) (op_move rfl rfl) rfl rfl ?_
      refine J.yg (Wan.is rfl rfl rfl rfl rfl) (op_lss rfl rfl rfl) rfl rfl ?_
      refine J.y (op_pickT rfl rfl rfl) rfl rfl rfl ?_
      refine J.nil ?_
      refine J.then_n (J.k hK7 ?_)
      refine J.keepE [(0, _), (4, _), (5, _), (6, _), (16, _)] ⟨rfl, rfl, rfl, rfl, rfl, trivial⟩ ?_
      refine J.ite rfl (fun h16 => ?_) (fun h16 => ?_)
      ·
        refine J.skip ?_
        refine J.then_n (J.k hK6 ?_)
        refine J.keepE [(0, _), (4, _), (5, _), (6, _)] ⟨rfl, rfl, rfl, rfl, trivial⟩ ?_
        refine J.seq (fun K8 hK8 => ?_)
        refine J.block ?_
        refine J.seq (fun K9 hK9 => ?_)
        refine J.draw [F, mr, mo] [] (.y 0 (.y 1 (.y 2 (.y 3 (.y 4 (.y 5 (.y 6 (.y 7 (.y 8 (.y 9 (.y 10 (.y 11 (.y 12 (.y 13 .nil)))))))))))))) Tryd.wide (by decide +kernel) (by simp) ?_
        refine J.dy rfl (op_move rfl rfl) rfl rfl rfl rfl ?_
        refine J.dy rfl (op_move rfl rfl) rfl rfl rfl rfl ?_
        refine J.dy rfl (op_indexAddr (i := i) rfl rfl rfl Tryd.underlying48 Tryd.sizeOf50 sl0 (by first | omega | (simp only [List.length_append, List.length_cons, List.length_nil, List.length_take, List.length_drop] at *; omega))) rfl rfl rfl rfl ?_
        refine J.dy rfl (op_fieldAddrE (off := 2) rfl rfl Tryd.underlying50 rfl Tryd.sizeOf9 sl0 (by first | omega | (simp only [List.length_append, List.length_cons, List.length_nil, List.length_take, List.length_drop] at *; omega)) rfl) rfl rfl rfl rfl ?_
        refine J.dy rfl (op_load (v := Str ((l0.getD i noPz).v)) rfl rfl Tryd.isAgg9 (m := F) (by simp) (sl0.part (putzV_get (by first | omega | (simp only [List.length_append, List.length_cons, List.length_nil, List.length_take, List.length_drop] at *; omega))) 2 1)) rfl rfl rfl rfl ?_
        refine J.dy rfl (op_move rfl rfl) rfl rfl rfl rfl ?_
        refine J.dy rfl (op_move rfl rfl) rfl rfl rfl rfl ?_
        refine J.dy rfl (op_indexAddr (i := i) rfl rfl rfl Tryd.underlying48 Tryd.sizeOf50 sl0 (by first | omega | (simp only [List.length_append, List.length_cons, List.length_nil, List.length_take, List.length_drop] at *; omega))) rfl rfl rfl rfl ?_
        refine J.dy rfl (op_fieldAddrE (off := 2) rfl rfl Tryd.underlying50 rfl Tryd.sizeOf9 sl0 (by first | omega | (simp only [List.length_append, List.length_cons, List.length_nil, List.length_take, List.length_drop] at *; omega)) rfl) rfl rfl rfl rfl ?_
        refine J.dy rfl (op_load (v := Str ((l0.getD i noPz).v)) rfl rfl Tryd.isAgg9 (m := F) (by simp) (sl0.part (putzV_get (by first | omega | (simp only [List.length_append, List.length_cons, List.length_nil, List.length_take, List.length_drop] at *; omega))) 2 1)) rfl rfl rfl rfl ?_
        refine J.dy rfl (op_slen Tryd.underlying9 rfl rfl) rfl rfl rfl rfl ?_
        refine J.dy rfl ((op_min rfl rfl rfl).as (v' := I ((min (((l0.getD i noPz).v).length) 20 : Nat) : Int)) (congrArg I (by omega))) rfl rfl rfl rfl ?_
        refine J.dy rfl ((op_sslice (a := (l0.getD i noPz).v) (l := 0) (h := (min (((l0.getD i noPz).v).length) 20)) Tryd.underlying9 rfl rfl rfl rfl ⟨by first | omega | (simp only [List.length_append, List.length_cons, List.length_nil, List.length_take, List.length_drop] at *; omega), by first | omega | (simp only [List.length_append, List.length_cons, List.length_nil, List.length_take, List.length_drop] at *; omega)⟩).as (v' := Str (((l0.getD i noPz).v).take (min (((l0.getD i noPz).v).length) 20))) (congrArg Str List.drop_zero)) rfl rfl rfl rfl ?_
        refine J.dy rfl (op_assign rfl rfl) rfl rfl rfl rfl ?_
        refine J.dnil ?_
        refine J.then_n (J.k hK9 ?_)
        refine J.keepE [(0, _), (4, _), (5, _), (6, _), (7, _)] ⟨rfl, rfl, rfl, rfl, rfl, trivial⟩ ?_
        refine J.seq (fun K10 hK10 => ?_)
        obtain ⟨v, hv⟩ : ∃ v, v = ((l0.getD i noPz).v.take (min (l0.getD i noPz).v.length 20)) := ⟨_, rfl⟩
        rw [← hv]
        have hvl : v.length ≤ 20 := by rw [hv, List.length_take]; omega
        refine J.draw [F] [] (.y 0 (.y 1 (.y 2 (.y 3 (.y 4 (.y 5 (.y 6 (.y 7 (.y 8 (.y 9 (.y 10 (.y 12 (.e 11 (.e 13 .nil)))))))))))))) Tryd.wide (by decide +kernel) (by simp) ?_
        refine J.dy rfl (op_move rfl rfl) rfl rfl rfl rfl ?_
        refine J.dy rfl (op_move rfl rfl) rfl rfl rfl rfl ?_
        refine J.dy rfl (op_move rfl rfl) rfl rfl rfl rfl ?_
        refine J.dy rfl (op_indexAddr (i := i) rfl rfl rfl Tryd.underlying48 Tryd.sizeOf50 sl0 (by first | omega | (simp only [List.length_append, List.length_cons, List.length_nil, List.length_take, List.length_drop] at *; omega))) rfl rfl rfl rfl ?_
        refine J.dy rfl (op_fieldAddrE (off := 0) rfl rfl Tryd.underlying50 rfl Tryd.sizeOf5 sl0 (by first | omega | (simp only [List.length_append, List.length_cons, List.length_nil, List.length_take, List.length_drop] at *; omega)) rfl) rfl rfl rfl rfl ?_
        refine J.dy rfl (op_load (v := B8 ((l0.getD i noPz).a)) rfl rfl Tryd.isAgg5 (m := F) (by simp) (sl0.part (putzV_get (by first | omega | (simp only [List.length_append, List.length_cons, List.length_nil, List.length_take, List.length_drop] at *; omega))) 0 1)) rfl rfl rfl rfl ?_
        refine J.dy rfl (op_move rfl rfl) rfl rfl rfl rfl ?_
        refine J.dy rfl (op_move rfl rfl) rfl rfl rfl rfl ?_
        refine J.dy rfl (op_indexAddr (i := i) rfl rfl rfl Tryd.underlying48 Tryd.sizeOf50 sl0 (by first | omega | (simp only [List.length_append, List.length_cons, List.length_nil, List.length_take, List.length_drop] at *; omega))) rfl rfl rfl rfl ?_
        refine J.dy rfl (op_fieldAddrE (off := 1) rfl rfl Tryd.underlying50 rfl Tryd.sizeOf5 sl0 (by first | omega | (simp only [List.length_append, List.length_cons, List.length_nil, List.length_take, List.length_drop] at *; omega)) rfl) rfl rfl rfl rfl ?_
        refine J.dy rfl (op_load (v := B8 ((l0.getD i noPz).b)) rfl rfl Tryd.isAgg5 (m := F) (by simp) (sl0.part (putzV_get (by first | omega | (simp only [List.length_append, List.length_cons, List.length_nil, List.length_take, List.length_drop] at *; omega))) 1 1)) rfl rfl rfl rfl ?_
        refine J.dy rfl (op_move rfl rfl) rfl rfl rfl rfl ?_
        refine J.de rfl (op_call rfl rfl ent26 (Ct.use0 (fun F' hF => key14_ct F' ((l0.getD i noPz).a) ((l0.getD i noPz).b)))) rfl rfl rfl (by simp) ?_
        intro g43 _
        refine J.de rfl (op_call rfl rfl ent29 (Ct.use1 2 (m' := fun x : Hp => x) (new := fun _ => []) rfl (fun F' hF => tput_ct F' mo g8 kv ht (keyP ((l0.getD i noPz).a) ((l0.getD i noPz).b)) v (by first | omega | rfl | assumption)))) rfl rfl rfl (by simp) ?_
        rintro m45 h45
        change J _ ((45, I ((0 : Nat) : Int)) :: _) _ [F, mr, m45] _
        refine J.dnil ?_
        refine J.then_n (J.k hK10 ?_)
        refine J.keepE [(0, _), (4, _), (5, _), (6, _), (7, _)] ⟨rfl, rfl, rfl, rfl, rfl, trivial⟩ ?_
        refine J.draw [F] [] (.y 0 (.y 1 (.y 2 (.y 3 (.y 4 (.y 5 (.y 6 (.y 7 (.y 8 (.y 9 (.y 10 (.y 12 (.e 11 (.y 13 (.e 14 (.y 15 .nil)))))))))))))))) Tryd.wide (by decide +kernel) (by simp) ?_
        refine J.dy rfl (op_move rfl rfl) rfl rfl rfl rfl ?_
        refine J.dy rfl (op_move rfl rfl) rfl rfl rfl rfl ?_
        refine J.dy rfl (op_move rfl rfl) rfl rfl rfl rfl ?_
        refine J.dy rfl (op_indexAddr (i := i) rfl rfl rfl Tryd.underlying48 Tryd.sizeOf50 sl0 (by first | omega | (simp only [List.length_append, List.length_cons, List.length_nil, List.length_take, List.length_drop] at *; omega))) rfl rfl rfl rfl ?_
        refine J.dy rfl (op_fieldAddrE (off := 0) rfl rfl Tryd.underlying50 rfl Tryd.sizeOf5 sl0 (by first | omega | (simp only [List.length_append, List.length_cons, List.length_nil, List.length_take, List.length_drop] at *; omega)) rfl) rfl rfl rfl rfl ?_
        refine J.dy rfl (op_load (v := B8 ((l0.getD i noPz).a)) rfl rfl Tryd.isAgg5 (m := F) (by simp) (sl0.part (putzV_get (by first | omega | (simp only [List.length_append, List.length_cons, List.length_nil, List.length_take, List.length_drop] at *; omega))) 0 1)) rfl rfl rfl rfl ?_
        refine J.dy rfl (op_move rfl rfl) rfl rfl rfl rfl ?_
        refine J.dy rfl (op_move rfl rfl) rfl rfl rfl rfl ?_
        refine J.dy rfl (op_indexAddr (i := i) rfl rfl rfl Tryd.underlying48 Tryd.sizeOf50 sl0 (by first | omega | (simp only [List.length_append, List.length_cons, List.length_nil, List.length_take, List.length_drop] at *; omega))) rfl rfl rfl rfl ?_
        refine J.dy rfl (op_fieldAddrE (off := 1) rfl rfl Tryd.underlying50 rfl Tryd.sizeOf5 sl0 (by first | omega | (simp only [List.length_append, List.length_cons, List.length_nil, List.length_take, List.length_drop] at *; omega)) rfl) rfl rfl rfl rfl ?_
        refine J.dy rfl (op_load (v := B8 ((l0.getD i noPz).b)) rfl rfl Tryd.isAgg5 (m := F) (by simp) (sl0.part (putzV_get (by first | omega | (simp only [List.length_append, List.length_cons, List.length_nil, List.length_take, List.length_drop] at *; omega))) 1 1)) rfl rfl rfl rfl ?_
        refine J.dy rfl (op_move rfl rfl) rfl rfl rfl rfl ?_
        refine J.de rfl (op_call rfl rfl ent26 (Ct.use0 (fun F' hF => key14_ct F' ((l0.getD i noPz).a) ((l0.getD i noPz).b)))) rfl rfl rfl (by simp) ?_
        intro g57 _
        refine J.dy rfl (op_buildStruct (l := [(0, .tmp 57), (1, .tmp 58)]) (vs := [Str (keyP ((l0.getD i noPz).a) ((l0.getD i noPz).b)), Str (v)]) (places := [(0, 1), (1, 1)]) (r := [Str (keyP ((l0.getD i noPz).a) ((l0.getD i noPz).b)), Str (v)]) rfl rfl rfl Tryd.underlying115 Tryd.zeroValue115 (fun _ => by kernel_rfl) rfl) rfl rfl rfl rfl ?_
        refine J.de rfl (op_call rfl rfl ent61 (Ct.use (new := fun x : Option Addr × Nat × Hp => [x.2.2]) (fun F' hF => rset_ct F' A m.length c m (hr.sl.mono (hF mr (by simp))) (by omega) (keyP ((l0.getD i noPz).a) ((l0.getD i noPz).b)) v))) rfl rfl rfl (by simp) ?_
        rintro ⟨A60, c60, m60⟩ h60
        try dsimp only at h60
        change J _ ((60, .slice A60 (setR m ⟨(keyP ((l0.getD i noPz).a) ((l0.getD i noPz).b)), v⟩).length c60) :: _) _ [F, mr, m45, m60] _
        refine J.dy rfl (op_assign rfl rfl) rfl rfl rfl rfl ?_
        refine J.dnil ?_
        refine J.blk_n ?_
        refine J.then_n (J.k hK8 ?_)
        refine J.keepE [(0, _), (4, _), (5, _), (6, _)] ⟨rfl, rfl, rfl, rfl, trivial⟩ ?_
        refine J.region ?_
        refine J.y (op_move rfl rfl) rfl rfl rfl ?_
        refine J.y ((op_add rfl rfl rfl (by first | omega | (simp only [List.length_append, List.length_cons, List.length_nil, List.length_take, List.length_drop] at *; omega))).as (v' := I ((i + 1 : Nat) : Int)) (congrArg I (by omega))) rfl rfl rfl ?_
        refine J.y (op_assign rfl rfl) rfl rfl rfl ?_
        refine J.nil ?_
        refine J.then_n ?_
        exact J.kk (i + 1, setR m ⟨(keyP ((l0.getD i noPz).a) ((l0.getD i noPz).b)), v⟩, Sm.putP kv (keyP (l0.getD i noPz).a (l0.getD i noPz).b) v, A60, c60, m60, m45) (fun η (hη : _ ∧ 12 - η.1 < 12 - i) => hI0 η hη.1 hη.2) ⟨⟨putP_small hp.fine.once hsv _ _ hvl, hp.set (keyP_len _ _) (by omega) (by omega), by dsimp only; omega, by have h1 := setR_len m ⟨(keyP (l0.getD i noPz).a (l0.getD i noPz).b), v⟩; have h2 := filtR_len (keyP (l0.getD i noPz).a (l0.getD i noPz).b) m; dsimp only at h1 ⊢; omega, h60, h45⟩, by first | omega | (dsimp only; omega)⟩ ⟨rfl, rfl, rfl, rfl, trivial⟩ (fun _ h => h.pick [0, 3, 2] (by decide))
      ·
        refine J.exit ?_
        refine J.then_x ?_
        refine J.then_x ?_
        refine J.blk_eq ?_
        refine J.then_n ?_
        exact J.kk (m, kv, A, c, mr, mo) hK4 (⟨hsv, hp, by dsimp only; omega, hr, ht⟩) ⟨rfl, rfl, trivial⟩ (fun _ h => h)
    ·
      refine J.no (Wan.is rfl rfl rfl rfl rfl) rfl rfl ?_
      refine J.no (Wan.is rfl rfl rfl rfl rfl) rfl rfl ?_
      refine J.y (op_pickF rfl rfl rfl) rfl rfl rfl ?_
      refine J.nil ?_
      refine J.then_n (J.k hK7 ?_)
      refine J.keepE [(0, _), (4, _), (5, _), (6, _), (16, _)] ⟨rfl, rfl, rfl, rfl, rfl, trivial⟩ ?_
      refine J.condF rfl rfl ?_
      refine J.exit ?_
      refine J.then_x ?_
      refine J.then_x ?_
      refine J.blk_eq ?_
      refine J.then_n ?_
      exact J.kk (m, kv, A, c, mr, mo) hK4 (⟨hsv, hp, by dsimp only; omega, hr, ht⟩) ⟨rfl, rfl, trivial⟩ (fun _ h => h)
  rintro ⟨m, kv, A, c, mr, mo⟩ ⟨hsv, hp, hm, hr, ht⟩
  dsimp only at hsv hp hm hr ht ⊢
  refine J.seq (fun K11 hK11 => ?_)
  refine J.region ?_
  refine J.y (op_move rfl rfl) rfl rfl rfl ?_
  refine J.y (op_move rfl rfl) rfl rfl rfl ?_
  refine J.y (op_assign rfl rfl) rfl rfl rfl ?_
  refine J.y (op_assign rfl rfl) rfl rfl rfl ?_
  refine J.nil ?_
  refine J.then_n (J.k hK11 ?_)
  refine J.keepE [(2, _), (3, _)] ⟨rfl, rfl, trivial⟩ ?_
  refine J.ret ?_
  exact J.done hw0 (fun _ _ h => h) (res2 rfl rfl rfl) (retOk (m, kv, A, c, mr, g8, mo) rfl ⟨hsv, hp, hm, hr, ht⟩ [0, 1, 2] rfl (by decide))

theorem goodS_ct (F : Hp) (A : Option Addr) (c : Nat) (bs : List (List UInt8)) (hs : Sl F 1 A bs.length c (strsV bs)) (th : Bool) (pk pv k : List UInt8) (d : Nat) (hk : k.length ≠ 16) : Ct Tryd.prog 49 [.agg #[.slice A bs.length c, .bool (th), Str (pk), Str (pv)], Str (k), I ((d : Nat) : Int)] [F] (fun _ : Unit => .bool false) (fun _ => True) (fun _ => [F]) := by
  refine Ct.walk Tryd.func49 rfl Tryd.ntmps49 rfl (fun w0 hw0 => ?_)
  change J _ [(0, _), (1, _), (2, _)] _ _ _
  refine J.seq (fun K1 hK1 => ?_)
  refine J.region ?_
  refine J.e (op_box (l := [.slice A bs.length c, .bool (th), Str (pk), Str (pv)]) rfl rfl rfl) rfl rfl rfl ?_
  intro g3 _
  change J _ _ _ [F, blk g3 [.slice A bs.length c, .bool (th), Str (pk), Str (pv)] 57] _
  refine J.y (op_assign rfl rfl) rfl rfl rfl ?_
  refine J.nil ?_
  refine J.then_n (J.k hK1 ?_)
  refine J.keepE [(1, _), (2, _), (3, _)] ⟨rfl, rfl, rfl, trivial⟩ ?_
  refine J.seq (fun K2 hK2 => ?_)
  refine J.region ?_
  refine J.y (op_fieldAddr (j := 0) rfl rfl Tryd.underlying57 rfl Tryd.sizeOf55 rfl) rfl rfl rfl ?_
  refine J.y (op_loadB 1 (v := .slice A bs.length c) rfl rfl rfl Tryd.isAgg55 rfl) rfl rfl rfl ?_
  refine J.y (op_len Tryd.underlying55 rfl rfl) rfl rfl rfl ?_
  refine J.y (op_assign rfl rfl) rfl rfl rfl ?_
  refine J.nil ?_
  refine J.then_n (J.k hK2 ?_)
  refine J.keepE [(1, _), (2, _), (3, _), (7, _)] ⟨rfl, rfl, rfl, rfl, trivial⟩ ?_
  refine J.seq (fun K3 hK3 => ?_)
  refine J.seq (fun K4 hK4 => ?_)
  refine J.region ?_
  refine J.y (op_move rfl rfl) rfl rfl rfl ?_
  refine J.y (op_move rfl rfl) rfl rfl rfl ?_
  refine J.e (op_call rfl rfl ent62 (Ct.use0 (fun F' hF => pright_ct F' k ((d : Nat) : Int)))) rfl rfl rfl ?_
  intro g16 _
  refine J.y ((op_not rfl rfl).as (v' := .bool true) (by rw [decide_eq_false (fun h => hk h.1)]; rfl)) rfl rfl rfl ?_
  refine J.y (op_move rfl rfl) rfl rfl rfl ?_
  refine J.no (Wan.is rfl rfl rfl rfl rfl) rfl rfl ?_
  refine J.no (Wan.is rfl rfl rfl rfl rfl) rfl rfl ?_
  refine J.no (Wan.is rfl rfl rfl rfl rfl) rfl rfl ?_
  refine J.no (Wan.is rfl rfl rfl rfl rfl) rfl rfl ?_
  refine J.y (op_pickT rfl rfl rfl) rfl rfl rfl ?_
  refine J.nil ?_
  refine J.then_n (J.k hK4 ?_)
  refine J.keepE [(1, _), (2, _), (3, _), (7, _), (23, _)] ⟨rfl, rfl, rfl, rfl, rfl, trivial⟩ ?_
  refine J.condT rfl rfl ?_
  refine J.seq (fun K5 hK5 => ?_)
  refine J.region ?_
  refine J.y (op_assign rfl rfl) rfl rfl rfl ?_
  refine J.nil ?_
  refine J.then_n (J.k hK5 ?_)
  refine J.keepE [(6, _)] ⟨rfl, trivial⟩ ?_
  refine J.ret ?_
  refine J.then_r ?_
  exact J.done hw0 (fun _ _ h => h) (res1 rfl rfl) (retOk () rfl trivial [0] rfl (by decide))

theorem nodeS_ct (F : Hp) (A : Option Addr) (c : Nat) (bs : List (List UInt8)) (hs : Sl F 1 A bs.length c (strsV bs)) (th : Bool) (pk pv k : List UInt8) (d : Nat) (hk : k.length ≠ 16) : Ct Tryd.prog 47 [.agg #[.slice A bs.length c, .bool (th), Str (pk), Str (pv)], Str (k), I ((d : Nat) : Int)] [F] (fun _ : Unit => Str ([])) (fun _ => True) (fun _ => [F]) := by
  refine Ct.walk Tryd.func47 rfl Tryd.ntmps47 rfl (fun w0 hw0 => ?_)
  change J _ [(0, _), (1, _), (2, _)] _ _ _
  refine J.seq (fun K1 hK1 => ?_)
  refine J.region ?_
  refine J.e (op_box (l := [.slice A bs.length c, .bool (th), Str (pk), Str (pv)]) rfl rfl rfl) rfl rfl rfl ?_
  intro g3 _
  change J _ _ _ [F, blk g3 [.slice A bs.length c, .bool (th), Str (pk), Str (pv)] 57] _
  refine J.y (op_assign rfl rfl) rfl rfl rfl ?_
  refine J.nil ?_
  refine J.then_n (J.k hK1 ?_)
  refine J.keepE [(1, _), (2, _), (3, _)] ⟨rfl, rfl, rfl, trivial⟩ ?_
  refine J.seq (fun K2 hK2 => ?_)
  refine J.seq (fun K3 hK3 => ?_)
  refine J.region ?_
  refine J.y (op_loadBA 1 rfl rfl rfl Tryd.isAgg57 Tryd.sizeOf57 rfl) rfl rfl rfl ?_
  refine J.y (op_move rfl rfl) rfl rfl rfl ?_
  refine J.y (op_move rfl rfl) rfl rfl rfl ?_
  refine J.e (op_call rfl rfl ent49 (Ct.use0 (fun F' hF => goodS_ct F' A c bs (hs.mono (hF F (by simp))) th pk pv k d hk))) rfl rfl rfl ?_
  intro g11 _
  refine J.y (op_not rfl rfl) rfl rfl rfl ?_
  refine J.nil ?_
  refine J.then_n (J.k hK3 ?_)
  refine J.keepE [(1, _), (2, _), (3, _), (12, _)] ⟨rfl, rfl, rfl, rfl, trivial⟩ ?_
  refine J.condT rfl rfl ?_
  refine J.seq (fun K4 hK4 => ?_)
  refine J.region ?_
  refine J.y (op_assign rfl rfl) rfl rfl rfl ?_
  refine J.nil ?_
  refine J.then_n (J.k hK4 ?_)
  refine J.keepE [(6, _)] ⟨rfl, trivial⟩ ?_
  refine J.ret ?_
  refine J.then_r ?_
  exact J.done hw0 (fun _ _ h => h) (res1 rfl rfl) (retOk () rfl trivial [0] rfl (by decide))

theorem afterS_ct (F : Hp) (A : Option Addr) (c : Nat) (bs : List (List UInt8)) (hs : Sl F 1 A bs.length c (strsV bs)) (th : Bool) (pk pv k : List UInt8) (v : List UInt8) (d : Nat) (hk : k.length ≠ 16) : Ct Tryd.prog 28 [.agg #[.slice A bs.length c, .bool (th), Str (pk), Str (pv)], Str (k), Str (v), I ((d : Nat) : Int)] [F] (fun _ : Unit => .tuple #[Str ([]), I ((18 : Nat) : Int)]) (fun _ => True) (fun _ => [F]) := by
  refine Ct.walk Tryd.func28 rfl Tryd.ntmps28 rfl (fun w0 hw0 => ?_)
  change J _ [(0, _), (1, _), (2, _), (3, _)] _ _ _
  refine J.seq (fun K1 hK1 => ?_)
  refine J.region ?_
  refine J.e (op_box (l := [.slice A bs.length c, .bool (th), Str (pk), Str (pv)]) rfl rfl rfl) rfl rfl rfl ?_
  intro g4 _
  change J _ _ _ [F, blk g4 [.slice A bs.length c, .bool (th), Str (pk), Str (pv)] 57] _
  refine J.y (op_assign rfl rfl) rfl rfl rfl ?_
  refine J.y (op_assign rfl rfl) rfl rfl rfl ?_
  refine J.nil ?_
  refine J.then_n (J.k hK1 ?_)
  refine J.keepE [(1, _), (2, _), (3, _), (4, _)] ⟨rfl, rfl, rfl, rfl, trivial⟩ ?_
  refine J.seq (fun K2 hK2 => ?_)
  refine J.seq (fun K3 hK3 => ?_)
  refine J.region ?_
  refine J.y (op_loadBA 1 rfl rfl rfl Tryd.isAgg57 Tryd.sizeOf57 rfl) rfl rfl rfl ?_
  refine J.y (op_move rfl rfl) rfl rfl rfl ?_
  refine J.y (op_move rfl rfl) rfl rfl rfl ?_
  refine J.e (op_call rfl rfl ent49 (Ct.use0 (fun F' hF => goodS_ct F' A c bs (hs.mono (hF F (by simp))) th pk pv k d hk))) rfl rfl rfl ?_
  intro g14 _
  refine J.y (op_not rfl rfl) rfl rfl rfl ?_
  refine J.nil ?_
  refine J.then_n (J.k hK3 ?_)
  refine J.keepE [(1, _), (2, _), (3, _), (4, _), (15, _)] ⟨rfl, rfl, rfl, rfl, rfl, trivial⟩ ?_
  refine J.condT rfl rfl ?_
  refine J.seq (fun K4 hK4 => ?_)
  refine J.region ?_
  refine J.y (op_assign rfl rfl) rfl rfl rfl ?_
  refine J.y (op_assign rfl rfl) rfl rfl rfl ?_
  refine J.nil ?_
  refine J.then_n (J.k hK4 ?_)
  refine J.keepE [(8, _), (9, _)] ⟨rfl, rfl, trivial⟩ ?_
  refine J.ret ?_
  refine J.then_r ?_
  exact J.done hw0 (fun _ _ h => h) (res2 rfl rfl rfl) (retOk () rfl trivial [0] rfl (by decide))

theorem proveS_ct (F : Hp) (g : Nat) (k : List UInt8) (d : Nat) (hk : k.length ≠ 16) : Ct Tryd.prog 27 [Ptr g, Str (k), I ((d : Nat) : Int)] [F] (fun _ : Unit => .tuple #[.agg #[.slice none 0 0, .bool false, Str [], Str []], I ((10 : Nat) : Int)]) (fun _ => True) (fun _ => [F]) := by
  refine Ct.walk Tryd.func27 rfl Tryd.ntmps27 rfl (fun w0 hw0 => ?_)
  change J _ [(0, _), (1, _), (2, _)] _ _ _
  refine J.seq (fun K1 hK1 => ?_)
  refine J.region ?_
  refine J.e (op_box (l := [Str (k)]) rfl rfl rfl) rfl rfl rfl ?_
  intro g4 _
  change J _ _ _ [F, blk g4 [Str (k)] 9] _
  refine J.e (op_alloc (l := [.slice none 0 0, .bool false, Str [], Str []]) rfl Tryd.zeroValue57 rfl) rfl rfl rfl ?_
  intro g6 _
  change J _ _ _ [F, blk g4 [Str (k)] 9, blk g6 [.slice none 0 0, .bool false, Str [], Str []] 57] _
  refine J.y (op_assign rfl rfl) rfl rfl rfl ?_
  refine J.nil ?_
  refine J.then_n (J.k hK1 ?_)
  refine J.keepE [(0, _), (2, _), (4, _), (6, _)] ⟨rfl, rfl, rfl, rfl, trivial⟩ ?_
  refine J.seq (fun K2 hK2 => ?_)
  refine J.seq (fun K3 hK3 => ?_)
  refine J.region ?_
  refine J.y (op_loadB 1 (v := Str (k)) rfl rfl rfl Tryd.isAgg9 rfl) rfl rfl rfl ?_
  refine J.y (op_move rfl rfl) rfl rfl rfl ?_
  refine J.e (op_call rfl rfl ent62 (Ct.use0 (fun F' hF => pright_ct F' k ((d : Nat) : Int)))) rfl rfl rfl ?_
  intro g14 _
  refine J.y ((op_not rfl rfl).as (v' := .bool true) (by rw [decide_eq_false (fun h => hk h.1)]; rfl)) rfl rfl rfl ?_
  refine J.nil ?_
  refine J.then_n (J.k hK3 ?_)
  refine J.keepE [(0, _), (2, _), (4, _), (6, _), (15, _)] ⟨rfl, rfl, rfl, rfl, rfl, trivial⟩ ?_
  refine J.condT rfl rfl ?_
  refine J.seq (fun K4 hK4 => ?_)
  refine J.region ?_
  refine J.y (op_buildStruct (l := []) (vs := []) (places := [(0, 1), (1, 1), (2, 1), (3, 1)]) (r := [.slice none 0 0, .bool false, Str [], Str []]) rfl rfl rfl Tryd.underlying57 Tryd.zeroValue57 (fun _ => by kernel_rfl) rfl) rfl rfl rfl ?_
  refine J.s (op_storeAll (i := 2) (l := [.slice none 0 0, .bool false, Str [], Str []]) (vs := [.slice none 0 0, .bool false, Str [], Str []]) rfl rfl rfl rfl rfl Tryd.sizeOf57 rfl rfl) rfl rfl (fun _ _ => ?_)
  change J _ _ _ [F, blk g4 [Str (k)] 9, blk g6 [.slice none 0 0, .bool false, Str [], Str []] 57] _
  refine J.y (op_assign rfl rfl) rfl rfl rfl ?_
  refine J.nil ?_
  refine J.then_n (J.k hK4 ?_)
  refine J.keepE [(6, _), (7, _)] ⟨rfl, rfl, trivial⟩ ?_
  refine J.ret ?_
  refine J.then_r ?_
  exact J.done hw0 (fun _ _ h => h) (rv2 rfl (RV.blkA 2 rfl rfl Tryd.isAgg57 Tryd.sizeOf57) rfl) (retOk () rfl trivial [0] rfl (by decide))

theorem proofCodes_ct (F : Hp) (hK : Cells F ⟨1, 0, none⟩ (Sha.K.map W32)) (A0 : Option Addr) (n0 c0 : Nat) (l0 : List Pz) (sl0 : Sl F 3 A0 n0 c0 (putzV l0)) (b0 b1 : UInt8) (jk : List UInt8) : Ct Tryd.prog 7 [.slice A0 n0 c0, .agg #[B8 (b0), B8 (b1)], Str (jk)] [F] (fun _ : Unit => .bool true) (fun _ => True) (fun _ => [F]) := by
  refine Ct.walk Tryd.func7 rfl Tryd.ntmps7 rfl (fun w0 hw0 => ?_)
  change J _ [(0, _), (1, _), (2, _)] _ _ _
  refine J.seq (fun K1 hK1 => ?_)
  refine J.region ?_
  refine J.e (op_box (l := [B8 (b0), B8 (b1)]) rfl rfl rfl) rfl rfl rfl ?_
  intro g4 _
  change J _ _ _ [F, blk g4 [B8 (b0), B8 (b1)] 87] _
  refine J.y (op_assign rfl rfl) rfl rfl rfl ?_
  refine J.nil ?_
  refine J.then_n (J.k hK1 ?_)
  refine J.keepE [(0, _), (2, _), (4, _)] ⟨rfl, rfl, rfl, trivial⟩ ?_
  refine J.seq (fun K2 hK2 => ?_)
  refine J.seq (fun K3 hK3 => ?_)
  refine J.region ?_
  refine J.e (op_call rfl rfl ent24 (Ct.use0 (fun F' hF => speaks14_ct F' (hK.mono (hF F (by simp)))))) rfl rfl rfl ?_
  intro g23 _
  refine J.y (op_not rfl rfl) rfl rfl rfl ?_
  refine J.nil ?_
  refine J.then_n (J.k hK3 ?_)
  refine J.keepE [(0, _), (2, _), (4, _), (24, _)] ⟨rfl, rfl, rfl, rfl, trivial⟩ ?_
  refine J.condF rfl rfl ?_
  refine J.skip ?_
  refine J.then_n (J.k hK2 ?_)
  refine J.keepE [(0, _), (2, _), (4, _)] ⟨rfl, rfl, rfl, trivial⟩ ?_
  refine J.seq (fun K4 hK4 => ?_)
  refine J.region ?_
  refine J.y (op_move rfl rfl) rfl rfl rfl ?_
  refine J.e (op_call rfl rfl ent25 (Ct.use (new := fun x : List Pr × List Sm.PR × Option Addr × Nat × Hp × Nat × Hp => [x.2.2.2.2.1, x.2.2.2.2.2.2]) (fun F' hF => both14s_ct F' A0 n0 c0 l0 (sl0.mono (hF F (by simp)))))) rfl rfl rfl ?_
  rintro ⟨m, kv, A, c, mr, g, mo⟩ ⟨hsv, hp, hm, hr, ht⟩
  change J _ ((27, .tuple #[.slice A m.length c, Ptr g]) :: _) _ [F, blk g4 [B8 (b0), B8 (b1)] 87, mr, mo] _
  refine J.y (op_move rfl rfl) rfl rfl rfl ?_
  refine J.y (op_extract (v := .slice A m.length c) rfl rfl rfl) rfl rfl rfl ?_
  refine J.y (op_extract (v := Ptr g) rfl rfl rfl) rfl rfl rfl ?_
  refine J.y (op_assign rfl rfl) rfl rfl rfl ?_
  refine J.y (op_assign rfl rfl) rfl rfl rfl ?_
  refine J.nil ?_
  refine J.then_n (J.k hK4 ?_)
  refine J.keepE [(2, _), (4, _), (8, _)] ⟨rfl, rfl, rfl, trivial⟩ ?_
  refine J.seq (fun K5 hK5 => ?_)
  dsimp only at hp hm hr ht
  have hfi := hp.fine
  have hln := hp.len
  have hwm : Sm.WF (128 - 0) (m.map toP) := hp.wf
  have hvm := hp.small
  have hkl := Sm.keysS_len kv
  refine J.region ?_
  refine J.y (op_move rfl rfl) rfl rfl rfl ?_
  refine J.y (op_indexAddrJ (i := 0) (j := 0) rfl rfl rfl Tryd.underlying87 Tryd.sizeOf5 (by omega) rfl) rfl rfl rfl ?_
  refine J.y (op_loadB 1 (v := B8 (b0)) rfl rfl rfl Tryd.isAgg5 rfl) rfl rfl rfl ?_
  refine J.y (op_indexAddrJ (i := 1) (j := 1) rfl rfl rfl Tryd.underlying87 Tryd.sizeOf5 (by omega) rfl) rfl rfl rfl ?_
  refine J.y (op_loadB 1 (v := B8 (b1)) rfl rfl rfl Tryd.isAgg5 rfl) rfl rfl rfl ?_
  refine J.e (op_call rfl rfl ent26 (Ct.use0 (fun F' hF => key14_ct F' b0 b1))) rfl rfl rfl ?_
  intro g36 _
  refine J.e (op_call rfl rfl ent27 (Ct.use (new := fun x : Nat × Option Addr × Nat × Hp => [x.2.2.2]) (fun F' hF => prove_ct F' (hK.mono (hF F (by simp))) g kv (ht.at.mono (hF mo (by simp))) hfi (keyP b0 b1) (by first | assumption | rfl) 0 (by omega)))) rfl rfl rfl ?_
  rintro ⟨s37, A37, c37, m37⟩ ⟨hst37, hr37⟩
  change J _ ((37, .tuple #[.agg #[.slice A37 (bsd kv (keyP b0 b1) 0 (s37 - 0)).length c37, .bool (pThere kv (keyP b0 b1) s37), Str (pKey kv (keyP b0 b1) s37), Str (pVal kv (keyP b0 b1) s37)], I 0]) :: _) _ [F, blk g4 [B8 (b0), B8 (b1)] 87, mr, mo, m37] _
  refine J.y (op_move rfl rfl) rfl rfl rfl ?_
  refine J.y (op_extract (v := .agg #[.slice A37 ((bsd kv (keyP b0 b1) 0 (s37 - 0)).length) c37, .bool (pThere kv (keyP b0 b1) s37), Str (pKey kv (keyP b0 b1) s37), Str (pVal kv (keyP b0 b1) s37)]) rfl rfl rfl) rfl rfl rfl ?_
  refine J.y (op_extract (v := I ((0 : Nat) : Int)) rfl rfl rfl) rfl rfl rfl ?_
  refine J.e (op_alloc (l := [.slice none 0 0, .bool false, Str [], Str []]) rfl Tryd.zeroValue57 rfl) rfl rfl rfl ?_
  intro g9 _
  change J _ _ _ [F, blk g4 [B8 (b0), B8 (b1)] 87, mr, mo, m37, blk g9 [.slice none 0 0, .bool false, Str [], Str []] 57] _
  refine J.s (op_storeAll (i := 5) (l := [.slice none 0 0, .bool false, Str [], Str []]) (vs := [.slice A37 ((bsd kv (keyP b0 b1) 0 (s37 - 0)).length) c37, .bool (pThere kv (keyP b0 b1) s37), Str (pKey kv (keyP b0 b1) s37), Str (pVal kv (keyP b0 b1) s37)]) rfl rfl rfl rfl rfl Tryd.sizeOf57 rfl rfl) rfl rfl (fun _ _ => ?_)
  change J _ _ _ [F, blk g4 [B8 (b0), B8 (b1)] 87, mr, mo, m37, blk g9 [.slice A37 ((bsd kv (keyP b0 b1) 0 (s37 - 0)).length) c37, .bool (pThere kv (keyP b0 b1) s37), Str (pKey kv (keyP b0 b1) s37), Str (pVal kv (keyP b0 b1) s37)] 57] _
  refine J.y (op_assign rfl rfl) rfl rfl rfl ?_
  refine J.nil ?_
  refine J.then_n (J.k hK5 ?_)
  refine J.keepE [(2, _), (4, _), (8, _), (9, _)] ⟨rfl, rfl, rfl, rfl, trivial⟩ ?_
  refine J.seq (fun K6 hK6 => ?_)
  dsimp only at hst37 hsv
  have hg := prove_good hfi (k := (keyP b0 b1)) rfl hst37
  have hb128 : (bsd kv (keyP b0 b1) 0 (s37 - 0)).length ≤ 128 := by have := hg.le; omega
  have hsm4 : ∀ s ∈ (bsd kv (keyP b0 b1) 0 (s37 - 0)), s.length ≤ 4096 := fun s hs => by have := hg.small s hs; omega
  have hpk4 : (pKey kv (keyP b0 b1) s37).length ≤ 4096 := by have := pKey_16 hg; omega
  have hpv4 : (pVal kv (keyP b0 b1) s37).length ≤ 4096 := by have := pVal_20 hsv (keyP b0 b1) s37; omega
  have hpv6 : (pVal kv (keyP b0 b1) s37).length ≤ 1000000 := by omega
  have hpn := prove_node hfi (k := (keyP b0 b1)) rfl hst37
  rw [Sm.ndB_zero] at hpn
  refine J.region ?_
  refine J.y (op_loadBA 5 rfl rfl rfl Tryd.isAgg57 Tryd.sizeOf57 rfl) rfl rfl rfl ?_
  refine J.e (op_call rfl rfl ent45 (Ct.use0 (fun F' hF => penc14_ct F' A37 c37 (bsd kv (keyP b0 b1) 0 (s37 - 0)) (hr37.sl.mono (hF m37 (by simp))) (pThere kv (keyP b0 b1) s37) (pKey kv (keyP b0 b1) s37) (pVal kv (keyP b0 b1) s37) hb128 hsm4 hpk4 hpv4))) rfl rfl rfl ?_
  intro g42 _
  refine J.y (op_move rfl rfl) rfl rfl rfl ?_
  refine J.y (op_extract (v := Str (pfB (bsd kv (keyP b0 b1) 0 (s37 - 0)) (pThere kv (keyP b0 b1) s37) (pKey kv (keyP b0 b1) s37) (pVal kv (keyP b0 b1) s37))) rfl rfl rfl) rfl rfl rfl ?_
  refine J.y (op_extract (v := I ((0 : Nat) : Int)) rfl rfl rfl) rfl rfl rfl ?_
  refine J.y (op_assign rfl rfl) rfl rfl rfl ?_
  refine J.y (op_assign rfl rfl) rfl rfl rfl ?_
  refine J.nil ?_
  refine J.then_n (J.k hK6 ?_)
  refine J.keepE [(2, _), (4, _), (8, _), (9, _), (11, _), (12, _)] ⟨rfl, rfl, rfl, rfl, rfl, rfl, trivial⟩ ?_
  refine J.seq (fun K7 hK7 => ?_)
  refine J.region ?_
  refine J.y (op_move rfl rfl) rfl rfl rfl ?_
  refine J.e (op_call rfl rfl ent46 (Ct.use (new := fun x : Option Addr × Nat × Hp => [x.2.2]) (fun F' hF => pdecR_ct F' (bsd kv (keyP b0 b1) 0 (s37 - 0)) (pThere kv (keyP b0 b1) s37) (pKey kv (keyP b0 b1) s37) (pVal kv (keyP b0 b1) s37) hb128 hsm4 hpk4 hpv4))) rfl rfl rfl ?_
  rintro ⟨A47, c47, m47⟩ h47
  try dsimp only at h47
  change J _ ((47, .tuple #[.agg #[.slice A47 (bsd kv (keyP b0 b1) 0 (s37 - 0)).length c47, .bool (pThere kv (keyP b0 b1) s37), Str (pKey kv (keyP b0 b1) s37), Str (pVal kv (keyP b0 b1) s37)], I (0)]) :: _) _ [F, blk g4 [B8 (b0), B8 (b1)] 87, mr, mo, m37, blk g9 [.slice A37 (bsd kv (keyP b0 b1) 0 (s37 - 0)).length c37, .bool (pThere kv (keyP b0 b1) s37), Str (pKey kv (keyP b0 b1) s37), Str (pVal kv (keyP b0 b1) s37)] 57, m47] _
  refine J.y (op_move rfl rfl) rfl rfl rfl ?_
  refine J.y (op_extract (v := .agg #[.slice A47 ((bsd kv (keyP b0 b1) 0 (s37 - 0)).length) c47, .bool (pThere kv (keyP b0 b1) s37), Str (pKey kv (keyP b0 b1) s37), Str (pVal kv (keyP b0 b1) s37)]) rfl rfl rfl) rfl rfl rfl ?_
  refine J.y (op_extract (v := I (0)) rfl rfl rfl) rfl rfl rfl ?_
  refine J.e (op_alloc (l := [.slice none 0 0, .bool false, Str [], Str []]) rfl Tryd.zeroValue57 rfl) rfl rfl rfl ?_
  intro g13 _
  change J _ _ _ [F, blk g4 [B8 (b0), B8 (b1)] 87, mr, mo, m37, blk g9 [.slice A37 (bsd kv (keyP b0 b1) 0 (s37 - 0)).length c37, .bool (pThere kv (keyP b0 b1) s37), Str (pKey kv (keyP b0 b1) s37), Str (pVal kv (keyP b0 b1) s37)] 57, m47, blk g13 [.slice none 0 0, .bool false, Str [], Str []] 57] _
  refine J.s (op_storeAll (i := 7) (l := [.slice none 0 0, .bool false, Str [], Str []]) (vs := [.slice A47 ((bsd kv (keyP b0 b1) 0 (s37 - 0)).length) c47, .bool (pThere kv (keyP b0 b1) s37), Str (pKey kv (keyP b0 b1) s37), Str (pVal kv (keyP b0 b1) s37)]) rfl rfl rfl rfl rfl Tryd.sizeOf57 rfl rfl) rfl rfl (fun _ _ => ?_)
  change J _ _ _ [F, blk g4 [B8 (b0), B8 (b1)] 87, mr, mo, m37, blk g9 [.slice A37 (bsd kv (keyP b0 b1) 0 (s37 - 0)).length c37, .bool (pThere kv (keyP b0 b1) s37), Str (pKey kv (keyP b0 b1) s37), Str (pVal kv (keyP b0 b1) s37)] 57, m47, blk g13 [.slice A47 ((bsd kv (keyP b0 b1) 0 (s37 - 0)).length) c47, .bool (pThere kv (keyP b0 b1) s37), Str (pKey kv (keyP b0 b1) s37), Str (pVal kv (keyP b0 b1) s37)] 57] _
  refine J.y (op_assign rfl rfl) rfl rfl rfl ?_
  refine J.nil ?_
  refine J.then_n (J.k hK7 ?_)
  refine J.keepE [(2, _), (4, _), (8, _), (9, _), (12, _), (13, _), (14, _)] ⟨rfl, rfl, rfl, rfl, rfl, rfl, rfl, trivial⟩ ?_
  refine J.seq (fun K8 hK8 => ?_)
  refine J.seq (fun K9 hK9 => ?_)
  refine J.draw [F, blk g4 [B8 (b0), B8 (b1)] 87, mr, mo, m37, blk g9 [.slice A37 (bsd kv (keyP b0 b1) 0 (s37 - 0)).length c37, .bool (pThere kv (keyP b0 b1) s37), Str (pKey kv (keyP b0 b1) s37), Str (pVal kv (keyP b0 b1) s37)] 57, m47, blk g13 [.slice A47 ((bsd kv (keyP b0 b1) 0 (s37 - 0)).length) c47, .bool (pThere kv (keyP b0 b1) s37), Str (pKey kv (keyP b0 b1) s37), Str (pVal kv (keyP b0 b1) s37)] 57] [] (.y 0 (.y 1 (.y 2 (.y 3 (.y 4 (.y 5 (.y 6 (.y 7 (.y 8 (.y 9 (.y 10 (.y 11 (.y 12 (.y 13 (.y 14 (.y 15 (.y 16 (.y 17 (.y 18 (.y 19 (.y 20 (.y 21 (.y 22 (.y 23 (.y 24 (.y 25 (.y 26 (.y 27 (.y 28 (.y 29 (.y 30 (.y 31 (.y 32 (.y 33 (.y 34 (.y 35 (.y 36 (.y 37 (.y 38 (.y 39 (.y 40 (.y 41 (.y 44 (.e 42 (.e 43 (.e 45 (.y 46 (.y 47 .nil)))))))))))))))))))))))))))))))))))))))))))))))) Tryd.wide (by decide +kernel) (by simp) ?_
  refine J.dy rfl (op_move rfl rfl) rfl rfl rfl rfl ?_
  refine J.dy rfl ((op_neq rfl rfl rfl).as (v' := .bool false) (congrArg Value.bool (decide_eq_false (by decide)))) rfl rfl rfl rfl ?_
  refine J.dy rfl (op_move rfl rfl) rfl rfl rfl rfl ?_
  refine J.dyg rfl (op_move rfl rfl) (Wan.is rfl rfl rfl rfl rfl) rfl rfl rfl ?_
  refine J.dyg rfl ((op_neq rfl rfl rfl).as (v' := .bool false) (congrArg Value.bool (decide_eq_false (by decide)))) (Wan.is rfl rfl rfl rfl rfl) rfl rfl rfl ?_
  refine J.dy rfl (op_pickF rfl rfl rfl) rfl rfl rfl rfl ?_
  refine J.dy rfl (op_move rfl rfl) rfl rfl rfl rfl ?_
  refine J.dyg rfl (op_fieldAddr (j := 0) rfl rfl Tryd.underlying57 rfl Tryd.sizeOf55 rfl) (Wan.is rfl rfl rfl rfl rfl) rfl rfl rfl ?_
  refine J.dyg rfl (op_loadB 7 (v := .slice A47 ((bsd kv (keyP b0 b1) 0 (s37 - 0)).length) c47) rfl rfl rfl Tryd.isAgg55 rfl) (Wan.is rfl rfl rfl rfl rfl) rfl rfl rfl ?_
  refine J.dyg rfl (op_len Tryd.underlying55 rfl rfl) (Wan.is rfl rfl rfl rfl rfl) rfl rfl rfl ?_
  refine J.dyg rfl (op_fieldAddr (j := 0) rfl rfl Tryd.underlying57 rfl Tryd.sizeOf55 rfl) (Wan.is rfl rfl rfl rfl rfl) rfl rfl rfl ?_
  refine J.dyg rfl (op_loadB 5 (v := .slice A37 (bsd kv (keyP b0 b1) 0 (s37 - 0)).length c37) rfl rfl rfl Tryd.isAgg55 rfl) (Wan.is rfl rfl rfl rfl rfl) rfl rfl rfl ?_
  refine J.dyg rfl (op_len Tryd.underlying55 rfl rfl) (Wan.is rfl rfl rfl rfl rfl) rfl rfl rfl ?_
  refine J.dyg rfl ((op_neq rfl rfl rfl).as (v' := .bool false) (congrArg Value.bool (decide_eq_false (fun h => h rfl)))) (Wan.is rfl rfl rfl rfl rfl) rfl rfl rfl ?_
  refine J.dy rfl (op_pickF rfl rfl rfl) rfl rfl rfl rfl ?_
  refine J.dy rfl (op_move rfl rfl) rfl rfl rfl rfl ?_
  refine J.dyg rfl (op_fieldAddr (j := 1) rfl rfl Tryd.underlying57 rfl Tryd.sizeOf4 rfl) (Wan.is rfl rfl rfl rfl rfl) rfl rfl rfl ?_
  refine J.dyg rfl (op_loadB 7 (v := .bool (pThere kv (keyP b0 b1) s37)) rfl rfl rfl Tryd.isAgg4 rfl) (Wan.is rfl rfl rfl rfl rfl) rfl rfl rfl ?_
  refine J.dyg rfl (op_fieldAddr (j := 1) rfl rfl Tryd.underlying57 rfl Tryd.sizeOf4 rfl) (Wan.is rfl rfl rfl rfl rfl) rfl rfl rfl ?_
  refine J.dyg rfl (op_loadB 5 (v := .bool (pThere kv (keyP b0 b1) s37)) rfl rfl rfl Tryd.isAgg4 rfl) (Wan.is rfl rfl rfl rfl rfl) rfl rfl rfl ?_
  refine J.dyg rfl ((op_neqB Tryd.underlying4 rfl rfl rfl).as (v' := .bool false) (by simp)) (Wan.is rfl rfl rfl rfl rfl) rfl rfl rfl ?_
  refine J.dy rfl (op_pickF rfl rfl rfl) rfl rfl rfl rfl ?_
  refine J.dy rfl (op_move rfl rfl) rfl rfl rfl rfl ?_
  refine J.dyg rfl (op_fieldAddr (j := 2) rfl rfl Tryd.underlying57 rfl Tryd.sizeOf9 rfl) (Wan.is rfl rfl rfl rfl rfl) rfl rfl rfl ?_
  refine J.dyg rfl (op_loadB 7 (v := Str (pKey kv (keyP b0 b1) s37)) rfl rfl rfl Tryd.isAgg9 rfl) (Wan.is rfl rfl rfl rfl rfl) rfl rfl rfl ?_
  refine J.dyg rfl (op_fieldAddr (j := 2) rfl rfl Tryd.underlying57 rfl Tryd.sizeOf9 rfl) (Wan.is rfl rfl rfl rfl rfl) rfl rfl rfl ?_
  refine J.dyg rfl (op_loadB 5 (v := Str (pKey kv (keyP b0 b1) s37)) rfl rfl rfl Tryd.isAgg9 rfl) (Wan.is rfl rfl rfl rfl rfl) rfl rfl rfl ?_
  refine J.dyg rfl ((op_sne rfl rfl rfl).as (v' := .bool false) (congrArg Value.bool (decide_eq_false (fun h => h rfl)))) (Wan.is rfl rfl rfl rfl rfl) rfl rfl rfl ?_
  refine J.dy rfl (op_pickF rfl rfl rfl) rfl rfl rfl rfl ?_
  refine J.dy rfl (op_move rfl rfl) rfl rfl rfl rfl ?_
  refine J.dyg rfl (op_fieldAddr (j := 3) rfl rfl Tryd.underlying57 rfl Tryd.sizeOf9 rfl) (Wan.is rfl rfl rfl rfl rfl) rfl rfl rfl ?_
  refine J.dyg rfl (op_loadB 7 (v := Str (pVal kv (keyP b0 b1) s37)) rfl rfl rfl Tryd.isAgg9 rfl) (Wan.is rfl rfl rfl rfl rfl) rfl rfl rfl ?_
  refine J.dyg rfl (op_fieldAddr (j := 3) rfl rfl Tryd.underlying57 rfl Tryd.sizeOf9 rfl) (Wan.is rfl rfl rfl rfl rfl) rfl rfl rfl ?_
  refine J.dyg rfl (op_loadB 5 (v := Str (pVal kv (keyP b0 b1) s37)) rfl rfl rfl Tryd.isAgg9 rfl) (Wan.is rfl rfl rfl rfl rfl) rfl rfl rfl ?_
  refine J.dyg rfl ((op_sne rfl rfl rfl).as (v' := .bool false) (congrArg Value.bool (decide_eq_false (fun h => h rfl)))) (Wan.is rfl rfl rfl rfl rfl) rfl rfl rfl ?_
  refine J.dy rfl (op_pickF rfl rfl rfl) rfl rfl rfl rfl ?_
  refine J.dy rfl (op_move rfl rfl) rfl rfl rfl rfl ?_
  refine J.dyg rfl (op_loadBA 7 rfl rfl rfl Tryd.isAgg57 Tryd.sizeOf57 rfl) (Wan.is rfl rfl rfl rfl rfl) rfl rfl rfl ?_
  refine J.dyg rfl (op_indexAddrJ (i := 0) (j := 0) rfl rfl rfl Tryd.underlying87 Tryd.sizeOf5 (by omega) rfl) (Wan.is rfl rfl rfl rfl rfl) rfl rfl rfl ?_
  refine J.dyg rfl (op_loadB 1 (v := B8 (b0)) rfl rfl rfl Tryd.isAgg5 rfl) (Wan.is rfl rfl rfl rfl rfl) rfl rfl rfl ?_
  refine J.dyg rfl (op_indexAddrJ (i := 1) (j := 1) rfl rfl rfl Tryd.underlying87 Tryd.sizeOf5 (by omega) rfl) (Wan.is rfl rfl rfl rfl rfl) rfl rfl rfl ?_
  refine J.dyg rfl (op_loadB 1 (v := B8 (b1)) rfl rfl rfl Tryd.isAgg5 rfl) (Wan.is rfl rfl rfl rfl rfl) rfl rfl rfl ?_
  refine J.dyg rfl (op_move rfl rfl) (Wan.is rfl rfl rfl rfl rfl) rfl rfl rfl ?_
  refine J.deg rfl (op_call rfl rfl ent26 (Ct.use0 (fun F' hF => key14_ct F' b0 b1))) (Wan.is rfl rfl rfl rfl rfl) rfl rfl (by simp) ?_
  intro g92 _
  refine J.deg rfl (op_call rfl rfl ent47 (Ct.use0 (fun F' hF => pNode_ct F' (hK.mono (hF F (by simp))) A47 c47 (bsd kv (keyP b0 b1) 0 (s37 - 0)) (h47.sl.mono (hF m47 (by simp))) (pThere kv (keyP b0 b1) s37) (pKey kv (keyP b0 b1) s37) (pVal kv (keyP b0 b1) s37) (keyP b0 b1) 0 (by assumption) (by assumption)))) (Wan.is rfl rfl rfl rfl rfl) rfl rfl (by simp) ?_
  intro g93 _
  refine J.deg rfl (op_call rfl rfl ent48 (Ct.use0 (fun F' hF => troot_ct F' (hK.mono (hF F (by simp))) g kv (ht.at.mono (hF mo (by simp))) (by assumption)))) (Wan.is rfl rfl rfl rfl rfl) rfl rfl (by simp) ?_
  intro g95 _
  refine J.dyg rfl ((op_sne rfl rfl rfl).as (v' := .bool false) (congrArg Value.bool (decide_eq_false (fun h => h hpn)))) (Wan.is rfl rfl rfl rfl rfl) rfl rfl rfl ?_
  refine J.dy rfl (op_pickF rfl rfl rfl) rfl rfl rfl rfl ?_
  refine J.dnil ?_
  refine J.then_n (J.k hK9 ?_)
  refine J.keepE [(2, _), (8, _), (9, _), (97, _)] ⟨rfl, rfl, rfl, rfl, trivial⟩ ?_
  refine J.condF rfl rfl ?_
  refine J.skip ?_
  refine J.then_n (J.k hK8 ?_)
  refine J.keepE [(2, _), (8, _), (9, _)] ⟨rfl, rfl, rfl, trivial⟩ ?_
  refine J.seq (fun K10 hK10 => ?_)
  refine J.region ?_
  refine J.y (op_move rfl rfl) rfl rfl rfl ?_
  refine J.y (op_move rfl rfl) rfl rfl rfl ?_
  refine J.y (op_slen Tryd.underlying9 rfl rfl) rfl rfl rfl ?_
  refine J.y ((op_min rfl rfl rfl).as (v' := I ((min jk.length 100 : Nat) : Int)) (congrArg I (by omega))) rfl rfl rfl ?_
  refine J.y ((op_sslice (a := jk) (l := 0) (h := (min jk.length 100)) Tryd.underlying9 rfl rfl rfl rfl ⟨by first | omega | (simp only [List.length_append, List.length_cons, List.length_nil, List.length_take, List.length_drop] at *; omega), by first | omega | (simp only [List.length_append, List.length_cons, List.length_nil, List.length_take, List.length_drop] at *; omega)⟩).as (v' := Str (jk.take (min jk.length 100))) (congrArg Str List.drop_zero)) rfl rfl rfl ?_
  refine J.y (op_assign rfl rfl) rfl rfl rfl ?_
  refine J.nil ?_
  refine J.then_n (J.k hK10 ?_)
  refine J.keepE [(2, _), (8, _), (9, _)] ⟨rfl, rfl, rfl, trivial⟩ ?_
  refine J.seq (fun K11 hK11 => ?_)
  obtain ⟨j, hj⟩ : ∃ j, j = jk.take (min jk.length 100) := ⟨_, rfl⟩
  rw [← hj]
  have hjl : j.length ≤ 100 := by rw [hj, List.length_take]; omega
  refine J.region ?_
  refine J.y (op_move rfl rfl) rfl rfl rfl ?_
  refine J.e (op_call rfl rfl ent46 (Ct.use (new := fun x : Option Addr × Nat × Hp => [x.2.2]) (fun F' hF => pdec14_ct F' j (by omega)))) rfl rfl rfl ?_
  rintro ⟨A105, c105, m105⟩ h105
  try dsimp only at h105
  change J _ ((105, .tuple #[.agg #[.slice A105 (pdB j).length c105, .bool (pdT j), Str (pdK j), Str (pdV j)], I (pdE j)]) :: _) _ [F, blk g4 [B8 (b0), B8 (b1)] 87, mr, mo, m37, blk g9 [.slice A37 (bsd kv (keyP b0 b1) 0 (s37 - 0)).length c37, .bool (pThere kv (keyP b0 b1) s37), Str (pKey kv (keyP b0 b1) s37), Str (pVal kv (keyP b0 b1) s37)] 57, m47, blk g13 [.slice A47 (bsd kv (keyP b0 b1) 0 (s37 - 0)).length c47, .bool (pThere kv (keyP b0 b1) s37), Str (pKey kv (keyP b0 b1) s37), Str (pVal kv (keyP b0 b1) s37)] 57, m105] _
  refine J.y (op_move rfl rfl) rfl rfl rfl ?_
  refine J.y (op_extract (v := .agg #[.slice A105 ((pdB j).length) c105, .bool (pdT j), Str (pdK j), Str (pdV j)]) rfl rfl rfl) rfl rfl rfl ?_
  refine J.y (op_extract (v := I (pdE j)) rfl rfl rfl) rfl rfl rfl ?_
  refine J.e (op_alloc (l := [.slice none 0 0, .bool false, Str [], Str []]) rfl Tryd.zeroValue57 rfl) rfl rfl rfl ?_
  intro g15 _
  change J _ _ _ [F, blk g4 [B8 (b0), B8 (b1)] 87, mr, mo, m37, blk g9 [.slice A37 (bsd kv (keyP b0 b1) 0 (s37 - 0)).length c37, .bool (pThere kv (keyP b0 b1) s37), Str (pKey kv (keyP b0 b1) s37), Str (pVal kv (keyP b0 b1) s37)] 57, m47, blk g13 [.slice A47 (bsd kv (keyP b0 b1) 0 (s37 - 0)).length c47, .bool (pThere kv (keyP b0 b1) s37), Str (pKey kv (keyP b0 b1) s37), Str (pVal kv (keyP b0 b1) s37)] 57, m105, blk g15 [.slice none 0 0, .bool false, Str [], Str []] 57] _
  refine J.s (op_storeAll (i := 9) (l := [.slice none 0 0, .bool false, Str [], Str []]) (vs := [.slice A105 ((pdB j).length) c105, .bool (pdT j), Str (pdK j), Str (pdV j)]) rfl rfl rfl rfl rfl Tryd.sizeOf57 rfl rfl) rfl rfl (fun _ _ => ?_)
  change J _ _ _ [F, blk g4 [B8 (b0), B8 (b1)] 87, mr, mo, m37, blk g9 [.slice A37 (bsd kv (keyP b0 b1) 0 (s37 - 0)).length c37, .bool (pThere kv (keyP b0 b1) s37), Str (pKey kv (keyP b0 b1) s37), Str (pVal kv (keyP b0 b1) s37)] 57, m47, blk g13 [.slice A47 (bsd kv (keyP b0 b1) 0 (s37 - 0)).length c47, .bool (pThere kv (keyP b0 b1) s37), Str (pKey kv (keyP b0 b1) s37), Str (pVal kv (keyP b0 b1) s37)] 57, m105, blk g15 [.slice A105 ((pdB j).length) c105, .bool (pdT j), Str (pdK j), Str (pdV j)] 57] _
  refine J.y (op_assign rfl rfl) rfl rfl rfl ?_
  refine J.nil ?_
  refine J.then_n (J.k hK11 ?_)
  refine J.keepE [(2, _), (8, _), (9, _), (15, _), (16, _)] ⟨rfl, rfl, rfl, rfl, rfl, trivial⟩ ?_
  refine J.seq (fun K12 hK12 => ?_)
  refine J.region ?_
  refine J.y (op_loadBA 9 rfl rfl rfl Tryd.isAgg57 Tryd.sizeOf57 rfl) rfl rfl rfl ?_
  refine J.e (op_call rfl rfl ent45 (Ct.use0 (fun F' hF => penc14_ct F' A105 c105 (pdB j) (h105.sl.mono (hF m105 (by simp))) (pdT j) (pdK j) (pdV j) (pdB_len j) (pdB_small j) (pdK_small j) (pdV_small j)))) rfl rfl rfl ?_
  intro g110 _
  refine J.y (op_move rfl rfl) rfl rfl rfl ?_
  refine J.y (op_extract (v := Str (pfB (pdB j) (pdT j) (pdK j) (pdV j))) rfl rfl rfl) rfl rfl rfl ?_
  refine J.y (op_extract (v := I ((0 : Nat) : Int)) rfl rfl rfl) rfl rfl rfl ?_
  refine J.y (op_assign rfl rfl) rfl rfl rfl ?_
  refine J.y (op_assign rfl rfl) rfl rfl rfl ?_
  refine J.nil ?_
  refine J.then_n (J.k hK12 ?_)
  refine J.keepE [(2, _), (8, _), (9, _), (15, _), (16, _), (17, _), (18, _)] ⟨rfl, rfl, rfl, rfl, rfl, rfl, rfl, trivial⟩ ?_
  refine J.seq (fun K13 hK13 => ?_)
  refine J.seq (fun K14 hK14 => ?_)
  refine J.region ?_
  refine J.y (op_move rfl rfl) rfl rfl rfl ?_
  refine J.y (op_neq rfl rfl rfl) rfl rfl rfl ?_
  refine J.nil ?_
  refine J.then_n (J.k hK14 ?_)
  refine J.keepE [(2, _), (8, _), (9, _), (15, _), (16, _), (17, _), (18, _), (114, _)] ⟨rfl, rfl, rfl, rfl, rfl, rfl, rfl, rfl, trivial⟩ ?_
  refine J.ite rfl (fun h114 => ?_) (fun h114 => ?_)
  ·
    obtain ⟨q1, q2, q3, q4⟩ := pd_bad h114
    have hin := pdE_in j
    refine J.seq (fun K15 hK15 => ?_)
    refine J.region ?_
    refine J.y (op_fieldAddr (j := 0) rfl rfl Tryd.underlying57 rfl Tryd.sizeOf55 rfl) rfl rfl rfl ?_
    refine J.y (op_loadB 9 (v := .slice A105 ((pdB j).length) c105) rfl rfl rfl Tryd.isAgg55 rfl) rfl rfl rfl ?_
    refine J.y (op_len Tryd.underlying55 rfl rfl) rfl rfl rfl ?_
    refine J.y ((op_eql rfl rfl rfl).as (v' := .bool true) (congrArg Value.bool (decide_eq_true (by rw [q1]; rfl)))) rfl rfl rfl ?_
    refine J.y (op_move rfl rfl) rfl rfl rfl ?_
    refine J.yg (Wan.is rfl rfl rfl rfl rfl) (op_move rfl rfl) rfl rfl ?_
    refine J.yg (Wan.is rfl rfl rfl rfl rfl) (op_eql rfl rfl rfl) rfl rfl ?_
    refine J.yg (Wan.is rfl rfl rfl rfl rfl) (op_move rfl rfl) rfl rfl ?_
    refine J.split (d := 122) rfl (fun h122 => ?_) (fun h122 => ?_)
    ·
      refine J.no (Wan.is rfl rfl rfl rfl rfl) rfl rfl ?_
      refine J.no (Wan.is rfl rfl rfl rfl rfl) rfl rfl ?_
      refine J.yg (Wan.is rfl rfl rfl rfl rfl) (op_pickT rfl rfl rfl) rfl rfl ?_
      refine J.yg (Wan.is rfl rfl rfl rfl rfl) (op_move rfl rfl) rfl rfl ?_
      refine J.no (Wan.is rfl rfl rfl rfl rfl) rfl rfl ?_
      refine J.no (Wan.is rfl rfl rfl rfl rfl) rfl rfl ?_
      refine J.yg (Wan.is rfl rfl rfl rfl rfl) (op_pickT rfl rfl rfl) rfl rfl ?_
      refine J.y (op_pickT rfl rfl rfl) rfl rfl rfl ?_
      refine J.y (op_assign rfl rfl) rfl rfl rfl ?_
      refine J.nil ?_
      refine J.then_n (J.k hK15 ?_)
      refine J.keepE [(6, _)] ⟨rfl, trivial⟩ ?_
      refine J.ret ?_
      refine J.then_r ?_
      exact J.done hw0 (fun _ _ h => h) (res1 rfl rfl) (retOk () rfl trivial [0] rfl (by decide))
    ·
      refine J.yg (Wan.is rfl rfl rfl rfl rfl) (op_move rfl rfl) rfl rfl ?_
      refine J.yg (Wan.is rfl rfl rfl rfl rfl) (op_eql rfl rfl rfl) rfl rfl ?_
      refine J.yg (Wan.is rfl rfl rfl rfl rfl) (op_pickF rfl rfl rfl) rfl rfl ?_
      refine J.yg (Wan.is rfl rfl rfl rfl rfl) (op_move rfl rfl) rfl rfl ?_
      refine J.split (d := 126) rfl (fun h126 => ?_) (fun h126 => ?_)
      ·
        refine J.no (Wan.is rfl rfl rfl rfl rfl) rfl rfl ?_
        refine J.no (Wan.is rfl rfl rfl rfl rfl) rfl rfl ?_
        refine J.yg (Wan.is rfl rfl rfl rfl rfl) (op_pickT rfl rfl rfl) rfl rfl ?_
        refine J.y (op_pickT rfl rfl rfl) rfl rfl rfl ?_
        refine J.y (op_assign rfl rfl) rfl rfl rfl ?_
        refine J.nil ?_
        refine J.then_n (J.k hK15 ?_)
        refine J.keepE [(6, _)] ⟨rfl, trivial⟩ ?_
        refine J.ret ?_
        refine J.then_r ?_
        exact J.done hw0 (fun _ _ h => h) (res1 rfl rfl) (retOk () rfl trivial [0] rfl (by decide))
      ·
        refine J.yg (Wan.is rfl rfl rfl rfl rfl) (op_move rfl rfl) rfl rfl ?_
        refine J.yg (Wan.is rfl rfl rfl rfl rfl) ((op_eql rfl rfl rfl).as (v' := .bool true) (congrArg Value.bool (decide_eq_true (by omega)))) rfl rfl ?_
        refine J.yg (Wan.is rfl rfl rfl rfl rfl) (op_pickF rfl rfl rfl) rfl rfl ?_
        refine J.y (op_pickT rfl rfl rfl) rfl rfl rfl ?_
        refine J.y (op_assign rfl rfl) rfl rfl rfl ?_
        refine J.nil ?_
        refine J.then_n (J.k hK15 ?_)
        refine J.keepE [(6, _)] ⟨rfl, trivial⟩ ?_
        refine J.ret ?_
        refine J.then_r ?_
        exact J.done hw0 (fun _ _ h => h) (res1 rfl rfl) (retOk () rfl trivial [0] rfl (by decide))
  ·
    refine J.skip ?_
    refine J.then_n (J.k hK13 ?_)
    refine J.keepE [(2, _), (8, _), (9, _), (17, _), (18, _)] ⟨rfl, rfl, rfl, rfl, rfl, trivial⟩ ?_
    refine J.seq (fun K16 hK16 => ?_)
    refine J.region ?_
    refine J.y (op_move rfl rfl) rfl rfl rfl ?_
    refine J.e (op_call rfl rfl ent27 (Ct.use0 (fun F' hF => proveS_ct F' g [115, 104, 111, 114, 116] 0 (by decide)))) rfl rfl rfl ?_
    intro g133 _
    refine J.y (op_move rfl rfl) rfl rfl rfl ?_
    refine J.y (op_extract (v := .agg #[.slice none 0 0, .bool false, Str [], Str []]) rfl rfl rfl) rfl rfl rfl ?_
    refine J.y (op_extract (v := I ((10 : Nat) : Int)) rfl rfl rfl) rfl rfl rfl ?_
    refine J.e (op_alloc (l := [.slice none 0 0, .bool false, Str [], Str []]) rfl Tryd.zeroValue57 rfl) rfl rfl rfl ?_
    intro g19 _
    change J _ _ _ [F, blk g4 [B8 (b0), B8 (b1)] 87, mr, mo, m37, blk g9 [.slice A37 (bsd kv (keyP b0 b1) 0 (s37 - 0)).length c37, .bool (pThere kv (keyP b0 b1) s37), Str (pKey kv (keyP b0 b1) s37), Str (pVal kv (keyP b0 b1) s37)] 57, m47, blk g13 [.slice A47 (bsd kv (keyP b0 b1) 0 (s37 - 0)).length c47, .bool (pThere kv (keyP b0 b1) s37), Str (pKey kv (keyP b0 b1) s37), Str (pVal kv (keyP b0 b1) s37)] 57, m105, blk g15 [.slice A105 ((pdB j).length) c105, .bool (pdT j), Str (pdK j), Str (pdV j)] 57, blk g19 [.slice none 0 0, .bool false, Str [], Str []] 57] _
    refine J.s (op_storeAll (i := 10) (l := [.slice none 0 0, .bool false, Str [], Str []]) (vs := [.slice none 0 0, .bool false, Str [], Str []]) rfl rfl rfl rfl rfl Tryd.sizeOf57 rfl rfl) rfl rfl (fun _ _ => ?_)
    change J _ _ _ [F, blk g4 [B8 (b0), B8 (b1)] 87, mr, mo, m37, blk g9 [.slice A37 (bsd kv (keyP b0 b1) 0 (s37 - 0)).length c37, .bool (pThere kv (keyP b0 b1) s37), Str (pKey kv (keyP b0 b1) s37), Str (pVal kv (keyP b0 b1) s37)] 57, m47, blk g13 [.slice A47 (bsd kv (keyP b0 b1) 0 (s37 - 0)).length c47, .bool (pThere kv (keyP b0 b1) s37), Str (pKey kv (keyP b0 b1) s37), Str (pVal kv (keyP b0 b1) s37)] 57, m105, blk g15 [.slice A105 ((pdB j).length) c105, .bool (pdT j), Str (pdK j), Str (pdV j)] 57, blk g19 [.slice none 0 0, .bool false, Str [], Str []] 57] _
    refine J.y (op_assign rfl rfl) rfl rfl rfl ?_
    refine J.nil ?_
    refine J.then_n (J.k hK16 ?_)
    refine J.keepE [(2, _), (9, _), (17, _), (18, _), (20, _)] ⟨rfl, rfl, rfl, rfl, rfl, trivial⟩ ?_
    refine J.seq (fun K17 hK17 => ?_)
    refine J.region ?_
    refine J.y (op_loadBA 5 rfl rfl rfl Tryd.isAgg57 Tryd.sizeOf57 rfl) rfl rfl rfl ?_
    refine J.e (op_call rfl rfl ent28 (Ct.use0 (fun F' hF => afterS_ct F' A37 c37 (bsd kv (keyP b0 b1) 0 (s37 - 0)) (hr37.sl.mono (hF m37 (by simp))) (pThere kv (keyP b0 b1) s37) (pKey kv (keyP b0 b1) s37) (pVal kv (keyP b0 b1) s37) [115, 104, 111, 114, 116] [] 0 (by decide)))) rfl rfl rfl ?_
    intro g138 _
    refine J.y (op_move rfl rfl) rfl rfl rfl ?_
    refine J.y (op_extract (v := Str ([])) rfl rfl rfl) rfl rfl rfl ?_
    refine J.y (op_extract (v := I ((18 : Nat) : Int)) rfl rfl rfl) rfl rfl rfl ?_
    refine J.y (op_assign rfl rfl) rfl rfl rfl ?_
    refine J.y (op_assign rfl rfl) rfl rfl rfl ?_
    refine J.nil ?_
    refine J.then_n (J.k hK17 ?_)
    refine J.keepE [(2, _), (9, _), (17, _), (18, _), (20, _), (22, _)] ⟨rfl, rfl, rfl, rfl, rfl, rfl, trivial⟩ ?_
    refine J.seq (fun K18 hK18 => ?_)
    refine J.region ?_
    refine J.y (op_move rfl rfl) rfl rfl rfl ?_
    refine J.y ((op_eql rfl rfl rfl).as (v' := .bool true) (congrArg Value.bool (decide_eq_true (by decide)))) rfl rfl rfl ?_
    refine J.y (op_move rfl rfl) rfl rfl rfl ?_
    refine J.yg (Wan.is rfl rfl rfl rfl rfl) (op_move rfl rfl) rfl rfl ?_
    refine J.yg (Wan.is rfl rfl rfl rfl rfl) (op_move rfl rfl) rfl rfl ?_
    refine J.yg (Wan.is rfl rfl rfl rfl rfl) ((op_seq rfl rfl rfl).as (v' := .bool true) (congrArg Value.bool (decide_eq_true (pd_inv (Decidable.not_not.1 h114))))) rfl rfl ?_
    refine J.y (op_pickT rfl rfl rfl) rfl rfl rfl ?_
    refine J.y (op_move rfl rfl) rfl rfl rfl ?_
    refine J.yg (Wan.is rfl rfl rfl rfl rfl) (op_move rfl rfl) rfl rfl ?_
    refine J.yg (Wan.is rfl rfl rfl rfl rfl) ((op_eql rfl rfl rfl).as (v' := .bool true) (congrArg Value.bool (decide_eq_true (by decide)))) rfl rfl ?_
    refine J.y (op_pickT rfl rfl rfl) rfl rfl rfl ?_
    refine J.y (op_move rfl rfl) rfl rfl rfl ?_
    refine J.yg (Wan.is rfl rfl rfl rfl rfl) (op_move rfl rfl) rfl rfl ?_
    refine J.yg (Wan.is rfl rfl rfl rfl rfl) ((op_eql rfl rfl rfl).as (v' := .bool true) (congrArg Value.bool (decide_eq_true (by decide)))) rfl rfl ?_
    refine J.y (op_pickT rfl rfl rfl) rfl rfl rfl ?_
    refine J.y (op_move rfl rfl) rfl rfl rfl ?_
    refine J.yg (Wan.is rfl rfl rfl rfl rfl) (op_loadBA 5 rfl rfl rfl Tryd.isAgg57 Tryd.sizeOf57 rfl) rfl rfl ?_
    refine J.eg (Wan.is rfl rfl rfl rfl rfl) (op_call rfl rfl ent47 (Ct.use0 (fun F' hF => nodeS_ct F' A37 c37 (bsd kv (keyP b0 b1) 0 (s37 - 0)) (hr37.sl.mono (hF m37 (by simp))) (pThere kv (keyP b0 b1) s37) (pKey kv (keyP b0 b1) s37) (pVal kv (keyP b0 b1) s37) [115, 104, 111, 114, 116] 0 (by decide)))) rfl rfl ?_
    intro g158 _
    refine J.yg (Wan.is rfl rfl rfl rfl rfl) ((op_seq rfl rfl rfl).as (v' := .bool true) (congrArg Value.bool (decide_eq_true (rfl)))) rfl rfl ?_
    refine J.y (op_pickT rfl rfl rfl) rfl rfl rfl ?_
    refine J.y (op_move rfl rfl) rfl rfl rfl ?_
    refine J.yg (Wan.is rfl rfl rfl rfl rfl) (op_loadBA 5 rfl rfl rfl Tryd.isAgg57 Tryd.sizeOf57 rfl) rfl rfl ?_
    refine J.eg (Wan.is rfl rfl rfl rfl rfl) (op_call rfl rfl ent49 (Ct.use0 (fun F' hF => goodS_ct F' A37 c37 (bsd kv (keyP b0 b1) 0 (s37 - 0)) (hr37.sl.mono (hF m37 (by simp))) (pThere kv (keyP b0 b1) s37) (pKey kv (keyP b0 b1) s37) (pVal kv (keyP b0 b1) s37) [115, 104, 111, 114, 116] 0 (by decide)))) rfl rfl ?_
    intro g163 _
    refine J.yg (Wan.is rfl rfl rfl rfl rfl) (op_not rfl rfl) rfl rfl ?_
    refine J.y (op_pickT rfl rfl rfl) rfl rfl rfl ?_
    refine J.y (op_assign rfl rfl) rfl rfl rfl ?_
    refine J.nil ?_
    refine J.then_n (J.k hK18 ?_)
    refine J.keepE [(6, _)] ⟨rfl, trivial⟩ ?_
    refine J.ret ?_
    exact J.done hw0 (fun _ _ h => h) (res1 rfl rfl) (retOk () rfl trivial [0] rfl (by decide))

theorem putz_of {H : Type} {enc : TypeId × Value → H} {W : World} {xs : List (List Value)} (h : ∀ x ∈ xs, ∃ fuel y, DataW.trod enc Tryd.prog W 0 (fun _ => true) true fuel 50 x = some y) : ∃ l : List Pz, xs = putzV l ∧ ∀ a ∈ l, True :=
  rows_of (f := Pz.cells) (Q := fun _ => True) fun x hx => by
    obtain ⟨fuel, y, h1⟩ := h x hx
    obtain ⟨hl, hf⟩ := struct_of Tryd.underlying50 h1
    have hc : Tryd.prog.cellsOf 50 = 3 := by kernel_rfl
    have cB : Tryd.prog.cellsOf 5 = 1 := by kernel_rfl
    have cS : Tryd.prog.cellsOf 9 = 1 := by kernel_rfl
    rw [hc] at hl
    match x, hl, hf with
    | [v0, v1, v2], _, hf =>
      obtain ⟨_, _, h0⟩ := hf 0 _ rfl
      obtain ⟨_, _, h1⟩ := hf 1 _ rfl
      obtain ⟨_, _, h2⟩ := hf 2 _ rfl
      dsimp only at h0 h1 h2
      rw [cB] at h0
      rw [cB] at h1
      rw [cS] at h2
      obtain ⟨w0, rfl⟩ := u8_of Tryd.underlying5 h0
      obtain ⟨w1, rfl⟩ := u8_of Tryd.underlying5 h1
      obtain ⟨w2, rfl⟩ := str_of Tryd.underlying9 h2
      exact ⟨⟨w0, w1, w2⟩, rfl, trivial⟩

end Go.Proofs.YtnkfapecbmmpeaaDoor
