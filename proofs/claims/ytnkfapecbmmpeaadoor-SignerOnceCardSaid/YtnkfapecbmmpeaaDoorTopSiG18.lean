/- A part of the proof: contracts of functions of the program, each for every state of the heaps that it names. -/
import Derived.Test.YtnkfapecbmmpeaaDoorTopSiG16
import Derived.Test.YtnkfapecbmmpeaaDoorTopSiG17
set_option linter.unusedSimpArgs false
set_option linter.unusedVariables false
namespace Go.Proofs.YtnkfapecbmmpeaaDoor
open Go Go.Fw
set_option maxRecDepth 100000
set_option maxHeartbeats 1000000

theorem record_ct (F : Hp) (hK : Cells F ⟨1, 0, none⟩ (Sha.K.map W32)) (gh hat : Nat) (hturn : UInt64) (hend : Nat) (Ar : Option Addr) (nr cr : Nat) (hH : Cells F ⟨gh, 0, none⟩ [I ((hat : Nat) : Int), W64 (hturn), I ((hend : Nat) : Int), .slice Ar nr cr]) (hnr : nr ≤ 1048576) (A : Option Addr) (n c : Nat) (l : List (List UInt8)) (hl : Sl F 1 A n c (strsV l)) (hn : 0 < n) (h64 : ∀ s ∈ l, s.length = 64) :
    Ct Tryd.prog 121 [Ptr gh, .slice A n c] [F] (fun _ : Unit => (recR hturn nr l).val) (fun _ => True) (fun _ => [F]) := by
  have hln : l.length = n := by have := hl.1; simpa [strsV] using this
  obtain ⟨p, ok, hp⟩ : ∃ p ok, parse (l.getD 0 []) = (p, ok) := ⟨_, _, rfl⟩
  obtain ⟨p1, p2, p3, p4, p5, p6⟩ : p.ok := by have := parse_okP (l.getD 0 []); rwa [hp] at this
  refine Ct.walk Tryd.func121 rfl Tryd.ntmps121 rfl (fun w0 hw0 => ?_)
  change J _ [(0, _), (1, _)] _ _ _
  refine J.seq (fun K1 hK1 => ?_)
  refine J.region ?_
  refine J.y (op_assign rfl rfl) rfl rfl rfl ?_
  refine J.y (op_assign rfl rfl) rfl rfl rfl ?_
  refine J.y (op_assign rfl rfl) rfl rfl rfl ?_
  refine J.y (op_assign rfl rfl) rfl rfl rfl ?_
  refine J.nil ?_
  refine J.then_n (J.k hK1 ?_)
  refine J.keepE [(0, _), (1, _)] ⟨rfl, rfl, trivial⟩ ?_
  refine J.seq (fun K2 hK2 => ?_)
  refine J.region ?_
  refine J.y (op_move rfl rfl) rfl rfl rfl ?_
  refine J.y (op_indexAddr (i := 0) rfl rfl rfl Tryd.underlying55 Tryd.sizeOf9 hl (by first | omega | (simp only [List.length_append, List.length_cons, List.length_nil, List.length_take, List.length_drop] at *; omega))) rfl rfl rfl ?_
  refine J.y (op_load rfl rfl Tryd.isAgg9 (m := F) (by simp) (hl.elem (strsV_get (getSome [] (by first | omega | (simp only [List.length_append, List.length_cons, List.length_nil, List.length_take, List.length_drop] at *; omega)))))) rfl rfl rfl ?_
  refine J.e (op_call rfl rfl ent163 (Ct.use0 (fun F' hF => by have := parse_ct F' (hK.mono (hF F (by simp))) (l.getD 0 []) (get64 h64 (by omega)); rw [hp] at this; exact this))) rfl rfl rfl ?_
  intro g18 _
  refine J.y (op_move rfl rfl) rfl rfl rfl ?_
  refine J.y (op_extract (v := .agg #[W64 (p.turn), W64 (p.num), I ((p.at_ : Nat) : Int), I ((p.all : Nat) : Int), Str (p.name), Str (p.con)]) rfl rfl rfl) rfl rfl rfl ?_
  refine J.y (op_extract (v := .bool (ok)) rfl rfl rfl) rfl rfl rfl ?_
  refine J.e (op_alloc (l := [.int .u64 0, .int .u64 0, I 0, I 0, Str [], Str []]) rfl Tryd.zeroValue184 rfl) rfl rfl rfl ?_
  intro g8 _
  change J _ _ _ [F, blk g8 [.int .u64 0, .int .u64 0, I 0, I 0, Str [], Str []] 184] _
  refine J.s (op_storeAll (i := 1) (l := [.int .u64 0, .int .u64 0, I 0, I 0, Str [], Str []]) (vs := [W64 (p.turn), W64 (p.num), I ((p.at_ : Nat) : Int), I ((p.all : Nat) : Int), Str (p.name), Str (p.con)]) rfl rfl rfl rfl rfl Tryd.sizeOf184 rfl rfl) rfl rfl (fun _ _ => ?_)
  change J _ _ _ [F, blk g8 [W64 (p.turn), W64 (p.num), I ((p.at_ : Nat) : Int), I ((p.all : Nat) : Int), Str (p.name), Str (p.con)] 184] _
  refine J.y (op_assign rfl rfl) rfl rfl rfl ?_
  refine J.nil ?_
  refine J.then_n (J.k hK2 ?_)
  refine J.keepE [(0, _), (1, _), (8, _), (9, _)] ⟨rfl, rfl, rfl, rfl, trivial⟩ ?_
  refine J.cut (X := Unit) (fun ζ => [(1, .slice A n c), (8, Ptr g8)]) (fun ζ => [F, blk g8 [W64 (p.turn), W64 (p.num), I ((p.at_ : Nat) : Int), I ((p.all : Nat) : Int), Str (p.name), Str (p.con)] 184]) (fun ζ => recF hturn nr l.length (p, ok)) (fun K3 hK3 => ?_) ?_
  ·
    refine J.seq (fun K4 hK4 => ?_)
    refine J.draw [F, blk g8 [W64 (p.turn), W64 (p.num), I ((p.at_ : Nat) : Int), I ((p.all : Nat) : Int), Str (p.name), Str (p.con)] 184] [] (.y 0 (.y 1 (.y 2 (.y 3 (.y 4 (.y 5 (.y 6 (.y 7 (.y 8 (.y 9 (.y 10 (.y 11 (.y 12 (.y 13 (.y 14 (.y 15 (.y 16 (.y 17 (.y 18 (.y 19 (.y 20 (.y 21 (.y 22 (.y 23 (.y 24 (.y 25 (.y 26 (.y 27 (.y 28 (.y 29 (.y 30 (.y 31 (.y 32 (.y 33 (.y 34 (.y 35 (.y 36 (.y 37 (.y 38 (.y 39 (.y 40 (.y 41 (.y 42 (.y 43 (.y 44 (.y 45 (.y 46 .nil))))))))))))))))))))))))))))))))))))))))))))))) Tryd.wide (by decide +kernel) (by simp) ?_
    refine J.dy rfl (op_move rfl rfl) rfl rfl rfl rfl ?_
    refine J.dy rfl (op_not rfl rfl) rfl rfl rfl rfl ?_
    refine J.dy rfl (op_move rfl rfl) rfl rfl rfl rfl ?_
    refine J.splitB (d := 23) rfl (fun h23 => ?_) (fun h23 => ?_)
    ·
      refine J.dno rfl (Wan.is rfl rfl rfl rfl rfl) rfl rfl ?_
      refine J.dno rfl (Wan.is rfl rfl rfl rfl rfl) rfl rfl ?_
      refine J.dno rfl (Wan.is rfl rfl rfl rfl rfl) rfl rfl ?_
      refine J.dy rfl (op_pickT rfl rfl rfl) rfl rfl rfl rfl ?_
      refine J.dy rfl (op_move rfl rfl) rfl rfl rfl rfl ?_
      refine J.dno rfl (Wan.is rfl rfl rfl rfl rfl) rfl rfl ?_
      refine J.dno rfl (Wan.is rfl rfl rfl rfl rfl) rfl rfl ?_
      refine J.dno rfl (Wan.is rfl rfl rfl rfl rfl) rfl rfl ?_
      refine J.dy rfl (op_pickT rfl rfl rfl) rfl rfl rfl rfl ?_
      refine J.dy rfl (op_move rfl rfl) rfl rfl rfl rfl ?_
      refine J.dno rfl (Wan.is rfl rfl rfl rfl rfl) rfl rfl ?_
      refine J.dno rfl (Wan.is rfl rfl rfl rfl rfl) rfl rfl ?_
      refine J.dno rfl (Wan.is rfl rfl rfl rfl rfl) rfl rfl ?_
      refine J.dno rfl (Wan.is rfl rfl rfl rfl rfl) rfl rfl ?_
      refine J.dno rfl (Wan.is rfl rfl rfl rfl rfl) rfl rfl ?_
      refine J.dno rfl (Wan.is rfl rfl rfl rfl rfl) rfl rfl ?_
      refine J.dno rfl (Wan.is rfl rfl rfl rfl rfl) rfl rfl ?_
      refine J.dno rfl (Wan.is rfl rfl rfl rfl rfl) rfl rfl ?_
      refine J.dno rfl (Wan.is rfl rfl rfl rfl rfl) rfl rfl ?_
      refine J.dy rfl (op_pickT rfl rfl rfl) rfl rfl rfl rfl ?_
      refine J.dy rfl (op_move rfl rfl) rfl rfl rfl rfl ?_
      refine J.dno rfl (Wan.is rfl rfl rfl rfl rfl) rfl rfl ?_
      refine J.dno rfl (Wan.is rfl rfl rfl rfl rfl) rfl rfl ?_
      refine J.dno rfl (Wan.is rfl rfl rfl rfl rfl) rfl rfl ?_
      refine J.dno rfl (Wan.is rfl rfl rfl rfl rfl) rfl rfl ?_
      refine J.dno rfl (Wan.is rfl rfl rfl rfl rfl) rfl rfl ?_
      refine J.dy rfl (op_pickT rfl rfl rfl) rfl rfl rfl rfl ?_
      refine J.dy rfl (op_move rfl rfl) rfl rfl rfl rfl ?_
      refine J.dno rfl (Wan.is rfl rfl rfl rfl rfl) rfl rfl ?_
      refine J.dno rfl (Wan.is rfl rfl rfl rfl rfl) rfl rfl ?_
      refine J.dno rfl (Wan.is rfl rfl rfl rfl rfl) rfl rfl ?_
      refine J.dno rfl (Wan.is rfl rfl rfl rfl rfl) rfl rfl ?_
      refine J.dno rfl (Wan.is rfl rfl rfl rfl rfl) rfl rfl ?_
      refine J.dno rfl (Wan.is rfl rfl rfl rfl rfl) rfl rfl ?_
      refine J.dno rfl (Wan.is rfl rfl rfl rfl rfl) rfl rfl ?_
      refine J.dno rfl (Wan.un rfl rfl rfl rfl) rfl rfl ?_
      refine J.dno rfl (Wan.un rfl rfl rfl rfl) rfl rfl ?_
      refine J.dno rfl (Wan.un rfl rfl rfl rfl) rfl rfl ?_
      refine J.dno rfl (Wan.un rfl rfl rfl rfl) rfl rfl ?_
      refine J.dno rfl (Wan.un rfl rfl rfl rfl) rfl rfl ?_
      refine J.dno rfl (Wan.un rfl rfl rfl rfl) rfl rfl ?_
      refine J.dno rfl (Wan.un rfl rfl rfl rfl) rfl rfl ?_
      refine J.dno rfl (Wan.is rfl rfl rfl rfl rfl) rfl rfl ?_
      refine J.dy rfl (op_pickT rfl rfl rfl) rfl rfl rfl rfl ?_
      refine J.dnil ?_
      refine J.then_n (J.k hK4 ?_)
      refine J.keepE [(1, _), (8, _), (67, _)] ⟨rfl, rfl, rfl, trivial⟩ ?_
      refine J.condT rfl rfl ?_
      refine J.seq (fun K5 hK5 => ?_)
      refine J.region ?_
      refine J.y (op_assign rfl rfl) rfl rfl rfl ?_
      refine J.y (op_assign rfl rfl) rfl rfl rfl ?_
      refine J.y (op_assign rfl rfl) rfl rfl rfl ?_
      refine J.y (op_assign rfl rfl) rfl rfl rfl ?_
      refine J.nil ?_
      refine J.then_n (J.k hK5 ?_)
      refine J.keepE [(4, _), (5, _), (6, _), (7, _)] ⟨rfl, rfl, rfl, rfl, trivial⟩ ?_
      refine J.ret ?_
      refine J.then_r ?_
      exact J.done hw0 (fun _ _ h => h) (res4 rfl rfl rfl rfl rfl) (retOk () (by rw [recR_f hp (fun ⟨a1, a2, a3, a4, a5, a6⟩ => by dsimp only at a1 a2 a3 a4 a5 a6; first | (simp [a1] at h23; done) | omega | (have := a6 (by omega); omega))]; rfl) trivial [0] rfl (by decide))
    ·
      refine J.dyg rfl (op_fieldAddr (j := 2) rfl rfl Tryd.underlying184 rfl Tryd.sizeOf3 rfl) (Wan.is rfl rfl rfl rfl rfl) rfl rfl rfl ?_
      refine J.dyg rfl (op_loadB 1 (v := I ((p.at_ : Nat) : Int)) rfl rfl rfl Tryd.isAgg3 rfl) (Wan.is rfl rfl rfl rfl rfl) rfl rfl rfl ?_
      refine J.dyg rfl (op_neq rfl rfl rfl) (Wan.is rfl rfl rfl rfl rfl) rfl rfl rfl ?_
      refine J.dy rfl (op_pickF rfl rfl rfl) rfl rfl rfl rfl ?_
      refine J.dy rfl (op_move rfl rfl) rfl rfl rfl rfl ?_
      refine J.split (d := 28) rfl (fun h28 => ?_) (fun h28 => ?_)
      ·
        refine J.dno rfl (Wan.is rfl rfl rfl rfl rfl) rfl rfl ?_
        refine J.dno rfl (Wan.is rfl rfl rfl rfl rfl) rfl rfl ?_
        refine J.dno rfl (Wan.is rfl rfl rfl rfl rfl) rfl rfl ?_
        refine J.dy rfl (op_pickT rfl rfl rfl) rfl rfl rfl rfl ?_
        refine J.dy rfl (op_move rfl rfl) rfl rfl rfl rfl ?_
        refine J.dno rfl (Wan.is rfl rfl rfl rfl rfl) rfl rfl ?_
        refine J.dno rfl (Wan.is rfl rfl rfl rfl rfl) rfl rfl ?_
        refine J.dno rfl (Wan.is rfl rfl rfl rfl rfl) rfl rfl ?_
        refine J.dno rfl (Wan.is rfl rfl rfl rfl rfl) rfl rfl ?_
        refine J.dno rfl (Wan.is rfl rfl rfl rfl rfl) rfl rfl ?_
        refine J.dno rfl (Wan.is rfl rfl rfl rfl rfl) rfl rfl ?_
        refine J.dno rfl (Wan.is rfl rfl rfl rfl rfl) rfl rfl ?_
        refine J.dno rfl (Wan.is rfl rfl rfl rfl rfl) rfl rfl ?_
        refine J.dno rfl (Wan.is rfl rfl rfl rfl rfl) rfl rfl ?_
        refine J.dy rfl (op_pickT rfl rfl rfl) rfl rfl rfl rfl ?_
        refine J.dy rfl (op_move rfl rfl) rfl rfl rfl rfl ?_
        refine J.dno rfl (Wan.is rfl rfl rfl rfl rfl) rfl rfl ?_
        refine J.dno rfl (Wan.is rfl rfl rfl rfl rfl) rfl rfl ?_
        refine J.dno rfl (Wan.is rfl rfl rfl rfl rfl) rfl rfl ?_
        refine J.dno rfl (Wan.is rfl rfl rfl rfl rfl) rfl rfl ?_
        refine J.dno rfl (Wan.is rfl rfl rfl rfl rfl) rfl rfl ?_
        refine J.dy rfl (op_pickT rfl rfl rfl) rfl rfl rfl rfl ?_
        refine J.dy rfl (op_move rfl rfl) rfl rfl rfl rfl ?_
        refine J.dno rfl (Wan.is rfl rfl rfl rfl rfl) rfl rfl ?_
        refine J.dno rfl (Wan.is rfl rfl rfl rfl rfl) rfl rfl ?_
        refine J.dno rfl (Wan.is rfl rfl rfl rfl rfl) rfl rfl ?_
        refine J.dno rfl (Wan.is rfl rfl rfl rfl rfl) rfl rfl ?_
        refine J.dno rfl (Wan.is rfl rfl rfl rfl rfl) rfl rfl ?_
        refine J.dno rfl (Wan.is rfl rfl rfl rfl rfl) rfl rfl ?_
        refine J.dno rfl (Wan.is rfl rfl rfl rfl rfl) rfl rfl ?_
        refine J.dno rfl (Wan.un rfl rfl rfl rfl) rfl rfl ?_
        refine J.dno rfl (Wan.un rfl rfl rfl rfl) rfl rfl ?_
        refine J.dno rfl (Wan.un rfl rfl rfl rfl) rfl rfl ?_
        refine J.dno rfl (Wan.un rfl rfl rfl rfl) rfl rfl ?_
        refine J.dno rfl (Wan.un rfl rfl rfl rfl) rfl rfl ?_
        refine J.dno rfl (Wan.un rfl rfl rfl rfl) rfl rfl ?_
        refine J.dno rfl (Wan.un rfl rfl rfl rfl) rfl rfl ?_
        refine J.dno rfl (Wan.is rfl rfl rfl rfl rfl) rfl rfl ?_
        refine J.dy rfl (op_pickT rfl rfl rfl) rfl rfl rfl rfl ?_
        refine J.dnil ?_
        refine J.then_n (J.k hK4 ?_)
        refine J.keepE [(1, _), (8, _), (67, _)] ⟨rfl, rfl, rfl, trivial⟩ ?_
        refine J.condT rfl rfl ?_
        refine J.seq (fun K6 hK6 => ?_)
        refine J.region ?_
        refine J.y (op_assign rfl rfl) rfl rfl rfl ?_
        refine J.y (op_assign rfl rfl) rfl rfl rfl ?_
        refine J.y (op_assign rfl rfl) rfl rfl rfl ?_
        refine J.y (op_assign rfl rfl) rfl rfl rfl ?_
        refine J.nil ?_
        refine J.then_n (J.k hK6 ?_)
        refine J.keepE [(4, _), (5, _), (6, _), (7, _)] ⟨rfl, rfl, rfl, rfl, trivial⟩ ?_
        refine J.ret ?_
        refine J.then_r ?_
        exact J.done hw0 (fun _ _ h => h) (res4 rfl rfl rfl rfl rfl) (retOk () (by rw [recR_f hp (fun ⟨a1, a2, a3, a4, a5, a6⟩ => by dsimp only at a1 a2 a3 a4 a5 a6; first | (simp [a1] at h23; done) | omega | (have := a6 (by omega); omega))]; rfl) trivial [0] rfl (by decide))
      ·
        refine J.dyg rfl (op_fieldAddr (j := 0) rfl rfl Tryd.underlying184 rfl Tryd.sizeOf108 rfl) (Wan.is rfl rfl rfl rfl rfl) rfl rfl rfl ?_
        refine J.dyg rfl (op_loadB 1 (v := W64 (p.turn)) rfl rfl rfl Tryd.isAgg108 rfl) (Wan.is rfl rfl rfl rfl rfl) rfl rfl rfl ?_
        refine J.dyg rfl (op_eql rfl rfl rfl) (Wan.is rfl rfl rfl rfl rfl) rfl rfl rfl ?_
        refine J.dy rfl (op_pickF rfl rfl rfl) rfl rfl rfl rfl ?_
        refine J.dy rfl (op_move rfl rfl) rfl rfl rfl rfl ?_
        refine J.split (d := 33) rfl (fun h33 => ?_) (fun h33 => ?_)
        ·
          refine J.dno rfl (Wan.is rfl rfl rfl rfl rfl) rfl rfl ?_
          refine J.dno rfl (Wan.is rfl rfl rfl rfl rfl) rfl rfl ?_
          refine J.dno rfl (Wan.is rfl rfl rfl rfl rfl) rfl rfl ?_
          refine J.dno rfl (Wan.is rfl rfl rfl rfl rfl) rfl rfl ?_
          refine J.dno rfl (Wan.is rfl rfl rfl rfl rfl) rfl rfl ?_
          refine J.dno rfl (Wan.is rfl rfl rfl rfl rfl) rfl rfl ?_
          refine J.dno rfl (Wan.is rfl rfl rfl rfl rfl) rfl rfl ?_
          refine J.dno rfl (Wan.is rfl rfl rfl rfl rfl) rfl rfl ?_
          refine J.dno rfl (Wan.is rfl rfl rfl rfl rfl) rfl rfl ?_
          refine J.dy rfl (op_pickT rfl rfl rfl) rfl rfl rfl rfl ?_
          refine J.dy rfl (op_move rfl rfl) rfl rfl rfl rfl ?_
          refine J.dno rfl (Wan.is rfl rfl rfl rfl rfl) rfl rfl ?_
          refine J.dno rfl (Wan.is rfl rfl rfl rfl rfl) rfl rfl ?_
          refine J.dno rfl (Wan.is rfl rfl rfl rfl rfl) rfl rfl ?_
          refine J.dno rfl (Wan.is rfl rfl rfl rfl rfl) rfl rfl ?_
          refine J.dno rfl (Wan.is rfl rfl rfl rfl rfl) rfl rfl ?_
          refine J.dy rfl (op_pickT rfl rfl rfl) rfl rfl rfl rfl ?_
          refine J.dy rfl (op_move rfl rfl) rfl rfl rfl rfl ?_
          refine J.dno rfl (Wan.is rfl rfl rfl rfl rfl) rfl rfl ?_
          refine J.dno rfl (Wan.is rfl rfl rfl rfl rfl) rfl rfl ?_
          refine J.dno rfl (Wan.is rfl rfl rfl rfl rfl) rfl rfl ?_
          refine J.dno rfl (Wan.is rfl rfl rfl rfl rfl) rfl rfl ?_
          refine J.dno rfl (Wan.is rfl rfl rfl rfl rfl) rfl rfl ?_
          refine J.dno rfl (Wan.is rfl rfl rfl rfl rfl) rfl rfl ?_
          refine J.dno rfl (Wan.is rfl rfl rfl rfl rfl) rfl rfl ?_
          refine J.dno rfl (Wan.un rfl rfl rfl rfl) rfl rfl ?_
          refine J.dno rfl (Wan.un rfl rfl rfl rfl) rfl rfl ?_
          refine J.dno rfl (Wan.un rfl rfl rfl rfl) rfl rfl ?_
          refine J.dno rfl (Wan.un rfl rfl rfl rfl) rfl rfl ?_
          refine J.dno rfl (Wan.un rfl rfl rfl rfl) rfl rfl ?_
          refine J.dno rfl (Wan.un rfl rfl rfl rfl) rfl rfl ?_
          refine J.dno rfl (Wan.un rfl rfl rfl rfl) rfl rfl ?_
          refine J.dno rfl (Wan.is rfl rfl rfl rfl rfl) rfl rfl ?_
          refine J.dy rfl (op_pickT rfl rfl rfl) rfl rfl rfl rfl ?_
          refine J.dnil ?_
          refine J.then_n (J.k hK4 ?_)
          refine J.keepE [(1, _), (8, _), (67, _)] ⟨rfl, rfl, rfl, trivial⟩ ?_
          refine J.condT rfl rfl ?_
          refine J.seq (fun K7 hK7 => ?_)
          refine J.region ?_
          refine J.y (op_assign rfl rfl) rfl rfl rfl ?_
          refine J.y (op_assign rfl rfl) rfl rfl rfl ?_
          refine J.y (op_assign rfl rfl) rfl rfl rfl ?_
          refine J.y (op_assign rfl rfl) rfl rfl rfl ?_
          refine J.nil ?_
          refine J.then_n (J.k hK7 ?_)
          refine J.keepE [(4, _), (5, _), (6, _), (7, _)] ⟨rfl, rfl, rfl, rfl, trivial⟩ ?_
          refine J.ret ?_
          refine J.then_r ?_
          exact J.done hw0 (fun _ _ h => h) (res4 rfl rfl rfl rfl rfl) (retOk () (by rw [recR_f hp (fun ⟨a1, a2, a3, a4, a5, a6⟩ => by dsimp only at a1 a2 a3 a4 a5 a6; first | (simp [a1] at h23; done) | omega | (have := a6 (by omega); omega))]; rfl) trivial [0] rfl (by decide))
        ·
          refine J.dyg rfl (op_fieldAddr (j := 1) rfl rfl Tryd.underlying184 rfl Tryd.sizeOf108 rfl) (Wan.is rfl rfl rfl rfl rfl) rfl rfl rfl ?_
          refine J.dyg rfl (op_loadB 1 (v := W64 (p.num)) rfl rfl rfl Tryd.isAgg108 rfl) (Wan.is rfl rfl rfl rfl rfl) rfl rfl rfl ?_
          refine J.dyg rfl (op_move rfl rfl) (Wan.is rfl rfl rfl rfl rfl) rfl rfl rfl ?_
          refine J.dyg rfl (op_nilCheck rfl rfl) (Wan.is rfl rfl rfl rfl rfl) rfl rfl rfl ?_
          refine J.dyg rfl (op_fieldAddr (j := 3) rfl rfl Tryd.underlying128 rfl Tryd.sizeOf55 rfl) (Wan.is rfl rfl rfl rfl rfl) rfl rfl rfl ?_
          refine J.dyg rfl (op_load (v := .slice Ar nr cr) rfl rfl Tryd.isAgg55 (m := F) (by simp) (hH.at (i := 3) rfl)) (Wan.is rfl rfl rfl rfl rfl) rfl rfl rfl ?_
          refine J.dyg rfl (op_len Tryd.underlying55 rfl rfl) (Wan.is rfl rfl rfl rfl rfl) rfl rfl rfl ?_
          refine J.dyg rfl (op_cvU_i64 (m := nr) rfl rfl Tryd.underlying3 Tryd.underlying108 (by first | omega | (simp only [List.length_append, List.length_cons, List.length_nil, List.length_take, List.length_drop] at *; omega))) (Wan.is rfl rfl rfl rfl rfl) rfl rfl rfl ?_
          refine J.dyg rfl (op_neq rfl rfl rfl) (Wan.is rfl rfl rfl rfl rfl) rfl rfl rfl ?_
          refine J.dy rfl (op_pickF rfl rfl rfl) rfl rfl rfl rfl ?_
          refine J.dy rfl (op_move rfl rfl) rfl rfl rfl rfl ?_
          refine J.split (d := 44) rfl (fun h44 => ?_) (fun h44 => ?_)
          ·
            refine J.dno rfl (Wan.is rfl rfl rfl rfl rfl) rfl rfl ?_
            refine J.dno rfl (Wan.is rfl rfl rfl rfl rfl) rfl rfl ?_
            refine J.dno rfl (Wan.is rfl rfl rfl rfl rfl) rfl rfl ?_
            refine J.dno rfl (Wan.is rfl rfl rfl rfl rfl) rfl rfl ?_
            refine J.dno rfl (Wan.is rfl rfl rfl rfl rfl) rfl rfl ?_
            refine J.dy rfl (op_pickT rfl rfl rfl) rfl rfl rfl rfl ?_
            refine J.dy rfl (op_move rfl rfl) rfl rfl rfl rfl ?_
            refine J.dno rfl (Wan.is rfl rfl rfl rfl rfl) rfl rfl ?_
            refine J.dno rfl (Wan.is rfl rfl rfl rfl rfl) rfl rfl ?_
            refine J.dno rfl (Wan.is rfl rfl rfl rfl rfl) rfl rfl ?_
            refine J.dno rfl (Wan.is rfl rfl rfl rfl rfl) rfl rfl ?_
            refine J.dno rfl (Wan.is rfl rfl rfl rfl rfl) rfl rfl ?_
            refine J.dno rfl (Wan.is rfl rfl rfl rfl rfl) rfl rfl ?_
            refine J.dno rfl (Wan.is rfl rfl rfl rfl rfl) rfl rfl ?_
            refine J.dno rfl (Wan.un rfl rfl rfl rfl) rfl rfl ?_
            refine J.dno rfl (Wan.un rfl rfl rfl rfl) rfl rfl ?_
            refine J.dno rfl (Wan.un rfl rfl rfl rfl) rfl rfl ?_
            refine J.dno rfl (Wan.un rfl rfl rfl rfl) rfl rfl ?_
            refine J.dno rfl (Wan.un rfl rfl rfl rfl) rfl rfl ?_
            refine J.dno rfl (Wan.un rfl rfl rfl rfl) rfl rfl ?_
            refine J.dno rfl (Wan.un rfl rfl rfl rfl) rfl rfl ?_
            refine J.dno rfl (Wan.is rfl rfl rfl rfl rfl) rfl rfl ?_
            refine J.dy rfl (op_pickT rfl rfl rfl) rfl rfl rfl rfl ?_
            refine J.dnil ?_
            refine J.then_n (J.k hK4 ?_)
            refine J.keepE [(1, _), (8, _), (67, _)] ⟨rfl, rfl, rfl, trivial⟩ ?_
            refine J.condT rfl rfl ?_
            refine J.seq (fun K8 hK8 => ?_)
            refine J.region ?_
            refine J.y (op_assign rfl rfl) rfl rfl rfl ?_
            refine J.y (op_assign rfl rfl) rfl rfl rfl ?_
            refine J.y (op_assign rfl rfl) rfl rfl rfl ?_
            refine J.y (op_assign rfl rfl) rfl rfl rfl ?_
            refine J.nil ?_
            refine J.then_n (J.k hK8 ?_)
            refine J.keepE [(4, _), (5, _), (6, _), (7, _)] ⟨rfl, rfl, rfl, rfl, trivial⟩ ?_
            refine J.ret ?_
            refine J.then_r ?_
            exact J.done hw0 (fun _ _ h => h) (res4 rfl rfl rfl rfl rfl) (retOk () (by rw [recR_f hp (fun ⟨a1, a2, a3, a4, a5, a6⟩ => by dsimp only at a1 a2 a3 a4 a5 a6; first | (simp [a1] at h23; done) | omega | (have := a6 (by omega); omega))]; rfl) trivial [0] rfl (by decide))
          ·
            refine J.dyg rfl (op_fieldAddr (j := 3) rfl rfl Tryd.underlying184 rfl Tryd.sizeOf3 rfl) (Wan.is rfl rfl rfl rfl rfl) rfl rfl rfl ?_
            refine J.dyg rfl (op_loadB 1 (v := I ((p.all : Nat) : Int)) rfl rfl rfl Tryd.isAgg3 rfl) (Wan.is rfl rfl rfl rfl rfl) rfl rfl rfl ?_
            refine J.dyg rfl (op_move rfl rfl) (Wan.is rfl rfl rfl rfl rfl) rfl rfl rfl ?_
            refine J.dyg rfl (op_len Tryd.underlying55 rfl rfl) (Wan.is rfl rfl rfl rfl rfl) rfl rfl rfl ?_
            refine J.dyg rfl (op_gtr rfl rfl rfl) (Wan.is rfl rfl rfl rfl rfl) rfl rfl rfl ?_
            refine J.dy rfl (op_pickF rfl rfl rfl) rfl rfl rfl rfl ?_
            refine J.dy rfl (op_move rfl rfl) rfl rfl rfl rfl ?_
            refine J.split (d := 51) rfl (fun h51 => ?_) (fun h51 => ?_)
            ·
              refine J.dno rfl (Wan.is rfl rfl rfl rfl rfl) rfl rfl ?_
              refine J.dno rfl (Wan.is rfl rfl rfl rfl rfl) rfl rfl ?_
              refine J.dno rfl (Wan.is rfl rfl rfl rfl rfl) rfl rfl ?_
              refine J.dno rfl (Wan.is rfl rfl rfl rfl rfl) rfl rfl ?_
              refine J.dno rfl (Wan.is rfl rfl rfl rfl rfl) rfl rfl ?_
              refine J.dno rfl (Wan.is rfl rfl rfl rfl rfl) rfl rfl ?_
              refine J.dno rfl (Wan.is rfl rfl rfl rfl rfl) rfl rfl ?_
              refine J.dno rfl (Wan.un rfl rfl rfl rfl) rfl rfl ?_
              refine J.dno rfl (Wan.un rfl rfl rfl rfl) rfl rfl ?_
              refine J.dno rfl (Wan.un rfl rfl rfl rfl) rfl rfl ?_
              refine J.dno rfl (Wan.un rfl rfl rfl rfl) rfl rfl ?_
              refine J.dno rfl (Wan.un rfl rfl rfl rfl) rfl rfl ?_
              refine J.dno rfl (Wan.un rfl rfl rfl rfl) rfl rfl ?_
              refine J.dno rfl (Wan.un rfl rfl rfl rfl) rfl rfl ?_
              refine J.dno rfl (Wan.is rfl rfl rfl rfl rfl) rfl rfl ?_
              refine J.dy rfl (op_pickT rfl rfl rfl) rfl rfl rfl rfl ?_
              refine J.dnil ?_
              refine J.then_n (J.k hK4 ?_)
              refine J.keepE [(1, _), (8, _), (67, _)] ⟨rfl, rfl, rfl, trivial⟩ ?_
              refine J.condT rfl rfl ?_
              refine J.seq (fun K9 hK9 => ?_)
              refine J.region ?_
              refine J.y (op_assign rfl rfl) rfl rfl rfl ?_
              refine J.y (op_assign rfl rfl) rfl rfl rfl ?_
              refine J.y (op_assign rfl rfl) rfl rfl rfl ?_
              refine J.y (op_assign rfl rfl) rfl rfl rfl ?_
              refine J.nil ?_
              refine J.then_n (J.k hK9 ?_)
              refine J.keepE [(4, _), (5, _), (6, _), (7, _)] ⟨rfl, rfl, rfl, rfl, trivial⟩ ?_
              refine J.ret ?_
              refine J.then_r ?_
              exact J.done hw0 (fun _ _ h => h) (res4 rfl rfl rfl rfl rfl) (retOk () (by rw [recR_f hp (fun ⟨a1, a2, a3, a4, a5, a6⟩ => by dsimp only at a1 a2 a3 a4 a5 a6; first | (simp [a1] at h23; done) | omega | (have := a6 (by omega); omega))]; rfl) trivial [0] rfl (by decide))
            ·
              refine J.dyg rfl (op_move rfl rfl) (Wan.is rfl rfl rfl rfl rfl) rfl rfl rfl ?_
              refine J.dyg rfl (op_nilCheck rfl rfl) (Wan.is rfl rfl rfl rfl rfl) rfl rfl rfl ?_
              refine J.dyg rfl (op_fieldAddr (j := 3) rfl rfl Tryd.underlying128 rfl Tryd.sizeOf55 rfl) (Wan.is rfl rfl rfl rfl rfl) rfl rfl rfl ?_
              refine J.dyg rfl (op_load (v := .slice Ar nr cr) rfl rfl Tryd.isAgg55 (m := F) (by simp) (hH.at (i := 3) rfl)) (Wan.is rfl rfl rfl rfl rfl) rfl rfl rfl ?_
              refine J.dyg rfl (op_len Tryd.underlying55 rfl rfl) (Wan.is rfl rfl rfl rfl rfl) rfl rfl rfl ?_
              refine J.dyg rfl (op_gtr rfl rfl rfl) (Wan.is rfl rfl rfl rfl rfl) rfl rfl rfl ?_
              refine J.dyg rfl (op_move rfl rfl) (Wan.is rfl rfl rfl rfl rfl) rfl rfl rfl ?_
              refine J.split (d := 58) rfl (fun h58 => ?_) (fun h58 => ?_)
              ·
                refine J.dyg rfl (op_fieldAddr (j := 0) rfl rfl Tryd.underlying184 rfl Tryd.sizeOf108 rfl) (Wan.is rfl rfl rfl rfl rfl) rfl rfl rfl ?_
                refine J.dyg rfl (op_loadB 1 (v := W64 (p.turn)) rfl rfl rfl Tryd.isAgg108 rfl) (Wan.is rfl rfl rfl rfl rfl) rfl rfl rfl ?_
                refine J.dyg rfl (op_move rfl rfl) (Wan.is rfl rfl rfl rfl rfl) rfl rfl rfl ?_
                refine J.dyg rfl (op_nilCheck rfl rfl) (Wan.is rfl rfl rfl rfl rfl) rfl rfl rfl ?_
                refine J.dyg rfl (op_fieldAddr (j := 1) rfl rfl Tryd.underlying128 rfl Tryd.sizeOf108 rfl) (Wan.is rfl rfl rfl rfl rfl) rfl rfl rfl ?_
                refine J.dyg rfl (op_load (v := W64 (hturn)) rfl rfl Tryd.isAgg108 (m := F) (by simp) (hH.at (i := 1) rfl)) (Wan.is rfl rfl rfl rfl rfl) rfl rfl rfl ?_
                refine J.dyg rfl (op_neq rfl rfl rfl) (Wan.is rfl rfl rfl rfl rfl) rfl rfl rfl ?_
                refine J.dyg rfl (op_pickT rfl rfl rfl) (Wan.is rfl rfl rfl rfl rfl) rfl rfl rfl ?_
                refine J.dy rfl (op_pickF rfl rfl rfl) rfl rfl rfl rfl ?_
                refine J.dnil ?_
                refine J.then_n (J.k hK4 ?_)
                refine J.keepE [(1, _), (8, _), (67, _)] ⟨rfl, rfl, rfl, trivial⟩ ?_
                refine J.ite rfl (fun h67 => ?_) (fun h67 => ?_)
                ·
                  refine J.seq (fun K10 hK10 => ?_)
                  refine J.region ?_
                  refine J.y (op_assign rfl rfl) rfl rfl rfl ?_
                  refine J.y (op_assign rfl rfl) rfl rfl rfl ?_
                  refine J.y (op_assign rfl rfl) rfl rfl rfl ?_
                  refine J.y (op_assign rfl rfl) rfl rfl rfl ?_
                  refine J.nil ?_
                  refine J.then_n (J.k hK10 ?_)
                  refine J.keepE [(4, _), (5, _), (6, _), (7, _)] ⟨rfl, rfl, rfl, rfl, trivial⟩ ?_
                  refine J.ret ?_
                  refine J.then_r ?_
                  exact J.done hw0 (fun _ _ h => h) (res4 rfl rfl rfl rfl rfl) (retOk () (by rw [recR_f hp (fun ⟨a1, a2, a3, a4, a5, a6⟩ => by dsimp only at a1 a2 a3 a4 a5 a6; first | (simp [a1] at h23; done) | omega | (have := a6 (by omega); omega))]; rfl) trivial [0] rfl (by decide))
                ·
                  refine J.skip ?_
                  refine J.then_n ?_
                  exact J.kk () hK3 (⟨by simpa using h23, by show p.at_ = 0; omega, by show p.turn.toNat ≠ 0; omega, by show p.num.toNat = nr; omega, by show p.all ≤ l.length; omega, fun h0 => by show p.turn.toNat = hturn.toNat; omega⟩) ⟨rfl, rfl, trivial⟩ (fun _ h => h)
              ·
                refine J.dno rfl (Wan.is rfl rfl rfl rfl rfl) rfl rfl ?_
                refine J.dno rfl (Wan.is rfl rfl rfl rfl rfl) rfl rfl ?_
                refine J.dno rfl (Wan.is rfl rfl rfl rfl rfl) rfl rfl ?_
                refine J.dno rfl (Wan.is rfl rfl rfl rfl rfl) rfl rfl ?_
                refine J.dno rfl (Wan.is rfl rfl rfl rfl rfl) rfl rfl ?_
                refine J.dno rfl (Wan.is rfl rfl rfl rfl rfl) rfl rfl ?_
                refine J.dno rfl (Wan.is rfl rfl rfl rfl rfl) rfl rfl ?_
                refine J.dyg rfl (op_pickF rfl rfl rfl) (Wan.is rfl rfl rfl rfl rfl) rfl rfl rfl ?_
                refine J.dy rfl (op_pickF rfl rfl rfl) rfl rfl rfl rfl ?_
                refine J.dnil ?_
                refine J.then_n (J.k hK4 ?_)
                refine J.keepE [(1, _), (8, _), (67, _)] ⟨rfl, rfl, rfl, trivial⟩ ?_
                refine J.condF rfl rfl ?_
                refine J.skip ?_
                refine J.then_n ?_
                exact J.kk () hK3 (⟨by simpa using h23, by show p.at_ = 0; omega, by show p.turn.toNat ≠ 0; omega, by show p.num.toNat = nr; omega, by show p.all ≤ l.length; omega, fun h0 => by show p.turn.toNat = hturn.toNat; omega⟩) ⟨rfl, rfl, trivial⟩ (fun _ h => h)
  rintro _ hf
  refine J.seq (fun K11 hK11 => ?_)
  refine J.region ?_
  refine J.y (op_assign rfl rfl) rfl rfl rfl ?_
  refine J.nil ?_
  refine J.then_n (J.k hK11 ?_)
  refine J.keepE [(1, _), (8, _), (10, _)] ⟨rfl, rfl, rfl, trivial⟩ ?_
  refine J.seq (fun K12 hK12 => ?_)
  refine J.seq (fun K13 hK13 => ?_)
  have hf5 : p.all ≤ l.length := hf.2.2.2.2.1
  refine J.region ?_
  refine J.y (op_fieldAddr (j := 3) rfl rfl Tryd.underlying184 rfl Tryd.sizeOf3 rfl) rfl rfl rfl ?_
  refine J.y (op_loadB 1 (v := I ((p.all : Nat) : Int)) rfl rfl rfl Tryd.isAgg3 rfl) rfl rfl rfl ?_
  refine J.y (op_move rfl rfl) rfl rfl rfl ?_
  refine J.nil ?_
  refine J.then_n (J.k hK13 ?_)
  refine J.keepE [(1, _), (8, _), (10, _), (69, _), (70, _)] ⟨rfl, rfl, rfl, rfl, rfl, trivial⟩ ?_
  refine J.block ?_
  refine J.loop (X := Nat) (fun ζ => [(1, .slice A n c), (8, Ptr g8), (10, Str (catL l ζ)), (69, I ((p.all : Nat) : Int)), (70, I ((ζ : Nat) : Int))]) (fun ζ => [F, blk g8 [W64 (p.turn), W64 (p.num), I ((p.at_ : Nat) : Int), I ((p.all : Nat) : Int), Str (p.name), Str (p.con)] 184]) (fun ζ => ζ ≤ p.all ∧ ∀ j < ζ, recQ p j (parse (l.getD j []))) (fun ζ => p.all - ζ) 0 (⟨Nat.zero_le _, fun j h => absurd h (Nat.not_lt_zero j)⟩) ⟨rfl, rfl, rfl, rfl, rfl, trivial⟩ (fun _ h => h) ?_
  rintro i ⟨hi, hqs⟩ I0 hI0
  refine J.seq (fun K14 hK14 => ?_)
  refine J.region ?_
  refine J.y (op_lss rfl rfl rfl) rfl rfl rfl ?_
  refine J.nil ?_
  refine J.then_n (J.k hK14 ?_)
  refine J.keepE [(1, _), (8, _), (10, _), (69, _), (70, _), (71, _)] ⟨rfl, rfl, rfl, rfl, rfl, rfl, trivial⟩ ?_
  refine J.seq (fun K15 hK15 => ?_)
  refine J.ite rfl (fun h71 => ?_) (fun h71 => ?_)
  ·
    refine J.skip ?_
    refine J.then_n (J.k hK15 ?_)
    refine J.keepE [(1, _), (8, _), (10, _), (69, _), (70, _)] ⟨rfl, rfl, rfl, rfl, rfl, trivial⟩ ?_
    refine J.seq (fun K16 hK16 => ?_)
    refine J.block ?_
    refine J.seq (fun K17 hK17 => ?_)
    refine J.region ?_
    refine J.y (op_move rfl rfl) rfl rfl rfl ?_
    refine J.y (op_assign rfl rfl) rfl rfl rfl ?_
    refine J.nil ?_
    refine J.then_n (J.k hK17 ?_)
    refine J.keepE [(1, _), (8, _), (10, _), (11, _), (69, _), (70, _)] ⟨rfl, rfl, rfl, rfl, rfl, rfl, trivial⟩ ?_
    refine J.seq (fun K18 hK18 => ?_)
    obtain ⟨q, ok2, hq⟩ : ∃ q ok2, parse (l.getD i []) = (q, ok2) := ⟨_, _, rfl⟩
    obtain ⟨q1, q2, q3, q4, q5, q6⟩ : q.ok := by have := parse_okP (l.getD i []); rwa [hq] at this
    have hcl := catL_len l i
    refine J.region ?_
    refine J.y (op_move rfl rfl) rfl rfl rfl ?_
    refine J.y (op_move rfl rfl) rfl rfl rfl ?_
    refine J.y (op_indexAddr (i := i) rfl rfl rfl Tryd.underlying55 Tryd.sizeOf9 hl (by first | omega | (simp only [List.length_append, List.length_cons, List.length_nil, List.length_take, List.length_drop] at *; omega))) rfl rfl rfl ?_
    refine J.y (op_load rfl rfl Tryd.isAgg9 (m := F) (by simp) (hl.elem (strsV_get (getSome [] (by first | omega | (simp only [List.length_append, List.length_cons, List.length_nil, List.length_take, List.length_drop] at *; omega)))))) rfl rfl rfl ?_
    refine J.e (op_call rfl rfl ent163 (Ct.use0 (fun F' hF => by have := parse_ct F' (hK.mono (hF F (by simp))) (l.getD i []) (get64 h64 (by omega)); rw [hq] at this; exact this))) rfl rfl rfl ?_
    intro g78 _
    refine J.y (op_move rfl rfl) rfl rfl rfl ?_
    refine J.y (op_extract (v := .agg #[W64 (q.turn), W64 (q.num), I ((q.at_ : Nat) : Int), I ((q.all : Nat) : Int), Str (q.name), Str (q.con)]) rfl rfl rfl) rfl rfl rfl ?_
    refine J.y (op_extract (v := .bool (ok2)) rfl rfl rfl) rfl rfl rfl ?_
    refine J.e (op_alloc (l := [.int .u64 0, .int .u64 0, I 0, I 0, Str [], Str []]) rfl Tryd.zeroValue184 rfl) rfl rfl rfl ?_
    intro g12 _
    change J _ _ _ [F, blk g8 [W64 (p.turn), W64 (p.num), I ((p.at_ : Nat) : Int), I ((p.all : Nat) : Int), Str (p.name), Str (p.con)] 184, blk g12 [.int .u64 0, .int .u64 0, I 0, I 0, Str [], Str []] 184] _
    refine J.s (op_storeAll (i := 2) (l := [.int .u64 0, .int .u64 0, I 0, I 0, Str [], Str []]) (vs := [W64 (q.turn), W64 (q.num), I ((q.at_ : Nat) : Int), I ((q.all : Nat) : Int), Str (q.name), Str (q.con)]) rfl rfl rfl rfl rfl Tryd.sizeOf184 rfl rfl) rfl rfl (fun _ _ => ?_)
    change J _ _ _ [F, blk g8 [W64 (p.turn), W64 (p.num), I ((p.at_ : Nat) : Int), I ((p.all : Nat) : Int), Str (p.name), Str (p.con)] 184, blk g12 [W64 (q.turn), W64 (q.num), I ((q.at_ : Nat) : Int), I ((q.all : Nat) : Int), Str (q.name), Str (q.con)] 184] _
    refine J.y (op_assign rfl rfl) rfl rfl rfl ?_
    refine J.nil ?_
    refine J.then_n (J.k hK18 ?_)
    refine J.keepE [(1, _), (8, _), (10, _), (11, _), (12, _), (13, _), (69, _), (70, _)] ⟨rfl, rfl, rfl, rfl, rfl, rfl, rfl, rfl, trivial⟩ ?_
    refine J.seq (fun K19 hK19 => ?_)
    refine J.seq (fun K20 hK20 => ?_)
    refine J.region ?_
    refine J.y (op_move rfl rfl) rfl rfl rfl ?_
    refine J.y (op_not rfl rfl) rfl rfl rfl ?_
    refine J.y (op_move rfl rfl) rfl rfl rfl ?_
    refine J.splitB (d := 83) rfl (fun h83 => ?_) (fun h83 => ?_)
    ·
      refine J.no (Wan.is rfl rfl rfl rfl rfl) rfl rfl ?_
      refine J.no (Wan.is rfl rfl rfl rfl rfl) rfl rfl ?_
      refine J.no (Wan.is rfl rfl rfl rfl rfl) rfl rfl ?_
      refine J.no (Wan.is rfl rfl rfl rfl rfl) rfl rfl ?_
      refine J.y (op_pickT rfl rfl rfl) rfl rfl rfl ?_
      refine J.y (op_move rfl rfl) rfl rfl rfl ?_
      refine J.no (Wan.is rfl rfl rfl rfl rfl) rfl rfl ?_
      refine J.no (Wan.is rfl rfl rfl rfl rfl) rfl rfl ?_
      refine J.no (Wan.is rfl rfl rfl rfl rfl) rfl rfl ?_
      refine J.no (Wan.is rfl rfl rfl rfl rfl) rfl rfl ?_
      refine J.no (Wan.is rfl rfl rfl rfl rfl) rfl rfl ?_
      refine J.y (op_pickT rfl rfl rfl) rfl rfl rfl ?_
      refine J.y (op_move rfl rfl) rfl rfl rfl ?_
      refine J.no (Wan.is rfl rfl rfl rfl rfl) rfl rfl ?_
      refine J.no (Wan.is rfl rfl rfl rfl rfl) rfl rfl ?_
      refine J.no (Wan.is rfl rfl rfl rfl rfl) rfl rfl ?_
      refine J.no (Wan.is rfl rfl rfl rfl rfl) rfl rfl ?_
      refine J.no (Wan.is rfl rfl rfl rfl rfl) rfl rfl ?_
      refine J.y (op_pickT rfl rfl rfl) rfl rfl rfl ?_
      refine J.y (op_move rfl rfl) rfl rfl rfl ?_
      refine J.no (Wan.is rfl rfl rfl rfl rfl) rfl rfl ?_
      refine J.no (Wan.is rfl rfl rfl rfl rfl) rfl rfl ?_
      refine J.no (Wan.is rfl rfl rfl rfl rfl) rfl rfl ?_
      refine J.no (Wan.is rfl rfl rfl rfl rfl) rfl rfl ?_
      refine J.no (Wan.is rfl rfl rfl rfl rfl) rfl rfl ?_
      refine J.y (op_pickT rfl rfl rfl) rfl rfl rfl ?_
      refine J.y (op_move rfl rfl) rfl rfl rfl ?_
      refine J.no (Wan.is rfl rfl rfl rfl rfl) rfl rfl ?_
      refine J.no (Wan.is rfl rfl rfl rfl rfl) rfl rfl ?_
      refine J.no (Wan.is rfl rfl rfl rfl rfl) rfl rfl ?_
      refine J.no (Wan.is rfl rfl rfl rfl rfl) rfl rfl ?_
      refine J.no (Wan.is rfl rfl rfl rfl rfl) rfl rfl ?_
      refine J.y (op_pickT rfl rfl rfl) rfl rfl rfl ?_
      refine J.nil ?_
      refine J.then_n (J.k hK20 ?_)
      refine J.keepE [(1, _), (8, _), (10, _), (12, _), (69, _), (70, _), (116, _)] ⟨rfl, rfl, rfl, rfl, rfl, rfl, rfl, trivial⟩ ?_
      refine J.condT rfl rfl ?_
      refine J.seq (fun K21 hK21 => ?_)
      refine J.region ?_
      refine J.y (op_assign rfl rfl) rfl rfl rfl ?_
      refine J.y (op_assign rfl rfl) rfl rfl rfl ?_
      refine J.y (op_assign rfl rfl) rfl rfl rfl ?_
      refine J.y (op_assign rfl rfl) rfl rfl rfl ?_
      refine J.nil ?_
      refine J.then_n (J.k hK21 ?_)
      refine J.keepE [(4, _), (5, _), (6, _), (7, _)] ⟨rfl, rfl, rfl, rfl, trivial⟩ ?_
      refine J.ret ?_
      refine J.then_r ?_
      refine J.blk_r ?_
      refine J.then_r ?_
      refine J.then_r ?_
      refine J.blk_r ?_
      refine J.then_r ?_
      exact J.done hw0 (fun _ _ h => h) (res4 rfl rfl rfl rfl rfl) (retOk () (by rw [recR_q hp (by omega) hq (fun ⟨a1, a2, a3, a4, a5, a6⟩ => by dsimp only at a1 a2 a3 a4 a5 a6; first | (simp [a1] at h83; done) | omega | contradiction)]; rfl) trivial [0] rfl (by decide))
    ·
      refine J.yg (Wan.is rfl rfl rfl rfl rfl) (op_fieldAddr (j := 2) rfl rfl Tryd.underlying184 rfl Tryd.sizeOf3 rfl) rfl rfl ?_
      refine J.yg (Wan.is rfl rfl rfl rfl rfl) (op_loadB 2 (v := I ((q.at_ : Nat) : Int)) rfl rfl rfl Tryd.isAgg3 rfl) rfl rfl ?_
      refine J.yg (Wan.is rfl rfl rfl rfl rfl) (op_move rfl rfl) rfl rfl ?_
      refine J.yg (Wan.is rfl rfl rfl rfl rfl) (op_neq rfl rfl rfl) rfl rfl ?_
      refine J.y (op_pickF rfl rfl rfl) rfl rfl rfl ?_
      refine J.y (op_move rfl rfl) rfl rfl rfl ?_
      refine J.split (d := 89) rfl (fun h89 => ?_) (fun h89 => ?_)
      ·
        refine J.no (Wan.is rfl rfl rfl rfl rfl) rfl rfl ?_
        refine J.no (Wan.is rfl rfl rfl rfl rfl) rfl rfl ?_
        refine J.no (Wan.is rfl rfl rfl rfl rfl) rfl rfl ?_
        refine J.no (Wan.is rfl rfl rfl rfl rfl) rfl rfl ?_
        refine J.no (Wan.is rfl rfl rfl rfl rfl) rfl rfl ?_
        refine J.y (op_pickT rfl rfl rfl) rfl rfl rfl ?_
        refine J.y (op_move rfl rfl) rfl rfl rfl ?_
        refine J.no (Wan.is rfl rfl rfl rfl rfl) rfl rfl ?_
        refine J.no (Wan.is rfl rfl rfl rfl rfl) rfl rfl ?_
        refine J.no (Wan.is rfl rfl rfl rfl rfl) rfl rfl ?_
        refine J.no (Wan.is rfl rfl rfl rfl rfl) rfl rfl ?_
        refine J.no (Wan.is rfl rfl rfl rfl rfl) rfl rfl ?_
        refine J.y (op_pickT rfl rfl rfl) rfl rfl rfl ?_
        refine J.y (op_move rfl rfl) rfl rfl rfl ?_
        refine J.no (Wan.is rfl rfl rfl rfl rfl) rfl rfl ?_
        refine J.no (Wan.is rfl rfl rfl rfl rfl) rfl rfl ?_
        refine J.no (Wan.is rfl rfl rfl rfl rfl) rfl rfl ?_
        refine J.no (Wan.is rfl rfl rfl rfl rfl) rfl rfl ?_
        refine J.no (Wan.is rfl rfl rfl rfl rfl) rfl rfl ?_
        refine J.y (op_pickT rfl rfl rfl) rfl rfl rfl ?_
        refine J.y (op_move rfl rfl) rfl rfl rfl ?_
        refine J.no (Wan.is rfl rfl rfl rfl rfl) rfl rfl ?_
        refine J.no (Wan.is rfl rfl rfl rfl rfl) rfl rfl ?_
        refine J.no (Wan.is rfl rfl rfl rfl rfl) rfl rfl ?_
        refine J.no (Wan.is rfl rfl rfl rfl rfl) rfl rfl ?_
        refine J.no (Wan.is rfl rfl rfl rfl rfl) rfl rfl ?_
        refine J.y (op_pickT rfl rfl rfl) rfl rfl rfl ?_
        refine J.nil ?_
        refine J.then_n (J.k hK20 ?_)
        refine J.keepE [(1, _), (8, _), (10, _), (12, _), (69, _), (70, _), (116, _)] ⟨rfl, rfl, rfl, rfl, rfl, rfl, rfl, trivial⟩ ?_
        refine J.condT rfl rfl ?_
        refine J.seq (fun K22 hK22 => ?_)
        refine J.region ?_
        refine J.y (op_assign rfl rfl) rfl rfl rfl ?_
        refine J.y (op_assign rfl rfl) rfl rfl rfl ?_
        refine J.y (op_assign rfl rfl) rfl rfl rfl ?_
        refine J.y (op_assign rfl rfl) rfl rfl rfl ?_
        refine J.nil ?_
        refine J.then_n (J.k hK22 ?_)
        refine J.keepE [(4, _), (5, _), (6, _), (7, _)] ⟨rfl, rfl, rfl, rfl, trivial⟩ ?_
        refine J.ret ?_
        refine J.then_r ?_
        refine J.blk_r ?_
        refine J.then_r ?_
        refine J.then_r ?_
        refine J.blk_r ?_
        refine J.then_r ?_
        exact J.done hw0 (fun _ _ h => h) (res4 rfl rfl rfl rfl rfl) (retOk () (by rw [recR_q hp (by omega) hq (fun ⟨a1, a2, a3, a4, a5, a6⟩ => by dsimp only at a1 a2 a3 a4 a5 a6; first | (simp [a1] at h83; done) | omega | contradiction)]; rfl) trivial [0] rfl (by decide))
      ·
        refine J.yg (Wan.is rfl rfl rfl rfl rfl) (op_fieldAddr (j := 0) rfl rfl Tryd.underlying184 rfl Tryd.sizeOf108 rfl) rfl rfl ?_
        refine J.yg (Wan.is rfl rfl rfl rfl rfl) (op_loadB 2 (v := W64 (q.turn)) rfl rfl rfl Tryd.isAgg108 rfl) rfl rfl ?_
        refine J.yg (Wan.is rfl rfl rfl rfl rfl) (op_fieldAddr (j := 0) rfl rfl Tryd.underlying184 rfl Tryd.sizeOf108 rfl) rfl rfl ?_
        refine J.yg (Wan.is rfl rfl rfl rfl rfl) (op_loadB 1 (v := W64 (p.turn)) rfl rfl rfl Tryd.isAgg108 rfl) rfl rfl ?_
        refine J.yg (Wan.is rfl rfl rfl rfl rfl) (op_neq rfl rfl rfl) rfl rfl ?_
        refine J.y (op_pickF rfl rfl rfl) rfl rfl rfl ?_
        refine J.y (op_move rfl rfl) rfl rfl rfl ?_
        refine J.split (d := 96) rfl (fun h96 => ?_) (fun h96 => ?_)
        ·
          refine J.no (Wan.is rfl rfl rfl rfl rfl) rfl rfl ?_
          refine J.no (Wan.is rfl rfl rfl rfl rfl) rfl rfl ?_
          refine J.no (Wan.is rfl rfl rfl rfl rfl) rfl rfl ?_
          refine J.no (Wan.is rfl rfl rfl rfl rfl) rfl rfl ?_
          refine J.no (Wan.is rfl rfl rfl rfl rfl) rfl rfl ?_
          refine J.y (op_pickT rfl rfl rfl) rfl rfl rfl ?_
          refine J.y (op_move rfl rfl) rfl rfl rfl ?_
          refine J.no (Wan.is rfl rfl rfl rfl rfl) rfl rfl ?_
          refine J.no (Wan.is rfl rfl rfl rfl rfl) rfl rfl ?_
          refine J.no (Wan.is rfl rfl rfl rfl rfl) rfl rfl ?_
          refine J.no (Wan.is rfl rfl rfl rfl rfl) rfl rfl ?_
          refine J.no (Wan.is rfl rfl rfl rfl rfl) rfl rfl ?_
          refine J.y (op_pickT rfl rfl rfl) rfl rfl rfl ?_
          refine J.y (op_move rfl rfl) rfl rfl rfl ?_
          refine J.no (Wan.is rfl rfl rfl rfl rfl) rfl rfl ?_
          refine J.no (Wan.is rfl rfl rfl rfl rfl) rfl rfl ?_
          refine J.no (Wan.is rfl rfl rfl rfl rfl) rfl rfl ?_
          refine J.no (Wan.is rfl rfl rfl rfl rfl) rfl rfl ?_
          refine J.no (Wan.is rfl rfl rfl rfl rfl) rfl rfl ?_
          refine J.y (op_pickT rfl rfl rfl) rfl rfl rfl ?_
          refine J.nil ?_
          refine J.then_n (J.k hK20 ?_)
          refine J.keepE [(1, _), (8, _), (10, _), (12, _), (69, _), (70, _), (116, _)] ⟨rfl, rfl, rfl, rfl, rfl, rfl, rfl, trivial⟩ ?_
          refine J.condT rfl rfl ?_
          refine J.seq (fun K23 hK23 => ?_)
          refine J.region ?_
          refine J.y (op_assign rfl rfl) rfl rfl rfl ?_
          refine J.y (op_assign rfl rfl) rfl rfl rfl ?_
          refine J.y (op_assign rfl rfl) rfl rfl rfl ?_
          refine J.y (op_assign rfl rfl) rfl rfl rfl ?_
          refine J.nil ?_
          refine J.then_n (J.k hK23 ?_)
          refine J.keepE [(4, _), (5, _), (6, _), (7, _)] ⟨rfl, rfl, rfl, rfl, trivial⟩ ?_
          refine J.ret ?_
          refine J.then_r ?_
          refine J.blk_r ?_
          refine J.then_r ?_
          refine J.then_r ?_
          refine J.blk_r ?_
          refine J.then_r ?_
          exact J.done hw0 (fun _ _ h => h) (res4 rfl rfl rfl rfl rfl) (retOk () (by rw [recR_q hp (by omega) hq (fun ⟨a1, a2, a3, a4, a5, a6⟩ => by dsimp only at a1 a2 a3 a4 a5 a6; first | (simp [a1] at h83; done) | omega | contradiction)]; rfl) trivial [0] rfl (by decide))
        ·
          refine J.yg (Wan.is rfl rfl rfl rfl rfl) (op_fieldAddr (j := 1) rfl rfl Tryd.underlying184 rfl Tryd.sizeOf108 rfl) rfl rfl ?_
          refine J.yg (Wan.is rfl rfl rfl rfl rfl) (op_loadB 2 (v := W64 (q.num)) rfl rfl rfl Tryd.isAgg108 rfl) rfl rfl ?_
          refine J.yg (Wan.is rfl rfl rfl rfl rfl) (op_fieldAddr (j := 1) rfl rfl Tryd.underlying184 rfl Tryd.sizeOf108 rfl) rfl rfl ?_
          refine J.yg (Wan.is rfl rfl rfl rfl rfl) (op_loadB 1 (v := W64 (p.num)) rfl rfl rfl Tryd.isAgg108 rfl) rfl rfl ?_
          refine J.yg (Wan.is rfl rfl rfl rfl rfl) (op_neq rfl rfl rfl) rfl rfl ?_
          refine J.y (op_pickF rfl rfl rfl) rfl rfl rfl ?_
          refine J.y (op_move rfl rfl) rfl rfl rfl ?_
          refine J.split (d := 103) rfl (fun h103 => ?_) (fun h103 => ?_)
          ·
            refine J.no (Wan.is rfl rfl rfl rfl rfl) rfl rfl ?_
            refine J.no (Wan.is rfl rfl rfl rfl rfl) rfl rfl ?_
            refine J.no (Wan.is rfl rfl rfl rfl rfl) rfl rfl ?_
            refine J.no (Wan.is rfl rfl rfl rfl rfl) rfl rfl ?_
            refine J.no (Wan.is rfl rfl rfl rfl rfl) rfl rfl ?_
            refine J.y (op_pickT rfl rfl rfl) rfl rfl rfl ?_
            refine J.y (op_move rfl rfl) rfl rfl rfl ?_
            refine J.no (Wan.is rfl rfl rfl rfl rfl) rfl rfl ?_
            refine J.no (Wan.is rfl rfl rfl rfl rfl) rfl rfl ?_
            refine J.no (Wan.is rfl rfl rfl rfl rfl) rfl rfl ?_
            refine J.no (Wan.is rfl rfl rfl rfl rfl) rfl rfl ?_
            refine J.no (Wan.is rfl rfl rfl rfl rfl) rfl rfl ?_
            refine J.y (op_pickT rfl rfl rfl) rfl rfl rfl ?_
            refine J.nil ?_
            refine J.then_n (J.k hK20 ?_)
            refine J.keepE [(1, _), (8, _), (10, _), (12, _), (69, _), (70, _), (116, _)] ⟨rfl, rfl, rfl, rfl, rfl, rfl, rfl, trivial⟩ ?_
            refine J.condT rfl rfl ?_
            refine J.seq (fun K24 hK24 => ?_)
            refine J.region ?_
            refine J.y (op_assign rfl rfl) rfl rfl rfl ?_
            refine J.y (op_assign rfl rfl) rfl rfl rfl ?_
            refine J.y (op_assign rfl rfl) rfl rfl rfl ?_
            refine J.y (op_assign rfl rfl) rfl rfl rfl ?_
            refine J.nil ?_
            refine J.then_n (J.k hK24 ?_)
            refine J.keepE [(4, _), (5, _), (6, _), (7, _)] ⟨rfl, rfl, rfl, rfl, trivial⟩ ?_
            refine J.ret ?_
            refine J.then_r ?_
            refine J.blk_r ?_
            refine J.then_r ?_
            refine J.then_r ?_
            refine J.blk_r ?_
            refine J.then_r ?_
            exact J.done hw0 (fun _ _ h => h) (res4 rfl rfl rfl rfl rfl) (retOk () (by rw [recR_q hp (by omega) hq (fun ⟨a1, a2, a3, a4, a5, a6⟩ => by dsimp only at a1 a2 a3 a4 a5 a6; first | (simp [a1] at h83; done) | omega | contradiction)]; rfl) trivial [0] rfl (by decide))
          ·
            refine J.yg (Wan.is rfl rfl rfl rfl rfl) (op_fieldAddr (j := 3) rfl rfl Tryd.underlying184 rfl Tryd.sizeOf3 rfl) rfl rfl ?_
            refine J.yg (Wan.is rfl rfl rfl rfl rfl) (op_loadB 2 (v := I ((q.all : Nat) : Int)) rfl rfl rfl Tryd.isAgg3 rfl) rfl rfl ?_
            refine J.yg (Wan.is rfl rfl rfl rfl rfl) (op_fieldAddr (j := 3) rfl rfl Tryd.underlying184 rfl Tryd.sizeOf3 rfl) rfl rfl ?_
            refine J.yg (Wan.is rfl rfl rfl rfl rfl) (op_loadB 1 (v := I ((p.all : Nat) : Int)) rfl rfl rfl Tryd.isAgg3 rfl) rfl rfl ?_
            refine J.yg (Wan.is rfl rfl rfl rfl rfl) (op_neq rfl rfl rfl) rfl rfl ?_
            refine J.y (op_pickF rfl rfl rfl) rfl rfl rfl ?_
            refine J.y (op_move rfl rfl) rfl rfl rfl ?_
            refine J.split (d := 110) rfl (fun h110 => ?_) (fun h110 => ?_)
            ·
              refine J.no (Wan.is rfl rfl rfl rfl rfl) rfl rfl ?_
              refine J.no (Wan.is rfl rfl rfl rfl rfl) rfl rfl ?_
              refine J.no (Wan.is rfl rfl rfl rfl rfl) rfl rfl ?_
              refine J.no (Wan.is rfl rfl rfl rfl rfl) rfl rfl ?_
              refine J.no (Wan.is rfl rfl rfl rfl rfl) rfl rfl ?_
              refine J.y (op_pickT rfl rfl rfl) rfl rfl rfl ?_
              refine J.nil ?_
              refine J.then_n (J.k hK20 ?_)
              refine J.keepE [(1, _), (8, _), (10, _), (12, _), (69, _), (70, _), (116, _)] ⟨rfl, rfl, rfl, rfl, rfl, rfl, rfl, trivial⟩ ?_
              refine J.condT rfl rfl ?_
              refine J.seq (fun K25 hK25 => ?_)
              refine J.region ?_
              refine J.y (op_assign rfl rfl) rfl rfl rfl ?_
              refine J.y (op_assign rfl rfl) rfl rfl rfl ?_
              refine J.y (op_assign rfl rfl) rfl rfl rfl ?_
              refine J.y (op_assign rfl rfl) rfl rfl rfl ?_
              refine J.nil ?_
              refine J.then_n (J.k hK25 ?_)
              refine J.keepE [(4, _), (5, _), (6, _), (7, _)] ⟨rfl, rfl, rfl, rfl, trivial⟩ ?_
              refine J.ret ?_
              refine J.then_r ?_
              refine J.blk_r ?_
              refine J.then_r ?_
              refine J.then_r ?_
              refine J.blk_r ?_
              refine J.then_r ?_
              exact J.done hw0 (fun _ _ h => h) (res4 rfl rfl rfl rfl rfl) (retOk () (by rw [recR_q hp (by omega) hq (fun ⟨a1, a2, a3, a4, a5, a6⟩ => by dsimp only at a1 a2 a3 a4 a5 a6; first | (simp [a1] at h83; done) | omega | contradiction)]; rfl) trivial [0] rfl (by decide))
            ·
              refine J.yg (Wan.is rfl rfl rfl rfl rfl) (op_fieldAddr (j := 4) rfl rfl Tryd.underlying184 rfl Tryd.sizeOf9 rfl) rfl rfl ?_
              refine J.yg (Wan.is rfl rfl rfl rfl rfl) (op_loadB 2 (v := Str (q.name)) rfl rfl rfl Tryd.isAgg9 rfl) rfl rfl ?_
              refine J.yg (Wan.is rfl rfl rfl rfl rfl) (op_fieldAddr (j := 4) rfl rfl Tryd.underlying184 rfl Tryd.sizeOf9 rfl) rfl rfl ?_
              refine J.yg (Wan.is rfl rfl rfl rfl rfl) (op_loadB 1 (v := Str (p.name)) rfl rfl rfl Tryd.isAgg9 rfl) rfl rfl ?_
              refine J.yg (Wan.is rfl rfl rfl rfl rfl) (op_sne rfl rfl rfl) rfl rfl ?_
              refine J.y (op_pickF rfl rfl rfl) rfl rfl rfl ?_
              refine J.nil ?_
              refine J.then_n (J.k hK20 ?_)
              refine J.keepE [(1, _), (8, _), (10, _), (12, _), (69, _), (70, _), (116, _)] ⟨rfl, rfl, rfl, rfl, rfl, rfl, rfl, trivial⟩ ?_
              refine J.ite rfl (fun h116 => ?_) (fun h116 => ?_)
              ·
                refine J.seq (fun K26 hK26 => ?_)
                refine J.region ?_
                refine J.y (op_assign rfl rfl) rfl rfl rfl ?_
                refine J.y (op_assign rfl rfl) rfl rfl rfl ?_
                refine J.y (op_assign rfl rfl) rfl rfl rfl ?_
                refine J.y (op_assign rfl rfl) rfl rfl rfl ?_
                refine J.nil ?_
                refine J.then_n (J.k hK26 ?_)
                refine J.keepE [(4, _), (5, _), (6, _), (7, _)] ⟨rfl, rfl, rfl, rfl, trivial⟩ ?_
                refine J.ret ?_
                refine J.then_r ?_
                refine J.blk_r ?_
                refine J.then_r ?_
                refine J.then_r ?_
                refine J.blk_r ?_
                refine J.then_r ?_
                exact J.done hw0 (fun _ _ h => h) (res4 rfl rfl rfl rfl rfl) (retOk () (by rw [recR_q hp (by omega) hq (fun ⟨a1, a2, a3, a4, a5, a6⟩ => by dsimp only at a1 a2 a3 a4 a5 a6; first | (simp [a1] at h83; done) | omega | contradiction)]; rfl) trivial [0] rfl (by decide))
              ·
                refine J.skip ?_
                refine J.then_n (J.k hK19 ?_)
                refine J.keepE [(1, _), (8, _), (10, _), (12, _), (69, _), (70, _)] ⟨rfl, rfl, rfl, rfl, rfl, rfl, trivial⟩ ?_
                have hqi : recQ p i (parse (l.getD i [])) := by rw [hq]; exact ⟨by simpa using h83, by show q.at_ = i; omega, by show q.turn.toNat = p.turn.toNat; omega, by show q.num.toNat = p.num.toNat; omega, by show q.all = p.all; omega, by first | assumption | exact Decidable.not_not.1 (by assumption)⟩
                refine J.region ?_
                refine J.y (op_move rfl rfl) rfl rfl rfl ?_
                refine J.y (op_fieldAddr (j := 5) rfl rfl Tryd.underlying184 rfl Tryd.sizeOf9 rfl) rfl rfl rfl ?_
                refine J.y (op_loadB 2 (v := Str (q.con)) rfl rfl rfl Tryd.isAgg9 rfl) rfl rfl rfl ?_
                refine J.y (op_sadd (a := catL l i) (b := q.con) rfl rfl rfl (by first | omega | (simp only [List.length_append, List.length_cons, List.length_nil, List.length_take, List.length_drop] at *; omega))) rfl rfl rfl ?_
                rw [show catL l i ++ q.con = catL l (i + 1) by rw [catL, hq]]
                refine J.y (op_assign rfl rfl) rfl rfl rfl ?_
                refine J.nil ?_
                refine J.blk_n ?_
                refine J.then_n (J.k hK16 ?_)
                refine J.keepE [(1, _), (8, _), (10, _), (69, _), (70, _)] ⟨rfl, rfl, rfl, rfl, rfl, trivial⟩ ?_
                refine J.region ?_
                refine J.y ((op_add rfl rfl rfl (by first | omega | (simp only [List.length_append, List.length_cons, List.length_nil, List.length_take, List.length_drop] at *; omega))).as (v' := I ((i + 1 : Nat) : Int)) (congrArg I (by omega))) rfl rfl rfl ?_
                refine J.y (op_move rfl rfl) rfl rfl rfl ?_
                refine J.nil ?_
                refine J.then_n ?_
                exact J.kk (i + 1) (fun η (hη : _ ∧ p.all - η < p.all - i) => hI0 η hη.1 hη.2) ⟨⟨by omega, fun j hj => by rcases Nat.lt_succ_iff_lt_or_eq.1 hj with h | rfl; exact hqs j h; exact hqi⟩, by first | omega | (dsimp only; omega)⟩ ⟨rfl, rfl, rfl, rfl, rfl, trivial⟩ (fun _ h => h.pick [0, 1] (by decide))
  ·
    refine J.exit ?_
    refine J.then_x ?_
    refine J.then_x ?_
    refine J.blk_eq ?_
    refine J.then_n (J.k hK12 ?_)
    refine J.keepE [(8, _), (10, _)] ⟨rfl, rfl, trivial⟩ ?_
    refine J.seq (fun K27 hK27 => ?_)
    obtain rfl : i = p.all := by omega
    have hy := recR_y hp hf hqs
    have hcl := catL_len l p.all
    refine J.draw [blk g8 [W64 (p.turn), W64 (p.num), I ((p.at_ : Nat) : Int), I ((p.all : Nat) : Int), Str (p.name), Str (p.con)] 184] [] (.y 0 (.y 1 (.y 2 (.y 3 (.y 4 (.y 5 (.y 6 (.y 7 (.y 8 (.e 9 (.y 10 (.y 11 (.y 12 (.y 13 (.y 14 (.y 15 (.y 16 (.y 17 (.y 18 (.e 19 (.y 20 (.y 21 (.y 22 (.y 23 (.y 24 (.y 25 .nil)))))))))))))))))))))))))) Tryd.wide (by decide +kernel) (by simp) ?_
    refine J.dy rfl (op_fieldAddr (j := 0) rfl rfl Tryd.underlying184 rfl Tryd.sizeOf108 rfl) rfl rfl rfl rfl ?_
    refine J.dy rfl (op_loadB 0 (v := W64 (p.turn)) rfl rfl rfl Tryd.isAgg108 rfl) rfl rfl rfl rfl ?_
    refine J.dy rfl (op_move rfl rfl) rfl rfl rfl rfl ?_
    refine J.dy rfl (op_fieldAddr (j := 3) rfl rfl Tryd.underlying184 rfl Tryd.sizeOf3 rfl) rfl rfl rfl rfl ?_
    refine J.dy rfl (op_loadB 0 (v := I ((p.all : Nat) : Int)) rfl rfl rfl Tryd.isAgg3 rfl) rfl rfl rfl rfl ?_
    refine J.dy rfl (op_fieldAddr (j := 3) rfl rfl Tryd.underlying184 rfl Tryd.sizeOf3 rfl) rfl rfl rfl rfl ?_
    refine J.dy rfl (op_loadB 0 (v := I ((p.all : Nat) : Int)) rfl rfl rfl Tryd.isAgg3 rfl) rfl rfl rfl rfl ?_
    refine J.dy rfl (op_move rfl rfl) rfl rfl rfl rfl ?_
    refine J.dy rfl (op_slen Tryd.underlying9 rfl rfl) rfl rfl rfl rfl ?_
    refine J.de rfl (op_call rfl rfl ent80 (Ct.use0 (fun F' hF => partsN_ct F' (catL l p.all).length (by omega)))) rfl rfl rfl (by simp) ?_
    intro g131 _
    refine J.dy rfl (op_eql rfl rfl rfl) rfl rfl rfl rfl ?_
    refine J.dy rfl (op_move rfl rfl) rfl rfl rfl rfl ?_
    refine J.split (d := 133) rfl (fun h133 => ?_) (fun h133 => ?_)
    ·
      refine J.dyg rfl (op_fieldAddr (j := 4) rfl rfl Tryd.underlying184 rfl Tryd.sizeOf9 rfl) (Wan.is rfl rfl rfl rfl rfl) rfl rfl rfl ?_
      refine J.dyg rfl (op_loadB 0 (v := Str (p.name)) rfl rfl rfl Tryd.isAgg9 rfl) (Wan.is rfl rfl rfl rfl rfl) rfl rfl rfl ?_
      refine J.dyg rfl (op_fieldAddr (j := 0) rfl rfl Tryd.underlying184 rfl Tryd.sizeOf108 rfl) (Wan.is rfl rfl rfl rfl rfl) rfl rfl rfl ?_
      refine J.dyg rfl (op_loadB 0 (v := W64 (p.turn)) rfl rfl rfl Tryd.isAgg108 rfl) (Wan.is rfl rfl rfl rfl rfl) rfl rfl rfl ?_
      refine J.dyg rfl (op_fieldAddr (j := 1) rfl rfl Tryd.underlying184 rfl Tryd.sizeOf108 rfl) (Wan.is rfl rfl rfl rfl rfl) rfl rfl rfl ?_
      refine J.dyg rfl (op_loadB 0 (v := W64 (p.num)) rfl rfl rfl Tryd.isAgg108 rfl) (Wan.is rfl rfl rfl rfl rfl) rfl rfl rfl ?_
      refine J.dyg rfl (op_move rfl rfl) (Wan.is rfl rfl rfl rfl rfl) rfl rfl rfl ?_
      refine J.deg rfl (op_call rfl rfl ent164 (Ct.use0 (fun F' hF => bname_ct F' (hK.mono (hF F (by simp))) p.turn p.num (catL l p.all) p1 p2 (by omega)))) (Wan.is rfl rfl rfl rfl rfl) rfl rfl (by simp) ?_
      intro g141 _
      refine J.dyg rfl (op_seq rfl rfl rfl) (Wan.is rfl rfl rfl rfl rfl) rfl rfl rfl ?_
      refine J.dy rfl (op_pickT rfl rfl rfl) rfl rfl rfl rfl ?_
      refine J.dy rfl (op_assign rfl rfl) rfl rfl rfl rfl ?_
      refine J.dy rfl (op_assign rfl rfl) rfl rfl rfl rfl ?_
      refine J.dy rfl (op_assign rfl rfl) rfl rfl rfl rfl ?_
      refine J.dy rfl (op_assign rfl rfl) rfl rfl rfl rfl ?_
      refine J.dnil ?_
      refine J.then_n (J.k hK27 ?_)
      refine J.keepE [(4, _), (5, _), (6, _), (7, _)] ⟨rfl, rfl, rfl, rfl, trivial⟩ ?_
      refine J.ret ?_
      exact J.done hw0 (fun _ _ h => h) (res4 rfl rfl rfl rfl rfl) (retOk () (by rw [hy, show decide (p.all = partsN (catL l p.all).length ∧ p.name = bname p.turn p.num (catL l p.all)) = decide (p.name = bname p.turn p.num (catL l p.all)) from decide_eq_decide.2 ⟨fun h => h.2, fun h => ⟨by omega, h⟩⟩]; rfl) trivial [0] rfl (by decide))
    ·
      refine J.dno rfl (Wan.is rfl rfl rfl rfl rfl) rfl rfl ?_
      refine J.dno rfl (Wan.is rfl rfl rfl rfl rfl) rfl rfl ?_
      refine J.dno rfl (Wan.is rfl rfl rfl rfl rfl) rfl rfl ?_
      refine J.dno rfl (Wan.is rfl rfl rfl rfl rfl) rfl rfl ?_
      refine J.dno rfl (Wan.is rfl rfl rfl rfl rfl) rfl rfl ?_
      refine J.dno rfl (Wan.is rfl rfl rfl rfl rfl) rfl rfl ?_
      refine J.dno rfl (Wan.is rfl rfl rfl rfl rfl) rfl rfl ?_
      refine J.dnoE rfl (Wan.is rfl rfl rfl rfl rfl) rfl rfl (by simp) ?_
      refine J.dno rfl (Wan.is rfl rfl rfl rfl rfl) rfl rfl ?_
      refine J.dy rfl (op_pickF rfl rfl rfl) rfl rfl rfl rfl ?_
      refine J.dy rfl (op_assign rfl rfl) rfl rfl rfl rfl ?_
      refine J.dy rfl (op_assign rfl rfl) rfl rfl rfl rfl ?_
      refine J.dy rfl (op_assign rfl rfl) rfl rfl rfl rfl ?_
      refine J.dy rfl (op_assign rfl rfl) rfl rfl rfl rfl ?_
      refine J.dnil ?_
      refine J.then_n (J.k hK27 ?_)
      refine J.keepE [(4, _), (5, _), (6, _), (7, _)] ⟨rfl, rfl, rfl, rfl, trivial⟩ ?_
      refine J.ret ?_
      exact J.done hw0 (fun _ _ h => h) (res4 rfl rfl rfl rfl rfl) (retOk () (by rw [hy, show decide (p.all = partsN (catL l p.all).length ∧ p.name = bname p.turn p.num (catL l p.all)) = false from decide_eq_false (fun h => by have := h.1; omega)]; rfl) trivial [0] rfl (by decide))

end Go.Proofs.YtnkfapecbmmpeaaDoor
