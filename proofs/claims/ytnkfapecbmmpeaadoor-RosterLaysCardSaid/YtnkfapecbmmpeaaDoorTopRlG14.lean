/- A part of the proof: contracts of functions of the program, each for every state of the heaps that it names. -/
import Derived.Test.YtnkfapecbmmpeaaDoorTopRlG13
import Derived.Shelf.Strings.MapGrows
set_option linter.unusedSimpArgs false
set_option linter.unusedVariables false
namespace Go.Proofs.YtnkfapecbmmpeaaDoor
open Go Go.Fw
set_option maxRecDepth 100000
set_option maxHeartbeats 1000000
open Go.Shelf Go.RowKit
def Tryd.lays230_ren : Go.Shelf.Ren := ⟨fun | 230 => 142 | 197 => 180 | 118 => 181 | 165 => 118 | 166 => 102 | 168 => 182 | 270 => 183 | 167 => 103 | 169 => 104 | 260 => 198 | 240 => 144 | 241 => 160 | 242 => 199 | 276 => 185 | 277 => 193 | 278 => 213 | n => n, fun | 107 => 201 | 9 => 9 | 72 => 102 | 0 => 0 | 4 => 4 | 3 => 3 | 21 => 21 | 105 => 237 | 76 => 157 | 5 => 5 | 75 => 156 | 70 => 100 | 20 => 20 | 37 => 30 | 127 => 202 | 119 => 256 | 46 => 82 | 139 => 259 | 138 => 258 | 164 => 243 | 51 => 208 | 80 => 46 | n => n, fun | 3 => 2 | 4 => 3 | n => n⟩
theorem Tryd.lays230 : Go.Proofs.Lays.n230 Tryd.prog Tryd.lays230_ren := {
  mixed := by kernel_rfl
  f118 := Tryd.func181.trans (congrArg some (by kernel_rfl))
  f165 := Tryd.func118.trans (congrArg some (by kernel_rfl))
  f166 := Tryd.func102.trans (congrArg some (by kernel_rfl))
  f167 := Tryd.func103.trans (congrArg some (by kernel_rfl))
  f168 := Tryd.func182.trans (congrArg some (by kernel_rfl))
  f169 := Tryd.func104.trans (congrArg some (by kernel_rfl))
  f197 := Tryd.func180.trans (congrArg some (by kernel_rfl))
  f230 := Tryd.func142.trans (congrArg some (by kernel_rfl))
  f240 := Tryd.func144.trans (congrArg some (by kernel_rfl))
  f241 := Tryd.func160.trans (congrArg some (by kernel_rfl))
  f242 := Tryd.func199.trans (congrArg some (by kernel_rfl))
  f260 := Tryd.func198.trans (congrArg some (by kernel_rfl))
  f270 := Tryd.func183.trans (congrArg some (by kernel_rfl))
  f276 := Tryd.func185.trans (congrArg some (by kernel_rfl))
  f277 := Tryd.func193.trans (congrArg some (by kernel_rfl))
  f278 := Tryd.func213.trans (congrArg some (by kernel_rfl))
  t0 := Tryd.underlying0
  a0 := Tryd.isAgg0
  z0 := Tryd.sizeOf0
  v0 := Tryd.zeroValue0
  t3 := Tryd.underlying3
  a3 := Tryd.isAgg3
  z3 := Tryd.sizeOf3
  v3 := Tryd.zeroValue3
  t4 := Tryd.underlying4
  a4 := Tryd.isAgg4
  z4 := Tryd.sizeOf4
  v4 := Tryd.zeroValue4
  t5 := Tryd.underlying5
  a5 := Tryd.isAgg5
  z5 := Tryd.sizeOf5
  v5 := Tryd.zeroValue5
  t9 := Tryd.underlying9
  a9 := Tryd.isAgg9
  z9 := Tryd.sizeOf9
  v9 := Tryd.zeroValue9
  t20 := Tryd.underlying20
  a20 := Tryd.isAgg20
  z20 := Tryd.sizeOf20
  v20 := Tryd.zeroValue20
  t21 := Tryd.underlying21
  a21 := Tryd.isAgg21
  z21 := Tryd.sizeOf21
  v21 := Tryd.zeroValue21
  t37 := Tryd.underlying30
  a37 := Tryd.isAgg30
  z37 := Tryd.sizeOf30
  v37 := Tryd.zeroValue30
  t46 := Tryd.underlying82
  a46 := Tryd.isAgg82
  z46 := Tryd.sizeOf82
  v46 := Tryd.zeroValue82
  t51 := Tryd.underlying208
  a51 := Tryd.isAgg208
  z51 := Tryd.sizeOf208
  v51 := Tryd.zeroValue208
  t70 := Tryd.underlying100
  a70 := Tryd.isAgg100
  z70 := Tryd.sizeOf100
  v70 := Tryd.zeroValue100
  t72 := Tryd.underlying102
  a72 := Tryd.isAgg102
  z72 := Tryd.sizeOf102
  v72 := Tryd.zeroValue102
  t75 := Tryd.underlying156
  a75 := Tryd.isAgg156
  z75 := Tryd.sizeOf156
  v75 := Tryd.zeroValue156
  t76 := Tryd.underlying157
  a76 := Tryd.isAgg157
  z76 := Tryd.sizeOf157
  v76 := Tryd.zeroValue157
  t105 := Tryd.underlying237
  a105 := Tryd.isAgg237
  z105 := Tryd.sizeOf237
  v105 := Tryd.zeroValue237
  t107 := Tryd.underlying201
  a107 := Tryd.isAgg201
  z107 := Tryd.sizeOf201
  v107 := Tryd.zeroValue201
  t119 := Tryd.underlying256
  a119 := Tryd.isAgg256
  z119 := Tryd.sizeOf256
  t127 := Tryd.underlying202
  a127 := Tryd.isAgg202
  z127 := Tryd.sizeOf202
  v127 := Tryd.zeroValue202
  t138 := Tryd.underlying258
  a138 := Tryd.isAgg258
  z138 := Tryd.sizeOf258
  v138 := Tryd.zeroValue258
  t139 := Tryd.underlying259
  a139 := Tryd.isAgg259
  z139 := Tryd.sizeOf259
  v139 := Tryd.zeroValue259
  t164 := Tryd.underlying243
  a164 := Tryd.isAgg243
  z164 := Tryd.sizeOf243
  v164 := Tryd.zeroValue243
  g3 := by kernel_rfl
  g4 := by kernel_rfl }
theorem Tryd.extra230 : Builder.Extra Tryd.prog Tryd.lays230_ren := {
  sizeBuilder := by kernel_rfl
  liesBuilder := by kernel_rfl
  t5 := Tryd.lays230.t5
  a5 := Tryd.lays230.a5
  z5 := Tryd.lays230.z5
  v5 := Tryd.lays230.v5
  infoByte := by kernel_rfl
  cellsByte := by kernel_rfl
  sizeByte := by kernel_rfl
  neB5 := by decide }
theorem enc_kit {r : Nat} (h : Rn r) : Lib.encodeRune (r : Int) = enc r := by
  obtain ⟨h1, h2⟩ := h
  have cv : ∀ n : Nat, ((n : Int).toNat.toUInt8) = UInt8.ofNat n := fun n => by rw [Int.toNat_natCast]
  unfold Lib.encodeRune Lib.encodeRuneZ enc
  by_cases a : r < 128
  · rw [if_pos (by omega), if_pos a, List.map_cons, List.map_nil, cv]
  by_cases b : r < 2048
  · rw [if_neg (by omega), if_pos (by omega), if_neg a, if_pos b]
    simp only [List.map_cons, List.map_nil]
    rw [show (192 : Int) + (r : Int) / 64 = ((192 + r / 64 : Nat) : Int) by omega, show (128 : Int) + (r : Int) % 64 = ((128 + r % 64 : Nat) : Int) by omega, cv, cv]
  by_cases c : r < 65536
  · rw [if_neg (by omega), if_neg (by omega), if_pos (by omega), if_neg a, if_neg b, if_pos c]
    simp only [List.map_cons, List.map_nil]
    rw [show (224 : Int) + (r : Int) / 4096 = ((224 + r / 4096 : Nat) : Int) by omega, show (128 : Int) + (r : Int) / 64 % 64 = ((128 + r / 64 % 64 : Nat) : Int) by omega, show (128 : Int) + (r : Int) % 64 = ((128 + r % 64 : Nat) : Int) by omega, cv, cv, cv]
  · rw [if_neg (by omega), if_neg (by omega), if_neg (by omega), if_pos (by omega), if_neg a, if_neg b, if_neg c]
    simp only [List.map_cons, List.map_nil]
    rw [show (240 : Int) + (r : Int) / 262144 = ((240 + r / 262144 : Nat) : Int) by omega, show (128 : Int) + (r : Int) / 4096 % 64 = ((128 + r / 4096 % 64 : Nat) : Int) by omega, show (128 : Int) + (r : Int) / 64 % 64 = ((128 + r / 64 % 64 : Nat) : Int) by omega, show (128 : Int) + (r : Int) % 64 = ((128 + r % 64 : Nat) : Int) by omega, cv, cv, cv, cv]
def smallZ (z : Int) : Int := (small z.toNat : Int)
theorem mapGo_eq : ∀ (l : List Nat), (∀ r ∈ l, Rn r) → ∀ n, (unr l).length ≤ n → Lib.mapGoD smallZ n (unr l) = unr (l.map small)
  | [], _, n, _ => by cases n <;> rfl
  | r :: l, h, 0, hn => by
    have := List.length_pos_iff.2 (enc_ne r)
    rw [unr_cons, List.length_append] at hn; omega
  | r :: l, h, n + 1, hn => by
    have hr := h r (.head _)
    have := List.length_pos_iff.2 (enc_ne r)
    have hd : Lib.decodeL (enc r ++ unr l) = (r, (enc r).length) := dec_enc hr (unr l)
    rw [unr_cons, List.length_append] at hn
    rw [Lib.mapGoD, unr_cons, if_neg (by simp [enc_ne]), hd]
    dsimp only
    have hz : smallZ (r : Int) = ((small r : Nat) : Int) := by unfold smallZ; rw [Int.toNat_natCast]
    rw [List.drop_left, mapGo_eq l (fun x hx => h x (.tail _ hx)) n (by omega), hz, if_pos (Int.natCast_nonneg _), List.map_cons, unr_cons, enc_kit (rn_small hr)]
theorem map_ct (F : Hp) (hA : Cells F ⟨0, 0, none⟩ alphaV) (hT : TabsF F) (s : List UInt8) (hs : s.length ≤ 1000000) (hv : vld s = true) : Ct Tryd.prog 142 [.func (.func 143) #[] #[], Str s] [F] (fun _ : Unit => Str (unr ((rl s).map small))) (fun _ => True) (fun _ => [F]) := Ct.ofBelow fun w hw => by
  have h := Any.strings_Map_grows Tryd.lays230 Tryd.extra230 143 #[] ent143 smallZ ⟨s.toArray⟩ w (by rw [size_mk]; omega) (by
    intro W x hx hb
    have hW : Le F (hp W) := fun g o ho => by
      have h1 := hw g o ho
      show W.heap[g]? = some o
      rw [hb.block g (hp_lt h1)]; exact h1
    have hc := Ct.below (small_ct (hp W) (hA.mono hW) x (by omega))
    have hz : smallZ (x : Int) = ((small x : Nat) : Int) := by unfold smallZ; rw [Int.toNat_natCast]
    rw [hz]
    exact hc) (by
    intro x hx
    have := small_le x
    have hz : smallZ (x : Int) = ((small x : Nat) : Int) := by unfold smallZ; rw [Int.toNat_natCast]
    rw [hz]
    exact ⟨by omega, by omega⟩) (hT.tabs hw)
  have e : Lib.mapD smallZ s = unr ((rl s).map small) := by
    obtain ⟨h1, h2⟩ := vld_runes hv
    have := mapGo_eq (rl s) h1 s.length (by rw [← h2]; exact Nat.le_refl _)
    rw [← h2] at this; exact this
  rw [e] at h
  exact h

end Go.Proofs.YtnkfapecbmmpeaaDoor

namespace Go.Proofs.YtnkfapecbmmpeaaDoor
open Go Go.Fw
set_option maxRecDepth 100000
set_option maxHeartbeats 1000000
theorem ent140 : Enters Tryd.prog 140 := Enters.of Tryd.func140 rfl (by kernel_rfl)
theorem ent141 : Enters Tryd.prog 141 := Enters.of Tryd.func141 rfl (by kernel_rfl)
theorem ent142 : Enters Tryd.prog 142 := Enters.of Tryd.func142 rfl (by kernel_rfl)
theorem ent176 : Enters Tryd.prog 176 := Enters.of Tryd.func176 rfl (by kernel_rfl)
theorem ent177 : Enters Tryd.prog 177 := Enters.of Tryd.func177 rfl (by kernel_rfl)
theorem ent178 : Enters Tryd.prog 178 := Enters.of Tryd.func178 rfl (by kernel_rfl)
theorem ent179 : Enters Tryd.prog 179 := Enters.of Tryd.func179 rfl (by kernel_rfl)

theorem right_ct (F : Hp) (hA : Cells F ⟨0, 0, none⟩ alphaV) (hT : TabsF F) (s : List UInt8) (hs : s.length ≤ 1000000) : Ct Tryd.prog 141 [Str (s)] [F] (fun _ : Unit => .bool (right s)) (fun _ => True) (fun _ => [F]) := by
  refine Ct.walk Tryd.func141 rfl Tryd.ntmps141 rfl (fun w0 hw0 => ?_)
  change J _ [(0, _)] _ _ _
  refine J.seq (fun K1 hK1 => ?_)
  refine J.region ?_
  refine J.y (op_assign rfl rfl) rfl rfl rfl ?_
  refine J.nil ?_
  refine J.then_n (J.k hK1 ?_)
  refine J.keepE [(0, _)] ⟨rfl, trivial⟩ ?_
  refine J.seq (fun K2 hK2 => ?_)
  refine J.seq (fun K3 hK3 => ?_)
  refine J.region ?_
  refine J.y (op_move rfl rfl) rfl rfl rfl ?_
  refine J.e (op_rangeS rfl rfl Tryd.underlying9) rfl rfl rfl ?_
  rintro g8 _
  change J _ _ _ [F, itr g8 s 0] _
  refine J.nil ?_
  refine J.then_n (J.k hK3 ?_)
  refine J.keepE [(0, _), (8, _)] ⟨rfl, rfl, trivial⟩ ?_
  refine J.block ?_
  refine J.loop (X := Nat) (fun ζ => [(0, Str (s)), (8, Ptr g8)]) (fun ζ => [F, itr g8 s ζ]) (fun ζ => ζ ≤ s.length ∧ (rl (s.drop ζ)).all okR = (rl s).all okR) (fun ζ => s.length - ζ) 0 (⟨by omega, rfl⟩) ⟨rfl, rfl, trivial⟩ (fun _ h => h) ?_
  rintro p ⟨hp, he⟩ I0 hI0
  refine J.seq (fun K4 hK4 => ?_)
  refine J.region ?_
  refine J.e (op_nextS (i := 1) rfl rfl rfl) rfl rfl rfl ?_
  rintro _ _
  change J _ _ _ [F, itr g8 s (npos s p)] _
  refine J.y (op_extract (v := .bool (decide (p < s.length))) rfl rfl (nxt_0 _ _)) rfl rfl rfl ?_
  refine J.nil ?_
  refine J.then_n (J.k hK4 ?_)
  refine J.keepE [(0, _), (8, _), (9, _), (10, _)] ⟨rfl, rfl, rfl, rfl, trivial⟩ ?_
  refine J.seq (fun K5 hK5 => ?_)
  refine J.ite rfl (fun h10 => ?_) (fun h10 => ?_)
  ·
    have hps : p < s.length := h10
    have hnp := npos_in hps
    have hdl := dec_le s p hps
    have hdr := dec_rune s p (by omega)
    have hdp := dec_pos s p (by omega)
    have hrl := rl_at hps
    refine J.skip ?_
    refine J.then_n (J.k hK5 ?_)
    refine J.keepE [(0, _), (8, _), (9, _)] ⟨rfl, rfl, rfl, trivial⟩ ?_
    refine J.block ?_
    refine J.seq (fun K6 hK6 => ?_)
    refine J.region ?_
    refine J.y (op_extract (v := .int .i32 (((dec s p).1 : Nat) : Int)) rfl rfl (nxt_2 hps)) rfl rfl rfl ?_
    refine J.y (op_assign rfl rfl) rfl rfl rfl ?_
    refine J.nil ?_
    refine J.then_n (J.k hK6 ?_)
    refine J.keepE [(0, _), (4, _), (8, _)] ⟨rfl, rfl, rfl, trivial⟩ ?_
    refine J.seq (fun K7 hK7 => ?_)
    refine J.region ?_
    refine J.y (op_move rfl rfl) rfl rfl rfl ?_
    refine J.e (op_call rfl rfl ent174 (Ct.use0 (fun F' hF => letter_ct F' (hA.mono (hF F (by simp))) ((dec s p).1) (by omega)))) rfl rfl rfl ?_
    intro g13 _
    refine J.y (op_eql rfl rfl rfl) rfl rfl rfl ?_
    refine J.y (op_move rfl rfl) rfl rfl rfl ?_
    refine J.split (d := 15) rfl (fun h15 => ?_) (fun h15 => ?_)
    ·
      refine J.yg (Wan.is rfl rfl rfl rfl rfl) (op_move rfl rfl) rfl rfl ?_
      refine J.yg (Wan.is rfl rfl rfl rfl rfl) (op_lss rfl rfl rfl) rfl rfl ?_
      refine J.yg (Wan.is rfl rfl rfl rfl rfl) (op_move rfl rfl) rfl rfl ?_
      refine J.split (d := 18) rfl (fun h18 => ?_) (fun h18 => ?_)
      ·
        refine J.no (Wan.is rfl rfl rfl rfl rfl) rfl rfl ?_
        refine J.no (Wan.is rfl rfl rfl rfl rfl) rfl rfl ?_
        refine J.yg (Wan.is rfl rfl rfl rfl rfl) (op_pickT rfl rfl rfl) rfl rfl ?_
        refine J.y (op_pickT rfl rfl rfl) rfl rfl rfl ?_
        refine J.y (op_move rfl rfl) rfl rfl rfl ?_
        refine J.yg (Wan.is rfl rfl rfl rfl rfl) (op_move rfl rfl) rfl rfl ?_
        refine J.eg (Wan.is rfl rfl rfl rfl rfl) (op_call rfl rfl ent175 (Ct.use0 (fun F' hF => sep_ct F' ((dec s p).1)))) rfl rfl ?_
        intro g25 _
        refine J.yg (Wan.is rfl rfl rfl rfl rfl) (op_not rfl rfl) rfl rfl ?_
        refine J.y (op_pickT rfl rfl rfl) rfl rfl rfl ?_
        refine J.nil ?_
        refine J.then_n (J.k hK7 ?_)
        refine J.keepE [(0, _), (8, _), (27, _)] ⟨rfl, rfl, rfl, trivial⟩ ?_
        refine J.cond rfl (fun h27 => ?_) (fun h27 => ?_)
        ·
          refine J.seq (fun K8 hK8 => ?_)
          refine J.region ?_
          refine J.y (op_assign rfl rfl) rfl rfl rfl ?_
          refine J.nil ?_
          refine J.then_n (J.k hK8 ?_)
          refine J.keepE [(2, _)] ⟨rfl, trivial⟩ ?_
          refine J.ret ?_
          refine J.blk_r ?_
          refine J.then_r ?_
          refine J.blk_r ?_
          refine J.then_r ?_
          exact J.done hw0 (fun _ _ h => h) (res1 rfl rfl) (retOk () (by unfold right; rw [← he, hrl, List.all_cons, show okR (dec s p).1 = false from okr_no (by omega) (by omega) (by simpa using h27)]; rfl) trivial [0] rfl (by decide))
        ·
          refine J.skip ?_
          refine J.blk_n ?_
          refine J.then_n ?_
          exact J.kk (npos s p) (fun η (hη : _ ∧ s.length - η < s.length - p) => hI0 η hη.1 hη.2) ⟨⟨by omega, by rw [← he, hrl, List.all_cons, show okR (dec s p).1 = true by first | exact okr_sep (by simpa using h27) | exact okr_yes (by omega)]; rfl⟩, by first | omega | (dsimp only; omega)⟩ ⟨rfl, rfl, trivial⟩ (fun _ h => h)
      ·
        refine J.yg (Wan.is rfl rfl rfl rfl rfl) (op_move rfl rfl) rfl rfl ?_
        refine J.yg (Wan.is rfl rfl rfl rfl rfl) (op_gtr rfl rfl rfl) rfl rfl ?_
        refine J.yg (Wan.is rfl rfl rfl rfl rfl) (op_pickF rfl rfl rfl) rfl rfl ?_
        refine J.y (op_pickT rfl rfl rfl) rfl rfl rfl ?_
        refine J.y (op_move rfl rfl) rfl rfl rfl ?_
        refine J.split (d := 23) rfl (fun h23 => ?_) (fun h23 => ?_)
        ·
          refine J.yg (Wan.is rfl rfl rfl rfl rfl) (op_move rfl rfl) rfl rfl ?_
          refine J.eg (Wan.is rfl rfl rfl rfl rfl) (op_call rfl rfl ent175 (Ct.use0 (fun F' hF => sep_ct F' ((dec s p).1)))) rfl rfl ?_
          intro g25 _
          refine J.yg (Wan.is rfl rfl rfl rfl rfl) (op_not rfl rfl) rfl rfl ?_
          refine J.y (op_pickT rfl rfl rfl) rfl rfl rfl ?_
          refine J.nil ?_
          refine J.then_n (J.k hK7 ?_)
          refine J.keepE [(0, _), (8, _), (27, _)] ⟨rfl, rfl, rfl, trivial⟩ ?_
          refine J.cond rfl (fun h27 => ?_) (fun h27 => ?_)
          ·
            refine J.seq (fun K9 hK9 => ?_)
            refine J.region ?_
            refine J.y (op_assign rfl rfl) rfl rfl rfl ?_
            refine J.nil ?_
            refine J.then_n (J.k hK9 ?_)
            refine J.keepE [(2, _)] ⟨rfl, trivial⟩ ?_
            refine J.ret ?_
            refine J.blk_r ?_
            refine J.then_r ?_
            refine J.blk_r ?_
            refine J.then_r ?_
            exact J.done hw0 (fun _ _ h => h) (res1 rfl rfl) (retOk () (by unfold right; rw [← he, hrl, List.all_cons, show okR (dec s p).1 = false from okr_no (by omega) (by omega) (by simpa using h27)]; rfl) trivial [0] rfl (by decide))
          ·
            refine J.skip ?_
            refine J.blk_n ?_
            refine J.then_n ?_
            exact J.kk (npos s p) (fun η (hη : _ ∧ s.length - η < s.length - p) => hI0 η hη.1 hη.2) ⟨⟨by omega, by rw [← he, hrl, List.all_cons, show okR (dec s p).1 = true by first | exact okr_sep (by simpa using h27) | exact okr_yes (by omega)]; rfl⟩, by first | omega | (dsimp only; omega)⟩ ⟨rfl, rfl, trivial⟩ (fun _ h => h)
        ·
          refine J.no (Wan.is rfl rfl rfl rfl rfl) rfl rfl ?_
          refine J.no (Wan.is rfl rfl rfl rfl rfl) rfl rfl ?_
          refine J.no (Wan.is rfl rfl rfl rfl rfl) rfl rfl ?_
          refine J.y (op_pickF rfl rfl rfl) rfl rfl rfl ?_
          refine J.nil ?_
          refine J.then_n (J.k hK7 ?_)
          refine J.keepE [(0, _), (8, _), (27, _)] ⟨rfl, rfl, rfl, trivial⟩ ?_
          refine J.condF rfl rfl ?_
          refine J.skip ?_
          refine J.blk_n ?_
          refine J.then_n ?_
          exact J.kk (npos s p) (fun η (hη : _ ∧ s.length - η < s.length - p) => hI0 η hη.1 hη.2) ⟨⟨by omega, by rw [← he, hrl, List.all_cons, show okR (dec s p).1 = true by first | exact okr_sep (by simpa using h27) | exact okr_yes (by omega)]; rfl⟩, by first | omega | (dsimp only; omega)⟩ ⟨rfl, rfl, trivial⟩ (fun _ h => h)
    ·
      refine J.no (Wan.is rfl rfl rfl rfl rfl) rfl rfl ?_
      refine J.no (Wan.is rfl rfl rfl rfl rfl) rfl rfl ?_
      refine J.no (Wan.is rfl rfl rfl rfl rfl) rfl rfl ?_
      refine J.no (Wan.un rfl rfl rfl rfl) rfl rfl ?_
      refine J.no (Wan.un rfl rfl rfl rfl) rfl rfl ?_
      refine J.no (Wan.is rfl rfl rfl rfl rfl) rfl rfl ?_
      refine J.y (op_pickF rfl rfl rfl) rfl rfl rfl ?_
      refine J.y (op_move rfl rfl) rfl rfl rfl ?_
      refine J.no (Wan.is rfl rfl rfl rfl rfl) rfl rfl ?_
      refine J.no (Wan.is rfl rfl rfl rfl rfl) rfl rfl ?_
      refine J.no (Wan.is rfl rfl rfl rfl rfl) rfl rfl ?_
      refine J.y (op_pickF rfl rfl rfl) rfl rfl rfl ?_
      refine J.nil ?_
      refine J.then_n (J.k hK7 ?_)
      refine J.keepE [(0, _), (8, _), (27, _)] ⟨rfl, rfl, rfl, trivial⟩ ?_
      refine J.condF rfl rfl ?_
      refine J.skip ?_
      refine J.blk_n ?_
      refine J.then_n ?_
      exact J.kk (npos s p) (fun η (hη : _ ∧ s.length - η < s.length - p) => hI0 η hη.1 hη.2) ⟨⟨by omega, by rw [← he, hrl, List.all_cons, show okR (dec s p).1 = true by first | exact okr_sep (by simpa using h27) | exact okr_yes (by omega)]; rfl⟩, by first | omega | (dsimp only; omega)⟩ ⟨rfl, rfl, trivial⟩ (fun _ h => h)
  ·
    refine J.exit ?_
    refine J.then_x ?_
    refine J.then_x ?_
    refine J.blk_eq ?_
    refine J.then_n (J.k hK2 ?_)
    refine J.keepE [(0, _)] ⟨rfl, trivial⟩ ?_
    refine J.seq (fun K10 hK10 => ?_)
    refine J.seq (fun K11 hK11 => ?_)
    have hk1 : (rl s).all okR = true := by rw [← he, List.drop_of_length_le (by omega), rl_nil]; rfl
    refine J.region ?_
    refine J.y (op_move rfl rfl) rfl rfl rfl ?_
    refine J.e (op_call rfl rfl ent176 (Ct.use (new := fun x : Option Addr × Nat × Hp => [x.2.2]) (fun F' hF => parts_ct F' (hT.mono (hF F (by simp))) s (by omega)))) rfl rfl rfl ?_
    rintro ⟨A29, c29, m29⟩ h29
    try dsimp only at h29
    change J _ ((29, .slice A29 (spl [] s).length c29) :: _) _ [F, itr g8 s (npos s p), m29] _
    refine J.y (op_len Tryd.underlying55 rfl rfl) rfl rfl rfl ?_
    refine J.y (op_move rfl rfl) rfl rfl rfl ?_
    refine J.nil ?_
    refine J.then_n (J.k hK11 ?_)
    refine J.keepE [(0, _), (29, _), (30, _), (31, _)] ⟨rfl, rfl, rfl, rfl, trivial⟩ ?_
    refine J.block ?_
    refine J.loop (X := Nat) (fun ζ => [(0, Str (s)), (29, .slice A29 ((spl [] s).length) c29), (30, I (((spl [] s).length : Nat) : Int)), (31, I ((ζ : Nat) : Int))]) (fun ζ => [F, m29]) (fun ζ => ζ ≤ (spl [] s).length ∧ ((spl [] s).take ζ).all okP = true) (fun ζ => (spl [] s).length - ζ) 0 (⟨by omega, rfl⟩) ⟨rfl, rfl, rfl, rfl, trivial⟩ (fun _ h => h.pick [0, 2] (by decide)) ?_
    rintro k ⟨hk, hq⟩ I2 hI2
    refine J.seq (fun K12 hK12 => ?_)
    refine J.region ?_
    refine J.y (op_lss rfl rfl rfl) rfl rfl rfl ?_
    refine J.nil ?_
    refine J.then_n (J.k hK12 ?_)
    refine J.keepE [(0, _), (29, _), (30, _), (31, _), (32, _)] ⟨rfl, rfl, rfl, rfl, rfl, trivial⟩ ?_
    refine J.seq (fun K13 hK13 => ?_)
    refine J.ite rfl (fun h32 => ?_) (fun h32 => ?_)
    ·
      have hpn := spl_num s []
      have hpl : ((spl [] s).getD k []).length ≤ 1000000 := Nat.le_trans (spl_len s k) hs
      refine J.skip ?_
      refine J.then_n (J.k hK13 ?_)
      refine J.keepE [(0, _), (29, _), (30, _), (31, _)] ⟨rfl, rfl, rfl, rfl, trivial⟩ ?_
      refine J.seq (fun K14 hK14 => ?_)
      refine J.block ?_
      refine J.seq (fun K15 hK15 => ?_)
      refine J.region ?_
      refine J.y (op_indexAddr (i := k) rfl rfl rfl Tryd.underlying55 Tryd.sizeOf9 h29.sl (by first | omega | (simp only [List.length_append, List.length_cons, List.length_nil, List.length_take, List.length_drop] at *; omega))) rfl rfl rfl ?_
      refine J.y (op_load rfl rfl Tryd.isAgg9 (m := m29) (by simp) (h29.sl.elem (strsV_get (getSome [] (by first | omega | (simp only [List.length_append, List.length_cons, List.length_nil, List.length_take, List.length_drop] at *; omega)))))) rfl rfl rfl ?_
      refine J.y (op_assign rfl rfl) rfl rfl rfl ?_
      refine J.nil ?_
      refine J.then_n (J.k hK15 ?_)
      refine J.keepE [(0, _), (6, _), (29, _), (30, _), (31, _)] ⟨rfl, rfl, rfl, rfl, rfl, trivial⟩ ?_
      refine J.seq (fun K16 hK16 => ?_)
      refine J.region ?_
      refine J.y (op_move rfl rfl) rfl rfl rfl ?_
      refine J.y (op_seq rfl rfl rfl) rfl rfl rfl ?_
      refine J.y (op_move rfl rfl) rfl rfl rfl ?_
      refine J.split (d := 37) rfl (fun h37 => ?_) (fun h37 => ?_)
      ·
        refine J.no (Wan.is rfl rfl rfl rfl rfl) rfl rfl ?_
        refine J.no (Wan.is rfl rfl rfl rfl rfl) rfl rfl ?_
        refine J.no (Wan.is rfl rfl rfl rfl rfl) rfl rfl ?_
        refine J.no (Wan.is rfl rfl rfl rfl rfl) rfl rfl ?_
        refine J.y (op_pickT rfl rfl rfl) rfl rfl rfl ?_
        refine J.nil ?_
        refine J.then_n (J.k hK16 ?_)
        refine J.keepE [(0, _), (29, _), (30, _), (31, _), (42, _)] ⟨rfl, rfl, rfl, rfl, rfl, trivial⟩ ?_
        refine J.condT rfl rfl ?_
        refine J.seq (fun K17 hK17 => ?_)
        refine J.region ?_
        refine J.y (op_assign rfl rfl) rfl rfl rfl ?_
        refine J.nil ?_
        refine J.then_n (J.k hK17 ?_)
        refine J.keepE [(2, _)] ⟨rfl, trivial⟩ ?_
        refine J.ret ?_
        refine J.blk_r ?_
        refine J.then_r ?_
        refine J.then_r ?_
        refine J.blk_r ?_
        refine J.then_r ?_
        exact J.done hw0 (fun _ _ h => h) (res1 rfl rfl) (retOk () (by unfold right; rw [drop_all (k := k) (by omega) (by unfold okP; rw [h37]; rfl), Bool.and_false]; rfl) trivial [0] rfl (by decide))
      ·
        refine J.yg (Wan.is rfl rfl rfl rfl rfl) (op_move rfl rfl) rfl rfl ?_
        refine J.eg (Wan.is rfl rfl rfl rfl rfl) (op_call rfl rfl ent178 (Ct.use0 (fun F' hF => alph_ct F' (hA.mono (hF F (by simp))) ((spl [] s).getD k []) (by omega)))) rfl rfl ?_
        intro g39 _
        refine J.eg (Wan.is rfl rfl rfl rfl rfl) (op_call rfl rfl ent177 (Ct.use0 (fun F' hF => one_ct F' (alph (rl ((spl [] s).getD k [])) 0) (alph_le _ _ (by omega))))) rfl rfl ?_
        intro g40 _
        refine J.yg (Wan.is rfl rfl rfl rfl rfl) (op_not rfl rfl) rfl rfl ?_
        refine J.y (op_pickF rfl rfl rfl) rfl rfl rfl ?_
        refine J.nil ?_
        refine J.then_n (J.k hK16 ?_)
        refine J.keepE [(0, _), (29, _), (30, _), (31, _), (42, _)] ⟨rfl, rfl, rfl, rfl, rfl, trivial⟩ ?_
        refine J.cond rfl (fun h42 => ?_) (fun h42 => ?_)
        ·
          refine J.seq (fun K18 hK18 => ?_)
          refine J.region ?_
          refine J.y (op_assign rfl rfl) rfl rfl rfl ?_
          refine J.nil ?_
          refine J.then_n (J.k hK18 ?_)
          refine J.keepE [(2, _)] ⟨rfl, trivial⟩ ?_
          refine J.ret ?_
          refine J.blk_r ?_
          refine J.then_r ?_
          refine J.then_r ?_
          refine J.blk_r ?_
          refine J.then_r ?_
          exact J.done hw0 (fun _ _ h => h) (res1 rfl rfl) (retOk () (by unfold right; rw [drop_all (k := k) (by omega) (by unfold okP; rw [show good (alph (rl ((spl [] s).getD k [])) 0) = false from by simpa using h42, Bool.and_false]), Bool.and_false]; rfl) trivial [0] rfl (by decide))
        ·
          refine J.skip ?_
          refine J.blk_n ?_
          refine J.then_n (J.k hK14 ?_)
          refine J.keepE [(0, _), (29, _), (30, _), (31, _)] ⟨rfl, rfl, rfl, rfl, trivial⟩ ?_
          refine J.region ?_
          refine J.y ((op_add rfl rfl rfl (by first | omega | (simp only [List.length_append, List.length_cons, List.length_nil, List.length_take, List.length_drop] at *; omega))).as (v' := I ((k + 1 : Nat) : Int)) (congrArg I (by omega))) rfl rfl rfl ?_
          refine J.y (op_move rfl rfl) rfl rfl rfl ?_
          refine J.nil ?_
          refine J.then_n ?_
          exact J.kk (k + 1) (fun η (hη : _ ∧ (spl [] s).length - η < (spl [] s).length - k) => hI2 η hη.1 hη.2) ⟨⟨by omega, by rw [take_all (by omega), hq]; unfold okP; rw [decide_eq_true h37]; simpa using h42⟩, by first | omega | (dsimp only; omega)⟩ ⟨rfl, rfl, rfl, rfl, trivial⟩ (fun _ h => h)
    ·
      refine J.exit ?_
      refine J.then_x ?_
      refine J.then_x ?_
      refine J.blk_eq ?_
      refine J.then_n (J.k hK10 ?_)
      refine J.keepE [(0, _)] ⟨rfl, trivial⟩ ?_
      refine J.seq (fun K19 hK19 => ?_)
      have hk2 : (spl [] s).all okP = true := by rw [← hq, List.take_of_length_le (by omega)]
      refine J.region ?_
      refine J.y (op_move rfl rfl) rfl rfl rfl ?_
      refine J.e (op_call rfl rfl ent179 (Ct.use0 (fun F' hF => scount_ct F' s (by omega)))) rfl rfl rfl ?_
      intro g45 _
      refine J.y (op_leq rfl rfl rfl) rfl rfl rfl ?_
      refine J.y (op_assign rfl rfl) rfl rfl rfl ?_
      refine J.nil ?_
      refine J.then_n (J.k hK19 ?_)
      refine J.keepE [(2, _)] ⟨rfl, trivial⟩ ?_
      refine J.ret ?_
      exact J.done hw0 (fun _ _ h => h) (res1 rfl rfl) (retOk () (by unfold right; rw [hk1, hk2]; exact congrArg Value.bool (decide_eq_decide.2 (by omega))) trivial [0] rfl (by decide))

theorem normal_ct (F : Hp) (hA : Cells F ⟨0, 0, none⟩ alphaV) (hT : TabsF F) (s : List UInt8) (hs : s.length ≤ 1000000) : Ct Tryd.prog 99 [Str (s)] [F] (fun _ : Unit => .tuple #[Str ((normal s).1), I (((normal s).2 : Nat) : Int)]) (fun _ => True) (fun _ => [F]) := by
  refine Ct.walk Tryd.func99 rfl Tryd.ntmps99 rfl (fun w0 hw0 => ?_)
  change J _ [(0, _)] _ _ _
  refine J.seq (fun K1 hK1 => ?_)
  refine J.region ?_
  refine J.y (op_assign rfl rfl) rfl rfl rfl ?_
  refine J.y (op_assign rfl rfl) rfl rfl rfl ?_
  refine J.nil ?_
  refine J.then_n (J.k hK1 ?_)
  refine J.keepE [(0, _)] ⟨rfl, trivial⟩ ?_
  refine J.seq (fun K2 hK2 => ?_)
  refine J.region ?_
  refine J.y (op_move rfl rfl) rfl rfl rfl ?_
  refine J.e (op_call rfl rfl ent140 (Ct.use0 (fun F' hF => runes_ct F' (hT.mono (hF F (by simp))) s (by omega)))) rfl rfl rfl ?_
  intro g8 _
  refine J.y (op_move rfl rfl) rfl rfl rfl ?_
  refine J.y (op_extract (v := I ((if vld s = true then (rl s).length else 0 : Nat) : Int)) rfl rfl rfl) rfl rfl rfl ?_
  refine J.y (op_extract (v := .bool (vld s)) rfl rfl rfl) rfl rfl rfl ?_
  refine J.y (op_assign rfl rfl) rfl rfl rfl ?_
  refine J.y (op_assign rfl rfl) rfl rfl rfl ?_
  refine J.nil ?_
  refine J.then_n (J.k hK2 ?_)
  refine J.keepE [(0, _), (4, _), (5, _)] ⟨rfl, rfl, rfl, trivial⟩ ?_
  refine J.seq (fun K3 hK3 => ?_)
  refine J.block ?_
  refine J.seq (fun K4 hK4 => ?_)
  refine J.region ?_
  refine J.y (op_move rfl rfl) rfl rfl rfl ?_
  refine J.y (op_not rfl rfl) rfl rfl rfl ?_
  refine J.y (op_assign rfl rfl) rfl rfl rfl ?_
  refine J.nil ?_
  refine J.then_n (J.k hK4 ?_)
  refine J.keepE [(0, _), (4, _), (11, _)] ⟨rfl, rfl, rfl, trivial⟩ ?_
  refine J.cond rfl (fun h11 => ?_) (fun h11 => ?_)
  ·
    refine J.seq (fun K5 hK5 => ?_)
    refine J.region ?_
    refine J.y (op_assign rfl rfl) rfl rfl rfl ?_
    refine J.y (op_assign rfl rfl) rfl rfl rfl ?_
    refine J.nil ?_
    refine J.then_n (J.k hK5 ?_)
    refine J.keepE [(2, _), (3, _)] ⟨rfl, rfl, trivial⟩ ?_
    refine J.ret ?_
    refine J.blk_r ?_
    refine J.then_r ?_
    exact J.done hw0 (fun _ _ h => h) (res2 rfl rfl rfl) (retOk () (by unfold normal; rw [if_neg (by simpa using h11)]; rfl) trivial [0] rfl (by decide))
  ·
    refine J.seq (fun K6 hK6 => ?_)
    have hv : vld s = true := by simpa using h11
    refine J.region ?_
    refine J.y (op_move rfl rfl) rfl rfl rfl ?_
    refine J.y (op_gtr rfl rfl rfl) rfl rfl rfl ?_
    refine J.y (op_assign rfl rfl) rfl rfl rfl ?_
    refine J.nil ?_
    refine J.then_n (J.k hK6 ?_)
    refine J.keepE [(0, _), (14, _)] ⟨rfl, rfl, trivial⟩ ?_
    refine J.ite rfl (fun h14 => ?_) (fun h14 => ?_)
    ·
      refine J.seq (fun K7 hK7 => ?_)
      rw [if_pos hv] at h14
      refine J.region ?_
      refine J.y (op_assign rfl rfl) rfl rfl rfl ?_
      refine J.y (op_assign rfl rfl) rfl rfl rfl ?_
      refine J.nil ?_
      refine J.then_n (J.k hK7 ?_)
      refine J.keepE [(2, _), (3, _)] ⟨rfl, rfl, trivial⟩ ?_
      refine J.ret ?_
      refine J.blk_r ?_
      refine J.then_r ?_
      exact J.done hw0 (fun _ _ h => h) (res2 rfl rfl rfl) (retOk () (by unfold normal; rw [if_pos hv, if_neg (by omega)]; rfl) trivial [0] rfl (by decide))
    ·
      refine J.seq (fun K8 hK8 => ?_)
      rw [if_pos hv] at h14
      refine J.region ?_
      refine J.y (op_move rfl rfl) rfl rfl rfl ?_
      refine J.e (op_call rfl rfl ent141 (Ct.use0 (fun F' hF => right_ct F' (hA.mono (hF F (by simp))) (hT.mono (hF F (by simp))) s (by omega)))) rfl rfl rfl ?_
      intro g19 _
      refine J.y (op_not rfl rfl) rfl rfl rfl ?_
      refine J.y (op_assign rfl rfl) rfl rfl rfl ?_
      refine J.nil ?_
      refine J.then_n (J.k hK8 ?_)
      refine J.keepE [(0, _), (17, _)] ⟨rfl, rfl, trivial⟩ ?_
      refine J.cond rfl (fun h17 => ?_) (fun h17 => ?_)
      ·
        refine J.seq (fun K9 hK9 => ?_)
        refine J.region ?_
        refine J.y (op_assign rfl rfl) rfl rfl rfl ?_
        refine J.y (op_assign rfl rfl) rfl rfl rfl ?_
        refine J.nil ?_
        refine J.then_n (J.k hK9 ?_)
        refine J.keepE [(2, _), (3, _)] ⟨rfl, rfl, trivial⟩ ?_
        refine J.ret ?_
        refine J.blk_r ?_
        refine J.then_r ?_
        exact J.done hw0 (fun _ _ h => h) (res2 rfl rfl rfl) (retOk () (by unfold normal; rw [if_pos hv, if_pos (by omega), if_neg (by simpa using h17)]; rfl) trivial [0] rfl (by decide))
      ·
        refine J.skip ?_
        refine J.blk_n ?_
        refine J.then_n (J.k hK3 ?_)
        refine J.keepE [(0, _)] ⟨rfl, trivial⟩ ?_
        refine J.seq (fun K10 hK10 => ?_)
        refine J.region ?_
        refine J.y (op_move rfl rfl) rfl rfl rfl ?_
        refine J.e (op_call rfl rfl ent142 (Ct.use0 (fun F' hF => map_ct F' (hA.mono (hF F (by simp))) (hT.mono (hF F (by simp))) s (by omega) (by assumption)))) rfl rfl rfl ?_
        intro g22 _
        refine J.y (op_assign rfl rfl) rfl rfl rfl ?_
        refine J.y (op_assign rfl rfl) rfl rfl rfl ?_
        refine J.nil ?_
        refine J.then_n (J.k hK10 ?_)
        refine J.keepE [(2, _), (3, _)] ⟨rfl, rfl, trivial⟩ ?_
        refine J.ret ?_
        exact J.done hw0 (fun _ _ h => h) (res2 rfl rfl rfl) (retOk () (by unfold normal; rw [if_pos hv, if_pos (by omega), if_pos (by simpa using h17)]; rfl) trivial [0] rfl (by decide))

end Go.Proofs.YtnkfapecbmmpeaaDoor
