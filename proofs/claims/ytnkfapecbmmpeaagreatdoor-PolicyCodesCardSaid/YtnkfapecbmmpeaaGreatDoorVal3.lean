/- A part of the proof: contracts of functions of the program, each for every state of the heaps that it names. -/
import Derived.Test.YtnkfapecbmmpeaaGreatDoorLab
import Derived.Shelf.Strings.MapGrows
set_option linter.unusedSimpArgs false
set_option linter.unusedVariables false
namespace Go.Proofs.YtnkfapecbmmpeaaGreatDoor
open Go Go.Fw
set_option maxRecDepth 100000
set_option maxHeartbeats 1000000
open Go.Shelf Go.RowKit
def Tryz.lays230_ren : Go.Shelf.Ren := ⟨fun | 230 => 68 | 197 => 85 | 118 => 86 | 165 => 72 | 166 => 48 | 168 => 87 | 270 => 88 | 167 => 60 | 169 => 49 | 260 => 97 | 240 => 64 | 241 => 93 | 242 => 98 | 276 => 76 | 277 => 99 | 278 => 101 | n => n, fun | 107 => 124 | 9 => 9 | 72 => 61 | 0 => 0 | 4 => 4 | 3 => 3 | 21 => 21 | 105 => 140 | 76 => 93 | 5 => 5 | 75 => 92 | 70 => 58 | 20 => 20 | 37 => 59 | 127 => 116 | 119 => 151 | 46 => 105 | 139 => 154 | 138 => 153 | 164 => 133 | 51 => 22 | 80 => 48 | n => n, fun | 3 => 2 | 4 => 3 | n => n⟩
theorem Tryz.lays230 : Go.Proofs.Lays.n230 Tryz.prog Tryz.lays230_ren := {
  mixed := by kernel_rfl
  f118 := Tryz.func86.trans (congrArg some (by kernel_rfl))
  f165 := Tryz.func72.trans (congrArg some (by kernel_rfl))
  f166 := Tryz.func48.trans (congrArg some (by kernel_rfl))
  f167 := Tryz.func60.trans (congrArg some (by kernel_rfl))
  f168 := Tryz.func87.trans (congrArg some (by kernel_rfl))
  f169 := Tryz.func49.trans (congrArg some (by kernel_rfl))
  f197 := Tryz.func85.trans (congrArg some (by kernel_rfl))
  f230 := Tryz.func68.trans (congrArg some (by kernel_rfl))
  f240 := Tryz.func64.trans (congrArg some (by kernel_rfl))
  f241 := Tryz.func93.trans (congrArg some (by kernel_rfl))
  f242 := Tryz.func98.trans (congrArg some (by kernel_rfl))
  f260 := Tryz.func97.trans (congrArg some (by kernel_rfl))
  f270 := Tryz.func88.trans (congrArg some (by kernel_rfl))
  f276 := Tryz.func76.trans (congrArg some (by kernel_rfl))
  f277 := Tryz.func99.trans (congrArg some (by kernel_rfl))
  f278 := Tryz.func101.trans (congrArg some (by kernel_rfl))
  t0 := Tryz.underlying0
  a0 := Tryz.isAgg0
  z0 := Tryz.sizeOf0
  v0 := Tryz.zeroValue0
  t3 := Tryz.underlying3
  a3 := Tryz.isAgg3
  z3 := Tryz.sizeOf3
  v3 := Tryz.zeroValue3
  t4 := Tryz.underlying4
  a4 := Tryz.isAgg4
  z4 := Tryz.sizeOf4
  v4 := Tryz.zeroValue4
  t5 := Tryz.underlying5
  a5 := Tryz.isAgg5
  z5 := Tryz.sizeOf5
  v5 := Tryz.zeroValue5
  t9 := Tryz.underlying9
  a9 := Tryz.isAgg9
  z9 := Tryz.sizeOf9
  v9 := Tryz.zeroValue9
  t20 := Tryz.underlying20
  a20 := Tryz.isAgg20
  z20 := Tryz.sizeOf20
  v20 := Tryz.zeroValue20
  t21 := Tryz.underlying21
  a21 := Tryz.isAgg21
  z21 := Tryz.sizeOf21
  v21 := Tryz.zeroValue21
  t37 := Tryz.underlying59
  a37 := Tryz.isAgg59
  z37 := Tryz.sizeOf59
  v37 := Tryz.zeroValue59
  t46 := Tryz.underlying105
  a46 := Tryz.isAgg105
  z46 := Tryz.sizeOf105
  v46 := Tryz.zeroValue105
  t51 := Tryz.underlying22
  a51 := Tryz.isAgg22
  z51 := Tryz.sizeOf22
  v51 := Tryz.zeroValue22
  t70 := Tryz.underlying58
  a70 := Tryz.isAgg58
  z70 := Tryz.sizeOf58
  v70 := Tryz.zeroValue58
  t72 := Tryz.underlying61
  a72 := Tryz.isAgg61
  z72 := Tryz.sizeOf61
  v72 := Tryz.zeroValue61
  t75 := Tryz.underlying92
  a75 := Tryz.isAgg92
  z75 := Tryz.sizeOf92
  v75 := Tryz.zeroValue92
  t76 := Tryz.underlying93
  a76 := Tryz.isAgg93
  z76 := Tryz.sizeOf93
  v76 := Tryz.zeroValue93
  t105 := Tryz.underlying140
  a105 := Tryz.isAgg140
  z105 := Tryz.sizeOf140
  v105 := Tryz.zeroValue140
  t107 := Tryz.underlying124
  a107 := Tryz.isAgg124
  z107 := Tryz.sizeOf124
  v107 := Tryz.zeroValue124
  t119 := Tryz.underlying151
  a119 := Tryz.isAgg151
  z119 := Tryz.sizeOf151
  t127 := Tryz.underlying116
  a127 := Tryz.isAgg116
  z127 := Tryz.sizeOf116
  v127 := Tryz.zeroValue116
  t138 := Tryz.underlying153
  a138 := Tryz.isAgg153
  z138 := Tryz.sizeOf153
  v138 := Tryz.zeroValue153
  t139 := Tryz.underlying154
  a139 := Tryz.isAgg154
  z139 := Tryz.sizeOf154
  v139 := Tryz.zeroValue154
  t164 := Tryz.underlying133
  a164 := Tryz.isAgg133
  z164 := Tryz.sizeOf133
  v164 := Tryz.zeroValue133
  g3 := by kernel_rfl
  g4 := by kernel_rfl }
theorem Tryz.extra230 : Builder.Extra Tryz.prog Tryz.lays230_ren := {
  sizeBuilder := by kernel_rfl
  liesBuilder := by kernel_rfl
  t5 := Tryz.lays230.t5
  a5 := Tryz.lays230.a5
  z5 := Tryz.lays230.z5
  v5 := Tryz.lays230.v5
  infoByte := by kernel_rfl
  cellsByte := by kernel_rfl
  sizeByte := by kernel_rfl
  neB5 := by decide }
theorem enc_kit {r : Nat} (h : Rn r) : Lib.encodeRune (r : Int) = enc r := by
  obtain ⟨h1, h2⟩ := h
  have cv : ∀ n : Nat, ((n : Int).toNat.toUInt8) = UInt8.ofNat n := fun n => by rw [Int.toNat_natCast]
  unfold Lib.encodeRune Lib.encodeRuneZ enc
  by_cases a : r < 128
  · rw [if_pos (by omega), if_pos a, List.map_cons, List.map_nil, cv]
  by_cases b : r < 2048
  · rw [if_neg (by omega), if_pos (by omega), if_neg a, if_pos b]
    simp only [List.map_cons, List.map_nil]
    rw [show (192 : Int) + (r : Int) / 64 = ((192 + r / 64 : Nat) : Int) by omega, show (128 : Int) + (r : Int) % 64 = ((128 + r % 64 : Nat) : Int) by omega, cv, cv]
  by_cases c : r < 65536
  · rw [if_neg (by omega), if_neg (by omega), if_pos (by omega), if_neg a, if_neg b, if_pos c]
    simp only [List.map_cons, List.map_nil]
    rw [show (224 : Int) + (r : Int) / 4096 = ((224 + r / 4096 : Nat) : Int) by omega, show (128 : Int) + (r : Int) / 64 % 64 = ((128 + r / 64 % 64 : Nat) : Int) by omega, show (128 : Int) + (r : Int) % 64 = ((128 + r % 64 : Nat) : Int) by omega, cv, cv, cv]
  · rw [if_neg (by omega), if_neg (by omega), if_neg (by omega), if_pos (by omega), if_neg a, if_neg b, if_neg c]
    simp only [List.map_cons, List.map_nil]
    rw [show (240 : Int) + (r : Int) / 262144 = ((240 + r / 262144 : Nat) : Int) by omega, show (128 : Int) + (r : Int) / 4096 % 64 = ((128 + r / 4096 % 64 : Nat) : Int) by omega, show (128 : Int) + (r : Int) / 64 % 64 = ((128 + r / 64 % 64 : Nat) : Int) by omega, show (128 : Int) + (r : Int) % 64 = ((128 + r % 64 : Nat) : Int) by omega, cv, cv, cv, cv]
def smallZ (z : Int) : Int := (small z.toNat : Int)
theorem mapGo_eq : ∀ (l : List Nat), (∀ r ∈ l, Rn r) → ∀ n, (unr l).length ≤ n → Lib.mapGoD smallZ n (unr l) = unr (l.map small)
  | [], _, n, _ => by cases n <;> rfl
  | r :: l, h, 0, hn => by
    have := List.length_pos_iff.2 (enc_ne r)
    rw [unr_cons, List.length_append] at hn; omega
  | r :: l, h, n + 1, hn => by
    have hr := h r (.head _)
    have := List.length_pos_iff.2 (enc_ne r)
    have hd : Lib.decodeL (enc r ++ unr l) = (r, (enc r).length) := dec_enc hr (unr l)
    rw [unr_cons, List.length_append] at hn
    rw [Lib.mapGoD, unr_cons, if_neg (by simp [enc_ne]), hd]
    dsimp only
    have hz : smallZ (r : Int) = ((small r : Nat) : Int) := by unfold smallZ; rw [Int.toNat_natCast]
    rw [List.drop_left, mapGo_eq l (fun x hx => h x (.tail _ hx)) n (by omega), hz, if_pos (Int.natCast_nonneg _), List.map_cons, unr_cons, enc_kit (rn_small hr)]
theorem map_ct (F : Hp) (hA : Cells F ⟨1, 0, none⟩ alphaV) (hT : TabsF F) (s : List UInt8) (hs : s.length ≤ 1000000) (hv : vld s = true) : Ct Tryz.prog 68 [.func (.func 69) #[] #[], Str s] [F] (fun _ : Unit => Str (unr ((rl s).map small))) (fun _ => True) (fun _ => [F]) := Ct.ofBelow fun w hw => by
  have h := Any.strings_Map_grows Tryz.lays230 Tryz.extra230 69 #[] ent69 smallZ ⟨s.toArray⟩ w (by rw [size_mk]; omega) (by
    intro W x hx hb
    have hW : Le F (hp W) := fun g o ho => by
      have h1 := hw g o ho
      show W.heap[g]? = some o
      rw [hb.block g (hp_lt h1)]; exact h1
    have hc := Ct.below (small_ct (hp W) (hA.mono hW) x (by omega))
    have hz : smallZ (x : Int) = ((small x : Nat) : Int) := by unfold smallZ; rw [Int.toNat_natCast]
    rw [hz]
    exact hc) (by
    intro x hx
    have := small_le x
    have hz : smallZ (x : Int) = ((small x : Nat) : Int) := by unfold smallZ; rw [Int.toNat_natCast]
    rw [hz]
    exact ⟨by omega, by omega⟩) (hT.tabs hw)
  have e : Lib.mapD smallZ s = unr ((rl s).map small) := by
    obtain ⟨h1, h2⟩ := vld_runes hv
    have := mapGo_eq (rl s) h1 s.length (by rw [← h2]; exact Nat.le_refl _)
    rw [← h2] at this; exact this
  rw [e] at h
  exact h

end Go.Proofs.YtnkfapecbmmpeaaGreatDoor
