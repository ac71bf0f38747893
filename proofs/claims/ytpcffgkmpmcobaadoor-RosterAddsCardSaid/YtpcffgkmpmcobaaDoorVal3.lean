/- A part of the proof: contracts of functions of the program, each for every state of the heaps that it names. -/
import Derived.Test.YtpcffgkmpmcobaaDoorLab
import Derived.Shelf.Strings.MapGrows
set_option linter.unusedSimpArgs false
set_option linter.unusedVariables false
namespace Go.Proofs.YtpcffgkmpmcobaaDoor
open Go Go.Fw
set_option maxRecDepth 100000
set_option maxHeartbeats 1000000
open Go.Shelf Go.RowKit
def Tryd.lays230_ren : Go.Shelf.Ren := ⟨fun | 230 => 82 | 197 => 89 | 118 => 88 | 165 => 124 | 166 => 125 | 168 => 126 | 270 => 127 | 167 => 128 | 169 => 129 | 260 => 131 | 240 => 155 | 241 => 156 | 242 => 157 | 276 => 182 | 277 => 183 | 278 => 184 | n => n, fun | 107 => 34 | 9 => 9 | 72 => 173 | 0 => 0 | 4 => 4 | 3 => 3 | 21 => 21 | 105 => 123 | 76 => 177 | 5 => 5 | 75 => 176 | 70 => 171 | 20 => 20 | 37 => 66 | 127 => 211 | 119 => 182 | 46 => 159 | 139 => 185 | 138 => 184 | 164 => 244 | 51 => 217 | 80 => 79 | n => n, fun | 3 => 1 | 4 => 2 | n => n⟩
theorem Tryd.lays230 : Go.Proofs.Lays.n230 Tryd.prog Tryd.lays230_ren := {
  mixed := by kernel_rfl
  f118 := Tryd.func88.trans (congrArg some (by kernel_rfl))
  f165 := Tryd.func124.trans (congrArg some (by kernel_rfl))
  f166 := Tryd.func125.trans (congrArg some (by kernel_rfl))
  f167 := Tryd.func128.trans (congrArg some (by kernel_rfl))
  f168 := Tryd.func126.trans (congrArg some (by kernel_rfl))
  f169 := Tryd.func129.trans (congrArg some (by kernel_rfl))
  f197 := Tryd.func89.trans (congrArg some (by kernel_rfl))
  f230 := Tryd.func82.trans (congrArg some (by kernel_rfl))
  f240 := Tryd.func155.trans (congrArg some (by kernel_rfl))
  f241 := Tryd.func156.trans (congrArg some (by kernel_rfl))
  f242 := Tryd.func157.trans (congrArg some (by kernel_rfl))
  f260 := Tryd.func131.trans (congrArg some (by kernel_rfl))
  f270 := Tryd.func127.trans (congrArg some (by kernel_rfl))
  f276 := Tryd.func182.trans (congrArg some (by kernel_rfl))
  f277 := Tryd.func183.trans (congrArg some (by kernel_rfl))
  f278 := Tryd.func184.trans (congrArg some (by kernel_rfl))
  t0 := Tryd.underlying0
  a0 := Tryd.isAgg0
  z0 := Tryd.sizeOf0
  v0 := Tryd.zeroValue0
  t3 := Tryd.underlying3
  a3 := Tryd.isAgg3
  z3 := Tryd.sizeOf3
  v3 := Tryd.zeroValue3
  t4 := Tryd.underlying4
  a4 := Tryd.isAgg4
  z4 := Tryd.sizeOf4
  v4 := Tryd.zeroValue4
  t5 := Tryd.underlying5
  a5 := Tryd.isAgg5
  z5 := Tryd.sizeOf5
  v5 := Tryd.zeroValue5
  t9 := Tryd.underlying9
  a9 := Tryd.isAgg9
  z9 := Tryd.sizeOf9
  v9 := Tryd.zeroValue9
  t20 := Tryd.underlying20
  a20 := Tryd.isAgg20
  z20 := Tryd.sizeOf20
  v20 := Tryd.zeroValue20
  t21 := Tryd.underlying21
  a21 := Tryd.isAgg21
  z21 := Tryd.sizeOf21
  v21 := Tryd.zeroValue21
  t37 := Tryd.underlying66
  a37 := Tryd.isAgg66
  z37 := Tryd.sizeOf66
  v37 := Tryd.zeroValue66
  t46 := Tryd.underlying159
  a46 := Tryd.isAgg159
  z46 := Tryd.sizeOf159
  v46 := Tryd.zeroValue159
  t51 := Tryd.underlying217
  a51 := Tryd.isAgg217
  z51 := Tryd.sizeOf217
  v51 := Tryd.zeroValue217
  t70 := Tryd.underlying171
  a70 := Tryd.isAgg171
  z70 := Tryd.sizeOf171
  v70 := Tryd.zeroValue171
  t72 := Tryd.underlying173
  a72 := Tryd.isAgg173
  z72 := Tryd.sizeOf173
  v72 := Tryd.zeroValue173
  t75 := Tryd.underlying176
  a75 := Tryd.isAgg176
  z75 := Tryd.sizeOf176
  v75 := Tryd.zeroValue176
  t76 := Tryd.underlying177
  a76 := Tryd.isAgg177
  z76 := Tryd.sizeOf177
  v76 := Tryd.zeroValue177
  t105 := Tryd.underlying123
  a105 := Tryd.isAgg123
  z105 := Tryd.sizeOf123
  v105 := Tryd.zeroValue123
  t107 := Tryd.underlying34
  a107 := Tryd.isAgg34
  z107 := Tryd.sizeOf34
  v107 := Tryd.zeroValue34
  t119 := Tryd.underlying182
  a119 := Tryd.isAgg182
  z119 := Tryd.sizeOf182
  t127 := Tryd.underlying211
  a127 := Tryd.isAgg211
  z127 := Tryd.sizeOf211
  v127 := Tryd.zeroValue211
  t138 := Tryd.underlying184
  a138 := Tryd.isAgg184
  z138 := Tryd.sizeOf184
  v138 := Tryd.zeroValue184
  t139 := Tryd.underlying185
  a139 := Tryd.isAgg185
  z139 := Tryd.sizeOf185
  v139 := Tryd.zeroValue185
  t164 := Tryd.underlying244
  a164 := Tryd.isAgg244
  z164 := Tryd.sizeOf244
  v164 := Tryd.zeroValue244
  g3 := by kernel_rfl
  g4 := by kernel_rfl }
theorem Tryd.extra230 : Builder.Extra Tryd.prog Tryd.lays230_ren := {
  sizeBuilder := by kernel_rfl
  liesBuilder := by kernel_rfl
  t5 := Tryd.lays230.t5
  a5 := Tryd.lays230.a5
  z5 := Tryd.lays230.z5
  v5 := Tryd.lays230.v5
  infoByte := by kernel_rfl
  cellsByte := by kernel_rfl
  sizeByte := by kernel_rfl
  neB5 := by decide }
theorem enc_kit {r : Nat} (h : Rn r) : Lib.encodeRune (r : Int) = enc r := by
  obtain ⟨h1, h2⟩ := h
  have cv : ∀ n : Nat, ((n : Int).toNat.toUInt8) = UInt8.ofNat n := fun n => by rw [Int.toNat_natCast]
  unfold Lib.encodeRune Lib.encodeRuneZ enc
  by_cases a : r < 128
  · rw [if_pos (by omega), if_pos a, List.map_cons, List.map_nil, cv]
  by_cases b : r < 2048
  · rw [if_neg (by omega), if_pos (by omega), if_neg a, if_pos b]
    simp only [List.map_cons, List.map_nil]
    rw [show (192 : Int) + (r : Int) / 64 = ((192 + r / 64 : Nat) : Int) by omega, show (128 : Int) + (r : Int) % 64 = ((128 + r % 64 : Nat) : Int) by omega, cv, cv]
  by_cases c : r < 65536
  · rw [if_neg (by omega), if_neg (by omega), if_pos (by omega), if_neg a, if_neg b, if_pos c]
    simp only [List.map_cons, List.map_nil]
    rw [show (224 : Int) + (r : Int) / 4096 = ((224 + r / 4096 : Nat) : Int) by omega, show (128 : Int) + (r : Int) / 64 % 64 = ((128 + r / 64 % 64 : Nat) : Int) by omega, show (128 : Int) + (r : Int) % 64 = ((128 + r % 64 : Nat) : Int) by omega, cv, cv, cv]
  · rw [if_neg (by omega), if_neg (by omega), if_neg (by omega), if_pos (by omega), if_neg a, if_neg b, if_neg c]
    simp only [List.map_cons, List.map_nil]
    rw [show (240 : Int) + (r : Int) / 262144 = ((240 + r / 262144 : Nat) : Int) by omega, show (128 : Int) + (r : Int) / 4096 % 64 = ((128 + r / 4096 % 64 : Nat) : Int) by omega, show (128 : Int) + (r : Int) / 64 % 64 = ((128 + r / 64 % 64 : Nat) : Int) by omega, show (128 : Int) + (r : Int) % 64 = ((128 + r % 64 : Nat) : Int) by omega, cv, cv, cv, cv]
def smallZ (z : Int) : Int := (small z.toNat : Int)
theorem mapGo_eq : ∀ (l : List Nat), (∀ r ∈ l, Rn r) → ∀ n, (unr l).length ≤ n → Lib.mapGoD smallZ n (unr l) = unr (l.map small)
  | [], _, n, _ => by cases n <;> rfl
  | r :: l, h, 0, hn => by
    have := List.length_pos_iff.2 (enc_ne r)
    rw [unr_cons, List.length_append] at hn; omega
  | r :: l, h, n + 1, hn => by
    have hr := h r (.head _)
    have := List.length_pos_iff.2 (enc_ne r)
    have hd : Lib.decodeL (enc r ++ unr l) = (r, (enc r).length) := dec_enc hr (unr l)
    rw [unr_cons, List.length_append] at hn
    rw [Lib.mapGoD, unr_cons, if_neg (by simp [enc_ne]), hd]
    dsimp only
    have hz : smallZ (r : Int) = ((small r : Nat) : Int) := by unfold smallZ; rw [Int.toNat_natCast]
    rw [List.drop_left, mapGo_eq l (fun x hx => h x (.tail _ hx)) n (by omega), hz, if_pos (Int.natCast_nonneg _), List.map_cons, unr_cons, enc_kit (rn_small hr)]
theorem map_ct (F : Hp) (hA : Cells F ⟨0, 0, none⟩ alphaV) (hT : TabsF F) (s : List UInt8) (hs : s.length ≤ 1000000) (hv : vld s = true) : Ct Tryd.prog 82 [.func (.func 21) #[] #[], Str s] [F] (fun _ : Unit => Str (unr ((rl s).map small))) (fun _ => True) (fun _ => [F]) := Ct.ofBelow fun w hw => by
  have h := Any.strings_Map_grows Tryd.lays230 Tryd.extra230 21 #[] ent21 smallZ ⟨s.toArray⟩ w (by rw [size_mk]; omega) (by
    intro W x hx hb
    have hW : Le F (hp W) := fun g o ho => by
      have h1 := hw g o ho
      show W.heap[g]? = some o
      rw [hb.block g (hp_lt h1)]; exact h1
    have hc := Ct.below (small_ct (hp W) (hA.mono hW) x (by omega))
    have hz : smallZ (x : Int) = ((small x : Nat) : Int) := by unfold smallZ; rw [Int.toNat_natCast]
    rw [hz]
    exact hc) (by
    intro x hx
    have := small_le x
    have hz : smallZ (x : Int) = ((small x : Nat) : Int) := by unfold smallZ; rw [Int.toNat_natCast]
    rw [hz]
    exact ⟨by omega, by omega⟩) (hT.tabs hw)
  have e : Lib.mapD smallZ s = unr ((rl s).map small) := by
    obtain ⟨h1, h2⟩ := vld_runes hv
    have := mapGo_eq (rl s) h1 s.length (by rw [← h2]; exact Nat.le_refl _)
    rw [← h2] at this; exact this
  rw [e] at h
  exact h

end Go.Proofs.YtpcffgkmpmcobaaDoor
