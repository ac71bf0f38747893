/- A part of the proof. -/
import Derived.Test.YtfldiegfenndjaaGreatDoorTopCcG26
import Derived.Shelf.Strings.MapGrows
import Derived.Test.YtfldiegfenndjaaGreatDoorTopCcG8
set_option linter.unusedSimpArgs false
set_option linter.unusedVariables false
namespace Go.Proofs.YtfldiegfenndjaaGreatDoor
open Go Go.Fw Go.Proofs.Tryz
set_option maxRecDepth 100000
set_option maxHeartbeats 1000000
open Go.Shelf Go.RowKit
def Tryz.lays230_ren : Go.Shelf.Ren := ⟨fun | 230 => 174 | 197 => 209 | 118 => 210 | 165 => 108 | 166 => 109 | 168 => 211 | 270 => 212 | 167 => 139 | 169 => 111 | 260 => 229 | 240 => 155 | 241 => 156 | 242 => 230 | 276 => 188 | 277 => 189 | 278 => 245 | n => n, fun | 107 => 281 | 9 => 9 | 72 => 186 | 0 => 0 | 4 => 4 | 3 => 3 | 21 => 21 | 105 => 317 | 76 => 213 | 5 => 5 | 75 => 212 | 70 => 184 | 20 => 20 | 37 => 88 | 127 => 265 | 119 => 333 | 46 => 94 | 139 => 336 | 138 => 335 | 164 => 294 | 51 => 246 | 80 => 47 | n => n, fun | 3 => 3 | 4 => 4 | n => n⟩
theorem Tryz.lays230 : Go.Proofs.Lays.n230 prog Tryz.lays230_ren := {
 mixed := by kernel_rfl
 f118 := func210.trans (congrArg some (by kernel_rfl))
 f165 := func108.trans (congrArg some (by kernel_rfl))
 f166 := func109.trans (congrArg some (by kernel_rfl))
 f167 := func139.trans (congrArg some (by kernel_rfl))
 f168 := func211.trans (congrArg some (by kernel_rfl))
 f169 := func111.trans (congrArg some (by kernel_rfl))
 f197 := func209.trans (congrArg some (by kernel_rfl))
 f230 := func174.trans (congrArg some (by kernel_rfl))
 f240 := func155.trans (congrArg some (by kernel_rfl))
 f241 := func156.trans (congrArg some (by kernel_rfl))
 f242 := func230.trans (congrArg some (by kernel_rfl))
 f260 := func229.trans (congrArg some (by kernel_rfl))
 f270 := func212.trans (congrArg some (by kernel_rfl))
 f276 := func188.trans (congrArg some (by kernel_rfl))
 f277 := func189.trans (congrArg some (by kernel_rfl))
 f278 := func245.trans (congrArg some (by kernel_rfl))
 t0 := u0_
 a0 := isAgg0
 z0 := sizeOf0
 v0 := e0_
 t3 := u3_
 a3 := b3_
 z3 := z3_
 v3 := e3_
 t4 := u4_
 a4 := b4_
 z4 := z4_
 v4 := e4_
 t5 := u5_
 a5 := b5_
 z5 := z5_
 v5 := e5_
 t9 := u9_
 a9 := b9_
 z9 := z9_
 v9 := e9_
 t20 := underlying20
 a20 := isAgg20
 z20 := sizeOf20
 v20 := zeroValue20
 t21 := underlying21
 a21 := isAgg21
 z21 := sizeOf21
 v21 := zeroValue21
 t37 := qBP
 a37 := qOa
 z37 := qIb
 v37 := zeroValue88
 t46 := qTO
 a46 := isAgg94
 z46 := sizeOf94
 v46 := qUJ
 t51 := qHh
 a51 := qCo
 z51 := qBz
 v51 := zeroValue246
 t70 := qKv
 a70 := isAgg184
 z70 := sizeOf184
 v70 := zeroValue184
 t72 := qC6
 a72 := isAgg186
 z72 := sizeOf186
 v72 := zeroValue186
 t75 := underlying212
 a75 := isAgg212
 z75 := sizeOf212
 v75 := zeroValue212
 t76 := underlying213
 a76 := isAgg213
 z76 := sizeOf213
 v76 := zeroValue213
 t105 := underlying317
 a105 := isAgg317
 z105 := sizeOf317
 v105 := zeroValue317
 t107 := underlying281
 a107 := isAgg281
 z107 := sizeOf281
 v107 := zeroValue281
 t119 := underlying333
 a119 := isAgg333
 z119 := sizeOf333
 t127 := underlying265
 a127 := isAgg265
 z127 := sizeOf265
 v127 := zeroValue265
 t138 := underlying335
 a138 := isAgg335
 z138 := sizeOf335
 v138 := zeroValue335
 t139 := underlying336
 a139 := isAgg336
 z139 := sizeOf336
 v139 := zeroValue336
 t164 := underlying294
 a164 := isAgg294
 z164 := sizeOf294
 v164 := zeroValue294
 g3 := by kernel_rfl
 g4 := by kernel_rfl }
theorem Tryz.extra230 : Builder.Extra prog Tryz.lays230_ren := {
 sizeBuilder := by kernel_rfl
 liesBuilder := by kernel_rfl
 t5 := Tryz.lays230.t5
 a5 := Tryz.lays230.a5
 z5 := Tryz.lays230.z5
 v5 := Tryz.lays230.v5
 infoByte := by kernel_rfl
 cellsByte := by kernel_rfl
 sizeByte := by kernel_rfl
 neB5 := by decide }
theorem qSw {r : Nat} (h : Rn r) : Lib.encodeRune (r : Int) = enc r := by
  obtain ⟨h1, h2⟩ := h
  have cv : ∀ n : Nat, ((n : Int).toNat.toUInt8) = UInt8.ofNat n := fun n => by rw [Int.toNat_natCast]
  unfold Lib.encodeRune Lib.encodeRuneZ enc
  by_cases a : r < 128
  · rw [if_pos (by omega), if_pos a, List.map_cons, List.map_nil, cv]
  by_cases b : r < 2048
  · rw [if_neg (by omega), if_pos (by omega), if_neg a, if_pos b]
    simp only [List.map_cons, List.map_nil]
    rw [show (192 : Int) + (r : Int) / 64 = ((192 + r / 64 : Nat) : Int) by omega, show (128 : Int) + (r : Int) % 64 = ((128 + r % 64 : Nat) : Int) by omega, cv, cv]
  by_cases c : r < 65536
  · rw [if_neg (by omega), if_neg (by omega), if_pos (by omega), if_neg a, if_neg b, if_pos c]
    simp only [List.map_cons, List.map_nil]
    rw [show (224 : Int) + (r : Int) / 4096 = ((224 + r / 4096 : Nat) : Int) by omega, show (128 : Int) + (r : Int) / 64 % 64 = ((128 + r / 64 % 64 : Nat) : Int) by omega, show (128 : Int) + (r : Int) % 64 = ((128 + r % 64 : Nat) : Int) by omega, cv, cv, cv]
  · rw [if_neg (by omega), if_neg (by omega), if_neg (by omega), if_pos (by omega), if_neg a, if_neg b, if_neg c]
    simp only [List.map_cons, List.map_nil]
    rw [show (240 : Int) + (r : Int) / 262144 = ((240 + r / 262144 : Nat) : Int) by omega, show (128 : Int) + (r : Int) / 4096 % 64 = ((128 + r / 4096 % 64 : Nat) : Int) by omega, show (128 : Int) + (r : Int) / 64 % 64 = ((128 + r / 64 % 64 : Nat) : Int) by omega, show (128 : Int) + (r : Int) % 64 = ((128 + r % 64 : Nat) : Int) by omega, cv, cv, cv, cv]
def qDw (z : Int) : Int := (small z.toNat : Int)
theorem qJ9 : ∀ (l : List Nat), (∀ r ∈ l, Rn r) → ∀ n, (unr l).length ≤ n → Lib.mapGoD qDw n (unr l) = unr (l.map small)
 | [], _, n, _ => by cases n <;> rfl
 | r :: l, h, 0, hn => by
  have := List.length_pos_iff.2 (qFf r)
  rw [qB8, List.length_append] at hn; omega
 | r :: l, h, n + 1, hn => by
  have hr := h r (.head _)
  have := List.length_pos_iff.2 (qFf r)
  have hd : Lib.decodeL (enc r ++ unr l) = (r, (enc r).length) := qFi hr (unr l)
  rw [qB8, List.length_append] at hn
  rw [Lib.mapGoD, qB8, if_neg (by simp [qFf]), hd]
  dsimp only
  have hz : qDw (r : Int) = ((small r : Nat) : Int) := by unfold qDw; rw [Int.toNat_natCast]
  rw [List.drop_left, qJ9 l (fun x hx => h x (.tail _ hx)) n (by omega), hz, if_pos (Int.natCast_nonneg _), List.map_cons, qB8, qSw (qPB hr)]
theorem qT4 (F : Hp) (hA : qAV F ⟨1, 0, none⟩ qBr) (hT : qCX F) (s : List UInt8) (hs : s.length ≤ 1000000) (hv : vld s = true) : Ct prog 174 [.func (.func 175) #[] #[], Str s] [F] (fun _ : Unit => Str (unr ((rl s).map small))) (fun _ => True) (fun _ => [F]) := Ct.ofBelow fun w hw => by
 have h := Any.strings_Map_grows Tryz.lays230 Tryz.extra230 175 #[] ent175 qDw ⟨s.toArray⟩ w (by rw [qCQ]; omega) (by
  intro W x hx hb
  have hW : Le F (hp W) := fun g o ho => by
   have h1 := hw g o ho
   show W.heap[g]? = some o
   rw [hb.block g (qEQ h1)]; exact h1
  have hc := Ct.below (qJe (hp W) (hA.mono hW) x (by omega))
  have hz : qDw (x : Int) = ((small x : Nat) : Int) := by unfold qDw; rw [Int.toNat_natCast]
  rw [hz]
  exact hc) (by
  intro x hx
  have := qOx x
  have hz : qDw (x : Int) = ((small x : Nat) : Int) := by unfold qDw; rw [Int.toNat_natCast]
  rw [hz]
  exact ⟨by omega, by omega⟩) (hT.tabs hw)
 have e : Lib.mapD qDw s = unr ((rl s).map small) := by
  obtain ⟨h1, h2⟩ := qMD hv
  have := qJ9 (rl s) h1 s.length (by rw [← h2]; exact Nat.le_refl _)
  rw [← h2] at this; exact this
 rw [e] at h
 exact h
end Go.Proofs.YtfldiegfenndjaaGreatDoor
namespace Go.Proofs.YtfldiegfenndjaaGreatDoor
open Go Go.Fw Go.Proofs.Tryz
set_option maxRecDepth 100000
set_option maxHeartbeats 1000000
theorem ent172 : qAC prog 172 := qAC.of func172 rfl (by kernel_rfl)
theorem ent173 : qAC prog 173 := qAC.of func173 rfl (by kernel_rfl)
theorem ent174 : qAC prog 174 := qAC.of func174 rfl (by kernel_rfl)
theorem ent205 : qAC prog 205 := qAC.of func205 rfl (by kernel_rfl)
theorem ent206 : qAC prog 206 := qAC.of func206 rfl (by kernel_rfl)
theorem ent207 : qAC prog 207 := qAC.of func207 rfl (by kernel_rfl)
theorem ent208 : qAC prog 208 := qAC.of func208 rfl (by kernel_rfl)
theorem qNV (F : Hp) (hA : qAV F ⟨1, 0, none⟩ qBr) (hT : qCX F) (s : List UInt8) (hs : s.length ≤ 1000000) : Ct prog 173 [Str (s)] [F] (fun _ : Unit => .bool (right s)) (fun _ => True) (fun _ => [F]) := by
 refine Ct.walk func173 rfl ntmps173 rfl (fun w0 hw0 => ?_)
 refine J.g fun K1 hK1 => J.b rfl <| J.c hK1 <| J.A 0 ?_
 refine J.k fun K2 hK2 => J.g fun K3 hK3 => J.b rfl <| J.u (qD2 rfl rfl u9_) rfl ?_
 rintro g8 _
 refine J.c hK3 <| J.M 0 8 ?_
 refine J.T <| J.b2 (X := Nat) (fun ζ => [(0, Str (s)), (8, Ptr g8)]) (fun ζ => [F, itr g8 s ζ]) (fun ζ => ζ ≤ s.length ∧ (rl (s.drop ζ)).all okR = (rl s).all okR) (fun ζ => s.length - ζ) 0 (⟨by omega, rfl⟩) ⟨rfl, rfl, trivial⟩ (fun _ h => h) ?_
 rintro p ⟨hp, he⟩ I0 hI0
 refine J.g fun K4 hK4 => J.u (qEp (i := 1) rfl rfl rfl) rfl ?_
 rintro _ _
 refine J.f (qAm rfl rfl (qPa _ _)) rfl <| J.c hK4 <| J.W 0 8 9 10 ?_
 refine J.k fun K5 hK5 => J.a0 rfl (fun h10 => ?_) (fun h10 => ?_)
 ·
  have hps : p < s.length := h10
  have hnp := qDC hps
  have hdl := qKN s p hps
  have hdr := qEy s p (by omega)
  have hdp := qDn s p (by omega)
  have hrl := qPD hps
  refine J.a1 hK5 <| J.V 0 8 9 ?_
  refine J.T <| J.g fun K6 hK6 => J.f (qAm rfl rfl (qSV hps)) rfl <| J.b rfl <| J.c hK6 <| J.V 0 4 8 ?_
  refine J.g fun K7 hK7 => J.b rfl <| J.u (qAB rfl rfl ent203 (Ct.use0 (fun F' hF => qIA F' (hA.mono (hF F (by simp))) ((dec s p).1) (by omega)))) rfl fun g13 _ => J.f (qAd rfl rfl rfl) rfl <| J.b rfl <| J.c3 (d := 15) rfl (fun h15 => ?_) (fun h15 => ?_)
  ·
   refine J.b rfl <| J.O (qAS rfl rfl rfl) rfl <| J.b rfl <| J.c3 (d := 18) rfl (fun h18 => ?_) (fun h18 => ?_)
   ·
    refine J.p 6 rfl <| J.d7 (qAB rfl rfl ent204 (Ct.use0 (fun F' hF => qMc F' ((dec s p).1)))) rfl fun g25 _ => J.O (qA2 rfl rfl) rfl <| J.b rfl <| J.c hK7 <| J.V 0 8 27 ?_
    refine J.d0 rfl (fun h27 => ?_) (fun h27 => ?_)
    ·
     refine J.g fun K8 hK8 => J.b rfl <| J.c hK8 <| J.A 2 ?_
     exact J.D <| J.b3 <| J.a5 <| J.b3 <| J.a5 <| J.L hw0 rfl () (by unfold right; rw [← he, hrl, List.all_cons, show okR (dec s p).1 = false from qQx (by omega) (by omega) (by simpa using h27)]; rfl) trivial [0] rfl (by decide)
    exact J.b7 <| J.a4 <| J.q <| J.a6 (qF1 s p) (fun η (hη : _ ∧ s.length - η < s.length - p) => hI0 η hη.1 hη.2) ⟨⟨by omega, by rw [← he, hrl, List.all_cons, show okR (dec s p).1 = true by first | exact qHF (by simpa using h27) | exact qHE (by omega)]; rfl⟩, by first | omega | (dsimp only; omega)⟩ ⟨rfl, rfl, trivial⟩ (fun _ h => h)
   refine J.b rfl <| J.O (qBJ rfl rfl rfl) rfl <| J.p 3 rfl <| J.c3 (d := 23) rfl (fun h23 => ?_) (fun h23 => ?_)
   ·
    refine J.b rfl <| J.d7 (qAB rfl rfl ent204 (Ct.use0 (fun F' hF => qMc F' ((dec s p).1)))) rfl fun g25 _ => J.O (qA2 rfl rfl) rfl <| J.b rfl <| J.c hK7 <| J.V 0 8 27 ?_
    refine J.d0 rfl (fun h27 => ?_) (fun h27 => ?_)
    ·
     refine J.g fun K9 hK9 => J.b rfl <| J.c hK9 <| J.A 2 ?_
     exact J.D <| J.b3 <| J.a5 <| J.b3 <| J.a5 <| J.L hw0 rfl () (by unfold right; rw [← he, hrl, List.all_cons, show okR (dec s p).1 = false from qQx (by omega) (by omega) (by simpa using h27)]; rfl) trivial [0] rfl (by decide)
    exact J.b7 <| J.a4 <| J.q <| J.a6 (qF1 s p) (fun η (hη : _ ∧ s.length - η < s.length - p) => hI0 η hη.1 hη.2) ⟨⟨by omega, by rw [← he, hrl, List.all_cons, show okR (dec s p).1 = true by first | exact qHF (by simpa using h27) | exact qHE (by omega)]; rfl⟩, by first | omega | (dsimp only; omega)⟩ ⟨rfl, rfl, trivial⟩ (fun _ h => h)
   refine J.p 4 rfl <| J.c hK7 <| J.V 0 8 27 ?_
   refine J.b6 ?_
   exact J.b7 <| J.a4 <| J.q <| J.a6 (qF1 s p) (fun η (hη : _ ∧ s.length - η < s.length - p) => hI0 η hη.1 hη.2) ⟨⟨by omega, by rw [← he, hrl, List.all_cons, show okR (dec s p).1 = true by first | exact qHF (by simpa using h27) | exact qHE (by omega)]; rfl⟩, by first | omega | (dsimp only; omega)⟩ ⟨rfl, rfl, trivial⟩ (fun _ h => h)
  refine J.p 3 rfl <| J.c9 (Wan.un rfl rfl rfl rfl) rfl rfl ?_
  refine J.c9 (Wan.un rfl rfl rfl rfl) rfl rfl ?_
  refine J.p 7 rfl <| J.c hK7 <| J.V 0 8 27 ?_
  refine J.b6 ?_
  exact J.b7 <| J.a4 <| J.q <| J.a6 (qF1 s p) (fun η (hη : _ ∧ s.length - η < s.length - p) => hI0 η hη.1 hη.2) ⟨⟨by omega, by rw [← he, hrl, List.all_cons, show okR (dec s p).1 = true by first | exact qHF (by simpa using h27) | exact qHE (by omega)]; rfl⟩, by first | omega | (dsimp only; omega)⟩ ⟨rfl, rfl, trivial⟩ (fun _ h => h)
 refine J.b0 <| J.Z <| J.Z <| J.b1 ?_
 refine J.q (J.H hK2 ?_)
 refine J.A 0 ?_
 refine J.k fun K10 hK10 => J.k fun K11 hK11 => ?_
 have hk1 : (rl s).all okR = true := by rw [← he, List.drop_of_length_le (by omega), qHs]; rfl
 refine J.E <| J.b rfl <| J.u (qAB rfl rfl ent205 (Ct.use (fun F' hF => qPL F' (hT.mono (hF F (by simp))) s (by omega)))) rfl ?_
 rintro ⟨A29, c29, m29⟩ h29
 try dsimp only at h29
 refine J.f (qAZ qAn rfl rfl) rfl <| J.b rfl <| J.c hK11 <| J.W 0 29 30 31 ?_
 refine J.T <| J.b2 (X := Nat) (fun ζ => [(0, Str (s)), (29, .slice A29 ((spl [] s).length) c29), (30, I (((spl [] s).length : Nat) : Int)), (31, I ((ζ : Nat) : Int))]) (fun ζ => [F, m29]) (fun ζ => ζ ≤ (spl [] s).length ∧ ((spl [] s).take ζ).all okP = true) (fun ζ => (spl [] s).length - ζ) 0 (⟨by omega, rfl⟩) ⟨rfl, rfl, rfl, rfl, trivial⟩ (fun _ h => h.pick [0, 2] (by decide)) ?_
 rintro k ⟨hk, hq⟩ I2 hI2
 refine J.g fun K12 hK12 => J.f (qAS rfl rfl rfl) rfl <| J.c hK12 <| J.a3 0 29 30 31 32 ?_
 refine J.k fun K13 hK13 => J.a0 rfl (fun h32 => ?_) (fun h32 => ?_)
 ·
  have hpn := qIo s []
  have hpl : ((spl [] s).getD k []).length ≤ 1000000 := Nat.le_trans (qRi s k) hs
  refine J.a1 hK13 <| J.W 0 29 30 31 ?_
  refine J.k fun K14 hK14 => J.T <| J.g fun K15 hK15 => J.f (qAG rfl rfl rfl qAn z9_ h29.sl (by omega)) rfl <| J.f (qAK rfl rfl b9_ (m := m29) (by simp) (h29.sl.elem (qAa (qAi [] (by omega))))) rfl <| J.b rfl <| J.c hK15 <| J.a3 0 6 29 30 31 ?_
  refine J.g fun K16 hK16 => J.b rfl <| J.f (qBM rfl rfl rfl) rfl <| J.b rfl <| J.c3 (d := 37) rfl (fun h37 => ?_) (fun h37 => ?_)
  ·
   refine J.p 5 rfl <| J.c hK16 <| J.a3 0 29 30 31 42 ?_
   refine J.d1 ?_
   refine J.g fun K17 hK17 => J.b rfl <| J.c hK17 <| J.A 2 ?_
   exact J.D <| J.b3 <| J.a5 <| J.a5 <| J.b3 <| J.a5 <| J.L hw0 rfl () (by unfold right; rw [qKM (k := k) (by omega) (by unfold okP; rw [h37]; rfl), Bool.and_false]; rfl) trivial [0] rfl (by decide)
  refine J.b rfl <| J.d7 (qAB rfl rfl ent207 (Ct.use0 (fun F' hF => qTG F' (hA.mono (hF F (by simp))) ((spl [] s).getD k []) (by omega)))) rfl fun g39 _ => J.d7 (qAB rfl rfl ent206 (Ct.use0 (fun F' hF => qTv F' (qHY (rl ((spl [] s).getD k [])) 0) (qOK _ _ (by omega))))) rfl fun g40 _ => J.O (qA2 rfl rfl) rfl <| J.b rfl <| J.c hK16 <| J.a3 0 29 30 31 42 ?_
  refine J.d0 rfl (fun h42 => ?_) (fun h42 => ?_)
  ·
   refine J.g fun K18 hK18 => J.b rfl <| J.c hK18 <| J.A 2 ?_
   exact J.D <| J.b3 <| J.a5 <| J.a5 <| J.b3 <| J.a5 <| J.L hw0 rfl () (by unfold right; rw [qKM (k := k) (by omega) (by unfold okP; rw [show good (qHY (rl ((spl [] s).getD k [])) 0) = false from by simpa using h42, Bool.and_false]), Bool.and_false]; rfl) trivial [0] rfl (by decide)
  refine J.b7 <| J.a4 <| J.q (J.H hK14 ?_)
  refine J.W 0 29 30 31 ?_
  exact J.E <| J.f ((qAO rfl rfl rfl (by omega)).nat (k + 1) (by omega)) rfl <| J.b rfl <| J.a2 <| J.q <| J.a6 (k + 1) (fun η (hη : _ ∧ (spl [] s).length - η < (spl [] s).length - k) => hI2 η hη.1 hη.2) ⟨⟨by omega, by rw [qOp (by omega), hq]; unfold okP; rw [decide_eq_true h37]; simpa using h42⟩, by first | omega | (dsimp only; omega)⟩ ⟨rfl, rfl, rfl, rfl, trivial⟩ (fun _ h => h)
 refine J.b0 <| J.Z <| J.Z <| J.b1 ?_
 refine J.q (J.H hK10 ?_)
 refine J.A 0 ?_
 refine J.k fun K19 hK19 => ?_
 have hk2 : (spl [] s).all okP = true := by rw [← hq, List.take_of_length_le (by omega)]
 refine J.E <| J.b rfl <| J.u (qAB rfl rfl ent208 (Ct.use0 (fun F' hF => qMg F' s (by omega)))) rfl fun g45 _ => J.f (qB4 rfl rfl rfl) rfl <| J.b rfl <| J.c hK19 <| J.A 2 ?_
 exact J.D <| J.L hw0 rfl () (by unfold right; rw [hk1, hk2]; exact congrArg Value.bool (decide_eq_decide.2 (by omega))) trivial [0] rfl (by decide)
theorem qNP (F : Hp) (hA : qAV F ⟨1, 0, none⟩ qBr) (hT : qCX F) (s : List UInt8) (hs : s.length ≤ 1000000) : Ct prog 130 [Str (s)] [F] (fun _ : Unit => .tuple #[Str ((normal s).1), I (((normal s).2 : Nat) : Int)]) (fun _ => True) (fun _ => [F]) := by
 refine Ct.walk func130 rfl ntmps130 rfl (fun w0 hw0 => ?_)
 refine J.g fun K1 hK1 => J.p 2 rfl <| J.c hK1 <| J.A 0 ?_
 refine J.g fun K2 hK2 => J.b rfl <| J.u (qAB rfl rfl ent172 (Ct.use0 (fun F' hF => qO7 F' (hT.mono (hF F (by simp))) s (by omega)))) rfl fun g8 _ => J.p 5 rfl <| J.c hK2 <| J.V 0 4 5 ?_
 refine J.k fun K3 hK3 => J.T <| J.g fun K4 hK4 => J.b rfl <| J.f (qA2 rfl rfl) rfl <| J.b rfl <| J.c hK4 <| J.V 0 4 11 ?_
 refine J.d0 rfl (fun h11 => ?_) (fun h11 => ?_)
 ·
  refine J.g fun K5 hK5 => J.p 2 rfl <| J.c hK5 <| J.M 2 3 ?_
  exact J.D <| J.b3 <| J.a5 <| J.c2 hw0 (fun _ _ h => h) (qDb rfl rfl rfl) (qBD () (by unfold normal; rw [if_neg (by simpa using h11)]; rfl) trivial [0] rfl (by decide))
 refine J.k fun K6 hK6 => ?_
 have hv : vld s = true := by simpa using h11
 refine J.E <| J.b rfl <| J.f (qBJ rfl rfl rfl) rfl <| J.b rfl <| J.c hK6 <| J.M 0 14 ?_
 refine J.a0 rfl (fun h14 => ?_) (fun h14 => ?_)
 ·
  refine J.k fun K7 hK7 => ?_
  rw [if_pos hv] at h14
  refine J.E <| J.p 2 rfl <| J.c hK7 <| J.M 2 3 ?_
  exact J.D <| J.b3 <| J.a5 <| J.c2 hw0 (fun _ _ h => h) (qDb rfl rfl rfl) (qBD () (by unfold normal; rw [if_pos hv, if_neg (by omega)]; rfl) trivial [0] rfl (by decide))
 refine J.k fun K8 hK8 => ?_
 rw [if_pos hv] at h14
 refine J.E <| J.b rfl <| J.u (qAB rfl rfl ent173 (Ct.use0 (fun F' hF => qNV F' (hA.mono (hF F (by simp))) (hT.mono (hF F (by simp))) s (by omega)))) rfl fun g19 _ => J.f (qA2 rfl rfl) rfl <| J.b rfl <| J.c hK8 <| J.M 0 17 ?_
 refine J.d0 rfl (fun h17 => ?_) (fun h17 => ?_)
 ·
  refine J.g fun K9 hK9 => J.p 2 rfl <| J.c hK9 <| J.M 2 3 ?_
  exact J.D <| J.b3 <| J.a5 <| J.c2 hw0 (fun _ _ h => h) (qDb rfl rfl rfl) (qBD () (by unfold normal; rw [if_pos hv, if_pos (by omega), if_neg (by simpa using h17)]; rfl) trivial [0] rfl (by decide))
 refine J.b7 <| J.a4 <| J.q (J.H hK3 ?_)
 refine J.A 0 ?_
 refine J.g fun K10 hK10 => J.b rfl <| J.u (qAB rfl rfl ent174 (Ct.use0 (fun F' hF => qT4 F' (hA.mono (hF F (by simp))) (hT.mono (hF F (by simp))) s (by omega) (by assumption)))) rfl fun g22 _ => J.p 2 rfl <| J.c hK10 <| J.M 2 3 ?_
 exact J.D <| J.c2 hw0 (fun _ _ h => h) (qDb rfl rfl rfl) (qBD () (by unfold normal; rw [if_pos hv, if_pos (by omega), if_pos (by simpa using h17)]; rfl) trivial [0] rfl (by decide))
end Go.Proofs.YtfldiegfenndjaaGreatDoor
