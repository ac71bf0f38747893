/- A part of the proof. -/
import Derived.Test.YtfldiegfenndjaaGreatDoorTopAkG25
import Derived.Test.YtfldiegfenndjaaGreatDoorTopAkG27
import Derived.Test.YtfldiegfenndjaaGreatDoorTopAkG23
import Derived.Test.YtfldiegfenndjaaGreatDoorTopAkG7
set_option linter.unusedSimpArgs false
set_option linter.unusedVariables false
namespace Go.Proofs.YtfldiegfenndjaaGreatDoor
open Go Go.Fw Go.Proofs.Tryz
set_option maxRecDepth 100000
set_option maxHeartbeats 1000000
theorem qKJ (F : Hp) (hK : KF F) (ep bd nm : Nat) (hd : List UInt8) (h1 : ep ≤ 4294967295) (h2 : bd < 16) (h3 : nm < 64) (h4 : hd.length = 16) (seed : List UInt8) (h i : Nat) (A1 : Option Addr) (n1 c1 : Nat) (hch : Sl F 1 A1 n1 c1 (qAI (sgC seed i (atM ep bd nm hd)))) (A2 : Option Addr) (n2 c2 : Nat) (hpt : Sl F 1 A2 n2 c2 (qAI (sgP seed h i))) (h6 : h ≤ 6) (hi : i < 2 ^ h) :
    Ct prog 25 [.agg #[N64 ep, I (bd : Nat), Str hd, I (nm : Nat), I ((i : Nat) : Int), .slice A1 n1 c1, .slice A2 n2 c2], .agg #[Str (Wo.opn seed), Str (Xm.root seed h), I ((h : Nat) : Int)]] [F] (fun _ : Unit => .bool true) (fun _ => True) (fun _ => [F]) := by
  have e1 : (sgC seed i (atM ep bd nm hd)).length = n1 := by have := hch.1; simpa [qAI] using this
  have e2 : (sgP seed h i).length = n2 := by have := hpt.1; simpa [qAI] using this
  rw [qLs] at e1
  rw [qLr] at e2
  subst e1
  subst e2
  have := qLB F hK ep bd nm hd h1 h2 h3 h4 (Wo.opn seed) (Xm.root seed h) i A1 c1 (sgC seed i (atM ep bd nm hd)) hch (qRg _ _ _) A2 h c2 (sgP seed h i) hpt (qRf seed hi) (by rw [Wo.opn_length]; decide) h6 hi
  have e : Wo.publicOf (Wo.opn seed) i (Wo.ends (Wo.opn seed) i (Wo.digs (Xm.digest (Wo.opn seed) i (atM ep bd nm hd))) (sgC seed i (atM ep bd nm hd)) 35) = Wo.pub seed i := Wo.recPub seed i _ (by rw [Xm.digest_length]; decide)
  rw [e, qJC seed h i hi, decide_eq_true rfl] at this
  exact this
attribute [local irreducible] Sha.tagged Wo.pub Wo.publicOf Wo.signs Wo.ends Wo.digs Wo.walk Wo.opn Mk.root Mk.path Mk.climb Xm.root sgC sgP qBf prt
structure qSa (R : List UInt8) : Prop where
 a : (qBE (Dk.new 40) (sX0 8) R).2 = 0
 ok : (qBE (Dk.new 40) (sX0 8) R).1.ok
 off : (qBE (Dk.new 40) (sX0 8) R).1.off = false
 armed : (qBE (Dk.new 40) (sX0 8) R).1.armed = false
 wait : (qBE (Dk.new 40) (sX0 8) R).1.wait = []
 len : (qBE (Dk.new 40) (sX0 8) R).1.last.length = 40
 keep : (qBE (Dk.new 40) (sX0 8) R).1.keep = []
 dg : ∃ O, DG 0 40 O (qBE (Dk.new 40) (sX0 8) R).1 0
 b : (qBE (qBE (Dk.new 40) (sX0 8) R).1 (sX0 0) (qBf 0)).2 = 0
 off2 : (qBE (qBE (Dk.new 40) (sX0 8) R).1 (sX0 0) (qBf 0)).1.off = false
 dg2 : ∃ O, DG 0 40 O (qBE (qBE (Dk.new 40) (sX0 8) R).1 (sX0 0) (qBf 0)).1 1
theorem ok40 : (Dk.new 40).ok := Dk.new_ok (by decide) (by decide)
theorem XG_00 : XG 0 0 = sX0 0 := rfl
theorem qPn {R : List UInt8} (hR : R.length ≤ 39) : qSa R := by
 have c1 := qKC ok40 rfl rfl rfl (X := sX0 8) (s := R) hR (by decide) (by decide) (by decide)
 obtain ⟨h1, h2, h3, h4, h5, h6, h7⟩ := c1
 have hl : (qBE (Dk.new 40) (sX0 8) R).1.last = (Dk.new 40).last.set 8 (T1 (qLI (sX0 8).t) (sX0 8).R.length R) := by rw [qHT ok40 rfl rfl rfl hR (by decide) (by decide) (by decide)]; rfl
 have hd0 : DG 0 40 (fun _ => zS) (Dk.new 40) 0 := DG.new (by decide) (by decide) (by decide)
 have hd1 := hd0.other h2 h5 hl (by decide) (by decide)
 have c2 := qKC h2 h3 h4 h5 (X := sX0 0) (s := qBf 0) (qGG 0) (by decide) (by decide) (by rw [h6]; decide)
 have hg : qEl 0 (qBE (Dk.new 40) (sX0 8) R).1 0 = qBE (qBE (Dk.new 40) (sX0 8) R).1 (sX0 0) (qBf 0) := by
  unfold qEl; rw [if_neg (by decide), XG_00]
 have hw := qLW hd1 (by decide) h3
 rw [hg] at hw
 exact ⟨h1, h2, h3, h4, h5, h6, h7, ⟨_, hd1⟩, c2.1, (hw.1 c2.1).1, ⟨_, (hw.1 c2.1).2⟩⟩
theorem qEW (F md mm : Hp) (hK : KF F) (x : Hd) (A : Option Addr) (c : Nat) (hg : x.good) (hsl : Sl F 1 A x.nodes.length c (qAI x.nodes)) (y : Hd) (B : Option Addr) (e : Nat) (hgy : y.good) (hsy : Sl F 1 B y.nodes.length e (qAI y.nodes)) (b : Nat) (dp : Int) (old nw : List UInt8) (As : Option Addr) (ns cs : Nat) (ck : Int) (hC : ∀ F' : Hp, Le F F' → Ct prog 120 [.agg #[I ((b : Nat) : Int), I dp, Str old, Str nw, .slice As ns cs]] [F'] (fun _ : Unit => I ck) (fun _ => True) (fun _ => [F'])) (hix : x.next y = 0 → ck = 0 → dp = y.dep → b < x.nodes.length ∧ b < y.nodes.length) (ga gs gq gm gk gb gd : Nat) (seed : List UInt8) (kh : Nat) (hk : qJM F gk seed kh) (hsd : seed.length ≤ 1048576) (h6 : kh ≤ 6)
    (hA : qAQ F ⟨ga, 0, none⟩ [Ptr gs, I ((2 ^ kh : Nat) : Int), Ptr gq, .map (some gm)]) (hM : qDF plK mm gm (mkV [])) (hE : qFm x y ck b dp old nw = 0) (h1 : y.ep ≤ 4294967295) (h2 : b < 16) (nm : Nat) (h3 : nm < 64) (h4 : y.dig.length = 16) (Ab : Option Addr) (cb : Nat) (Aq : Option Addr) (cq : Nat) (hbR : Sl F 1 Ab (sX0 0).R.length cb (qAI (sX0 0).R)) (hqR : Sl F 1 Aq (sX0 8).R.length cq (qAI (sX0 8).R)) (hb : Dsk md gd (Dk.new 40) none 0) :
    Ct prog 19 [Ptr ga, I ((nm : Nat) : Int), .agg #[N64 x.ep, Str x.par, I x.dep, I x.aud, .slice A x.nodes.length c], .agg #[N64 y.ep, Str y.par, I y.dep, I y.aud, .slice B y.nodes.length e], .agg #[I ((b : Nat) : Int), I dp, Str old, Str nw, .slice As ns cs]] [blk gs [Ptr gk, Ptr gb, I ((0 : Nat) : Int)] 216, blk gb (bkC gd 0 (8 / 2) (sX0 0) Ab cb false) 223, blk gq (bkC gd 8 16 (sX0 8) Aq cq false) 223, md, mm, F]
      (fun r : ((Hp × Option Addr × Nat × Hp) × Hp) × ((Hp × Option Addr × Nat × Hp) × ((Option Addr × Nat × Hp) × (Option Addr × Nat × Hp))) => .tuple #[.agg #[N64 y.ep, I ((b : Nat) : Int), Str y.dig, I ((nm : Nat) : Int), I ((0 : Nat) : Int), .slice r.2.2.1.1 (sgC seed 0 (atM y.ep b nm y.dig)).length r.2.2.1.2.1, .slice r.2.2.2.1 (sgP seed kh 0).length r.2.2.2.2.1], I ((0 : Nat) : Int)])
      (fun r => Dsk r.2.1.1 gd (qBE (qBE (Dk.new 40) (sX0 8) (mkB y.ep b y.dig)).1 (sX0 0) (qBf 0)).1 none 0 ∧ qDF plK r.1.2 gm (mkV [((y.ep, ((b : Nat) : Int)), y.dig)]) ∧ Row r.2.2.1.2.2 9 1 r.2.2.1.1 (sgC seed 0 (atM y.ep b nm y.dig)).length r.2.2.1.2.1 (qAI (sgC seed 0 (atM y.ep b nm y.dig))) ∧ Row r.2.2.2.2.2 9 1 r.2.2.2.1 (sgP seed kh 0).length r.2.2.2.2.1 (qAI (sgP seed kh 0)))
      (fun r => [blk gs [Ptr gk, Ptr gb, I ((0 + 1 : Nat) : Int)] 216, blk gb (bkC gd 0 (8 / 2) (qC3 (sX0 0) (qBf 0)) r.2.1.2.1 r.2.1.2.2.1 false) 223, blk gq (bkC gd 8 16 (qC3 (sX0 8) (mkB y.ep b y.dig)) r.1.1.2.1 r.1.1.2.2.1 false) 223, r.2.1.1, r.1.2, F, r.1.1.2.2.2, r.2.1.2.2.2, r.2.2.1.2.2, r.2.2.2.2.2]) := by
  have hp64 := Xm.pow_le kh h6
  have hpos : 0 < 2 ^ kh := Nat.two_pow_pos kh
  have hRl : (mkB y.ep b y.dig).length ≤ 39 := by rw [qIy, h4]; decide
  have hc := qPn hRl
  have h := qLC (X := Hp × Option Addr × Nat × Hp) (Y := (Hp × Option Addr × Nat × Hp) × ((Option Addr × Nat × Hp) × (Option Addr × Nat × Hp))) F (blk gq (bkC gd 8 16 (sX0 8) Aq cq false) 223) md mm hK x A c hg hsl y B e hgy hsy b dp old nw As ns cs ck hC hix ga gs gq (2 ^ kh) gm hA gk gb 0 (by omega) (by decide) hpos [] hM rfl hE h1 h2 nm h3 h4
    (fun x => Dsk x.1 gd (qBE (Dk.new 40) (sX0 8) (mkB y.ep b y.dig)).1 none 0 ∧ Row x.2.2.2 9 1 x.2.1 (qC3 (sX0 8) (mkB y.ep b y.dig)).R.length x.2.2.1 (qAI (qC3 (sX0 8) (mkB y.ep b y.dig)).R)) (fun x => blk gq (bkC gd 8 16 (qC3 (sX0 8) (mkB y.ep b y.dig)) x.2.1 x.2.2.1 false) 223) (fun x => x.1) (fun x => x.2.2.2)
    (fun F' hF => qHi F' md (hK.mono hF) gq gd 8 16 (sX0 8) Aq cq (hqR.mono hF) (Dk.new 40) none 0 hb ok40 (by decide) Sl.nil (by decide) (mkB y.ep b y.dig) (by omega) (by decide) (by decide) (by decide) (by rw [qBn hRl]; decide) hc.a)
    (blk gb (bkC gd 0 (8 / 2) (sX0 0) Ab cb false) 223) (fun z => (Dsk z.1.1 gd (qBE (qBE (Dk.new 40) (sX0 8) (mkB y.ep b y.dig)).1 (sX0 0) (qBf 0)).1 none 0 ∧ Row z.1.2.2.2 9 1 z.1.2.1 (qC3 (sX0 0) (qBf 0)).R.length z.1.2.2.1 (qAI (qC3 (sX0 0) (qBf 0)).R)) ∧ Row z.2.1.2.2 9 1 z.2.1.1 (sgC seed 0 (atM y.ep b nm y.dig)).length z.2.1.2.1 (qAI (sgC seed 0 (atM y.ep b nm y.dig))) ∧ Row z.2.2.2.2 9 1 z.2.2.1 (sgP seed kh 0).length z.2.2.2.1 (qAI (sgP seed kh 0)))
    (fun z => z.2.1.1) (fun z => z.2.2.1) (fun z => z.2.1.2.1) (fun z => z.2.2.2.1) (sgC seed 0 (atM y.ep b nm y.dig)).length (sgP seed kh 0).length (fun z => blk gb (bkC gd 0 (8 / 2) (qC3 (sX0 0) (qBf 0)) z.1.2.1 z.1.2.2.1 false) 223) (fun z => z.1.1) (fun z => z.1.2.2.2) (fun z => z.2.1.2.2) (fun z => z.2.2.2.2)
    (fun q hq F' hF => qNm F' (blk gb (bkC gd 0 (8 / 2) (sX0 0) Ab cb false) 223) q.1 gs gk gb 0 (hK.mono hF) seed kh (hk.mono hF) hsd h6 hpos (atM y.ep b nm y.dig) (by rw [qHJ]; decide) _ _ _ _
      (fun F2 h2' => qHi F2 q.1 (hK.mono (hF.trans h2')) gb gd 0 (8 / 2) (sX0 0) Ab cb (hbR.mono (hF.trans h2')) (qBE (Dk.new 40) (sX0 8) (mkB y.ep b y.dig)).1 none 0 hq.1 hc.ok (by rw [hc.wait]; decide) (by rw [hc.keep]; exact Sl.nil) (by rw [hc.keep]; decide) (qBf 0) (by rw [qBr]; decide) (by decide) (by decide) (by decide) (by rw [qBn (qGG 0)]; decide) hc.b))
  exact h.mono id (fun _ _ => rfl) (fun r hr => ⟨hr.2.2.1.1, hr.2.1, hr.2.2.2.1, hr.2.2.2.2⟩) (fun _ _ _ _ hs => hs)
end Go.Proofs.YtfldiegfenndjaaGreatDoor
namespace Go.Proofs.YtfldiegfenndjaaGreatDoor
open Go Go.Fw Go.Proofs.Tryz
set_option maxRecDepth 100000
set_option maxHeartbeats 1000000
attribute [local irreducible] rv0 qNW qBA rvX qCG qCJ
theorem qLL.cells {G : Hp} {i : UInt8} {h : RhD} {t : TsD} (q : qLL G i h t) : h.cells = [N64 1, Str pH.dig, I ((1 : Nat) : Int), I ((0 : Nat) : Int), .slice h.nsA (qAL (qBA i) 1).length h.nsc] := by
 unfold RhD.cells
 rw [q.ep, q.par, q.dep, q.aud, q.ns]
theorem qLL.nsl2 {G : Hp} {i : UInt8} {h : RhD} {t : TsD} (q : qLL G i h t) : Sl G 1 h.nsA (qAL (qBA i) 1).length h.nsc (qAI (qAL (qBA i) 1)) := by
 have := q.nsl
 rw [q.ns] at this; exact this
theorem qJK.cells {G : Hp} {i : UInt8} {b : Nat} {x : TrD} (q : qJK G i b x) : x.cells = [I ((b : Nat) : Int), I ((1 : Nat) : Int), Str (rvO i b), Str (rvN i b), .slice x.stA x.st.length x.stc] := by
 unfold TrD.cells
 rw [q.eb, q.ed, q.eo, q.en]
theorem qBS (i : UInt8) : (hH i).good := ⟨by show 1 < _; decide, by rw [show (hH i).par = pH.dig from rfl, qBh qD0]; decide, by show (qAL (qBA i) 1).length ≤ _; rw [qBG]; decide⟩
theorem qNY (i : UInt8) : (hH i).nodes.length = 2 := qBG _ _ _
theorem pH_n : pH.nodes.length = 2 := qBG _ _ _
theorem qF5 (i : UInt8) {b : Nat} (hb : b < 2) : qFm pH (hH i) 0 b ((1 : Nat) : Int) (rvO i b) (rvN i b) = 0 := qNM (by rw [qFa]; decide) (by decide) ⟨rfl, qRk i hb, qPI i hb⟩
theorem qEJ (y : Hd) (hy : y.nodes.length = 2) {b : Nat} (hb : b < 2) {p q r : Prop} : p → q → r → b < pH.nodes.length ∧ b < y.nodes.length := fun _ _ _ => by rw [hy, pH_n]; exact ⟨hb, hb⟩
theorem qJY (F : Hp) (hK : KF F) (i : UInt8) {b : Nat} (hb : b < 2) (x : TrD) (h : qJK F i b x) (nw : List UInt8) :
    Ct prog 120 [.agg #[I ((b : Nat) : Int), I ((1 : Nat) : Int), Str (rvO i b), Str nw, .slice x.stA x.st.length x.stc]] [F] (fun _ : Unit => I ((if nw = rvN i b then 0 else 15 : Nat) : Int)) (fun _ => True) (fun _ => [F]) := by
  have hch : qJN b 1 (x.st.map qAm.chg) := by rw [h.chg]; exact qPJ i hb
  have := qLi F hK b 1 (by decide) (by omega) (rvO i b) nw x.stA x.st.length x.stc x.st h.sl (rvX i b) (qJZ i b) (qLy i b) hch h.ok h.bs (qRl i hb).symm
  rw [h.chg, qQG i hb, qRm i hb] at this
  exact this
theorem qBT (F : Hp) (hK : KF F) (i : UInt8) {b : Nat} (hb : b < 2) (x : TrD) (h : qJK F i b x) :
    Ct prog 120 [.agg #[I ((b : Nat) : Int), I ((1 : Nat) : Int), Str (rvO i b), Str (rvN i b), .slice x.stA x.st.length x.stc]] [F] (fun _ : Unit => I 0) (fun _ => True) (fun _ => [F]) := by
  have := qJY F hK i hb x h (rvN i b)
  rw [if_pos rfl] at this; exact this
theorem qPR {α : Type} {l : List α} (h : l.length = 1) : ∃ a, l = [a] := List.length_eq_one_iff.1 h
theorem qLc {α : Type} {l : List α} (h : l.length = 2) : ∃ a b, l = [a, b] := match l, h with
 | [a, b], _ => ⟨a, b, rfl⟩
end Go.Proofs.YtfldiegfenndjaaGreatDoor
namespace Go.Proofs.YtfldiegfenndjaaGreatDoor
open Go Go.Fw Go.Proofs.Tryz
set_option maxRecDepth 100000
set_option maxHeartbeats 1000000
theorem ent16 : qAE prog 16 := qAE.of func16 rfl (by kernel_rfl)
theorem ent17 : qAE prog 17 := qAE.of func17 rfl (by kernel_rfl)
theorem ent18 : qAE prog 18 := qAE.of func18 rfl (by kernel_rfl)
theorem ent19 : qAE prog 19 := qAE.of func19 rfl (by kernel_rfl)
theorem ent20 : qAE prog 20 := qAE.of func20 rfl (by kernel_rfl)
theorem ent25 : qAE prog 25 := qAE.of func25 rfl (by kernel_rfl)
theorem ent26 : qAE prog 26 := qAE.of func26 rfl (by kernel_rfl)
theorem qIl (F : Hp) (hK : KF F) : Ct prog 15 [] [F] (fun _ : Unit => .bool true) (fun _ => True) (fun _ => [F]) := by
 have hDG : DG 0 40 (fun _ => zS) (Dk.new 40) 0 := DG.new (by decide) (by decide) (by decide)
 have hX2 : hst (Dk.new 40) (0 + 8) ((40 - 8) / 2) 2 = sX0 8 := qMt (n := 40) (first := 8) (size := 16) (by decide) (by decide)
 have hnm : 3 < 64 := by decide
 refine Ct.walk func15 rfl ntmps15 rfl (fun w0 hw0 => ?_)
 change J _ [] _ _ _
 refine J.g fun K1 hK1 => J.b rfl <| J.c hK1 <| J.c8 [] trivial <| J.g fun K2 hK2 => J.p (qAB rfl rfl ent16 (Ct.use (new := fun x : Nat × Hp => [x.2]) (fun F' _ => qHw F' 40 (by decide) (by decide)))) rfl ?_
 rintro ⟨gd, md⟩ hb13
 try dsimp only at hb13
 change J _ ((13, .tuple #[Ptr gd, I 0]) :: _) _ [F, md] _
 have hbD := hb13
 obtain ⟨A, c, B, e, hc, hsL, hsW⟩ := hb13.see
 refine J.j 5 rfl <| J.c hK2 <| J.E 1 2 ?_
 refine J.g fun K3 hK3 => J.b rfl <| J.p (qAB rfl rfl ent17 (Ct.use (new := fun r : AoR => [r.kk, blk r.gb (bkC gd 0 (8 / 2) (sX0 0) r.Ab r.cb false) 223, r.mb, blk r.gs [Ptr r.gk, Ptr r.gb, I ((0 : Nat) : Int)] 216, blk r.gq (bkC gd 8 16 (sX0 8) r.Aq r.cq false) 223, r.mq, qAK r.gm (.map #[] 0), blk r.ga [Ptr r.gs, I ((2 ^ 1 : Nat) : Int), Ptr r.gq, .map (some r.gm)] 145]) (fun F' hF => qKK F' (hK.mo hF) gd (Dk.new 40) 0 40 0 (fun _ => zS) hDG (by decide) rfl (by decide) (by decide) A c B e none 0 (hc.mono (hF md (by simp))) (hsL.mono (hF md (by simp))) (hsW.mono (hF md (by simp))) [115, 101, 101, 100] (by decide) 1 (by decide) 40 (by decide) (by decide) (sX0 8) hX2 rfl))) rfl ?_
 rintro ⟨gk, mk, gb, Ab, cb, mb, gs, gq, Aq, cq, mq, gm, ga⟩ ⟨hk, hbr, hqr⟩
 change J _ ((18, .tuple #[Ptr ga, I ((0 : Nat) : Int)]) :: _) _ [_, _, mk, blk gb (bkC gd 0 (8 / 2) (sX0 0) Ab cb false) 223, mb, blk gs [Ptr gk, Ptr gb, I ((0 : Nat) : Int)] 216, blk gq (bkC gd 8 16 (sX0 8) Aq cq false) 223, mq, qAK gm (.map #[] 0), blk ga [Ptr gs, I ((2 ^ 1 : Nat) : Int), Ptr gq, .map (some gm)] 145] _
 dsimp only at hk hbr hqr
 refine J.j 5 rfl <| J.c hK3 <| J.H 2 3 4 ?_
 refine J.g fun K4 hK4 => J.p (qAB rfl rfl ent18 (Ct.use (new := fun r : RvR => [r.mh, r.ma, r.G]) (fun F' hF => qHf F' (hK.mo hF) 1 (by decide)))) rfl ?_
 rintro ⟨hs, ts, An, cn, Ah, ch, mh, Aa, ca, ma, G⟩ ⟨hlen, hnod, hrh, hra, hrok⟩
 change J _ ((22, .tuple #[.agg #[N64 0, Str qAb, I 1, I 0, .slice An (qAL rv0 1).length cn], .slice Ah 1 ch, .slice Aa 1 ca]) :: _) _ [_, _, _, _, _, _, _, _, _, _, mh, ma, G] _
 dsimp only at hlen hnod hrh hra hrok
 obtain ⟨h0, rfl⟩ := qPR hlen
 obtain ⟨t0, rfl⟩ := qPR (hrok.1.symm.trans hlen)
 have R0 : qLL G 0 h0 t0 := hrok.2 0 (show 0 < 1 by decide)
 have hl0 := R0.len
 refine J.j 4 rfl <| J.p (qAO (l := [.int .u64 0, Str [], I 0, I 0, .slice none 0 0]) rfl qPj rfl) rfl fun g5 _ => ?_
 change J _ _ _ [_, _, _, _, _, _, _, _, _, _, _, _, _, blk g5 [.int .u64 0, Str [], I 0, I 0, .slice none 0 0] 39] _
 refine J.b1 (qAG (i := 13) (l := [.int .u64 0, Str [], I 0, I 0, .slice none 0 0]) (vs := [N64 0, Str qAb, I 1, I 0, .slice An ((qAL rv0 1).length) cn]) rfl rfl rfl rfl rfl qB6 rfl rfl) rfl rfl fun _ _ => ?_
 change J _ _ _ [_, _, _, _, _, _, _, _, _, _, _, _, _, blk g5 [N64 0, Str qAb, I 1, I 0, .slice An ((qAL rv0 1).length) cn] 39] _
 refine J.j 2 rfl <| J.c hK4 <| J.b3 2 3 4 5 6 7 ?_
 refine J.k fun K5 hK5 => J.g fun K6 hK6 => J.b rfl <| J.f ((qAY rfl rfl rfl).no (by decide)) rfl <| J.j 2 rfl <| J.T ((qAY rfl rfl rfl).no (by decide)) rfl <| J.j 3 rfl <| J.T (qAa qNR rfl rfl) rfl <| J.T ((qAY rfl rfl rfl).no (by decide)) rfl <| J.b rfl <| J.c hK6 <| J.a0 3 5 6 7 36 ?_
 refine J.a8 ?_
 refine J.W hK5 <| J.M 3 5 6 7 ?_
 refine J.k fun K7 hK7 => J.c9 [5, 3, 6, 1, 8, 0, 2, 4, 7, 9, 10, 11, 12, 13] [blk gs [Ptr gk, Ptr gb, I ((0 : Nat) : Int)] 216, blk gb (bkC gd 0 (8 / 2) (sX0 0) Ab cb false) 223, blk gq (bkC gd 8 16 (sX0 8) Aq cq false) 223, md, qAK gm (.map #[] 0), F, mk, mb, mq, blk ga [Ptr gs, I ((2 ^ 1 : Nat) : Int), Ptr gq, .map (some gm)] 145, mh, ma, G, blk g5 [N64 0, Str qAb, I 1, I 0, .slice An ((qAL rv0 1).length) cn] 39] rfl (by decide) <| J.c1 [mh, ma, G, blk g5 [N64 0, Str qAb, I 1, I 0, .slice An ((qAL rv0 1).length) cn] 39] [] (.y 0 (.y 1 (.y 2 (.y 3 (.y 4 (.y 5 (.y 6 (.y 7 (.y 8 (.y 9 (.br (.e 10 (.y 11 (.y 12 (.y 13 (.e 14 (.e 15 (.y 16 .nil))))))) (.e 14 (.e 10 (.y 11 (.y 12 (.y 13 (.e 15 (.y 16 .nil)))))))))))))))))) Tryz.wide (by decide +kernel) (by simp) ?_
 refine J.O ?_
 refine J.q rfl (qAi 3 rfl rfl rfl qDD qB6 rfl) rfl rfl <| J.O ?_
 refine J.q rfl (qAH (i := 0) rfl rfl rfl qNR qB6 hrh.sl (by omega)) rfl rfl <| J.q rfl (qAo (vs := [N64 1, Str pH.dig, I ((1 : Nat) : Int), I ((0 : Nat) : Int), .slice h0.nsA (qAL (qBA 0) 1).length h0.nsc]) rfl rfl qDD qB6 (m := mh) (by simp) (by have := hrh.sl.elem (i := 0) (x := h0.cells) rfl; rw [R0.cells] at this; exact this) rfl) rfl rfl <| J.O ?_
 refine J.q rfl (qAH (i := 0) rfl rfl rfl qPC sizeOf80 hra.sl (by omega)) rfl rfl <| J.q rfl (qAN (v := .slice t0.lA t0.l.length t0.lc) rfl rfl isAgg80 (m := ma) (by simp) (hra.sl.elem (i := 0) (x := t0.cells) rfl)) rfl rfl <| J.q rfl (qAH (i := 0) rfl rfl rfl qPB qEF R0.tsl (by omega)) rfl rfl <| J.q rfl (qAo (vs := [I ((0 : Nat) : Int), I ((1 : Nat) : Int), Str (rvO 0 0), Str (rvN 0 0), .slice (t0.l.getD 0 qAP).stA (t0.l.getD 0 qAP).st.length (t0.l.getD 0 qAP).stc]) rfl rfl qId qEF (m := G) (by simp) (by have := R0.tsl.elem (i := 0) (qCz (by omega)); rw [(R0.trs 0 (by omega)).cells] at this; exact this) rfl) rfl rfl <| J.f1 ?_ ?_
 ·
  refine J.b2 rfl (qAB rfl rfl ent19 (Ct.useA [blk gs [Ptr gk, Ptr gb, I ((0 : Nat) : Int)] 216, blk gb (bkC gd 0 (8 / 2) (sX0 0) Ab cb false) 223, blk gq (bkC gd 8 16 (sX0 8) Aq cq false) 223, md, qAK gm (.map #[] 0)] [F, mk, mb, mq, blk ga [Ptr gs, I ((2 ^ 1 : Nat) : Int), Ptr gq, .map (some gm)] 145, mh, ma, G, blk g5 [N64 0, Str qAb, I 1, I 0, .slice An ((qAL rv0 1).length) cn] 39] (A' := fun r : ((Hp × Option Addr × Nat × Hp) × Hp) × ((Hp × Option Addr × Nat × Hp) × ((Option Addr × Nat × Hp) × (Option Addr × Nat × Hp))) => [blk gs [Ptr gk, Ptr gb, I ((0 + 1 : Nat) : Int)] 216, blk gb (bkC gd 0 (8 / 2) (qC3 (sX0 0) (qBf 0)) r.2.1.2.1 r.2.1.2.2.1 false) 223, blk gq (bkC gd 8 16 (qC3 (sX0 8) (mkB (hH 0).ep 0 (hH 0).dig)) r.1.1.2.1 r.1.1.2.2.1 false) 223, r.2.1.1, r.1.2]) (new := fun r => [r.1.1.2.2.2, r.2.1.2.2.2, r.2.2.1.2.2, r.2.2.2.2.2]) (fun F' hF => qEW F' md (qAK gm (.map #[] 0)) (hK.mo hF) pH An cn qBJ (hnod.mono (hF G (by simp))) (hH 0) h0.nsA h0.nsc (qBS 0) (R0.nsl2.mono (hF G (by simp))) 0 ((1 : Nat) : Int) (rvO 0 0) (rvN 0 0) (t0.l.getD 0 qAP).stA (t0.l.getD 0 qAP).st.length (t0.l.getD 0 qAP).stc 0 (fun F2 h2 => qBT F2 (hK.mono ((hF F (by simp)).trans h2)) 0 (b := 0) (by decide) (t0.l.getD 0 qAP) ((R0.trs 0 (by omega)).mono ((hF G (by simp)).trans h2))) (qEJ (hH 0) (qNY 0) (by decide)) ga gs gq gm gk gb gd [115, 101, 101, 100] 1 (hk.mono (hF mk (by simp))) (by decide) (by decide) (qAQ.blk0.mono (hF (blk ga [Ptr gs, I ((2 ^ 1 : Nat) : Int), Ptr gq, .map (some gm)] 145) (by simp))) (qDF.nil plK gm) (qF5 0 (by decide)) (by show 1 ≤ _; decide) (by decide) 3 hnm (qBh (qEg 0)) Ab cb Aq cq (hbr.sl.mono (hF mb (by simp))) (hqr.sl.mono (hF mq (by simp))) hbD))) rfl (by simp) ?_
  rintro z48 hz48
  change J _ ((48, .tuple #[.agg #[N64 (hH 0).ep, I ((0 : Nat) : Int), Str (hH 0).dig, I ((3 : Nat) : Int), I ((0 : Nat) : Int), .slice z48.2.2.1.1 (sgC [115, 101, 101, 100] 0 (atM (hH 0).ep 0 3 (hH 0).dig)).length z48.2.2.1.2.1, .slice z48.2.2.2.1 (sgP [115, 101, 101, 100] 1 0).length z48.2.2.2.2.1], I ((0 : Nat) : Int)]) :: _) _ [blk gs [Ptr gk, Ptr gb, I ((0 + 1 : Nat) : Int)] 216, blk gb (bkC gd 0 (8 / 2) (qC3 (sX0 0) (qBf 0)) z48.2.1.2.1 z48.2.1.2.2.1 false) 223, blk gq (bkC gd 8 16 (qC3 (sX0 8) (mkB (hH 0).ep 0 (hH 0).dig)) z48.1.1.2.1 z48.1.1.2.2.1 false) 223, z48.2.1.1, z48.1.2, F, mk, mb, mq, blk ga [Ptr gs, I ((2 ^ 1 : Nat) : Int), Ptr gq, .map (some gm)] 145, mh, ma, G, blk g5 [N64 0, Str qAb, I 1, I 0, .slice An ((qAL rv0 1).length) cn] 39, z48.1.1.2.2.2, z48.2.1.2.2.2, z48.2.2.1.2.2, z48.2.2.2.2.2] _
  refine J.O ?_
  refine J.d0 (.agg #[N64 (hH 0).ep, I ((0 : Nat) : Int), Str (hH 0).dig, I ((3 : Nat) : Int), I ((0 : Nat) : Int), .slice z48.2.2.1.1 (sgC [115, 101, 101, 100] 0 (atM (hH 0).ep 0 3 (hH 0).dig)).length z48.2.2.1.2.1, .slice z48.2.2.2.1 (sgP [115, 101, 101, 100] 1 0).length z48.2.2.2.2.1]) ?_
  refine J.d0 (I ((0 : Nat) : Int)) ?_
  refine J.b2 rfl (qAO (l := [.int .u64 0, I 0, Str [], I 0, I 0, .slice none 0 0, .slice none 0 0]) rfl qDr rfl) rfl (by simp) fun g8 _ => ?_
  change J _ _ _ [_, _, _, _, _, _, _, _, _, _, _, _, _, _, _, _, _, _, blk g8 [.int .u64 0, I 0, Str [], I 0, I 0, .slice none 0 0, .slice none 0 0] 52] _
  refine J.e1 rfl (qAG (i := 18) (l := [.int .u64 0, I 0, Str [], I 0, I 0, .slice none 0 0, .slice none 0 0]) (vs := [N64 (hH 0).ep, I ((0 : Nat) : Int), Str (hH 0).dig, I ((3 : Nat) : Int), I ((0 : Nat) : Int), .slice z48.2.2.1.1 (sgC [115, 101, 101, 100] 0 (atM (hH 0).ep 0 3 (hH 0).dig)).length z48.2.2.1.2.1, .slice z48.2.2.2.1 (sgP [115, 101, 101, 100] 1 0).length z48.2.2.2.2.1]) rfl rfl rfl rfl rfl qCl rfl rfl) rfl rfl (by simp) fun _ _ => ?_
  change J _ _ _ [_, _, _, _, _, _, _, _, _, _, _, _, _, _, _, _, _, _, blk g8 [N64 (hH 0).ep, I ((0 : Nat) : Int), Str (hH 0).dig, I ((3 : Nat) : Int), I ((0 : Nat) : Int), .slice z48.2.2.1.1 (sgC [115, 101, 101, 100] 0 (atM (hH 0).ep 0 3 (hH 0).dig)).length z48.2.2.1.2.1, .slice z48.2.2.2.1 (sgP [115, 101, 101, 100] 1 0).length z48.2.2.2.2.1] 52] _
  refine J.b9 ?_
  refine J.b5 <| J.A (J.L hK7 ?_)
  refine J.M 3 6 8 9 ?_
  refine J.g fun K8 hK8 => J.b rfl <| J.p (qAB rfl rfl ent20 (Ct.use0 (fun F' hF => (by have := qGV F' ga gs gq (2 ^ 1) gm (qAQ.blk0.mono (hF (blk ga [Ptr gs, I ((2 ^ 1 : Nat) : Int), Ptr gq, .map (some gm)] 145) (by simp))) [(((hH 0).ep, ((0 : Nat) : Int)), (hH 0).dig)] (hz48.2.1.at.mono (hF z48.1.2 (by simp))) 1 ((0 : Nat) : Int); rw [show qDR [(((hH 0).ep, ((0 : Nat) : Int)), (hH 0).dig)] (1, ((0 : Nat) : Int)) = some (hH 0).dig from if_pos rfl] at this; exact this)))) rfl fun g53 _ => J.j 5 rfl <| J.c hK8 <| J.b3 3 6 8 9 10 11 ?_
  refine J.k fun K9 hK9 => J.c1 [mh, ma, G, blk g8 [N64 (hH 0).ep, I ((0 : Nat) : Int), Str (hH 0).dig, I ((3 : Nat) : Int), I ((0 : Nat) : Int), .slice z48.2.2.1.1 (sgC [115, 101, 101, 100] 0 (atM (hH 0).ep 0 3 (hH 0).dig)).length z48.2.2.1.2.1, .slice z48.2.2.2.1 (sgP [115, 101, 101, 100] 1 0).length z48.2.2.2.2.1] 52] [] (.y 0 (.y 1 (.y 2 (.y 3 (.y 4 (.e 5 (.e 6 (.y 7 (.y 8 (.y 9 (.y 10 (.y 11 (.y 12 (.y 13 (.y 14 (.y 15 (.y 16 (.y 17 (.y 18 (.y 19 (.y 20 (.e 21 (.y 22 (.y 23 (.y 24 (.y 25 (.e 26 (.y 27 (.y 28 (.y 29 .nil)))))))))))))))))))))))))))))) Tryz.wide (by decide +kernel) (by simp) ?_
  refine J.O ?_
  refine J.q rfl ((qAV rfl rfl rfl).yes (by decide)) rfl rfl <| J.O ?_
  refine J.a4 rfl (qAi 3 rfl rfl rfl qHN qCl rfl) rfl rfl <| J.a4 rfl (qAl rfl rfl) rfl rfl <| J.e6 rfl (qAB rfl rfl ent26 (Ct.use0 (fun F' hF => qNK F' ga gs gq (2 ^ 1) gm (qAQ.blk0.mono (hF (blk ga [Ptr gs, I ((2 ^ 1 : Nat) : Int), Ptr gq, .map (some gm)] 145) (by simp))) gk gb (0 + 1) (qAQ.blk0.mono (hF (blk gs [Ptr gk, Ptr gb, I ((0 + 1 : Nat) : Int)] 216) (by simp))) [115, 101, 101, 100] 1 (hk.mono (hF mk (by simp))) (by decide) (by decide)))) (Wan.is rfl rfl rfl rfl rfl) rfl rfl (by simp) ?_
  intro g61 _
  refine J.e6 rfl (qAB rfl rfl ent25 (Ct.use0 (fun F' hF => qKJ F' (hK.mo hF) (hH 0).ep 0 3 (hH 0).dig (by show 1 ≤ _; decide) (by decide) hnm (qBh (qEg 0)) [115, 101, 101, 100] 1 0 z48.2.2.1.1 _ z48.2.2.1.2.1 (hz48.2.2.1.sl.mono (hF z48.2.2.1.2.2 (by simp))) z48.2.2.2.1 _ z48.2.2.2.2.1 (hz48.2.2.2.sl.mono (hF z48.2.2.2.2.2 (by simp))) (by decide) (by decide)))) (Wan.is rfl rfl rfl rfl rfl) rfl rfl (by simp) ?_
  intro g62 _
  refine J.d2 ?_
  refine J.O ?_
  refine J.a4 rfl (qAA (j := 3) rfl rfl qEX rfl z3_ rfl) rfl rfl <| J.a4 rfl (qAC 3 (v := I ((3 : Nat) : Int)) rfl rfl rfl b3_ rfl) rfl rfl <| J.a4 rfl ((qAV rfl rfl rfl).yes (by decide)) rfl rfl <| J.d2 ?_
  refine J.O ?_
  refine J.a4 rfl (qAl rfl rfl) rfl rfl <| J.d2 ?_
  refine J.O ?_
  refine J.a4 rfl (qAl rfl rfl) rfl rfl <| J.a4 rfl (qAl rfl rfl) rfl rfl <| J.a4 rfl (qAH (i := 0) rfl rfl rfl qNR qB6 hrh.sl (by omega)) rfl rfl <| J.a4 rfl (qAo (vs := [N64 1, Str pH.dig, I ((1 : Nat) : Int), I ((0 : Nat) : Int), .slice h0.nsA (qAL (qBA 0) 1).length h0.nsc]) rfl rfl qDD qB6 (m := mh) (by simp) (by have := hrh.sl.elem (i := 0) (x := h0.cells) rfl; rw [R0.cells] at this; exact this) rfl) rfl rfl <| J.e6 rfl (qAB rfl rfl ent11 (Ct.use0 (fun F' hF => qBH F' (hK.mo hF) (hH 0) h0.nsA h0.nsc (qBS 0) (R0.nsl2.mono (hF G (by simp)))))) (Wan.is rfl rfl rfl rfl rfl) rfl rfl (by simp) ?_
  intro g77 _
  refine J.a4 rfl ((qBL rfl rfl rfl).yes (rfl)) rfl rfl <| J.d2 ?_
  refine J.O ?_
  refine J.a4 rfl (qAl rfl rfl) rfl rfl <| J.e6 rfl (qAB rfl rfl ent21 (Ct.use0 (fun F' hF => qDP F' ga gs gq (2 ^ 1) gm (qAQ.blk0.mono (hF (blk ga [Ptr gs, I ((2 ^ 1 : Nat) : Int), Ptr gq, .map (some gm)] 145) (by simp))) gk gb (0 + 1) (qAQ.blk0.mono (hF (blk gs [Ptr gk, Ptr gb, I ((0 + 1 : Nat) : Int)] 216) (by simp))) (by decide) (by decide)))) (Wan.is rfl rfl rfl rfl rfl) rfl rfl (by simp) ?_
  intro g82 _
  refine J.a4 rfl ((qAV rfl rfl rfl).yes (by decide)) rfl rfl <| J.d2 ?_
  refine J.b9 ?_
  refine J.b5 <| J.A (J.L hK9 ?_)
  refine J.u 0 ?_
  exact J.D <| J.V hw0 rfl () rfl trivial [5] rfl (by decide)
 refine J.b2 rfl (qAO (l := [.int .u64 0, I 0, Str [], I 0, I 0, .slice none 0 0, .slice none 0 0]) rfl qDr rfl) rfl (by simp) fun g8 _ => ?_
 change J _ _ _ [blk gs [Ptr gk, Ptr gb, I ((0 : Nat) : Int)] 216, blk gb (bkC gd 0 (8 / 2) (sX0 0) Ab cb false) 223, blk gq (bkC gd 8 16 (sX0 8) Aq cq false) 223, md, qAK gm (.map #[] 0), F, mk, mb, mq, blk ga [Ptr gs, I ((2 ^ 1 : Nat) : Int), Ptr gq, .map (some gm)] 145, mh, ma, G, blk g5 [N64 0, Str qAb, I 1, I 0, .slice An ((qAL rv0 1).length) cn] 39, blk g8 [.int .u64 0, I 0, Str [], I 0, I 0, .slice none 0 0, .slice none 0 0] 52] _
 refine J.b2 rfl (qAB rfl rfl ent19 (Ct.useA [blk gs [Ptr gk, Ptr gb, I ((0 : Nat) : Int)] 216, blk gb (bkC gd 0 (8 / 2) (sX0 0) Ab cb false) 223, blk gq (bkC gd 8 16 (sX0 8) Aq cq false) 223, md, qAK gm (.map #[] 0)] [F, mk, mb, mq, blk ga [Ptr gs, I ((2 ^ 1 : Nat) : Int), Ptr gq, .map (some gm)] 145, mh, ma, G, blk g5 [N64 0, Str qAb, I 1, I 0, .slice An ((qAL rv0 1).length) cn] 39, blk g8 [.int .u64 0, I 0, Str [], I 0, I 0, .slice none 0 0, .slice none 0 0] 52] (A' := fun r : ((Hp × Option Addr × Nat × Hp) × Hp) × ((Hp × Option Addr × Nat × Hp) × ((Option Addr × Nat × Hp) × (Option Addr × Nat × Hp))) => [blk gs [Ptr gk, Ptr gb, I ((0 + 1 : Nat) : Int)] 216, blk gb (bkC gd 0 (8 / 2) (qC3 (sX0 0) (qBf 0)) r.2.1.2.1 r.2.1.2.2.1 false) 223, blk gq (bkC gd 8 16 (qC3 (sX0 8) (mkB (hH 0).ep 0 (hH 0).dig)) r.1.1.2.1 r.1.1.2.2.1 false) 223, r.2.1.1, r.1.2]) (new := fun r => [r.1.1.2.2.2, r.2.1.2.2.2, r.2.2.1.2.2, r.2.2.2.2.2]) (fun F' hF => qEW F' md (qAK gm (.map #[] 0)) (hK.mo hF) pH An cn qBJ (hnod.mono (hF G (by simp))) (hH 0) h0.nsA h0.nsc (qBS 0) (R0.nsl2.mono (hF G (by simp))) 0 ((1 : Nat) : Int) (rvO 0 0) (rvN 0 0) (t0.l.getD 0 qAP).stA (t0.l.getD 0 qAP).st.length (t0.l.getD 0 qAP).stc 0 (fun F2 h2 => qBT F2 (hK.mono ((hF F (by simp)).trans h2)) 0 (b := 0) (by decide) (t0.l.getD 0 qAP) ((R0.trs 0 (by omega)).mono ((hF G (by simp)).trans h2))) (qEJ (hH 0) (qNY 0) (by decide)) ga gs gq gm gk gb gd [115, 101, 101, 100] 1 (hk.mono (hF mk (by simp))) (by decide) (by decide) (qAQ.blk0.mono (hF (blk ga [Ptr gs, I ((2 ^ 1 : Nat) : Int), Ptr gq, .map (some gm)] 145) (by simp))) (qDF.nil plK gm) (qF5 0 (by decide)) (by show 1 ≤ _; decide) (by decide) 3 hnm (qBh (qEg 0)) Ab cb Aq cq (hbr.sl.mono (hF mb (by simp))) (hqr.sl.mono (hF mq (by simp))) hbD))) rfl (by simp) ?_
 rintro z48 hz48
 change J _ ((48, .tuple #[.agg #[N64 (hH 0).ep, I ((0 : Nat) : Int), Str (hH 0).dig, I ((3 : Nat) : Int), I ((0 : Nat) : Int), .slice z48.2.2.1.1 (sgC [115, 101, 101, 100] 0 (atM (hH 0).ep 0 3 (hH 0).dig)).length z48.2.2.1.2.1, .slice z48.2.2.2.1 (sgP [115, 101, 101, 100] 1 0).length z48.2.2.2.2.1], I ((0 : Nat) : Int)]) :: _) _ [blk gs [Ptr gk, Ptr gb, I ((0 + 1 : Nat) : Int)] 216, blk gb (bkC gd 0 (8 / 2) (qC3 (sX0 0) (qBf 0)) z48.2.1.2.1 z48.2.1.2.2.1 false) 223, blk gq (bkC gd 8 16 (qC3 (sX0 8) (mkB (hH 0).ep 0 (hH 0).dig)) z48.1.1.2.1 z48.1.1.2.2.1 false) 223, z48.2.1.1, z48.1.2, _, _, _, _, _, _, _, _, _, _, z48.1.1.2.2.2, z48.2.1.2.2.2, z48.2.2.1.2.2, z48.2.2.2.2.2] _
 refine J.O ?_
 refine J.d0 (.agg #[N64 (hH 0).ep, I ((0 : Nat) : Int), Str (hH 0).dig, I ((3 : Nat) : Int), I ((0 : Nat) : Int), .slice z48.2.2.1.1 (sgC [115, 101, 101, 100] 0 (atM (hH 0).ep 0 3 (hH 0).dig)).length z48.2.2.1.2.1, .slice z48.2.2.2.1 (sgP [115, 101, 101, 100] 1 0).length z48.2.2.2.2.1]) ?_
 refine J.d0 (I ((0 : Nat) : Int)) ?_
 refine J.e1 rfl (qAG (i := 14) (l := [.int .u64 0, I 0, Str [], I 0, I 0, .slice none 0 0, .slice none 0 0]) (vs := [N64 (hH 0).ep, I ((0 : Nat) : Int), Str (hH 0).dig, I ((3 : Nat) : Int), I ((0 : Nat) : Int), .slice z48.2.2.1.1 (sgC [115, 101, 101, 100] 0 (atM (hH 0).ep 0 3 (hH 0).dig)).length z48.2.2.1.2.1, .slice z48.2.2.2.1 (sgP [115, 101, 101, 100] 1 0).length z48.2.2.2.2.1]) rfl rfl rfl rfl rfl qCl rfl rfl) rfl rfl (by simp) fun _ _ => ?_
 change J _ _ _ [_, _, _, _, _, _, _, _, _, _, _, _, _, _, blk g8 [N64 (hH 0).ep, I ((0 : Nat) : Int), Str (hH 0).dig, I ((3 : Nat) : Int), I ((0 : Nat) : Int), .slice z48.2.2.1.1 (sgC [115, 101, 101, 100] 0 (atM (hH 0).ep 0 3 (hH 0).dig)).length z48.2.2.1.2.1, .slice z48.2.2.2.1 (sgP [115, 101, 101, 100] 1 0).length z48.2.2.2.2.1] 52, _, _, _, _] _
 refine J.b9 ?_
 refine J.b5 <| J.A (J.L hK7 ?_)
 refine J.M 3 6 8 9 ?_
 refine J.g fun K10 hK10 => J.b rfl <| J.p (qAB rfl rfl ent20 (Ct.use0 (fun F' hF => (by have := qGV F' ga gs gq (2 ^ 1) gm (qAQ.blk0.mono (hF (blk ga [Ptr gs, I ((2 ^ 1 : Nat) : Int), Ptr gq, .map (some gm)] 145) (by simp))) [(((hH 0).ep, ((0 : Nat) : Int)), (hH 0).dig)] (hz48.2.1.at.mono (hF z48.1.2 (by simp))) 1 ((0 : Nat) : Int); rw [show qDR [(((hH 0).ep, ((0 : Nat) : Int)), (hH 0).dig)] (1, ((0 : Nat) : Int)) = some (hH 0).dig from if_pos rfl] at this; exact this)))) rfl fun g53 _ => J.j 5 rfl <| J.c hK10 <| J.b3 3 6 8 9 10 11 ?_
 refine J.k fun K11 hK11 => J.c1 [mh, ma, G, blk g8 [N64 (hH 0).ep, I ((0 : Nat) : Int), Str (hH 0).dig, I ((3 : Nat) : Int), I ((0 : Nat) : Int), .slice z48.2.2.1.1 (sgC [115, 101, 101, 100] 0 (atM (hH 0).ep 0 3 (hH 0).dig)).length z48.2.2.1.2.1, .slice z48.2.2.2.1 (sgP [115, 101, 101, 100] 1 0).length z48.2.2.2.2.1] 52] [] (.y 0 (.y 1 (.y 2 (.y 3 (.y 4 (.e 5 (.e 6 (.y 7 (.y 8 (.y 9 (.y 10 (.y 11 (.y 12 (.y 13 (.y 14 (.y 15 (.y 16 (.y 17 (.y 18 (.y 19 (.y 20 (.e 21 (.y 22 (.y 23 (.y 24 (.y 25 (.e 26 (.y 27 (.y 28 (.y 29 .nil)))))))))))))))))))))))))))))) Tryz.wide (by decide +kernel) (by simp) ?_
 refine J.O ?_
 refine J.q rfl ((qAV rfl rfl rfl).yes (by decide)) rfl rfl <| J.O ?_
 refine J.a4 rfl (qAi 3 rfl rfl rfl qHN qCl rfl) rfl rfl <| J.a4 rfl (qAl rfl rfl) rfl rfl <| J.e6 rfl (qAB rfl rfl ent26 (Ct.use0 (fun F' hF => qNK F' ga gs gq (2 ^ 1) gm (qAQ.blk0.mono (hF (blk ga [Ptr gs, I ((2 ^ 1 : Nat) : Int), Ptr gq, .map (some gm)] 145) (by simp))) gk gb (0 + 1) (qAQ.blk0.mono (hF (blk gs [Ptr gk, Ptr gb, I ((0 + 1 : Nat) : Int)] 216) (by simp))) [115, 101, 101, 100] 1 (hk.mono (hF mk (by simp))) (by decide) (by decide)))) (Wan.is rfl rfl rfl rfl rfl) rfl rfl (by simp) ?_
 intro g61 _
 refine J.e6 rfl (qAB rfl rfl ent25 (Ct.use0 (fun F' hF => qKJ F' (hK.mo hF) (hH 0).ep 0 3 (hH 0).dig (by show 1 ≤ _; decide) (by decide) hnm (qBh (qEg 0)) [115, 101, 101, 100] 1 0 z48.2.2.1.1 _ z48.2.2.1.2.1 (hz48.2.2.1.sl.mono (hF z48.2.2.1.2.2 (by simp))) z48.2.2.2.1 _ z48.2.2.2.2.1 (hz48.2.2.2.sl.mono (hF z48.2.2.2.2.2 (by simp))) (by decide) (by decide)))) (Wan.is rfl rfl rfl rfl rfl) rfl rfl (by simp) ?_
 intro g62 _
 refine J.d2 ?_
 refine J.O ?_
 refine J.a4 rfl (qAA (j := 3) rfl rfl qEX rfl z3_ rfl) rfl rfl <| J.a4 rfl (qAC 3 (v := I ((3 : Nat) : Int)) rfl rfl rfl b3_ rfl) rfl rfl <| J.a4 rfl ((qAV rfl rfl rfl).yes (by decide)) rfl rfl <| J.d2 ?_
 refine J.O ?_
 refine J.a4 rfl (qAl rfl rfl) rfl rfl <| J.d2 ?_
 refine J.O ?_
 refine J.a4 rfl (qAl rfl rfl) rfl rfl <| J.a4 rfl (qAl rfl rfl) rfl rfl <| J.a4 rfl (qAH (i := 0) rfl rfl rfl qNR qB6 hrh.sl (by omega)) rfl rfl <| J.a4 rfl (qAo (vs := [N64 1, Str pH.dig, I ((1 : Nat) : Int), I ((0 : Nat) : Int), .slice h0.nsA (qAL (qBA 0) 1).length h0.nsc]) rfl rfl qDD qB6 (m := mh) (by simp) (by have := hrh.sl.elem (i := 0) (x := h0.cells) rfl; rw [R0.cells] at this; exact this) rfl) rfl rfl <| J.e6 rfl (qAB rfl rfl ent11 (Ct.use0 (fun F' hF => qBH F' (hK.mo hF) (hH 0) h0.nsA h0.nsc (qBS 0) (R0.nsl2.mono (hF G (by simp)))))) (Wan.is rfl rfl rfl rfl rfl) rfl rfl (by simp) ?_
 intro g77 _
 refine J.a4 rfl ((qBL rfl rfl rfl).yes (rfl)) rfl rfl <| J.d2 ?_
 refine J.O ?_
 refine J.a4 rfl (qAl rfl rfl) rfl rfl <| J.e6 rfl (qAB rfl rfl ent21 (Ct.use0 (fun F' hF => qDP F' ga gs gq (2 ^ 1) gm (qAQ.blk0.mono (hF (blk ga [Ptr gs, I ((2 ^ 1 : Nat) : Int), Ptr gq, .map (some gm)] 145) (by simp))) gk gb (0 + 1) (qAQ.blk0.mono (hF (blk gs [Ptr gk, Ptr gb, I ((0 + 1 : Nat) : Int)] 216) (by simp))) (by decide) (by decide)))) (Wan.is rfl rfl rfl rfl rfl) rfl rfl (by simp) ?_
 intro g82 _
 refine J.a4 rfl ((qAV rfl rfl rfl).yes (by decide)) rfl rfl <| J.d2 ?_
 refine J.b9 ?_
 refine J.b5 <| J.A (J.L hK11 ?_)
 refine J.u 0 ?_
 exact J.D <| J.V hw0 rfl () rfl trivial [5] rfl (by decide)
theorem qSL : qFm pH (⟨2, pH.dig, ((1 : Nat) : Int), ((0 : Nat) : Int), qAL (qBA 0) 1⟩ : Hd) 0 1 ((1 : Nat) : Int) (rvO 0 1) (rvN 0 1) = 14 := by
 have he : (⟨2, pH.dig, ((1 : Nat) : Int), ((0 : Nat) : Int), qAL (qBA 0) 1⟩ : Hd).err = 0 := qOj (qB4 0) (by decide) (qBh qD0) (by decide) (a := 0) (by decide)
 have hn : pH.next (⟨2, pH.dig, ((1 : Nat) : Int), ((0 : Nat) : Int), qAL (qBA 0) 1⟩ : Hd) = 14 := qMe (by rw [he]; decide) (.inr (by show 2 - 1 ≠ 0; decide))
 rw [qRN (by rw [hn]; decide), hn]
theorem qSK : qFm pH (⟨1, qAb, ((1 : Nat) : Int), ((0 : Nat) : Int), qAL (qBA 0) 1⟩ : Hd) 0 1 ((1 : Nat) : Int) (rvO 0 1) (rvN 0 1) = 15 := by
 have he : (⟨1, qAb, ((1 : Nat) : Int), ((0 : Nat) : Int), qAL (qBA 0) 1⟩ : Hd).err = 0 := qOj (qB4 0) (by decide) (par := qAb) rfl (by decide) (a := 0) (by decide)
 have hn : pH.next (⟨1, qAb, ((1 : Nat) : Int), ((0 : Nat) : Int), qAL (qBA 0) 1⟩ : Hd) = 15 := qMd (by rw [he]; decide) (fun h => h.elim (by show ¬ 1 = 0; decide) (by show ¬ 1 - 1 ≠ 0; decide)) (.inr (Ne.symm qQW))
 rw [qRN (by rw [hn]; decide), hn]
theorem qSJ : qFm pH (hH 0) 15 1 ((1 : Nat) : Int) (rvO 0 1) [0] = 15 := qO5 (by rw [qFa]; decide) (by decide)
theorem qSI : qFm pH (hH 0) 0 1 ((1 : Nat) : Int) (rvO 1 1) (rvN 1 1) = 15 := qEC (by rw [qFa]; decide) (by decide) (fun h => qRn (h.2.2.trans (qPI 0 (b := 1) (by decide)).symm))
theorem qSH : qFm pH (hH 0) 10 0 ((1 : Nat) : Int) (rvO 0 1) (rvN 0 1) = 10 := qO5 (by rw [qFa]; decide) (by decide)
theorem qSG : qFm pH (hH 0) 1 1 ((5 : Nat) : Int) (rvO 0 1) (rvN 0 1) = 1 := qO5 (by rw [qFa]; decide) (by decide)
theorem qSF : qFm pH (⟨1, pH.dig, ((1 : Nat) : Int), ((0 : Nat) : Int), [[0], [0]]⟩ : Hd) 0 1 ((1 : Nat) : Int) (rvO 0 1) (rvN 0 1) = 15 := by
 have he : (⟨1, pH.dig, ((1 : Nat) : Int), ((0 : Nat) : Int), [[0], [0]]⟩ : Hd).err = 0 := qQ7 (by
  unfold Hd.out
  dsimp only
  rw [qBh qD0, qCP (by decide)]; decide) (by show ¬ 2 ≠ cnt ((1 : Nat) : Int); rw [qCP (by decide)]; decide) (fun s hs => .inl (by simpa using hs))
 have hn : pH.next (⟨1, pH.dig, ((1 : Nat) : Int), ((0 : Nat) : Int), [[0], [0]]⟩ : Hd) = 0 := qMc he rfl rfl rfl rfl
 exact qEC (by rw [hn]; decide) (by decide) (fun h => qPH 0 h.2.2)
theorem qSE (F : Hp) (hK : KF F) (x : TrD) (h : qJK F 0 1 x) : Ct prog 120 [.agg #[I ((1 : Nat) : Int), I ((1 : Nat) : Int), Str (rvO 0 1), Str [0], .slice x.stA x.st.length x.stc]] [F] (fun _ : Unit => I 15) (fun _ => True) (fun _ => [F]) := by
 have := qJY F hK 0 (b := 1) (by decide) x h [0]
 rw [if_neg (Ne.symm (qPH 0))] at this; exact this
theorem qGK {F : Hp} {x : TrD} (h : qJK F 0 1 x) : x.st.map qAm.k = [qCJ 128 0] := by
 have := congrArg (List.map Chg.k) h.chg
 rw [qKB] at this; exact this
theorem qPa {F : Hp} {x : TrD} (h : qJK F 0 1 x) : ∀ z ∈ x.st, z.k.length ≤ 1000000 := fun z hz => by
 have : z.k ∈ x.st.map qAm.k := List.mem_map.2 ⟨z, hz, rfl⟩
 rw [qGK h, List.mem_singleton] at this
 rw [this, qCD]; decide
theorem qPb {F : Hp} {x : TrD} (h : qJK F 0 1 x) : x.st.length = 1 := by
 have := congrArg List.length (qGK h)
 rwa [List.length_map] at this
theorem qR8 : qIz ((0 : Nat) : Int) ((1 : Nat) : Int) [qCJ 128 0] = 10 := by
 refine qC8 (k := qCJ 128 0) (by rw [qCP (by decide)]; decide) (by decide) (by rw [qCP (by decide)]; decide) (List.mem_singleton.2 rfl) fun h => ?_
 have := h.2
 rw [show (((1 : Nat) : Int)).toNat = 1 from rfl, qL0] at this
 exact absurd this (by decide)
theorem qR7 : qIz ((1 : Nat) : Int) ((5 : Nat) : Int) [qCJ 128 0] = 1 := qEc (by decide)
theorem qSD (F : Hp) (x : TrD) (h : qJK F 0 1 x) : Ct prog 120 [.agg #[I ((0 : Nat) : Int), I ((1 : Nat) : Int), Str (rvO 0 1), Str (rvN 0 1), .slice x.stA x.st.length x.stc]] [F] (fun _ : Unit => I 10) (fun _ => True) (fun _ => [F]) := by
 have := qF2 F ((0 : Nat) : Int) ((1 : Nat) : Int) (rvO 0 1) (rvN 0 1) x.stA x.st.length x.stc x.st h.sl (qPa h) (by rw [qPb h]; decide) (by rw [qGK h, qR8]; decide)
 rw [qGK h, qR8] at this; exact this
theorem qSC (F : Hp) (x : TrD) (h : qJK F 0 1 x) : Ct prog 120 [.agg #[I ((1 : Nat) : Int), I ((5 : Nat) : Int), Str (rvO 0 1), Str (rvN 0 1), .slice x.stA x.st.length x.stc]] [F] (fun _ : Unit => I 1) (fun _ => True) (fun _ => [F]) := by
 have := qF2 F ((1 : Nat) : Int) ((5 : Nat) : Int) (rvO 0 1) (rvN 0 1) x.stA x.st.length x.stc x.st h.sl (qPa h) (by rw [qPb h]; decide) (by rw [qGK h, qR7]; decide)
 rw [qGK h, qR7] at this; exact this
theorem qRQ : (⟨2, pH.dig, ((1 : Nat) : Int), ((0 : Nat) : Int), qAL (qBA 0) 1⟩ : Hd).good := ⟨by show 2 < _; decide, by show pH.dig.length ≤ _; rw [qBh qD0]; decide, by show (qAL (qBA 0) 1).length ≤ _; rw [qBG]; decide⟩
theorem qRP : (⟨1, qAb, ((1 : Nat) : Int), ((0 : Nat) : Int), qAL (qBA 0) 1⟩ : Hd).good := ⟨by show 1 < _; decide, by show qAb.length ≤ _; decide, by show (qAL (qBA 0) 1).length ≤ _; rw [qBG]; decide⟩
theorem qRO : (⟨1, pH.dig, ((1 : Nat) : Int), ((0 : Nat) : Int), [[0], [0]]⟩ : Hd).good := ⟨by show 1 < _; decide, by show pH.dig.length ≤ _; rw [qBh qD0]; decide, by show 2 ≤ _; decide⟩
theorem may_z : ¬ qFV 0 0 [] 0 := fun h => absurd h.2.2.2.1 (by decide)
theorem ent15 : qAE prog 15 := qAE.of func15 rfl (by kernel_rfl)
attribute [local irreducible] rvO rvN
def qEx (how : UInt8) (number : Int) : Int := if how.toNat % 8 = 7 then number else number % 2 ^ 6
def RefK (F G mz : Hp) (ga gs gq gm : Nat) (An : Option Addr) (cn : Nat) (how : UInt8) (number : Int) (Y T : List Value) (w : Nat) : Prop :=
 w ≠ 0 ∧ ∀ F', Le F F' → Le G F' → Le mz F' → Le (blk ga [Ptr gs, I ((2 ^ 0 : Nat) : Int), Ptr gq, .map (some gm)] 145) F' → Le (qAK gm (.map #[] 0)) F' →
  Ct prog 19 [Ptr ga, I (qEx how number), .agg #[N64 0, Str qAb, I 1, I 0, .slice An (qAL rv0 1).length cn], .agg Y.toArray, .agg T.toArray] [F'] (fun _ : Unit => .tuple #[.agg #[.int .u64 0, I 0, Str [], I 0, I 0, .slice none 0 0, .slice none 0 0], I ((w : Nat) : Int)]) (fun _ => True) (fun _ => [F'])
theorem qOX (F : Hp) (hK : KF F) (how : UInt8) (number : Int) : Ct prog 5 [B8 (how), I (number)] [F] (fun _ : Unit => .bool true) (fun _ => True) (fun _ => [F]) := by
 have hDG : DG 0 40 (fun _ => zS) (Dk.new 40) 0 := DG.new (by decide) (by decide) (by decide)
 have hX2 : hst (Dk.new 40) (0 + 8) ((40 - 8) / 2) 2 = sX0 8 := qMt (n := 40) (first := 8) (size := 16) (by decide) (by decide)
 have h8 : how.toNat % 8 < 8 := Nat.mod_lt _ (by decide)
 refine Ct.walk func5 rfl ntmps5 rfl (fun w0 hw0 => ?_)
 change J _ [(0, _), (1, _)] _ _ _
 refine J.g fun K1 hK1 => J.b rfl <| J.c hK1 <| J.E 0 1 ?_
 refine J.k fun K2 hK2 => J.g fun K3 hK3 => J.p (qAB rfl rfl ent15 (Ct.use0 (fun F' hF => qIl F' (hK.mo hF)))) rfl fun g26 _ => J.f (qA1 rfl rfl) rfl <| J.c hK3 <| J.H 0 1 27 ?_
 refine J.a8 ?_
 refine J.W hK2 <| J.E 0 1 ?_
 refine J.g fun K4 hK4 => J.p (qAB rfl rfl ent16 (Ct.use (new := fun x : Nat × Hp => [x.2]) (fun F' _ => qHw F' 40 (by decide) (by decide)))) rfl ?_
 rintro ⟨gd, md⟩ hb29
 try dsimp only at hb29
 change J _ ((29, .tuple #[Ptr gd, I 0]) :: _) _ [F, md] _
 have hbD := hb29
 obtain ⟨A, c, B, e, hc, hsL, hsW⟩ := hb29.see
 refine J.j 5 rfl <| J.c hK4 <| J.H 0 1 5 ?_
 refine J.g fun K5 hK5 => J.b rfl <| J.p (qAB rfl rfl ent17 (Ct.use (new := fun r : AoR => [r.kk, blk r.gb (bkC gd 0 (8 / 2) (sX0 0) r.Ab r.cb false) 223, r.mb, blk r.gs [Ptr r.gk, Ptr r.gb, I ((0 : Nat) : Int)] 216, blk r.gq (bkC gd 8 16 (sX0 8) r.Aq r.cq false) 223, r.mq, qAK r.gm (.map #[] 0), blk r.ga [Ptr r.gs, I ((2 ^ 0 : Nat) : Int), Ptr r.gq, .map (some r.gm)] 145]) (fun F' hF => qKK F' (hK.mo hF) gd (Dk.new 40) 0 40 0 (fun _ => zS) hDG (by decide) rfl (by decide) (by decide) A c B e none 0 (hc.mono (hF md (by simp))) (hsL.mono (hF md (by simp))) (hsW.mono (hF md (by simp))) [115, 101, 101, 100] (by decide) 0 (by decide) 40 (by decide) (by decide) (sX0 8) hX2 rfl))) rfl ?_
 rintro ⟨gk, mk, gb, Ab, cb, mb, gs, gq, Aq, cq, mq, gm, ga⟩ ⟨hk, hbr, hqr⟩
 change J _ ((34, .tuple #[Ptr ga, I ((0 : Nat) : Int)]) :: _) _ [_, _, mk, blk gb (bkC gd 0 (8 / 2) (sX0 0) Ab cb false) 223, mb, blk gs [Ptr gk, Ptr gb, I ((0 : Nat) : Int)] 216, blk gq (bkC gd 8 16 (sX0 8) Aq cq false) 223, mq, qAK gm (.map #[] 0), blk ga [Ptr gs, I ((2 ^ 0 : Nat) : Int), Ptr gq, .map (some gm)] 145] _
 dsimp only at hk hbr hqr
 refine J.j 5 rfl <| J.c hK5 <| J.M 0 1 5 7 ?_
 refine J.g fun K6 hK6 => J.p (qAB rfl rfl ent18 (Ct.use (new := fun r : RvR => [r.mh, r.ma, r.G]) (fun F' hF => qHf F' (hK.mo hF) 2 (by decide)))) rfl ?_
 rintro ⟨hs, ts, An, cn, Ah, ch, mh, Aa, ca, ma, G⟩ ⟨hlen, hnod, hrh, hra, hrok⟩
 change J _ ((38, .tuple #[.agg #[N64 0, Str qAb, I 1, I 0, .slice An (qAL rv0 1).length cn], .slice Ah 2 ch, .slice Aa 2 ca]) :: _) _ [_, _, _, _, _, _, _, _, _, _, mh, ma, G] _
 dsimp only at hlen hnod hrh hra hrok
 obtain ⟨h0, h1, rfl⟩ := qLc hlen
 obtain ⟨t0, t1, rfl⟩ := qLc (hrok.1.symm.trans hlen)
 have R0 : qLL G 0 h0 t0 := hrok.2 0 (show 0 < 2 by decide)
 have R1 : qLL G 1 h1 t1 := hrok.2 1 (show 1 < 2 by decide)
 have hl0 := R0.len
 have hl1 := R1.len
 refine J.j 4 rfl <| J.p (qAO (l := [.int .u64 0, Str [], I 0, I 0, .slice none 0 0]) rfl qPj rfl) rfl fun g9 _ => ?_
 change J _ _ _ [_, _, _, _, _, _, _, _, _, _, _, _, _, blk g9 [.int .u64 0, Str [], I 0, I 0, .slice none 0 0] 39] _
 refine J.b1 (qAG (i := 13) (l := [.int .u64 0, Str [], I 0, I 0, .slice none 0 0]) (vs := [N64 0, Str qAb, I 1, I 0, .slice An ((qAL rv0 1).length) cn]) rfl rfl rfl rfl rfl qB6 rfl rfl) rfl rfl fun _ _ => ?_
 change J _ _ _ [_, _, _, _, _, _, _, _, _, _, _, _, _, blk g9 [N64 0, Str qAb, I 1, I 0, .slice An ((qAL rv0 1).length) cn] 39] _
 refine J.j 2 rfl <| J.c hK6 <| J.c2 0 1 5 7 9 10 11 ?_
 refine J.e4 (X := Nat × Nat) (fun ζ => [(0, B8 (how)), (1, I (number)), (5, Ptr gd), (7, Ptr ga), (9, Ptr g9), (10, .slice Ah 2 ch), (11, .slice Aa 2 ca), (12, Ptr ζ.1), (13, Ptr ζ.2)]) (fun ζ => [blk gs [Ptr gk, Ptr gb, I ((0 : Nat) : Int)] 216, blk gb (bkC gd 0 (8 / 2) (sX0 0) Ab cb false) 223, blk gq (bkC gd 8 16 (sX0 8) Aq cq false) 223, md, qAK gm (.map #[] 0), F, mk, mb, mq, blk ga [Ptr gs, I ((2 ^ 0 : Nat) : Int), Ptr gq, .map (some gm)] 145, mh, ma, G, blk g9 [N64 0, Str qAb, I 1, I 0, .slice An (qAL rv0 1).length cn] 39, blk ζ.1 [N64 1, Str pH.dig, I ((1 : Nat) : Int), I ((0 : Nat) : Int), .slice h0.nsA (qAL (qBA 0) 1).length h0.nsc] 39, blk ζ.2 [I ((1 : Nat) : Int), I ((1 : Nat) : Int), Str (rvO 0 1), Str (rvN 0 1), .slice (t0.l.getD 1 qAP).stA (t0.l.getD 1 qAP).st.length (t0.l.getD 1 qAP).stc] 79]) (fun ζ => True) (fun K7 hK7 => ?_) ?_
 ·
  refine J.c1 [mh, ma, G] [] (.y 0 (.y 1 (.y 2 (.y 3 (.y 4 (.y 5 (.y 6 (.y 7 (.br (.e 8 (.e 9 (.e 10 (.e 11 .nil)))) (.e 9 (.e 8 (.e 10 (.e 11 .nil))))))))))))) Tryz.wide (by decide +kernel) (by simp) ?_
  refine J.O ?_
  refine J.q rfl (qAH (i := 0) rfl rfl rfl qNR qB6 hrh.sl (by omega)) rfl rfl <| J.q rfl (qAo (vs := [N64 1, Str pH.dig, I ((1 : Nat) : Int), I ((0 : Nat) : Int), .slice h0.nsA (qAL (qBA 0) 1).length h0.nsc]) rfl rfl qDD qB6 (m := mh) (by simp) (by have := hrh.sl.elem (i := 0) (x := h0.cells) rfl; rw [R0.cells] at this; exact this) rfl) rfl rfl <| J.O ?_
  refine J.q rfl (qAH (i := 0) rfl rfl rfl qPC sizeOf80 hra.sl (by omega)) rfl rfl <| J.q rfl (qAN (v := .slice t0.lA t0.l.length t0.lc) rfl rfl isAgg80 (m := ma) (by simp) (hra.sl.elem (i := 0) (x := t0.cells) rfl)) rfl rfl <| J.q rfl (qAH (i := 1) rfl rfl rfl qPB qEF R0.tsl (by omega)) rfl rfl <| J.q rfl (qAo (vs := [I ((1 : Nat) : Int), I ((1 : Nat) : Int), Str (rvO 0 1), Str (rvN 0 1), .slice (t0.l.getD 1 qAP).stA (t0.l.getD 1 qAP).st.length (t0.l.getD 1 qAP).stc]) rfl rfl qId qEF (m := G) (by simp) (by have := R0.tsl.elem (i := 1) (qCz (by omega)); rw [(R0.trs 1 (by omega)).cells] at this; exact this) rfl) rfl rfl <| J.f1 ?_ ?_
  ·
   refine J.b2 rfl (qAO (l := [.int .u64 0, Str [], I 0, I 0, .slice none 0 0]) rfl qPj rfl) rfl (by simp) fun g12 _ => ?_
   change J _ _ _ [F, md, mk, blk gb (bkC gd 0 (8 / 2) (sX0 0) Ab cb false) 223, mb, blk gs [Ptr gk, Ptr gb, I ((0 : Nat) : Int)] 216, blk gq (bkC gd 8 16 (sX0 8) Aq cq false) 223, mq, qAK gm (.map #[] 0), blk ga [Ptr gs, I ((2 ^ 0 : Nat) : Int), Ptr gq, .map (some gm)] 145, mh, ma, G, blk g9 [N64 0, Str qAb, I 1, I 0, .slice An ((qAL rv0 1).length) cn] 39, blk g12 [.int .u64 0, Str [], I 0, I 0, .slice none 0 0] 39] _
   refine J.b2 rfl (qAO (l := [I 0, I 0, Str [], Str [], .slice none 0 0]) rfl qRW rfl) rfl (by simp) fun g13 _ => ?_
   change J _ _ _ [_, _, _, _, _, _, _, _, _, _, _, _, _, _, _, blk g13 [I 0, I 0, Str [], Str [], .slice none 0 0] 79] _
   refine J.e1 rfl (qAG (i := 14) (l := [.int .u64 0, Str [], I 0, I 0, .slice none 0 0]) (vs := [N64 1, Str pH.dig, I ((1 : Nat) : Int), I ((0 : Nat) : Int), .slice h0.nsA ((qAL (qBA 0) 1).length) h0.nsc]) rfl rfl rfl rfl rfl qB6 rfl rfl) rfl rfl (by simp) fun _ _ => ?_
   change J _ _ _ [_, _, _, _, _, _, _, _, _, _, _, _, _, _, blk g12 [N64 1, Str pH.dig, I ((1 : Nat) : Int), I ((0 : Nat) : Int), .slice h0.nsA ((qAL (qBA 0) 1).length) h0.nsc] 39, _] _
   refine J.e1 rfl (qAG (i := 15) (l := [I 0, I 0, Str [], Str [], .slice none 0 0]) (vs := [I ((1 : Nat) : Int), I ((1 : Nat) : Int), Str (rvO 0 1), Str (rvN 0 1), .slice (t0.l.getD 1 qAP).stA (t0.l.getD 1 qAP).st.length (t0.l.getD 1 qAP).stc]) rfl rfl rfl rfl rfl qEF rfl rfl) rfl rfl (by simp) fun _ _ => ?_
   change J _ _ _ [_, _, _, _, _, _, _, _, _, _, _, _, _, _, _, blk g13 [I ((1 : Nat) : Int), I ((1 : Nat) : Int), Str (rvO 0 1), Str (rvN 0 1), .slice (t0.l.getD 1 qAP).stA (t0.l.getD 1 qAP).st.length (t0.l.getD 1 qAP).stc] 79] _
   exact J.b5 <| J.A <| J.b0 (g12, g13) hK7 (trivial) ⟨rfl, rfl, rfl, rfl, rfl, rfl, rfl, rfl, rfl, trivial⟩ (fun _ h => h.pick [5, 3, 6, 1, 8, 0, 2, 4, 7, 9, 10, 11, 12, 13, 14, 15] (by decide))
  refine J.b2 rfl (qAO (l := [I 0, I 0, Str [], Str [], .slice none 0 0]) rfl qRW rfl) rfl (by simp) fun g13 _ => ?_
  change J _ _ _ [F, md, mk, blk gb (bkC gd 0 (8 / 2) (sX0 0) Ab cb false) 223, mb, blk gs [Ptr gk, Ptr gb, I ((0 : Nat) : Int)] 216, blk gq (bkC gd 8 16 (sX0 8) Aq cq false) 223, mq, qAK gm (.map #[] 0), blk ga [Ptr gs, I ((2 ^ 0 : Nat) : Int), Ptr gq, .map (some gm)] 145, mh, ma, G, blk g9 [N64 0, Str qAb, I 1, I 0, .slice An ((qAL rv0 1).length) cn] 39, blk g13 [I 0, I 0, Str [], Str [], .slice none 0 0] 79] _
  refine J.b2 rfl (qAO (l := [.int .u64 0, Str [], I 0, I 0, .slice none 0 0]) rfl qPj rfl) rfl (by simp) fun g12 _ => ?_
  change J _ _ _ [_, _, _, _, _, _, _, _, _, _, _, _, _, _, _, blk g12 [.int .u64 0, Str [], I 0, I 0, .slice none 0 0] 39] _
  refine J.e1 rfl (qAG (i := 15) (l := [.int .u64 0, Str [], I 0, I 0, .slice none 0 0]) (vs := [N64 1, Str pH.dig, I ((1 : Nat) : Int), I ((0 : Nat) : Int), .slice h0.nsA ((qAL (qBA 0) 1).length) h0.nsc]) rfl rfl rfl rfl rfl qB6 rfl rfl) rfl rfl (by simp) fun _ _ => ?_
  change J _ _ _ [_, _, _, _, _, _, _, _, _, _, _, _, _, _, _, blk g12 [N64 1, Str pH.dig, I ((1 : Nat) : Int), I ((0 : Nat) : Int), .slice h0.nsA ((qAL (qBA 0) 1).length) h0.nsc] 39] _
  refine J.e1 rfl (qAG (i := 14) (l := [I 0, I 0, Str [], Str [], .slice none 0 0]) (vs := [I ((1 : Nat) : Int), I ((1 : Nat) : Int), Str (rvO 0 1), Str (rvN 0 1), .slice (t0.l.getD 1 qAP).stA (t0.l.getD 1 qAP).st.length (t0.l.getD 1 qAP).stc]) rfl rfl rfl rfl rfl qEF rfl rfl) rfl rfl (by simp) fun _ _ => ?_
  change J _ _ _ [_, _, _, _, _, _, _, _, _, _, _, _, _, _, blk g13 [I ((1 : Nat) : Int), I ((1 : Nat) : Int), Str (rvO 0 1), Str (rvN 0 1), .slice (t0.l.getD 1 qAP).stA (t0.l.getD 1 qAP).st.length (t0.l.getD 1 qAP).stc] 79, _] _
  exact J.b5 <| J.A <| J.b0 (g12, g13) hK7 (trivial) ⟨rfl, rfl, rfl, rfl, rfl, rfl, rfl, rfl, rfl, trivial⟩ (fun _ h => h.pick [5, 3, 6, 1, 8, 0, 2, 4, 7, 9, 10, 11, 12, 13, 15, 14] (by decide))
 rintro ⟨g12, g13⟩ _
 dsimp only at  ⊢
 refine J.k fun K8 hK8 => J.d9 [0, 1, 2, 3, 4, 5, 6, 7, 8, 9, 10, 11, 12, 13, 14, 15, 16] [blk gs [Ptr gk, Ptr gb, I ((0 : Nat) : Int)] 216, blk gb (bkC gd 0 (8 / 2) (sX0 0) Ab cb false) 223, blk gq (bkC gd 8 16 (sX0 8) Aq cq false) 223, md, qAK gm (.map #[] 0), F, mk, mb, mq, blk ga [Ptr gs, I ((2 ^ 0 : Nat) : Int), Ptr gq, .map (some gm)] 145, mh, ma, G, blk g9 [N64 0, Str qAb, I 1, I 0, .slice An (qAL rv0 1).length cn] 39, blk g12 [N64 1, Str pH.dig, I ((1 : Nat) : Int), I ((0 : Nat) : Int), .slice h0.nsA (qAL (qBA 0) 1).length h0.nsc] 39, blk g13 [I ((1 : Nat) : Int), I ((1 : Nat) : Int), Str (rvO 0 1), Str (rvN 0 1), .slice (t0.l.getD 1 qAP).stA (t0.l.getD 1 qAP).st.length (t0.l.getD 1 qAP).stc] 79, (fun _ => none)] rfl (by decide) <| J.G <| J.b rfl <| J.c hK8 <| J.f0 0 1 5 7 9 10 11 12 13 14 ?_
 refine J.e4 (X := List Value × List Value × Nat × Hp) (fun ζ => [(0, B8 (how)), (1, I (number)), (5, Ptr gd), (7, Ptr ga), (9, Ptr g9), (10, .slice Ah 2 ch), (11, .slice Aa 2 ca), (12, Ptr g12), (13, Ptr g13), (14, I ((ζ.2.2.1 : Nat) : Int))]) (fun ζ => [blk gs [Ptr gk, Ptr gb, I ((0 : Nat) : Int)] 216, blk gb (bkC gd 0 (8 / 2) (sX0 0) Ab cb false) 223, blk gq (bkC gd 8 16 (sX0 8) Aq cq false) 223, md, qAK gm (.map #[] 0), F, mk, mb, mq, blk ga [Ptr gs, I ((2 ^ 0 : Nat) : Int), Ptr gq, .map (some gm)] 145, mh, ma, G, blk g9 [N64 0, Str qAb, I 1, I 0, .slice An (qAL rv0 1).length cn] 39, blk g12 ζ.1 39, blk g13 ζ.2.1 79, ζ.2.2.2]) (fun ζ => ζ.1.length = 5 ∧ ζ.2.1.length = 5 ∧ (RefK F G ζ.2.2.2 ga gs gq gm An cn how number ζ.1 ζ.2.1 ζ.2.2.1 ∨ (ζ.1 = [N64 1, Str pH.dig, I ((1 : Nat) : Int), I ((0 : Nat) : Int), .slice h0.nsA (qAL (qBA 0) 1).length h0.nsc] ∧ ζ.2.1 = [I ((1 : Nat) : Int), I ((1 : Nat) : Int), Str (rvO 0 1), Str (rvN 0 1), .slice (t0.l.getD 1 qAP).stA (t0.l.getD 1 qAP).st.length (t0.l.getD 1 qAP).stc] ∧ ζ.2.2.1 = 0 ∧ how.toNat % 8 = 7 ∧ 0 ≤ number ∧ number ≤ 63))) (fun K9 hK9 => ?_) ?_
 ·
  refine J.g fun K10 hK10 => J.b rfl <| J.f ((qHo rfl rfl rfl ⟨by omega, by decide⟩).as (v' := (.int .u8 ((how.toNat % 8 : Nat) : Int))) (congrArg (Value.int .u8) (by show (how.toNat : Int) % 8 = _; omega))) rfl <| J.c hK10 <| J.e3 0 1 5 7 9 10 11 12 13 14 51 ?_
  refine J.a1 <| J.g fun K11 hK11 => J.f (qAV rfl rfl rfl) rfl <| J.b rfl <| J.c hK11 <| J.e0 0 1 5 7 9 10 11 12 13 14 51 58 ?_
  refine J.a5 rfl (fun h58 => ?_) (fun h58 => ?_)
  ·
   refine J.G <| J.a2 0 qDG qCm rfl rfl rfl rfl rfl <| J.b1 (qAT (i := 14) (l := [N64 1, Str pH.dig, I ((1 : Nat) : Int), I ((0 : Nat) : Int), .slice h0.nsA (qAL (qBA 0) 1).length h0.nsc]) (vs := [N64 (2)]) rfl rfl rfl rfl rfl qCm rfl (by simp)) rfl rfl fun _ _ => ?_
   change J _ _ _ [blk gs [Ptr gk, Ptr gb, I ((0 : Nat) : Int)] 216, blk gb (bkC gd 0 (8 / 2) (sX0 0) Ab cb false) 223, blk gq (bkC gd 8 16 (sX0 8) Aq cq false) 223, md, qAK gm (.map #[] 0), F, mk, mb, mq, blk ga [Ptr gs, I ((2 ^ 0 : Nat) : Int), Ptr gq, .map (some gm)] 145, mh, ma, G, blk g9 [N64 0, Str qAb, I 1, I 0, .slice An (qAL rv0 1).length cn] 39, blk g12 [N64 (2), Str pH.dig, I ((1 : Nat) : Int), I ((0 : Nat) : Int), .slice h0.nsA (qAL (qBA 0) 1).length h0.nsc] 39, blk g13 [I ((1 : Nat) : Int), I ((1 : Nat) : Int), Str (rvO 0 1), Str (rvN 0 1), .slice (t0.l.getD 1 qAP).stA (t0.l.getD 1 qAP).st.length (t0.l.getD 1 qAP).stc] 79, (fun _ => none)] _
   exact J.b rfl <| J.a7 <| J.a9 <| J.A <| J.b0 ([N64 2, Str pH.dig, I ((1 : Nat) : Int), I ((0 : Nat) : Int), .slice h0.nsA (qAL (qBA 0) 1).length h0.nsc], [I ((1 : Nat) : Int), I ((1 : Nat) : Int), Str (rvO 0 1), Str (rvN 0 1), .slice (t0.l.getD 1 qAP).stA (t0.l.getD 1 qAP).st.length (t0.l.getD 1 qAP).stc], 14, (fun _ => none)) hK9 (⟨rfl, rfl, .inl ⟨by show 14 ≠ 0; decide, fun F' q1 q2 q3 q4 q5 => (by have := qBp F' (hK.mono q1) pH An cn qBJ (hnod.mono q2) (⟨2, pH.dig, ((1 : Nat) : Int), ((0 : Nat) : Int), qAL (qBA 0) 1⟩ : Hd) h0.nsA h0.nsc qRQ (R0.nsl2.mono q2) 1 ((1 : Nat) : Int) (rvO 0 1) (rvN 0 1) (t0.l.getD 1 qAP).stA (t0.l.getD 1 qAP).st.length (t0.l.getD 1 qAP).stc 0 (fun F2 h2 => qBT F2 (hK.mono (q1.trans h2)) 0 (b := 1) (by decide) (t0.l.getD 1 qAP) ((R0.trs 1 (by omega)).mono (q2.trans h2))) (qEJ (⟨2, pH.dig, ((1 : Nat) : Int), ((0 : Nat) : Int), qAL (qBA 0) 1⟩ : Hd) (qBG _ _ _) (by decide)) ga gs gq (2 ^ 0) gm (qAQ.blk0.mono q4) (number % 2 ^ 6) (by rw [qSL]; decide); rw [qSL] at this; show Ct _ _ [_, I (qEx how number), _, _, _] _ _ _ _; rw [show qEx how number = number % 2 ^ 6 from if_neg (by omega)]; exact this)⟩⟩) ⟨rfl, rfl, rfl, rfl, rfl, rfl, rfl, rfl, rfl, rfl, trivial⟩ (fun _ h => h)
  refine J.g fun K12 hK12 => J.f (qAV rfl rfl rfl) rfl <| J.b rfl <| J.c hK12 <| J.e0 0 1 5 7 9 10 11 12 13 14 51 61 ?_
  refine J.a5 rfl (fun h61 => ?_) (fun h61 => ?_)
  ·
   refine J.G <| J.a2 1 qDG z9_ rfl rfl rfl rfl rfl <| J.b1 (qAT (i := 14) (l := [N64 1, Str pH.dig, I ((1 : Nat) : Int), I ((0 : Nat) : Int), .slice h0.nsA (qAL (qBA 0) 1).length h0.nsc]) (vs := [Str ([0, 0, 0, 0, 0, 0, 0, 0, 0, 0, 0, 0, 0, 0, 0, 0])]) rfl rfl rfl rfl rfl z9_ rfl (by simp)) rfl rfl fun _ _ => ?_
   change J _ _ _ [blk gs [Ptr gk, Ptr gb, I ((0 : Nat) : Int)] 216, blk gb (bkC gd 0 (8 / 2) (sX0 0) Ab cb false) 223, blk gq (bkC gd 8 16 (sX0 8) Aq cq false) 223, md, qAK gm (.map #[] 0), F, mk, mb, mq, blk ga [Ptr gs, I ((2 ^ 0 : Nat) : Int), Ptr gq, .map (some gm)] 145, mh, ma, G, blk g9 [N64 0, Str qAb, I 1, I 0, .slice An (qAL rv0 1).length cn] 39, blk g12 [N64 1, Str ([0, 0, 0, 0, 0, 0, 0, 0, 0, 0, 0, 0, 0, 0, 0, 0]), I ((1 : Nat) : Int), I ((0 : Nat) : Int), .slice h0.nsA (qAL (qBA 0) 1).length h0.nsc] 39, blk g13 [I ((1 : Nat) : Int), I ((1 : Nat) : Int), Str (rvO 0 1), Str (rvN 0 1), .slice (t0.l.getD 1 qAP).stA (t0.l.getD 1 qAP).st.length (t0.l.getD 1 qAP).stc] 79, (fun _ => none)] _
   exact J.b rfl <| J.a7 <| J.a9 <| J.A <| J.b0 ([N64 1, Str qAb, I ((1 : Nat) : Int), I ((0 : Nat) : Int), .slice h0.nsA (qAL (qBA 0) 1).length h0.nsc], [I ((1 : Nat) : Int), I ((1 : Nat) : Int), Str (rvO 0 1), Str (rvN 0 1), .slice (t0.l.getD 1 qAP).stA (t0.l.getD 1 qAP).st.length (t0.l.getD 1 qAP).stc], 15, (fun _ => none)) hK9 (⟨rfl, rfl, .inl ⟨by show 15 ≠ 0; decide, fun F' q1 q2 q3 q4 q5 => (by have := qBp F' (hK.mono q1) pH An cn qBJ (hnod.mono q2) (⟨1, qAb, ((1 : Nat) : Int), ((0 : Nat) : Int), qAL (qBA 0) 1⟩ : Hd) h0.nsA h0.nsc qRP (R0.nsl2.mono q2) 1 ((1 : Nat) : Int) (rvO 0 1) (rvN 0 1) (t0.l.getD 1 qAP).stA (t0.l.getD 1 qAP).st.length (t0.l.getD 1 qAP).stc 0 (fun F2 h2 => qBT F2 (hK.mono (q1.trans h2)) 0 (b := 1) (by decide) (t0.l.getD 1 qAP) ((R0.trs 1 (by omega)).mono (q2.trans h2))) (qEJ (⟨1, qAb, ((1 : Nat) : Int), ((0 : Nat) : Int), qAL (qBA 0) 1⟩ : Hd) (qBG _ _ _) (by decide)) ga gs gq (2 ^ 0) gm (qAQ.blk0.mono q4) (number % 2 ^ 6) (by rw [qSK]; decide); rw [qSK] at this; show Ct _ _ [_, I (qEx how number), _, _, _] _ _ _ _; rw [show qEx how number = number % 2 ^ 6 from if_neg (by omega)]; exact this)⟩⟩) ⟨rfl, rfl, rfl, rfl, rfl, rfl, rfl, rfl, rfl, rfl, trivial⟩ (fun _ h => h)
  refine J.g fun K13 hK13 => J.f (qAV rfl rfl rfl) rfl <| J.b rfl <| J.c hK13 <| J.e0 0 1 5 7 9 10 11 12 13 14 51 64 ?_
  refine J.a5 rfl (fun h64 => ?_) (fun h64 => ?_)
  ·
   refine J.G <| J.a2 3 qDp z9_ rfl rfl rfl rfl rfl <| J.b1 (qAT (i := 15) (l := [I ((1 : Nat) : Int), I ((1 : Nat) : Int), Str (rvO 0 1), Str (rvN 0 1), .slice (t0.l.getD 1 qAP).stA (t0.l.getD 1 qAP).st.length (t0.l.getD 1 qAP).stc]) (vs := [Str ([0])]) rfl rfl rfl rfl rfl z9_ rfl (by simp)) rfl rfl fun _ _ => ?_
   change J _ _ _ [blk gs [Ptr gk, Ptr gb, I ((0 : Nat) : Int)] 216, blk gb (bkC gd 0 (8 / 2) (sX0 0) Ab cb false) 223, blk gq (bkC gd 8 16 (sX0 8) Aq cq false) 223, md, qAK gm (.map #[] 0), F, mk, mb, mq, blk ga [Ptr gs, I ((2 ^ 0 : Nat) : Int), Ptr gq, .map (some gm)] 145, mh, ma, G, blk g9 [N64 0, Str qAb, I 1, I 0, .slice An (qAL rv0 1).length cn] 39, blk g12 [N64 1, Str pH.dig, I ((1 : Nat) : Int), I ((0 : Nat) : Int), .slice h0.nsA (qAL (qBA 0) 1).length h0.nsc] 39, blk g13 [I ((1 : Nat) : Int), I ((1 : Nat) : Int), Str (rvO 0 1), Str ([0]), .slice (t0.l.getD 1 qAP).stA (t0.l.getD 1 qAP).st.length (t0.l.getD 1 qAP).stc] 79, (fun _ => none)] _
   exact J.b rfl <| J.a7 <| J.a9 <| J.A <| J.b0 ([N64 1, Str pH.dig, I ((1 : Nat) : Int), I ((0 : Nat) : Int), .slice h0.nsA (qAL (qBA 0) 1).length h0.nsc], [I ((1 : Nat) : Int), I ((1 : Nat) : Int), Str (rvO 0 1), Str [0], .slice (t0.l.getD 1 qAP).stA (t0.l.getD 1 qAP).st.length (t0.l.getD 1 qAP).stc], 15, (fun _ => none)) hK9 (⟨rfl, rfl, .inl ⟨by show 15 ≠ 0; decide, fun F' q1 q2 q3 q4 q5 => (by have := qBp F' (hK.mono q1) pH An cn qBJ (hnod.mono q2) (hH 0) h0.nsA h0.nsc (qBS 0) (R0.nsl2.mono q2) 1 ((1 : Nat) : Int) (rvO 0 1) [0] (t0.l.getD 1 qAP).stA (t0.l.getD 1 qAP).st.length (t0.l.getD 1 qAP).stc 15 (fun F2 h2 => qSE F2 (hK.mono (q1.trans h2)) (t0.l.getD 1 qAP) ((R0.trs 1 (by omega)).mono (q2.trans h2))) (qEJ (hH 0) (qNY 0) (by decide)) ga gs gq (2 ^ 0) gm (qAQ.blk0.mono q4) (number % 2 ^ 6) (by rw [qSJ]; decide); rw [qSJ] at this; show Ct _ _ [_, I (qEx how number), _, _, _] _ _ _ _; rw [show qEx how number = number % 2 ^ 6 from if_neg (by omega)]; exact this)⟩⟩) ⟨rfl, rfl, rfl, rfl, rfl, rfl, rfl, rfl, rfl, rfl, trivial⟩ (fun _ h => h)
  refine J.g fun K14 hK14 => J.f (qAV rfl rfl rfl) rfl <| J.b rfl <| J.c hK14 <| J.e0 0 1 5 7 9 10 11 12 13 14 51 67 ?_
  refine J.a5 rfl (fun h67 => ?_) (fun h67 => ?_)
  ·
   refine J.G <| J.b rfl <| J.f (qAH (i := 1) rfl rfl rfl qPC sizeOf80 hra.sl (by omega)) rfl <| J.f (qAN (v := .slice t1.lA t1.l.length t1.lc) rfl rfl isAgg80 (m := ma) (by simp) (hra.sl.elem (i := 1) (x := t1.cells) rfl)) rfl <| J.f (qAH (i := 1) rfl rfl rfl qPB qEF R1.tsl (by omega)) rfl <| J.f (qAo (vs := [I ((1 : Nat) : Int), I ((1 : Nat) : Int), Str (rvO 1 1), Str (rvN 1 1), .slice (t1.l.getD 1 qAP).stA (t1.l.getD 1 qAP).st.length (t1.l.getD 1 qAP).stc]) rfl rfl qId qEF (m := G) (by simp) (by have := R1.tsl.elem (i := 1) (qCz (by omega)); rw [(R1.trs 1 (by omega)).cells] at this; exact this) rfl) rfl <| J.b1 (qAG (i := 15) (l := [I ((1 : Nat) : Int), I ((1 : Nat) : Int), Str (rvO 0 1), Str (rvN 0 1), .slice (t0.l.getD 1 qAP).stA (t0.l.getD 1 qAP).st.length (t0.l.getD 1 qAP).stc]) (vs := [I ((1 : Nat) : Int), I ((1 : Nat) : Int), Str (rvO 1 1), Str (rvN 1 1), .slice (t1.l.getD 1 qAP).stA (t1.l.getD 1 qAP).st.length (t1.l.getD 1 qAP).stc]) rfl rfl rfl rfl rfl qEF rfl rfl) rfl rfl fun _ _ => ?_
   change J _ _ _ [blk gs [Ptr gk, Ptr gb, I ((0 : Nat) : Int)] 216, blk gb (bkC gd 0 (8 / 2) (sX0 0) Ab cb false) 223, blk gq (bkC gd 8 16 (sX0 8) Aq cq false) 223, md, qAK gm (.map #[] 0), F, mk, mb, mq, blk ga [Ptr gs, I ((2 ^ 0 : Nat) : Int), Ptr gq, .map (some gm)] 145, mh, ma, G, blk g9 [N64 0, Str qAb, I 1, I 0, .slice An (qAL rv0 1).length cn] 39, blk g12 [N64 1, Str pH.dig, I ((1 : Nat) : Int), I ((0 : Nat) : Int), .slice h0.nsA (qAL (qBA 0) 1).length h0.nsc] 39, blk g13 [I ((1 : Nat) : Int), I ((1 : Nat) : Int), Str (rvO 1 1), Str (rvN 1 1), .slice (t1.l.getD 1 qAP).stA (t1.l.getD 1 qAP).st.length (t1.l.getD 1 qAP).stc] 79, (fun _ => none)] _
   exact J.b rfl <| J.a7 <| J.a9 <| J.A <| J.b0 ([N64 1, Str pH.dig, I ((1 : Nat) : Int), I ((0 : Nat) : Int), .slice h0.nsA (qAL (qBA 0) 1).length h0.nsc], [I ((1 : Nat) : Int), I ((1 : Nat) : Int), Str (rvO 1 1), Str (rvN 1 1), .slice (t1.l.getD 1 qAP).stA (t1.l.getD 1 qAP).st.length (t1.l.getD 1 qAP).stc], 15, (fun _ => none)) hK9 (⟨rfl, rfl, .inl ⟨by show 15 ≠ 0; decide, fun F' q1 q2 q3 q4 q5 => (by have := qBp F' (hK.mono q1) pH An cn qBJ (hnod.mono q2) (hH 0) h0.nsA h0.nsc (qBS 0) (R0.nsl2.mono q2) 1 ((1 : Nat) : Int) (rvO 1 1) (rvN 1 1) (t1.l.getD 1 qAP).stA (t1.l.getD 1 qAP).st.length (t1.l.getD 1 qAP).stc 0 (fun F2 h2 => qBT F2 (hK.mono (q1.trans h2)) 1 (b := 1) (by decide) (t1.l.getD 1 qAP) ((R1.trs 1 (by omega)).mono (q2.trans h2))) (qEJ (hH 0) (qNY 0) (by decide)) ga gs gq (2 ^ 0) gm (qAQ.blk0.mono q4) (number % 2 ^ 6) (by rw [qSI]; decide); rw [qSI] at this; show Ct _ _ [_, I (qEx how number), _, _, _] _ _ _ _; rw [show qEx how number = number % 2 ^ 6 from if_neg (by omega)]; exact this)⟩⟩) ⟨rfl, rfl, rfl, rfl, rfl, rfl, rfl, rfl, rfl, rfl, trivial⟩ (fun _ h => h)
  refine J.g fun K15 hK15 => J.f (qAV rfl rfl rfl) rfl <| J.b rfl <| J.c hK15 <| J.e0 0 1 5 7 9 10 11 12 13 14 51 74 ?_
  refine J.a5 rfl (fun h74 => ?_) (fun h74 => ?_)
  ·
   refine J.G <| J.a2 0 qDp z3_ rfl rfl rfl rfl rfl <| J.b1 (qAT (i := 15) (l := [I ((1 : Nat) : Int), I ((1 : Nat) : Int), Str (rvO 0 1), Str (rvN 0 1), .slice (t0.l.getD 1 qAP).stA (t0.l.getD 1 qAP).st.length (t0.l.getD 1 qAP).stc]) (vs := [I ((0 : Nat) : Int)]) rfl rfl rfl rfl rfl z3_ rfl (by simp)) rfl rfl fun _ _ => ?_
   change J _ _ _ [blk gs [Ptr gk, Ptr gb, I ((0 : Nat) : Int)] 216, blk gb (bkC gd 0 (8 / 2) (sX0 0) Ab cb false) 223, blk gq (bkC gd 8 16 (sX0 8) Aq cq false) 223, md, qAK gm (.map #[] 0), F, mk, mb, mq, blk ga [Ptr gs, I ((2 ^ 0 : Nat) : Int), Ptr gq, .map (some gm)] 145, mh, ma, G, blk g9 [N64 0, Str qAb, I 1, I 0, .slice An (qAL rv0 1).length cn] 39, blk g12 [N64 1, Str pH.dig, I ((1 : Nat) : Int), I ((0 : Nat) : Int), .slice h0.nsA (qAL (qBA 0) 1).length h0.nsc] 39, blk g13 [I ((0 : Nat) : Int), I ((1 : Nat) : Int), Str (rvO 0 1), Str (rvN 0 1), .slice (t0.l.getD 1 qAP).stA (t0.l.getD 1 qAP).st.length (t0.l.getD 1 qAP).stc] 79, (fun _ => none)] _
   exact J.b rfl <| J.a7 <| J.a9 <| J.A <| J.b0 ([N64 1, Str pH.dig, I ((1 : Nat) : Int), I ((0 : Nat) : Int), .slice h0.nsA (qAL (qBA 0) 1).length h0.nsc], [I ((0 : Nat) : Int), I ((1 : Nat) : Int), Str (rvO 0 1), Str (rvN 0 1), .slice (t0.l.getD 1 qAP).stA (t0.l.getD 1 qAP).st.length (t0.l.getD 1 qAP).stc], 10, (fun _ => none)) hK9 (⟨rfl, rfl, .inl ⟨by show 10 ≠ 0; decide, fun F' q1 q2 q3 q4 q5 => (by have := qBp F' (hK.mono q1) pH An cn qBJ (hnod.mono q2) (hH 0) h0.nsA h0.nsc (qBS 0) (R0.nsl2.mono q2) 0 ((1 : Nat) : Int) (rvO 0 1) (rvN 0 1) (t0.l.getD 1 qAP).stA (t0.l.getD 1 qAP).st.length (t0.l.getD 1 qAP).stc 10 (fun F2 h2 => qSD F2 (t0.l.getD 1 qAP) ((R0.trs 1 (by omega)).mono (q2.trans h2))) (qEJ (hH 0) (qNY 0) (by decide)) ga gs gq (2 ^ 0) gm (qAQ.blk0.mono q4) (number % 2 ^ 6) (by rw [qSH]; decide); rw [qSH] at this; show Ct _ _ [_, I (qEx how number), _, _, _] _ _ _ _; rw [show qEx how number = number % 2 ^ 6 from if_neg (by omega)]; exact this)⟩⟩) ⟨rfl, rfl, rfl, rfl, rfl, rfl, rfl, rfl, rfl, rfl, trivial⟩ (fun _ h => h)
  refine J.g fun K16 hK16 => J.f (qAV rfl rfl rfl) rfl <| J.b rfl <| J.c hK16 <| J.e0 0 1 5 7 9 10 11 12 13 14 51 77 ?_
  refine J.a5 rfl (fun h77 => ?_) (fun h77 => ?_)
  ·
   refine J.G <| J.a2 1 qDp z3_ rfl rfl rfl rfl rfl <| J.b1 (qAT (i := 15) (l := [I ((1 : Nat) : Int), I ((1 : Nat) : Int), Str (rvO 0 1), Str (rvN 0 1), .slice (t0.l.getD 1 qAP).stA (t0.l.getD 1 qAP).st.length (t0.l.getD 1 qAP).stc]) (vs := [I ((5 : Nat) : Int)]) rfl rfl rfl rfl rfl z3_ rfl (by simp)) rfl rfl fun _ _ => ?_
   change J _ _ _ [blk gs [Ptr gk, Ptr gb, I ((0 : Nat) : Int)] 216, blk gb (bkC gd 0 (8 / 2) (sX0 0) Ab cb false) 223, blk gq (bkC gd 8 16 (sX0 8) Aq cq false) 223, md, qAK gm (.map #[] 0), F, mk, mb, mq, blk ga [Ptr gs, I ((2 ^ 0 : Nat) : Int), Ptr gq, .map (some gm)] 145, mh, ma, G, blk g9 [N64 0, Str qAb, I 1, I 0, .slice An (qAL rv0 1).length cn] 39, blk g12 [N64 1, Str pH.dig, I ((1 : Nat) : Int), I ((0 : Nat) : Int), .slice h0.nsA (qAL (qBA 0) 1).length h0.nsc] 39, blk g13 [I ((1 : Nat) : Int), I ((5 : Nat) : Int), Str (rvO 0 1), Str (rvN 0 1), .slice (t0.l.getD 1 qAP).stA (t0.l.getD 1 qAP).st.length (t0.l.getD 1 qAP).stc] 79, (fun _ => none)] _
   exact J.b rfl <| J.a7 <| J.a9 <| J.A <| J.b0 ([N64 1, Str pH.dig, I ((1 : Nat) : Int), I ((0 : Nat) : Int), .slice h0.nsA (qAL (qBA 0) 1).length h0.nsc], [I ((1 : Nat) : Int), I ((5 : Nat) : Int), Str (rvO 0 1), Str (rvN 0 1), .slice (t0.l.getD 1 qAP).stA (t0.l.getD 1 qAP).st.length (t0.l.getD 1 qAP).stc], 1, (fun _ => none)) hK9 (⟨rfl, rfl, .inl ⟨by show 1 ≠ 0; decide, fun F' q1 q2 q3 q4 q5 => (by have := qBp F' (hK.mono q1) pH An cn qBJ (hnod.mono q2) (hH 0) h0.nsA h0.nsc (qBS 0) (R0.nsl2.mono q2) 1 ((5 : Nat) : Int) (rvO 0 1) (rvN 0 1) (t0.l.getD 1 qAP).stA (t0.l.getD 1 qAP).st.length (t0.l.getD 1 qAP).stc 1 (fun F2 h2 => qSC F2 (t0.l.getD 1 qAP) ((R0.trs 1 (by omega)).mono (q2.trans h2))) (qEJ (hH 0) (qNY 0) (by decide)) ga gs gq (2 ^ 0) gm (qAQ.blk0.mono q4) (number % 2 ^ 6) (by rw [qSG]; decide); rw [qSG] at this; show Ct _ _ [_, I (qEx how number), _, _, _] _ _ _ _; rw [show qEx how number = number % 2 ^ 6 from if_neg (by omega)]; exact this)⟩⟩) ⟨rfl, rfl, rfl, rfl, rfl, rfl, rfl, rfl, rfl, rfl, trivial⟩ (fun _ h => h)
  refine J.g fun K17 hK17 => J.f (qAV rfl rfl rfl) rfl <| J.b rfl <| J.c hK17 <| J.e3 0 1 5 7 9 10 11 12 13 14 80 ?_
  refine J.a5 rfl (fun h80 => ?_) (fun h80 => ?_)
  ·
   refine J.G <| J.p (qAJ (l := [.const ((Value.string (ByteArray.mk #[0]))), .const ((Value.string (ByteArray.mk #[0])))]) (xs := [[Str ([0])], [Str ([0])]]) rfl rfl rfl rfl qAh el9 rfl (by decide) (by decide) (by simp)) rfl fun g82 _ => ?_
   change J _ _ _ [blk gs [Ptr gk, Ptr gb, I ((0 : Nat) : Int)] 216, blk gb (bkC gd 0 (8 / 2) (sX0 0) Ab cb false) 223, blk gq (bkC gd 8 16 (sX0 8) Aq cq false) 223, md, qAK gm (.map #[] 0), F, mk, mb, mq, blk ga [Ptr gs, I ((2 ^ 0 : Nat) : Int), Ptr gq, .map (some gm)] 145, mh, ma, G, blk g9 [N64 0, Str qAb, I 1, I 0, .slice An (qAL rv0 1).length cn] 39, blk g12 [N64 1, Str pH.dig, I ((1 : Nat) : Int), I ((0 : Nat) : Int), .slice h0.nsA (qAL (qBA 0) 1).length h0.nsc] 39, blk g13 [I ((1 : Nat) : Int), I ((1 : Nat) : Int), Str (rvO 0 1), Str (rvN 0 1), .slice (t0.l.getD 1 qAP).stA (t0.l.getD 1 qAP).st.length (t0.l.getD 1 qAP).stc] 79, (fun _ => none), blk g82 [Str ([0]), Str ([0])] 9] _
   refine J.a2 4 qDG qB0 rfl rfl rfl rfl rfl <| J.b1 (qAT (i := 14) (l := [N64 1, Str pH.dig, I ((1 : Nat) : Int), I ((0 : Nat) : Int), .slice h0.nsA (qAL (qBA 0) 1).length h0.nsc]) (vs := [.slice (some ⟨g82, 0, none⟩) 2 2]) rfl rfl rfl rfl rfl qB0 rfl (by simp)) rfl rfl fun _ _ => ?_
   change J _ _ _ [_, _, _, _, _, _, _, _, _, _, _, _, _, _, blk g12 [N64 1, Str pH.dig, I ((1 : Nat) : Int), I ((0 : Nat) : Int), .slice (some ⟨g82, 0, none⟩) 2 2] 39, _, _, _] _
   exact J.b rfl <| J.a7 <| J.a9 <| J.A <| J.b0 ([N64 1, Str pH.dig, I ((1 : Nat) : Int), I ((0 : Nat) : Int), .slice (some ⟨g82, 0, none⟩) 2 2], [I ((1 : Nat) : Int), I ((1 : Nat) : Int), Str (rvO 0 1), Str (rvN 0 1), .slice (t0.l.getD 1 qAP).stA (t0.l.getD 1 qAP).st.length (t0.l.getD 1 qAP).stc], 15, (blk g82 [Str ([0]), Str ([0])] 9)) hK9 (⟨rfl, rfl, .inl ⟨by show 15 ≠ 0; decide, fun F' q1 q2 q3 q4 q5 => (by have := qBp F' (hK.mono q1) pH An cn qBJ (hnod.mono q2) (⟨1, pH.dig, ((1 : Nat) : Int), ((0 : Nat) : Int), [[0], [0]]⟩ : Hd) (some ⟨g82, 0, none⟩) 2 qRO ((qBm (q := True) (qAI [[0], [0]]) rfl (by simp [qAI]) rfl).sl.mono q3) 1 ((1 : Nat) : Int) (rvO 0 1) (rvN 0 1) (t0.l.getD 1 qAP).stA (t0.l.getD 1 qAP).st.length (t0.l.getD 1 qAP).stc 0 (fun F2 h2 => qBT F2 (hK.mono (q1.trans h2)) 0 (b := 1) (by decide) (t0.l.getD 1 qAP) ((R0.trs 1 (by omega)).mono (q2.trans h2))) (qEJ (⟨1, pH.dig, ((1 : Nat) : Int), ((0 : Nat) : Int), [[0], [0]]⟩ : Hd) (by rfl) (by decide)) ga gs gq (2 ^ 0) gm (qAQ.blk0.mono q4) (number % 2 ^ 6) (by rw [qSF]; decide); rw [qSF] at this; show Ct _ _ [_, I (qEx how number), _, _, _] _ _ _ _; rw [show qEx how number = number % 2 ^ 6 from if_neg (by omega)]; exact this)⟩⟩) ⟨rfl, rfl, rfl, rfl, rfl, rfl, rfl, rfl, rfl, rfl, trivial⟩ (fun _ h => h.pick [0, 1, 2, 3, 4, 5, 6, 7, 8, 9, 10, 11, 12, 13, 14, 15, 17] (by decide))
  refine J.g fun K18 hK18 => J.b rfl <| J.f (qAW rfl rfl rfl) rfl <| J.b rfl <| J.c5 (d := 54) rfl (fun h54 => ?_) (fun h54 => ?_)
  ·
   refine J.j 3 rfl <| J.c hK18 <| J.e3 0 1 5 7 9 10 11 12 13 14 57 ?_
   refine J.c6 ?_
   exact J.G <| J.b rfl <| J.a7 <| J.a9 <| J.A <| J.b0 ([N64 1, Str pH.dig, I ((1 : Nat) : Int), I ((0 : Nat) : Int), .slice h0.nsA (qAL (qBA 0) 1).length h0.nsc], [I ((1 : Nat) : Int), I ((1 : Nat) : Int), Str (rvO 0 1), Str (rvN 0 1), .slice (t0.l.getD 1 qAP).stA (t0.l.getD 1 qAP).st.length (t0.l.getD 1 qAP).stc], 10, (fun _ => none)) hK9 (⟨rfl, rfl, .inl ⟨by show 10 ≠ 0; decide, fun F' q1 q2 q3 q4 q5 => (by have := qGU F' (hK.mono q1) pH An cn qBJ (hnod.mono q2) (hH 0) h0.nsA h0.nsc (qBS 0) (R0.nsl2.mono q2) 1 ((1 : Nat) : Int) (rvO 0 1) (rvN 0 1) (t0.l.getD 1 qAP).stA (t0.l.getD 1 qAP).st.length (t0.l.getD 1 qAP).stc 0 (fun F2 h2 => qBT F2 (hK.mono (q1.trans h2)) 0 (b := 1) (by decide) (t0.l.getD 1 qAP) ((R0.trs 1 (by omega)).mono (q2.trans h2))) (qEJ (hH 0) (qNY 0) (by decide)) ga gs gq (2 ^ 0) gm (qAQ.blk0.mono q4) [] ((qDF.nil plK gm).at.mono q5) (qF5 0 (by decide)) number (fun h => by have := h.2.2.2.2; omega); show Ct _ _ [_, I (qEx how number), _, _, _] _ _ _ _; rw [show qEx how number = number from if_pos (by omega)]; exact this)⟩⟩) ⟨rfl, rfl, rfl, rfl, rfl, rfl, rfl, rfl, rfl, rfl, trivial⟩ (fun _ h => h)
  refine J.b rfl <| J.T (qAx rfl rfl rfl) rfl <| J.b rfl <| J.c hK18 <| J.e3 0 1 5 7 9 10 11 12 13 14 57 ?_
  refine J.a5 rfl (fun h57 => ?_) (fun h57 => ?_)
  ·
   exact J.G <| J.b rfl <| J.a7 <| J.a9 <| J.A <| J.b0 ([N64 1, Str pH.dig, I ((1 : Nat) : Int), I ((0 : Nat) : Int), .slice h0.nsA (qAL (qBA 0) 1).length h0.nsc], [I ((1 : Nat) : Int), I ((1 : Nat) : Int), Str (rvO 0 1), Str (rvN 0 1), .slice (t0.l.getD 1 qAP).stA (t0.l.getD 1 qAP).st.length (t0.l.getD 1 qAP).stc], 10, (fun _ => none)) hK9 (⟨rfl, rfl, .inl ⟨by show 10 ≠ 0; decide, fun F' q1 q2 q3 q4 q5 => (by have := qGU F' (hK.mono q1) pH An cn qBJ (hnod.mono q2) (hH 0) h0.nsA h0.nsc (qBS 0) (R0.nsl2.mono q2) 1 ((1 : Nat) : Int) (rvO 0 1) (rvN 0 1) (t0.l.getD 1 qAP).stA (t0.l.getD 1 qAP).st.length (t0.l.getD 1 qAP).stc 0 (fun F2 h2 => qBT F2 (hK.mono (q1.trans h2)) 0 (b := 1) (by decide) (t0.l.getD 1 qAP) ((R0.trs 1 (by omega)).mono (q2.trans h2))) (qEJ (hH 0) (qNY 0) (by decide)) ga gs gq (2 ^ 0) gm (qAQ.blk0.mono q4) [] ((qDF.nil plK gm).at.mono q5) (qF5 0 (by decide)) number (fun h => by have := h.2.2.2.2; omega); show Ct _ _ [_, I (qEx how number), _, _, _] _ _ _ _; rw [show qEx how number = number from if_pos (by omega)]; exact this)⟩⟩) ⟨rfl, rfl, rfl, rfl, rfl, rfl, rfl, rfl, rfl, rfl, trivial⟩ (fun _ h => h)
  exact J.c7 <| J.a9 <| J.A <| J.b0 ([N64 1, Str pH.dig, I ((1 : Nat) : Int), I ((0 : Nat) : Int), .slice h0.nsA (qAL (qBA 0) 1).length h0.nsc], [I ((1 : Nat) : Int), I ((1 : Nat) : Int), Str (rvO 0 1), Str (rvN 0 1), .slice (t0.l.getD 1 qAP).stA (t0.l.getD 1 qAP).st.length (t0.l.getD 1 qAP).stc], 0, (fun _ => none)) hK9 (⟨rfl, rfl, .inr ⟨rfl, rfl, rfl, by omega, by omega⟩⟩) ⟨rfl, rfl, rfl, rfl, rfl, rfl, rfl, rfl, rfl, rfl, trivial⟩ (fun _ h => h)
 rintro ⟨Y, T, w, mz⟩ ⟨hYl, hTl, hYT⟩
 dsimp only at hYl hTl hYT ⊢
 refine J.e4 (X := Unit) (fun ζ => [(1, I (qEx how number)), (5, Ptr gd), (7, Ptr ga), (9, Ptr g9), (10, .slice Ah 2 ch), (11, .slice Aa 2 ca), (12, Ptr g12), (13, Ptr g13), (14, I ((w : Nat) : Int))]) (fun ζ => [blk gs [Ptr gk, Ptr gb, I ((0 : Nat) : Int)] 216, blk gb (bkC gd 0 (8 / 2) (sX0 0) Ab cb false) 223, blk gq (bkC gd 8 16 (sX0 8) Aq cq false) 223, md, qAK gm (.map #[] 0), F, mk, mb, mq, blk ga [Ptr gs, I ((2 ^ 0 : Nat) : Int), Ptr gq, .map (some gm)] 145, mh, ma, G, blk g9 [N64 0, Str qAb, I 1, I 0, .slice An (qAL rv0 1).length cn] 39, blk g12 Y 39, blk g13 T 79, mz]) (fun ζ => True) (fun K19 hK19 => ?_) ?_
 ·
  refine J.g fun K20 hK20 => J.b rfl <| J.f ((qHo rfl rfl rfl ⟨by omega, by decide⟩).as (v' := (.int .u8 ((how.toNat % 8 : Nat) : Int))) (congrArg (Value.int .u8) (by show (how.toNat : Int) % 8 = _; omega))) rfl <| J.f (qAY rfl rfl rfl) rfl <| J.c hK20 <| J.f0 1 5 7 9 10 11 12 13 14 86 ?_
  refine J.a5 rfl (fun h86 => ?_) (fun h86 => ?_)
  ·
   exact J.G <| J.b rfl <| J.f (qJj 6 rfl rfl rfl (by decide) (by decide)) rfl <| J.b rfl <| J.a7 <| J.A <| J.b0 () hK19 (trivial) ⟨(by show some (I _) = some (I _); rw [show qEx how number = number % 2 ^ 6 from if_neg (by omega)]), rfl, rfl, rfl, rfl, rfl, rfl, rfl, rfl, trivial⟩ (fun _ h => h)
  exact J.c7 <| J.A <| J.b0 () hK19 (trivial) ⟨(by show some (I _) = some (I _); rw [show qEx how number = number from if_pos (by omega)]), rfl, rfl, rfl, rfl, rfl, rfl, rfl, rfl, trivial⟩ (fun _ h => h)
 rintro _ _
 rcases hYT with ⟨hwn, hA⟩ | ⟨rfl, rfl, rfl, h7, hz0, hz1⟩
 ·
  refine J.g fun K21 hK21 => J.j 2 rfl <| J.c4 13 qDD qB6 rfl rfl rfl rfl rfl <| J.f (qAi 14 rfl rfl rfl qDD qB6 hYl) rfl <| J.f (qAi 15 rfl rfl rfl qId qEF hTl) rfl <| J.p (qAB rfl rfl ent19 (Ct.use0 (fun F' hF => hA F' (hF F (by simp)) (hF G (by simp)) (hF mz (by simp)) (hF (blk ga [Ptr gs, I ((2 ^ 0 : Nat) : Int), Ptr gq, .map (some gm)] 145) (by simp)) (hF (qAK gm (.map #[] 0)) (by simp))))) rfl fun g95 _ => J.j 3 rfl <| J.p (qAO (l := [.int .u64 0, I 0, Str [], I 0, I 0, .slice none 0 0, .slice none 0 0]) rfl qDr rfl) rfl fun g15 _ => ?_
  change J _ _ _ [blk gs [Ptr gk, Ptr gb, I ((0 : Nat) : Int)] 216, blk gb (bkC gd 0 (8 / 2) (sX0 0) Ab cb false) 223, blk gq (bkC gd 8 16 (sX0 8) Aq cq false) 223, md, qAK gm (.map #[] 0), F, mk, mb, mq, blk ga [Ptr gs, I ((2 ^ 0 : Nat) : Int), Ptr gq, .map (some gm)] 145, mh, ma, G, blk g9 [N64 0, Str qAb, I 1, I 0, .slice An (qAL rv0 1).length cn] 39, blk g12 Y 39, blk g13 T 79, mz, blk g15 [.int .u64 0, I 0, Str [], I 0, I 0, .slice none 0 0, .slice none 0 0] 52] _
  refine J.b1 (qAG (i := 17) (l := [.int .u64 0, I 0, Str [], I 0, I 0, .slice none 0 0, .slice none 0 0]) (vs := [.int .u64 0, I 0, Str [], I 0, I 0, .slice none 0 0, .slice none 0 0]) rfl rfl rfl rfl rfl qCl rfl rfl) rfl rfl fun _ _ => ?_
  change J _ _ _ [_, _, _, _, _, _, _, _, _, _, _, _, _, _, _, _, _, _] _
  refine J.b rfl <| J.c hK21 <| J.e3 1 5 7 9 10 11 12 13 14 15 16 ?_
  refine J.g fun K22 hK22 => J.b rfl <| J.p (qAB rfl rfl ent17 (Ct.use0 (fun F' hF => qKL F' (hK.mo hF) gd (Dk.new 40) 0 40 0 (fun _ => zS) hDG (by decide) rfl (by decide) (by decide) A c B e none 0 (hc.mono (hF md (by simp))) (hsL.mono (hF md (by simp))) (hsW.mono (hF md (by simp))) [115, 101, 101, 100] (by decide) 0 (by decide) 15 (by decide) (by decide)))) rfl fun g100 _ => J.j 5 rfl <| J.c hK22 <| J.e3 1 7 9 10 11 12 13 14 15 16 18 ?_
  refine J.g fun K23 hK23 => J.b rfl <| J.c hK23 <| J.e0 1 7 9 10 11 12 13 14 15 16 18 19 ?_
  refine J.e4 (X := Unit) (fun ζ => [(1, I (qEx how number)), (7, Ptr ga), (9, Ptr g9), (12, Ptr g12), (13, Ptr g13), (14, I ((w : Nat) : Int)), (15, Ptr g15), (16, I ((w : Nat) : Int)), (18, I ((1 : Nat) : Int)), (19, .pointer none), (21, I ((1 : Nat) : Int))]) (fun ζ => [blk gs [Ptr gk, Ptr gb, I ((0 : Nat) : Int)] 216, blk gb (bkC gd 0 (8 / 2) (sX0 0) Ab cb false) 223, blk gq (bkC gd 8 16 (sX0 8) Aq cq false) 223, md, qAK gm (.map #[] 0), F, mk, mb, mq, blk ga [Ptr gs, I ((2 ^ 0 : Nat) : Int), Ptr gq, .map (some gm)] 145, mh, ma, G, blk g9 [N64 0, Str qAb, I 1, I 0, .slice An (qAL rv0 1).length cn] 39, blk g12 Y 39, blk g13 T 79, mz, blk g15 [.int .u64 0, I 0, Str [], I 0, I 0, .slice none 0 0, .slice none 0 0] 52]) (fun ζ => True) (fun K24 hK24 => ?_) ?_
  ·
   refine J.c1 [mh, ma, G, blk g9 [N64 0, Str qAb, I 1, I 0, .slice An (qAL rv0 1).length cn] 39] [] (.y 0 (.y 1 (.y 2 (.y 3 (.y 4 (.y 5 (.y 6 (.y 7 (.y 8 (.y 9 (.br (.e 10 (.y 11 (.y 12 (.y 13 (.e 14 (.e 15 (.y 16 .nil))))))) (.e 14 (.e 10 (.y 11 (.y 12 (.y 13 (.e 15 (.y 16 .nil)))))))))))))))))) Tryz.wide (by decide +kernel) (by simp) ?_
   refine J.O ?_
   refine J.q rfl (qAi 3 rfl rfl rfl qDD qB6 rfl) rfl rfl <| J.O ?_
   refine J.q rfl (qAH (i := 0) rfl rfl rfl qNR qB6 hrh.sl (by omega)) rfl rfl <| J.q rfl (qAo (vs := [N64 1, Str pH.dig, I ((1 : Nat) : Int), I ((0 : Nat) : Int), .slice h0.nsA (qAL (qBA 0) 1).length h0.nsc]) rfl rfl qDD qB6 (m := mh) (by simp) (by have := hrh.sl.elem (i := 0) (x := h0.cells) rfl; rw [R0.cells] at this; exact this) rfl) rfl rfl <| J.O ?_
   refine J.q rfl (qAH (i := 0) rfl rfl rfl qPC sizeOf80 hra.sl (by omega)) rfl rfl <| J.q rfl (qAN (v := .slice t0.lA t0.l.length t0.lc) rfl rfl isAgg80 (m := ma) (by simp) (hra.sl.elem (i := 0) (x := t0.cells) rfl)) rfl rfl <| J.q rfl (qAH (i := 0) rfl rfl rfl qPB qEF R0.tsl (by omega)) rfl rfl <| J.q rfl (qAo (vs := [I ((0 : Nat) : Int), I ((1 : Nat) : Int), Str (rvO 0 0), Str (rvN 0 0), .slice (t0.l.getD 0 qAP).stA (t0.l.getD 0 qAP).st.length (t0.l.getD 0 qAP).stc]) rfl rfl qId qEF (m := G) (by simp) (by have := R0.tsl.elem (i := 0) (qCz (by omega)); rw [(R0.trs 0 (by omega)).cells] at this; exact this) rfl) rfl rfl <| J.f1 ?_ ?_
   ·
    refine J.b2 rfl (qAB rfl rfl ent19 (Ct.use0 (fun F' hF => qDO F' none pH An cn qBJ (hnod.mono (hF G (by simp))) (hH 0) h0.nsA h0.nsc (qBS 0) (R0.nsl2.mono (hF G (by simp))) 0 ((1 : Nat) : Int) (rvO 0 0) (rvN 0 0) (t0.l.getD 0 qAP).stA (t0.l.getD 0 qAP).st.length (t0.l.getD 0 qAP).stc 0))) rfl (by simp) fun g114 _ => J.O ?_
    refine J.d0 (.agg #[.int .u64 0, I 0, Str [], I 0, I 0, .slice none 0 0, .slice none 0 0]) ?_
    refine J.d0 (I ((1 : Nat) : Int)) ?_
    refine J.b2 rfl (qAO (l := [.int .u64 0, I 0, Str [], I 0, I 0, .slice none 0 0, .slice none 0 0]) rfl qDr rfl) rfl (by simp) fun g20 _ => ?_
    change J _ _ _ [blk gs [Ptr gk, Ptr gb, I ((0 : Nat) : Int)] 216, blk gb (bkC gd 0 (8 / 2) (sX0 0) Ab cb false) 223, blk gq (bkC gd 8 16 (sX0 8) Aq cq false) 223, md, qAK gm (.map #[] 0), F, mk, mb, mq, blk ga [Ptr gs, I ((2 ^ 0 : Nat) : Int), Ptr gq, .map (some gm)] 145, mh, ma, G, blk g9 [N64 0, Str qAb, I 1, I 0, .slice An (qAL rv0 1).length cn] 39, blk g12 Y 39, blk g13 T 79, mz, blk g15 [.int .u64 0, I 0, Str [], I 0, I 0, .slice none 0 0, .slice none 0 0] 52, blk g20 [.int .u64 0, I 0, Str [], I 0, I 0, .slice none 0 0, .slice none 0 0] 52] _
    refine J.e1 rfl (qAG (i := 18) (l := [.int .u64 0, I 0, Str [], I 0, I 0, .slice none 0 0, .slice none 0 0]) (vs := [.int .u64 0, I 0, Str [], I 0, I 0, .slice none 0 0, .slice none 0 0]) rfl rfl rfl rfl rfl qCl rfl rfl) rfl rfl (by simp) fun _ _ => ?_
    change J _ _ _ [_, _, _, _, _, _, _, _, _, _, _, _, _, _, _, _, _, _, _] _
    refine J.b9 ?_
    exact J.b5 <| J.A <| J.b0 () hK24 (trivial) ⟨rfl, rfl, rfl, rfl, rfl, rfl, rfl, rfl, rfl, rfl, rfl, trivial⟩ (fun _ h => h.pick [0, 1, 2, 3, 4, 5, 6, 7, 8, 9, 10, 11, 12, 13, 14, 15, 16, 17] (by decide))
   refine J.b2 rfl (qAO (l := [.int .u64 0, I 0, Str [], I 0, I 0, .slice none 0 0, .slice none 0 0]) rfl qDr rfl) rfl (by simp) fun g20 _ => ?_
   change J _ _ _ [blk gs [Ptr gk, Ptr gb, I ((0 : Nat) : Int)] 216, blk gb (bkC gd 0 (8 / 2) (sX0 0) Ab cb false) 223, blk gq (bkC gd 8 16 (sX0 8) Aq cq false) 223, md, qAK gm (.map #[] 0), F, mk, mb, mq, blk ga [Ptr gs, I ((2 ^ 0 : Nat) : Int), Ptr gq, .map (some gm)] 145, mh, ma, G, blk g9 [N64 0, Str qAb, I 1, I 0, .slice An (qAL rv0 1).length cn] 39, blk g12 Y 39, blk g13 T 79, mz, blk g15 [.int .u64 0, I 0, Str [], I 0, I 0, .slice none 0 0, .slice none 0 0] 52, blk g20 [.int .u64 0, I 0, Str [], I 0, I 0, .slice none 0 0, .slice none 0 0] 52] _
   refine J.b2 rfl (qAB rfl rfl ent19 (Ct.use0 (fun F' hF => qDO F' none pH An cn qBJ (hnod.mono (hF G (by simp))) (hH 0) h0.nsA h0.nsc (qBS 0) (R0.nsl2.mono (hF G (by simp))) 0 ((1 : Nat) : Int) (rvO 0 0) (rvN 0 0) (t0.l.getD 0 qAP).stA (t0.l.getD 0 qAP).st.length (t0.l.getD 0 qAP).stc 0))) rfl (by simp) fun g114 _ => J.O ?_
   refine J.d0 (.agg #[.int .u64 0, I 0, Str [], I 0, I 0, .slice none 0 0, .slice none 0 0]) ?_
   refine J.d0 (I ((1 : Nat) : Int)) ?_
   refine J.e1 rfl (qAG (i := 18) (l := [.int .u64 0, I 0, Str [], I 0, I 0, .slice none 0 0, .slice none 0 0]) (vs := [.int .u64 0, I 0, Str [], I 0, I 0, .slice none 0 0, .slice none 0 0]) rfl rfl rfl rfl rfl qCl rfl rfl) rfl rfl (by simp) fun _ _ => ?_
   change J _ _ _ [_, _, _, _, _, _, _, _, _, _, _, _, _, _, _, _, _, _, _] _
   refine J.b9 ?_
   exact J.b5 <| J.A <| J.b0 () hK24 (trivial) ⟨rfl, rfl, rfl, rfl, rfl, rfl, rfl, rfl, rfl, rfl, rfl, trivial⟩ (fun _ h => h.pick [0, 1, 2, 3, 4, 5, 6, 7, 8, 9, 10, 11, 12, 13, 14, 15, 16, 17] (by decide))
  rintro _ _
  refine J.g fun K25 hK25 => J.b rfl <| J.p (qAB rfl rfl ent20 (Ct.use0 (fun F' hF => qFj F' 1 ((0 : Nat) : Int)))) rfl fun g119 _ => J.j 5 rfl <| J.c hK25 <| J.e0 1 7 9 12 13 14 15 16 18 19 21 23 ?_
  refine J.k fun K26 hK26 => J.g fun K27 hK27 => J.b rfl <| J.f ((qAY rfl rfl rfl).no (by decide)) rfl <| J.j 2 rfl <| J.T ((qAY rfl rfl rfl).no (by decide)) rfl <| J.j 6 rfl <| J.d6 (qAB rfl rfl ent21 (Ct.use0 (fun F' hF => qIR F' ))) rfl fun g133 _ => J.T ((qAY rfl rfl rfl).no (by decide)) rfl <| J.b rfl <| J.c hK27 <| J.d8 1 7 9 12 13 14 15 16 135 ?_
  refine J.a8 ?_
  refine J.W hK26 <| J.d3 1 7 9 12 13 14 15 16 ?_
  refine J.k fun K28 hK28 => J.g fun K29 hK29 => J.b rfl <| J.f ((qAY rfl rfl rfl).yes (by omega)) rfl <| J.c hK29 <| J.d8 1 7 9 12 13 14 15 16 137 ?_
  refine J.c6 ?_
  refine J.g fun K30 hK30 => J.j 2 rfl <| J.f ((qAV rfl rfl rfl).yes (rfl)) rfl <| J.b rfl <| J.T (qAi 17 rfl rfl rfl qHN qCl rfl) rfl <| J.d6 (qAB rfl rfl ent22 (Ct.use0 (fun F' hF => qFi F' 0 0 [] 0 0 none none 0 0 0 0 may_z))) rfl fun g143 _ => J.T ((qBL rfl rfl rfl).yes (rfl)) rfl <| J.j 3 rfl <| J.d6 (qAB rfl rfl ent21 (Ct.use0 (fun F' hF => qDP F' ga gs gq (2 ^ 0) gm (qAQ.blk0.mono (hF (blk ga [Ptr gs, I ((2 ^ 0 : Nat) : Int), Ptr gq, .map (some gm)] 145) (by simp))) gk gb (0) (qAQ.blk0.mono (hF (blk gs [Ptr gk, Ptr gb, I ((0 : Nat) : Int)] 216) (by simp))) (by decide) (by decide)))) rfl fun g148 _ => J.T ((qAV rfl rfl rfl).yes (by decide)) rfl <| J.j 2 rfl <| J.c hK30 <| J.u 4 ?_
  exact J.D <| J.a3 <| J.V hw0 rfl () rfl trivial [5] rfl (by decide)
 obtain ⟨nm, rfl⟩ := Int.eq_ofNat_of_zero_le hz0
 have hnm : nm < 64 := by omega
 rw [show qEx how ((nm : Nat) : Int) = ((nm : Nat) : Int) from if_pos h7]
 refine J.g fun K31 hK31 => J.j 2 rfl <| J.c4 13 qDD qB6 rfl rfl rfl rfl rfl <| J.c4 14 qDD qB6 rfl rfl rfl rfl rfl <| J.c4 15 qId qEF rfl rfl rfl rfl rfl <| J.p (qAB rfl rfl ent19 (Ct.useA [blk gs [Ptr gk, Ptr gb, I ((0 : Nat) : Int)] 216, blk gb (bkC gd 0 (8 / 2) (sX0 0) Ab cb false) 223, blk gq (bkC gd 8 16 (sX0 8) Aq cq false) 223, md, qAK gm (.map #[] 0)] [F, mk, mb, mq, blk ga [Ptr gs, I ((2 ^ 0 : Nat) : Int), Ptr gq, .map (some gm)] 145, mh, ma, G, blk g9 [N64 0, Str qAb, I 1, I 0, .slice An (qAL rv0 1).length cn] 39, blk g12 [N64 1, Str pH.dig, I ((1 : Nat) : Int), I ((0 : Nat) : Int), .slice h0.nsA (qAL (qBA 0) 1).length h0.nsc] 39, blk g13 [I ((1 : Nat) : Int), I ((1 : Nat) : Int), Str (rvO 0 1), Str (rvN 0 1), .slice (t0.l.getD 1 qAP).stA (t0.l.getD 1 qAP).st.length (t0.l.getD 1 qAP).stc] 79, mz] (A' := fun r : ((Hp × Option Addr × Nat × Hp) × Hp) × ((Hp × Option Addr × Nat × Hp) × ((Option Addr × Nat × Hp) × (Option Addr × Nat × Hp))) => [blk gs [Ptr gk, Ptr gb, I ((0 + 1 : Nat) : Int)] 216, blk gb (bkC gd 0 (8 / 2) (qC3 (sX0 0) (qBf 0)) r.2.1.2.1 r.2.1.2.2.1 false) 223, blk gq (bkC gd 8 16 (qC3 (sX0 8) (mkB (hH 0).ep 1 (hH 0).dig)) r.1.1.2.1 r.1.1.2.2.1 false) 223, r.2.1.1, r.1.2]) (new := fun r => [r.1.1.2.2.2, r.2.1.2.2.2, r.2.2.1.2.2, r.2.2.2.2.2]) (fun F' hF => qEW F' md (qAK gm (.map #[] 0)) (hK.mo hF) pH An cn qBJ (hnod.mono (hF G (by simp))) (hH 0) h0.nsA h0.nsc (qBS 0) (R0.nsl2.mono (hF G (by simp))) 1 ((1 : Nat) : Int) (rvO 0 1) (rvN 0 1) (t0.l.getD 1 qAP).stA (t0.l.getD 1 qAP).st.length (t0.l.getD 1 qAP).stc 0 (fun F2 h2 => qBT F2 (hK.mono ((hF F (by simp)).trans h2)) 0 (b := 1) (by decide) (t0.l.getD 1 qAP) ((R0.trs 1 (by omega)).mono ((hF G (by simp)).trans h2))) (qEJ (hH 0) (qNY 0) (by decide)) ga gs gq gm gk gb gd [115, 101, 101, 100] 0 (hk.mono (hF mk (by simp))) (by decide) (by decide) (qAQ.blk0.mono (hF (blk ga [Ptr gs, I ((2 ^ 0 : Nat) : Int), Ptr gq, .map (some gm)] 145) (by simp))) (qDF.nil plK gm) (qF5 0 (by decide)) (by show 1 ≤ _; decide) (by decide) nm hnm (qBh (qEg 0)) Ab cb Aq cq (hbr.sl.mono (hF mb (by simp))) (hqr.sl.mono (hF mq (by simp))) hbD))) rfl ?_
 rintro z95 hz95
 change J _ ((95, .tuple #[.agg #[N64 (hH 0).ep, I ((1 : Nat) : Int), Str (hH 0).dig, I ((nm : Nat) : Int), I ((0 : Nat) : Int), .slice z95.2.2.1.1 (sgC [115, 101, 101, 100] 0 (atM (hH 0).ep 1 nm (hH 0).dig)).length z95.2.2.1.2.1, .slice z95.2.2.2.1 (sgP [115, 101, 101, 100] 0 0).length z95.2.2.2.2.1], I ((0 : Nat) : Int)]) :: _) _ [blk gs [Ptr gk, Ptr gb, I ((0 + 1 : Nat) : Int)] 216, blk gb (bkC gd 0 (8 / 2) (qC3 (sX0 0) (qBf 0)) z95.2.1.2.1 z95.2.1.2.2.1 false) 223, blk gq (bkC gd 8 16 (qC3 (sX0 8) (mkB (hH 0).ep 1 (hH 0).dig)) z95.1.1.2.1 z95.1.1.2.2.1 false) 223, z95.2.1.1, z95.1.2, F, mk, mb, mq, blk ga [Ptr gs, I ((2 ^ 0 : Nat) : Int), Ptr gq, .map (some gm)] 145, mh, ma, G, blk g9 [N64 0, Str qAb, I 1, I 0, .slice An (qAL rv0 1).length cn] 39, blk g12 [N64 1, Str pH.dig, I ((1 : Nat) : Int), I ((0 : Nat) : Int), .slice h0.nsA (qAL (qBA 0) 1).length h0.nsc] 39, blk g13 [I ((1 : Nat) : Int), I ((1 : Nat) : Int), Str (rvO 0 1), Str (rvN 0 1), .slice (t0.l.getD 1 qAP).stA (t0.l.getD 1 qAP).st.length (t0.l.getD 1 qAP).stc] 79, mz, z95.1.1.2.2.2, z95.2.1.2.2.2, z95.2.2.1.2.2, z95.2.2.2.2.2] _
 obtain ⟨hd95, hm95, _, _⟩ := hz95
 obtain ⟨A2, c2, B2, e2, hc2, hsL2, hsW2⟩ := hd95.see
 have hcm := qPn (R := (mkB (hH 0).ep 1 (hH 0).dig)) (by rw [qIy, qBh (qEg 0)]; decide)
 obtain ⟨O2, hdg2⟩ := hcm.dg2
 refine J.j 3 rfl <| J.p (qAO (l := [.int .u64 0, I 0, Str [], I 0, I 0, .slice none 0 0, .slice none 0 0]) rfl qDr rfl) rfl fun g15 _ => ?_
 change J _ _ _ [_, _, _, _, _, _, _, _, _, _, _, _, _, _, _, _, _, _, _, _, _, blk g15 [.int .u64 0, I 0, Str [], I 0, I 0, .slice none 0 0, .slice none 0 0] 52] _
 refine J.b1 (qAG (i := 21) (l := [.int .u64 0, I 0, Str [], I 0, I 0, .slice none 0 0, .slice none 0 0]) (vs := [N64 (hH 0).ep, I ((1 : Nat) : Int), Str (hH 0).dig, I ((nm : Nat) : Int), I ((0 : Nat) : Int), .slice z95.2.2.1.1 (sgC [115, 101, 101, 100] 0 (atM (hH 0).ep 1 nm (hH 0).dig)).length z95.2.2.1.2.1, .slice z95.2.2.2.1 (sgP [115, 101, 101, 100] 0 0).length z95.2.2.2.2.1]) rfl rfl rfl rfl rfl qCl rfl rfl) rfl rfl fun _ _ => ?_
 change J _ _ _ [_, _, _, _, _, _, _, _, _, _, _, _, _, _, _, _, _, _, _, _, _, blk g15 [N64 (hH 0).ep, I ((1 : Nat) : Int), Str (hH 0).dig, I ((nm : Nat) : Int), I ((0 : Nat) : Int), .slice z95.2.2.1.1 (sgC [115, 101, 101, 100] 0 (atM (hH 0).ep 1 nm (hH 0).dig)).length z95.2.2.1.2.1, .slice z95.2.2.2.1 (sgP [115, 101, 101, 100] 0 0).length z95.2.2.2.2.1] 52] _
 refine J.b rfl <| J.c hK31 <| J.e3 1 5 7 9 10 11 12 13 14 15 16 ?_
 refine J.g fun K32 hK32 => J.b rfl <| J.p (qAB rfl rfl ent17 (Ct.use0 (fun F' hF => qKL F' (hK.mo hF) gd (qBE (qBE (Dk.new 40) (sX0 8) (mkB (hH 0).ep 1 (hH 0).dig)).1 (sX0 0) (qBf 0)).1 0 40 1 O2 hdg2 (by decide) hcm.off2 (by decide) (by decide) A2 c2 B2 e2 none 0 (hc2.mono (hF z95.2.1.1 (by simp))) (hsL2.mono (hF z95.2.1.1 (by simp))) (hsW2.mono (hF z95.2.1.1 (by simp))) [115, 101, 101, 100] (by decide) 0 (by decide) 15 (by decide) (by decide)))) rfl fun g100 _ => J.j 5 rfl <| J.c hK32 <| J.e3 1 7 9 10 11 12 13 14 15 16 18 ?_
 refine J.g fun K33 hK33 => J.b rfl <| J.c hK33 <| J.e0 1 7 9 10 11 12 13 14 15 16 18 19 ?_
 refine J.e4 (X := Unit) (fun ζ => [(1, I ((nm : Nat) : Int)), (7, Ptr ga), (9, Ptr g9), (12, Ptr g12), (13, Ptr g13), (14, I ((0 : Nat) : Int)), (15, Ptr g15), (16, I ((0 : Nat) : Int)), (18, I ((1 : Nat) : Int)), (19, .pointer none), (21, I ((1 : Nat) : Int))]) (fun ζ => [blk gs [Ptr gk, Ptr gb, I ((0 + 1 : Nat) : Int)] 216, blk gb (bkC gd 0 (8 / 2) (qC3 (sX0 0) (qBf 0)) z95.2.1.2.1 z95.2.1.2.2.1 false) 223, blk gq (bkC gd 8 16 (qC3 (sX0 8) (mkB (hH 0).ep 1 (hH 0).dig)) z95.1.1.2.1 z95.1.1.2.2.1 false) 223, z95.2.1.1, z95.1.2, F, mk, mb, mq, blk ga [Ptr gs, I ((2 ^ 0 : Nat) : Int), Ptr gq, .map (some gm)] 145, mh, ma, G, blk g9 [N64 0, Str qAb, I 1, I 0, .slice An (qAL rv0 1).length cn] 39, blk g12 [N64 1, Str pH.dig, I ((1 : Nat) : Int), I ((0 : Nat) : Int), .slice h0.nsA (qAL (qBA 0) 1).length h0.nsc] 39, blk g13 [I ((1 : Nat) : Int), I ((1 : Nat) : Int), Str (rvO 0 1), Str (rvN 0 1), .slice (t0.l.getD 1 qAP).stA (t0.l.getD 1 qAP).st.length (t0.l.getD 1 qAP).stc] 79, mz, z95.1.1.2.2.2, z95.2.1.2.2.2, z95.2.2.1.2.2, z95.2.2.2.2.2, blk g15 [N64 (hH 0).ep, I ((1 : Nat) : Int), Str (hH 0).dig, I ((nm : Nat) : Int), I ((0 : Nat) : Int), .slice z95.2.2.1.1 (sgC [115, 101, 101, 100] 0 (atM (hH 0).ep 1 nm (hH 0).dig)).length z95.2.2.1.2.1, .slice z95.2.2.2.1 (sgP [115, 101, 101, 100] 0 0).length z95.2.2.2.2.1] 52]) (fun ζ => True) (fun K34 hK34 => ?_) ?_
 ·
  refine J.c1 [mh, ma, G, blk g9 [N64 0, Str qAb, I 1, I 0, .slice An (qAL rv0 1).length cn] 39] [] (.y 0 (.y 1 (.y 2 (.y 3 (.y 4 (.y 5 (.y 6 (.y 7 (.y 8 (.y 9 (.br (.e 10 (.y 11 (.y 12 (.y 13 (.e 14 (.e 15 (.y 16 .nil))))))) (.e 14 (.e 10 (.y 11 (.y 12 (.y 13 (.e 15 (.y 16 .nil)))))))))))))))))) Tryz.wide (by decide +kernel) (by simp) ?_
  refine J.O ?_
  refine J.q rfl (qAi 3 rfl rfl rfl qDD qB6 rfl) rfl rfl <| J.O ?_
  refine J.q rfl (qAH (i := 0) rfl rfl rfl qNR qB6 hrh.sl (by omega)) rfl rfl <| J.q rfl (qAo (vs := [N64 1, Str pH.dig, I ((1 : Nat) : Int), I ((0 : Nat) : Int), .slice h0.nsA (qAL (qBA 0) 1).length h0.nsc]) rfl rfl qDD qB6 (m := mh) (by simp) (by have := hrh.sl.elem (i := 0) (x := h0.cells) rfl; rw [R0.cells] at this; exact this) rfl) rfl rfl <| J.O ?_
  refine J.q rfl (qAH (i := 0) rfl rfl rfl qPC sizeOf80 hra.sl (by omega)) rfl rfl <| J.q rfl (qAN (v := .slice t0.lA t0.l.length t0.lc) rfl rfl isAgg80 (m := ma) (by simp) (hra.sl.elem (i := 0) (x := t0.cells) rfl)) rfl rfl <| J.q rfl (qAH (i := 0) rfl rfl rfl qPB qEF R0.tsl (by omega)) rfl rfl <| J.q rfl (qAo (vs := [I ((0 : Nat) : Int), I ((1 : Nat) : Int), Str (rvO 0 0), Str (rvN 0 0), .slice (t0.l.getD 0 qAP).stA (t0.l.getD 0 qAP).st.length (t0.l.getD 0 qAP).stc]) rfl rfl qId qEF (m := G) (by simp) (by have := R0.tsl.elem (i := 0) (qCz (by omega)); rw [(R0.trs 0 (by omega)).cells] at this; exact this) rfl) rfl rfl <| J.f1 ?_ ?_
  ·
   refine J.b2 rfl (qAB rfl rfl ent19 (Ct.use0 (fun F' hF => qDO F' none pH An cn qBJ (hnod.mono (hF G (by simp))) (hH 0) h0.nsA h0.nsc (qBS 0) (R0.nsl2.mono (hF G (by simp))) 0 ((1 : Nat) : Int) (rvO 0 0) (rvN 0 0) (t0.l.getD 0 qAP).stA (t0.l.getD 0 qAP).st.length (t0.l.getD 0 qAP).stc 0))) rfl (by simp) fun g114 _ => J.O ?_
   refine J.d0 (.agg #[.int .u64 0, I 0, Str [], I 0, I 0, .slice none 0 0, .slice none 0 0]) ?_
   refine J.d0 (I ((1 : Nat) : Int)) ?_
   refine J.b2 rfl (qAO (l := [.int .u64 0, I 0, Str [], I 0, I 0, .slice none 0 0, .slice none 0 0]) rfl qDr rfl) rfl (by simp) fun g20 _ => ?_
   change J _ _ _ [blk gs [Ptr gk, Ptr gb, I ((0 + 1 : Nat) : Int)] 216, blk gb (bkC gd 0 (8 / 2) (qC3 (sX0 0) (qBf 0)) z95.2.1.2.1 z95.2.1.2.2.1 false) 223, blk gq (bkC gd 8 16 (qC3 (sX0 8) (mkB (hH 0).ep 1 (hH 0).dig)) z95.1.1.2.1 z95.1.1.2.2.1 false) 223, z95.2.1.1, z95.1.2, F, mk, mb, mq, blk ga [Ptr gs, I ((2 ^ 0 : Nat) : Int), Ptr gq, .map (some gm)] 145, mh, ma, G, blk g9 [N64 0, Str qAb, I 1, I 0, .slice An (qAL rv0 1).length cn] 39, blk g12 [N64 1, Str pH.dig, I ((1 : Nat) : Int), I ((0 : Nat) : Int), .slice h0.nsA (qAL (qBA 0) 1).length h0.nsc] 39, blk g13 [I ((1 : Nat) : Int), I ((1 : Nat) : Int), Str (rvO 0 1), Str (rvN 0 1), .slice (t0.l.getD 1 qAP).stA (t0.l.getD 1 qAP).st.length (t0.l.getD 1 qAP).stc] 79, mz, z95.1.1.2.2.2, z95.2.1.2.2.2, z95.2.2.1.2.2, z95.2.2.2.2.2, blk g15 [N64 (hH 0).ep, I ((1 : Nat) : Int), Str (hH 0).dig, I ((nm : Nat) : Int), I ((0 : Nat) : Int), .slice z95.2.2.1.1 (sgC [115, 101, 101, 100] 0 (atM (hH 0).ep 1 nm (hH 0).dig)).length z95.2.2.1.2.1, .slice z95.2.2.2.1 (sgP [115, 101, 101, 100] 0 0).length z95.2.2.2.2.1] 52, blk g20 [.int .u64 0, I 0, Str [], I 0, I 0, .slice none 0 0, .slice none 0 0] 52] _
   refine J.e1 rfl (qAG (i := 22) (l := [.int .u64 0, I 0, Str [], I 0, I 0, .slice none 0 0, .slice none 0 0]) (vs := [.int .u64 0, I 0, Str [], I 0, I 0, .slice none 0 0, .slice none 0 0]) rfl rfl rfl rfl rfl qCl rfl rfl) rfl rfl (by simp) fun _ _ => ?_
   change J _ _ _ [_, _, _, _, _, _, _, _, _, _, _, _, _, _, _, _, _, _, _, _, _, _, _] _
   refine J.b9 ?_
   exact J.b5 <| J.A <| J.b0 () hK34 (trivial) ⟨rfl, rfl, rfl, rfl, rfl, rfl, rfl, rfl, rfl, rfl, rfl, trivial⟩ (fun _ h => h.pick [0, 1, 2, 3, 4, 5, 6, 7, 8, 9, 10, 11, 12, 13, 14, 15, 16, 17, 18, 19, 20, 21] (by decide))
  refine J.b2 rfl (qAO (l := [.int .u64 0, I 0, Str [], I 0, I 0, .slice none 0 0, .slice none 0 0]) rfl qDr rfl) rfl (by simp) fun g20 _ => ?_
  change J _ _ _ [blk gs [Ptr gk, Ptr gb, I ((0 + 1 : Nat) : Int)] 216, blk gb (bkC gd 0 (8 / 2) (qC3 (sX0 0) (qBf 0)) z95.2.1.2.1 z95.2.1.2.2.1 false) 223, blk gq (bkC gd 8 16 (qC3 (sX0 8) (mkB (hH 0).ep 1 (hH 0).dig)) z95.1.1.2.1 z95.1.1.2.2.1 false) 223, z95.2.1.1, z95.1.2, F, mk, mb, mq, blk ga [Ptr gs, I ((2 ^ 0 : Nat) : Int), Ptr gq, .map (some gm)] 145, mh, ma, G, blk g9 [N64 0, Str qAb, I 1, I 0, .slice An (qAL rv0 1).length cn] 39, blk g12 [N64 1, Str pH.dig, I ((1 : Nat) : Int), I ((0 : Nat) : Int), .slice h0.nsA (qAL (qBA 0) 1).length h0.nsc] 39, blk g13 [I ((1 : Nat) : Int), I ((1 : Nat) : Int), Str (rvO 0 1), Str (rvN 0 1), .slice (t0.l.getD 1 qAP).stA (t0.l.getD 1 qAP).st.length (t0.l.getD 1 qAP).stc] 79, mz, z95.1.1.2.2.2, z95.2.1.2.2.2, z95.2.2.1.2.2, z95.2.2.2.2.2, blk g15 [N64 (hH 0).ep, I ((1 : Nat) : Int), Str (hH 0).dig, I ((nm : Nat) : Int), I ((0 : Nat) : Int), .slice z95.2.2.1.1 (sgC [115, 101, 101, 100] 0 (atM (hH 0).ep 1 nm (hH 0).dig)).length z95.2.2.1.2.1, .slice z95.2.2.2.1 (sgP [115, 101, 101, 100] 0 0).length z95.2.2.2.2.1] 52, blk g20 [.int .u64 0, I 0, Str [], I 0, I 0, .slice none 0 0, .slice none 0 0] 52] _
  refine J.b2 rfl (qAB rfl rfl ent19 (Ct.use0 (fun F' hF => qDO F' none pH An cn qBJ (hnod.mono (hF G (by simp))) (hH 0) h0.nsA h0.nsc (qBS 0) (R0.nsl2.mono (hF G (by simp))) 0 ((1 : Nat) : Int) (rvO 0 0) (rvN 0 0) (t0.l.getD 0 qAP).stA (t0.l.getD 0 qAP).st.length (t0.l.getD 0 qAP).stc 0))) rfl (by simp) fun g114 _ => J.O ?_
  refine J.d0 (.agg #[.int .u64 0, I 0, Str [], I 0, I 0, .slice none 0 0, .slice none 0 0]) ?_
  refine J.d0 (I ((1 : Nat) : Int)) ?_
  refine J.e1 rfl (qAG (i := 22) (l := [.int .u64 0, I 0, Str [], I 0, I 0, .slice none 0 0, .slice none 0 0]) (vs := [.int .u64 0, I 0, Str [], I 0, I 0, .slice none 0 0, .slice none 0 0]) rfl rfl rfl rfl rfl qCl rfl rfl) rfl rfl (by simp) fun _ _ => ?_
  change J _ _ _ [_, _, _, _, _, _, _, _, _, _, _, _, _, _, _, _, _, _, _, _, _, _, _] _
  refine J.b9 ?_
  exact J.b5 <| J.A <| J.b0 () hK34 (trivial) ⟨rfl, rfl, rfl, rfl, rfl, rfl, rfl, rfl, rfl, rfl, rfl, trivial⟩ (fun _ h => h.pick [0, 1, 2, 3, 4, 5, 6, 7, 8, 9, 10, 11, 12, 13, 14, 15, 16, 17, 18, 19, 20, 21] (by decide))
 rintro _ _
 refine J.g fun K35 hK35 => J.b rfl <| J.p (qAB rfl rfl ent20 (Ct.use0 (fun F' hF => qFj F' 1 ((0 : Nat) : Int)))) rfl fun g119 _ => J.j 5 rfl <| J.c hK35 <| J.e0 1 7 9 12 13 14 15 16 18 19 21 23 ?_
 refine J.k fun K36 hK36 => J.g fun K37 hK37 => J.b rfl <| J.f ((qAY rfl rfl rfl).no (by decide)) rfl <| J.j 2 rfl <| J.T ((qAY rfl rfl rfl).no (by decide)) rfl <| J.j 6 rfl <| J.d6 (qAB rfl rfl ent21 (Ct.use0 (fun F' hF => qIR F' ))) rfl fun g133 _ => J.T ((qAY rfl rfl rfl).no (by decide)) rfl <| J.b rfl <| J.c hK37 <| J.d8 1 7 9 12 13 14 15 16 135 ?_
 refine J.a8 ?_
 refine J.W hK36 <| J.d3 1 7 9 12 13 14 15 16 ?_
 refine J.k fun K38 hK38 => J.g fun K39 hK39 => J.b rfl <| J.f ((qAY rfl rfl rfl).no (by decide)) rfl <| J.c hK39 <| J.d8 1 7 9 12 13 14 15 16 137 ?_
 refine J.a8 ?_
 refine J.W hK38 <| J.b3 1 7 9 12 13 16 ?_
 refine J.g fun K40 hK40 => J.j 2 rfl <| J.c4 13 qDD qB6 rfl rfl rfl rfl rfl <| J.c4 14 qDD qB6 rfl rfl rfl rfl rfl <| J.c4 15 qId qEF rfl rfl rfl rfl rfl <| J.p (qAB rfl rfl ent19 (Ct.use0 (fun F' hF => qEV F' (hK.mo hF) pH An cn qBJ (hnod.mono (hF G (by simp))) (hH 0) h0.nsA h0.nsc (qBS 0) (R0.nsl2.mono (hF G (by simp))) 1 ((1 : Nat) : Int) (rvO 0 1) (rvN 0 1) (t0.l.getD 1 qAP).stA (t0.l.getD 1 qAP).st.length (t0.l.getD 1 qAP).stc 0 (fun F2 h2 => qBT F2 (hK.mono ((hF F (by simp)).trans h2)) 0 (b := 1) (by decide) (t0.l.getD 1 qAP) ((R0.trs 1 (by omega)).mono ((hF G (by simp)).trans h2))) (qEJ (hH 0) (qNY 0) (by decide)) ga gs gq (2 ^ 0) gm (qAQ.blk0.mono (hF (blk ga [Ptr gs, I ((2 ^ 0 : Nat) : Int), Ptr gq, .map (some gm)] 145) (by simp))) [(((hH 0).ep, ((1 : Nat) : Int)), (hH 0).dig)] (hm95.at.mono (hF z95.1.2 (by simp))) (if_pos rfl) (qF5 0 (by decide)) (by show 1 ≤ _; decide) (by decide) nm hnm (qBh (qEg 0)) gk gb (0 + 1) (qAQ.blk0.mono (hF (blk gs [Ptr gk, Ptr gb, I ((0 + 1 : Nat) : Int)] 216) (by simp))) (by decide) (by decide) (by decide)))) rfl fun g157 _ => J.j 3 rfl <| J.p (qAO (l := [.int .u64 0, I 0, Str [], I 0, I 0, .slice none 0 0, .slice none 0 0]) rfl qDr rfl) rfl fun g24 _ => ?_
 change J _ _ _ [blk gs [Ptr gk, Ptr gb, I ((0 + 1 : Nat) : Int)] 216, blk gb (bkC gd 0 (8 / 2) (qC3 (sX0 0) (qBf 0)) z95.2.1.2.1 z95.2.1.2.2.1 false) 223, blk gq (bkC gd 8 16 (qC3 (sX0 8) (mkB (hH 0).ep 1 (hH 0).dig)) z95.1.1.2.1 z95.1.1.2.2.1 false) 223, z95.2.1.1, z95.1.2, F, mk, mb, mq, blk ga [Ptr gs, I ((2 ^ 0 : Nat) : Int), Ptr gq, .map (some gm)] 145, mh, ma, G, blk g9 [N64 0, Str qAb, I 1, I 0, .slice An (qAL rv0 1).length cn] 39, blk g12 [N64 1, Str pH.dig, I ((1 : Nat) : Int), I ((0 : Nat) : Int), .slice h0.nsA (qAL (qBA 0) 1).length h0.nsc] 39, blk g13 [I ((1 : Nat) : Int), I ((1 : Nat) : Int), Str (rvO 0 1), Str (rvN 0 1), .slice (t0.l.getD 1 qAP).stA (t0.l.getD 1 qAP).st.length (t0.l.getD 1 qAP).stc] 79, mz, z95.1.1.2.2.2, z95.2.1.2.2.2, z95.2.2.1.2.2, z95.2.2.2.2.2, blk g15 [N64 (hH 0).ep, I ((1 : Nat) : Int), Str (hH 0).dig, I ((nm : Nat) : Int), I ((0 : Nat) : Int), .slice z95.2.2.1.1 (sgC [115, 101, 101, 100] 0 (atM (hH 0).ep 1 nm (hH 0).dig)).length z95.2.2.1.2.1, .slice z95.2.2.2.1 (sgP [115, 101, 101, 100] 0 0).length z95.2.2.2.2.1] 52, blk g24 [.int .u64 0, I 0, Str [], I 0, I 0, .slice none 0 0, .slice none 0 0] 52] _
 refine J.b1 (qAG (i := 22) (l := [.int .u64 0, I 0, Str [], I 0, I 0, .slice none 0 0, .slice none 0 0]) (vs := [.int .u64 0, I 0, Str [], I 0, I 0, .slice none 0 0, .slice none 0 0]) rfl rfl rfl rfl rfl qCl rfl rfl) rfl rfl fun _ _ => ?_
 change J _ _ _ [_, _, _, _, _, _, _, _, _, _, _, _, _, _, _, _, _, _, _, _, _, _, _] _
 refine J.b rfl <| J.c hK40 <| J.H 7 16 25 ?_
 refine J.g fun K41 hK41 => J.b rfl <| J.f ((qAV rfl rfl rfl).yes (by decide)) rfl <| J.j 2 rfl <| J.d6 (qAB rfl rfl ent21 (Ct.use0 (fun F' hF => qDP F' ga gs gq (2 ^ 0) gm (qAQ.blk0.mono (hF (blk ga [Ptr gs, I ((2 ^ 0 : Nat) : Int), Ptr gq, .map (some gm)] 145) (by simp))) gk gb (0 + 1) (qAQ.blk0.mono (hF (blk gs [Ptr gk, Ptr gb, I ((0 + 1 : Nat) : Int)] 216) (by simp))) (by decide) (by decide)))) rfl fun g164 _ => J.T ((qAV rfl rfl rfl).yes (by decide)) rfl <| J.j 3 rfl <| J.T ((qAV rfl rfl rfl).yes (by decide)) rfl <| J.j 2 rfl <| J.c hK41 <| J.u 4 ?_
 exact J.D <| J.V hw0 rfl () rfl trivial [5] rfl (by decide)
end Go.Proofs.YtfldiegfenndjaaGreatDoor
namespace Go.Proofs.YtfldiegfenndjaaGreatDoor
open Go Go.Fw Go.Proofs.Tryz
set_option maxRecDepth 100000
set_option maxHeartbeats 1000000
theorem qEp (F : Hp) (hK : KF F) (how : UInt8) (number : Int) : Ct prog 5 [B8 how, I number] [F] (fun _ : Unit => .bool true) (fun _ => True) (fun _ => [F]) := qOX F hK how number
end Go.Proofs.YtfldiegfenndjaaGreatDoor
