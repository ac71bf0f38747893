/- Rules for walking a translated function, over heaps that are apart: for any program. -/
import Derived.Test.YtnkfapecbmmpeaaDoorFwY
set_option linter.unusedSimpArgs false
set_option linter.unusedVariables false
namespace Go.Fw
open Go Go.RowKit
/-! ## Structs in rows -/
theorem Sl.part {m sz A n c xs} (h : Sl m sz A n c xs) {i : Nat} {x : List Value} (hx : xs[i]? = some x) (k j : Nat) : Cells m ((elemAt A i sz).add k) ((x.drop k).take j) := (h.elem hx).sub k j
section
variable {P : Program} {env : Env} {rs ms : List Hp} {o : Oper}
theorem op_fieldAddrE {s x f i fs A n' c xs m sz q k off} (ho : o.op = .fieldAddr s x i) (hx : ev env x = some (.pointer (some (elemAt A q sz)))) (hu : P.underlying s = some (.struct fs)) (hf : fs[i]? = some f)
    (hz : ∀ w, (sizeOf f.type).run P w = .ok (k + 1) w) (hs : Sl m sz A n' c xs) (hq : q < n') (hj : f.offset = off) : YOp P env rs o (.pointer (some ((elemAt A q sz).add off))) := by
  obtain ⟨g, o', rfl⟩ := hs.at (by omega)
  rw [elemAt_mk] at hx ⊢
  rw [Addr.add_lit]
  exact op_fieldAddr ho hx hu hf hz (by rw [hj])
theorem Ct.swap2 {f vs} {X : Type} {val : X → Value} {φ : X → Prop} {A B : X → Hp} (h : Ct P f vs ms val φ (fun x => [A x, B x])) : Ct P f vs ms val φ (fun x => [B x, A x]) :=
  h.mono id (fun _ _ => rfl) (fun _ h => h) (fun _ _ _ _ h => h.pick [1, 0] (by decide))
end
end Go.Fw
