/- Fields of structs that are values. -/
import Derived.Test.YtagpkhbkdbaigaaGreatRow
namespace Go.Proofs.YtagpkhbkdbaigaaGreat
open Go.RowKit
set_option linter.unusedVariables false
set_option linter.unusedSimpArgs false
section
variable {P : Program} {a : Act} {w : World} {n : Nat} {l : List (Nat × Value)} {v : Value}
/-- A field of one cell. -/
theorem ex_field1 {x vs t f fs fl dd dst ty ps af g} (ha : Fr a n l) (hu : P.underlying t = some (.struct fs)) (hf : fs[f]? = some fl) (hd : P.underlying fl.type = some dd) (h1 : isOne dd = true)
    [ev : Ev l x (.agg (List.toArray vs))] (hv : vs[fl.offset]? = some v) :
    (execOp a.eval ⟨dst, .field t x f, ty, ps, af, g⟩).run P w = .ok (.value v) w := by
  have hpa : (part fl.type vs.toArray fl.offset).run P w = .ok v w := by
    have hagg : (isAgg fl.type).run P w = .ok false w := by
      simp only [isAgg, Sem.run_bind, run_underlying hd, Result.andThen_ok]
      cases dd <;> first | rfl | (simp [isOne] at h1)
    simp [part, hagg, hv]
  simp [execOp, ev.ev a n ha, Instr.field, run_underlying hu, hf, asAgg, hpa]
/-- A field of several. -/
theorem ex_fieldN {x vs t f fs fl dd z sz by' ws dst ty ps af g} (ha : Fr a n l) (hu : P.underlying t = some (.struct fs)) (hf : fs[f]? = some fl) (hd : P.underlying fl.type = some dd) (h1 : isOne dd = false) (hi : TI P fl.type z sz by')
    [ev : Ev l x (.agg (List.toArray vs))] (hv : (vs.drop fl.offset).take sz = ws) :
    (execOp a.eval ⟨dst, .field t x f, ty, ps, af, g⟩).run P w = .ok (.value (.agg (List.toArray ws))) w := by
  have hpa : (part fl.type vs.toArray fl.offset).run P w = .ok (.agg ws.toArray) w := by
    have hagg : (isAgg fl.type).run P w = .ok true w := by
      simp only [isAgg, Sem.run_bind, run_underlying hd, Result.andThen_ok]
      cases dd <;> first | rfl | (simp [isOne] at h1)
    subst hv
    simp [part, hagg, run_size hi]
  simp [execOp, ev.ev a n ha, Instr.field, run_underlying hu, hf, asAgg, hpa]
end
end Go.Proofs.YtagpkhbkdbaigaaGreat

