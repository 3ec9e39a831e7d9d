/- FnExactCountShapes: for every input the program's function answers what the reference's answers, and leaves its arguments alone. -/
import Derived.Test.YtkjfpdjmomhbbaaRowFnExactCountShapes
import Derived.Test.YtkjfpdjmomhbbaaShapes
import Derived.Test.YtkjfpdjmomhbbaaClauseMark
import Derived.Test.YtkjfpdjmomhbbaaTyInt
namespace Go.Proofs.Ytkjfpdjmomhbbaa.FinFnExactCountShapes
open Go.RowKit Go.Proofs.YtkjfpdjmomhbbaaW.PrintWords Go.Proofs.Ytkjfpdjmomhbbaa.F Go.Proofs.Ytkjfpdjmomhbbaa.Pu
set_option linter.unusedVariables false
set_option linter.unusedSimpArgs false
theorem pure : RFnExactCountShapes.PureFnExactCountShapes := by
  rintro l0 ⟨hl0, hw0⟩
  refine Ev.rounds (g := fun k => laws_FnExactCountShapes.f k l0) ?_
  unfold laws_FnExactCountShapes.f
  obtain ⟨r0, hr0, hc0⟩ := szClauseS l0 1048576 (by omega) (by omega) hl0 (fun x hx => ⟨(hw0 x hx).1, (hw0 x hx).2.2.2.2.2.2⟩)
  refine Ev.bind hr0 ?_
  by_cases hn0 : r0 < 0
  · exact ev_pos hn0 (Ev.now _)
  refine ev_neg hn0 ?_
  obtain ⟨g0, g0', hlen0, hsm0⟩ := hc0.resolve_left hn0
  have hT0 := toClauseS l0 hlen0
  have hm0 : (l0.map cvClause).length ≤ 1048576 := by simpa using hlen0
  have hs0 := smallClause_map l0 hsm0
  have hE0 := eqClauseS (l0.map cvClause) (by omega)
  generalize l0.map cvClause = y0 at *
  have hS := Shapes_s y0 hs0 hm0
  have hI := Shapes_i y0 hs0
  have hR := shapesM_len y0
  obtain ⟨k1, m1, h1, hM1⟩ := markClauseS y0 hm0
  have hE9 := eqInt64S (shapesM y0).1 (by omega)
  obtain ⟨k2, m2, h2, hM2, hH2⟩ := markHeldInt64S (shapesM y0).1 (by omega)
  repeat (first | exact Ev.now _ | refine Ev.bind hS ?_ | refine Ev.bind hI ?_ | refine Ev.bind hT0 ?_ | refine Ev.bind hE0 ?_ | refine Ev.bind hE9 ?_ | refine Ev.bind hM1 ?_ | refine Ev.bind hM2 ?_ | refine Ev.bind hH2 ?_ | (refine ev_pos ?_ ?_; focus (first | omega | rfl | (simp; done))) | (refine ev_neg ?_ ?_; focus (first | omega | (simp; done))) | (refine ev_succ ?_; simp only [laws_FnExactCountShapes.j0, laws_FnExactCountShapes.j1, laws_FnExactCountShapes.j2]))
end Go.Proofs.Ytkjfpdjmomhbbaa.FinFnExactCountShapes
namespace Go.Proofs.Ytkjfpdjmomhbbaa
theorem fnExactCountShapes_holds : Rows.FnExactCountShapesSaid := RFnExactCountShapes.fnExactCountShapes.proved FinFnExactCountShapes.pure
end Go.Proofs.Ytkjfpdjmomhbbaa
