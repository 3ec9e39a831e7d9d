/- FnExactWitnessFor: for every input the program's function answers what the reference's answers, and leaves its arguments alone. -/
import Derived.Test.YtkjfpdjmomhbbaaRowFnExactWitnessFor
import Derived.Test.YtkjfpdjmomhbbaaShapes
namespace Go.Proofs.Ytkjfpdjmomhbbaa.FinFnExactWitnessFor
open Go.RowKit Go.Proofs.YtkjfpdjmomhbbaaW.PrintWords Go.Proofs.Ytkjfpdjmomhbbaa.F Go.Proofs.Ytkjfpdjmomhbbaa.Pu
set_option linter.unusedVariables false
set_option linter.unusedSimpArgs false
theorem pure : RFnExactWitnessFor.PureFnExactWitnessFor := by
  rintro l0 a1 ⟨hl0, hw0⟩ hv1
  refine Ev.rounds (g := fun k => laws_FnExactWitnessFor.f k l0 a1) ?_
  unfold laws_FnExactWitnessFor.f
  obtain ⟨r0, hr0, hc0⟩ := szClauseS l0 1048576 (by omega) (by omega) hl0 (fun x hx => ⟨(hw0 x hx).1, (hw0 x hx).2.2.2.2.2.2⟩)
  refine Ev.bind hr0 ?_
  by_cases hn0 : r0 < 0
  · exact ev_pos hn0 (Ev.now _)
  refine ev_neg hn0 ?_
  obtain ⟨g0, g0', hlen0, hsm0⟩ := hc0.resolve_left hn0
  have hT0 := toClauseS l0 hlen0
  have hm0 : (l0.map cvClause).length ≤ 1048576 := by simpa using hlen0
  have hs0 := smallClause_map l0 hsm0
  have hE0 := eqClauseS (l0.map cvClause) (by omega)
  generalize l0.map cvClause = y0 at *
  have hS := Witness_s y0 a1 hs0 hm0
  have hI := Witness_i y0 a1 hs0
  repeat (first | exact Ev.now _ | refine Ev.bind hS ?_ | refine Ev.bind hI ?_ | refine Ev.bind hT0 ?_ | refine Ev.bind hE0 ?_ | refine ev_bind_eq (eqEv7 _ _ _ _ _ _ _) ?_ | (refine ev_pos ?_ ?_; focus (first | omega | rfl | (simp; done))) | (refine ev_neg ?_ ?_; focus (first | omega | (simp; done))) | (refine ev_succ ?_; simp only [laws_FnExactWitnessFor.j0]))
end Go.Proofs.Ytkjfpdjmomhbbaa.FinFnExactWitnessFor
namespace Go.Proofs.Ytkjfpdjmomhbbaa
theorem fnExactWitnessFor_holds : Rows.FnExactWitnessForSaid := RFnExactWitnessFor.fnExactWitnessFor.proved FinFnExactWitnessFor.pure
end Go.Proofs.Ytkjfpdjmomhbbaa
