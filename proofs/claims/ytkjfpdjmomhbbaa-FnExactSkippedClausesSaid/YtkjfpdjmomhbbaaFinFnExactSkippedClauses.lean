/- FnExactSkippedClauses: for every input the program's function answers what the reference's answers, and leaves its arguments alone. -/
import Derived.Test.YtkjfpdjmomhbbaaRowFnExactSkippedClauses
import Derived.Test.YtkjfpdjmomhbbaaSkipped
import Derived.Test.YtkjfpdjmomhbbaaClauseMark
import Derived.Test.YtkjfpdjmomhbbaaStr
namespace Go.Proofs.Ytkjfpdjmomhbbaa.FinFnExactSkippedClauses
open Go.RowKit Go.Proofs.YtkjfpdjmomhbbaaW.PrintWords Go.Proofs.Ytkjfpdjmomhbbaa.F Go.Proofs.Ytkjfpdjmomhbbaa.Pu
set_option linter.unusedVariables false
set_option linter.unusedSimpArgs false
theorem pure : RFnExactSkippedClauses.PureFnExactSkippedClauses := by
  rintro l0 x1 ⟨hl0, hw0⟩ hw1
  refine Ev.rounds (g := fun k => laws_FnExactSkippedClauses.f k l0 x1.f0 x1.f1 x1.f2 x1.f3 x1.f4 x1.f5 x1.f6) ?_
  unfold laws_FnExactSkippedClauses.f
  obtain ⟨r0, hr0, hc0⟩ := szClauseS l0 1048576 (by omega) (by omega) hl0 (fun x hx => ⟨(hw0 x hx).1, (hw0 x hx).2.2.2.2.2.2⟩)
  refine Ev.bind hr0 ?_
  by_cases hn0 : r0 < 0
  · exact ev_pos hn0 (Ev.now _)
  refine ev_neg hn0 ?_
  obtain ⟨g0, g0', hlen0, hsm0⟩ := hc0.resolve_left hn0
  obtain ⟨r1, hr1, hc1⟩ := szEvent1 x1 r0 g0 (by omega) hw1.2.2.1
  refine ev_bind_eq hr1 ?_
  by_cases hn1 : r1 < 0
  · exact ev_pos hn1 (Ev.now _)
  refine ev_neg hn1 ?_
  obtain ⟨g1, g1', hsm1⟩ := hc1.resolve_left hn1
  have hT0 := toClauseS l0 hlen0
  have hm0 : (l0.map cvClause).length ≤ 1048576 := by simpa using hlen0
  have hs0 := smallClause_map l0 hsm0
  have hE0 := eqClauseS (l0.map cvClause) (by omega)
  generalize l0.map cvClause = y0 at *
  have hS := Skipped_s y0 (cvEvent x1) hs0 hsm1 hm0
  have hI := Skipped_i y0 (cvEvent x1) hs0 hsm1
  have hR := skippedM_len y0 (cvEvent x1)
  obtain ⟨k1, m1, h1, hM1⟩ := markClauseS y0 hm0
  have hE9 := eqStringS (skippedM y0 (cvEvent x1)).1 (by omega)
  obtain ⟨k2, m2, h2, hM2, hH2⟩ := markHeldStringS (skippedM y0 (cvEvent x1)).1 (by omega)
  repeat (first | exact Ev.now _ | refine Ev.bind hS ?_ | refine Ev.bind hI ?_ | refine Ev.bind hT0 ?_ | refine Ev.bind hE0 ?_ | refine ev_bind_eq (show laws_toEvent.f x1.f0 x1.f1 x1.f2 x1.f3 x1.f4 x1.f5 x1.f6 = some (x1.f0, x1.f1, x1.f2, x1.f3, x1.f4, x1.f5, x1.f6) from rfl) ?_ | refine Ev.bind hE9 ?_ | refine Ev.bind hM1 ?_ | refine Ev.bind hM2 ?_ | refine Ev.bind hH2 ?_ | (refine ev_pos ?_ ?_; focus (first | omega | rfl | (simp; done))) | (refine ev_neg ?_ ?_; focus (first | omega | (simp; done))) | (refine ev_succ ?_; simp only [laws_FnExactSkippedClauses.j0, laws_FnExactSkippedClauses.j1, laws_FnExactSkippedClauses.j2]))
end Go.Proofs.Ytkjfpdjmomhbbaa.FinFnExactSkippedClauses
namespace Go.Proofs.Ytkjfpdjmomhbbaa
theorem fnExactSkippedClauses_holds : Rows.FnExactSkippedClausesSaid := RFnExactSkippedClauses.fnExactSkippedClauses.proved FinFnExactSkippedClauses.pure
end Go.Proofs.Ytkjfpdjmomhbbaa
