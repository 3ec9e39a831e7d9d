/- FnExactDeductionOf: for every input the program's function answers what the reference's answers, and leaves its arguments alone. -/
import Derived.Test.YtldkcddjligbdaaRowFnExactDeductionOf
import Derived.Test.YtldkcddjligbdaaPoints
namespace Go.Proofs.Ytldkcddjligbdaa.FinFnExactDeductionOf
open Go.RowKit Go.Proofs.YtldkcddjligbdaaW.PrintWords Go.Proofs.Ytldkcddjligbdaa.F Go.Proofs.Ytldkcddjligbdaa.Pu
set_option linter.unusedVariables false
set_option linter.unusedSimpArgs false
theorem pure : RFnExactDeductionOf.PureFnExactDeductionOf := by
  rintro l0 a1 a2 ⟨hl0, hw0⟩ hv1 hv2
  refine Ev.rounds (g := fun k => laws_FnExactDeductionOf.f k l0 a1 a2) ?_
  unfold laws_FnExactDeductionOf.f
  obtain ⟨r0, hr0, hc0⟩ := szBandS l0 1048576 (by omega) (by omega) hl0
  refine ev_bind_eq hr0 ?_
  by_cases hn0 : r0 < 0
  · exact ev_pos hn0 (Ev.now _)
  refine ev_neg hn0 ?_
  obtain ⟨g0, g0', hlen0⟩ := hc0.resolve_left hn0
  have hT0 := toBandS l0 hlen0
  have hm0 : (l0.map cvBand).length ≤ 1048576 := by simpa using hlen0
  have hE0 := eqBandS (l0.map cvBand) (by omega)
  generalize l0.map cvBand = y0 at *
  have hS := DeductionOf_spec y0 a1 a2 hm0
  have hI := DeductionOf_impl y0 a1 a2 hm0
  repeat (first | exact Ev.now _ | refine Ev.bind hS ?_ | refine Ev.bind hI ?_ | refine Ev.bind hT0 ?_ | refine Ev.bind hE0 ?_ | (refine ev_pos ?_ ?_; focus (first | omega | rfl | (simp; done))) | (refine ev_neg ?_ ?_; focus (first | omega | (simp; done))) | (refine ev_succ ?_; simp only [laws_FnExactDeductionOf.j0]))
end Go.Proofs.Ytldkcddjligbdaa.FinFnExactDeductionOf
namespace Go.Proofs.Ytldkcddjligbdaa
theorem fnExactDeductionOf_holds : Rows.FnExactDeductionOfSaid := RFnExactDeductionOf.fnExactDeductionOf.proved FinFnExactDeductionOf.pure
end Go.Proofs.Ytldkcddjligbdaa
