/- FnExactTotalDeduction: for every input the program's function answers what the reference's answers, and leaves its arguments alone. -/
import Derived.Test.YtldkcddjligbdaaRowFnExactTotalDeduction
import Derived.Test.YtldkcddjligbdaaEventLaw
namespace Go.Proofs.Ytldkcddjligbdaa.FinFnExactTotalDeduction
open Go.RowKit Go.Proofs.YtldkcddjligbdaaW.PrintWords Go.Proofs.Ytldkcddjligbdaa.F Go.Proofs.Ytldkcddjligbdaa.Pu
set_option linter.unusedVariables false
set_option linter.unusedSimpArgs false
theorem pure : RFnExactTotalDeduction.PureFnExactTotalDeduction := by
  rintro l0 a1 l2 ⟨hl0, hw0⟩ hv1 ⟨hl2, hw2⟩
  refine Ev.rounds (g := fun k => laws_FnExactTotalDeduction.f k l0 a1 l2) ?_
  unfold laws_FnExactTotalDeduction.f
  obtain ⟨r0, hr0, hc0⟩ := szBandS l0 1048576 (by omega) (by omega) hl0
  refine ev_bind_eq hr0 ?_
  by_cases hn0 : r0 < 0
  · exact ev_pos hn0 (Ev.now _)
  refine ev_neg hn0 ?_
  obtain ⟨g0, g0', hlen0⟩ := hc0.resolve_left hn0
  obtain ⟨r2, hr2, hc2⟩ := szEventS l2 r0 g0 (by omega) hl2 (fun x hx => (hw2 x hx).2.2.1)
  refine Ev.bind hr2 ?_
  by_cases hn2 : r2 < 0
  · exact ev_pos hn2 (Ev.now _)
  refine ev_neg hn2 ?_
  obtain ⟨g2, g2', hlen2, hsm2⟩ := hc2.resolve_left hn2
  have hT0 := toBandS l0 hlen0
  have hm0 : (l0.map cvBand).length ≤ 1048576 := by simpa using hlen0
  have hE0 := eqBandS (l0.map cvBand) (by omega)
  generalize l0.map cvBand = y0 at *
  have hT2 := toEventS l2 hlen2
  have hm2 : (l2.map cvEvent).length ≤ 1048576 := by simpa using hlen2
  have hs2 := smallEvent_map l2 hsm2
  have hE2 := eqEventS (l2.map cvEvent) (by omega)
  generalize l2.map cvEvent = y2 at *
  have hS := TotalDeduction_spec y0 a1 y2 hm0 hm2 hs2
  have hI := TotalDeduction_impl y0 a1 y2 hm0 hm2 hs2
  repeat (first | exact Ev.now _ | refine Ev.bind hS ?_ | refine Ev.bind hI ?_ | refine Ev.bind hT0 ?_ | refine Ev.bind hE0 ?_ | refine Ev.bind hT2 ?_ | refine Ev.bind hE2 ?_ | (refine ev_pos ?_ ?_; focus (first | omega | rfl | (simp; done))) | (refine ev_neg ?_ ?_; focus (first | omega | (simp; done))) | (refine ev_succ ?_; simp only [laws_FnExactTotalDeduction.j0]))
end Go.Proofs.Ytldkcddjligbdaa.FinFnExactTotalDeduction
namespace Go.Proofs.Ytldkcddjligbdaa
theorem fnExactTotalDeduction_holds : Rows.FnExactTotalDeductionSaid := RFnExactTotalDeduction.fnExactTotalDeduction.proved FinFnExactTotalDeduction.pure
end Go.Proofs.Ytldkcddjligbdaa
