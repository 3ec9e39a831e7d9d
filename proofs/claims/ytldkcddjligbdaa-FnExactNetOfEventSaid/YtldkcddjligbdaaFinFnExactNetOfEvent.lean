/- FnExactNetOfEvent: for every input the program's function answers what the reference's answers, and leaves its arguments alone. -/
import Derived.Test.YtldkcddjligbdaaRowFnExactNetOfEvent
import Derived.Test.YtldkcddjligbdaaEventLaw
namespace Go.Proofs.Ytldkcddjligbdaa.FinFnExactNetOfEvent
open Go.RowKit Go.Proofs.YtldkcddjligbdaaW.PrintWords Go.Proofs.Ytldkcddjligbdaa.F Go.Proofs.Ytldkcddjligbdaa.Pu
set_option linter.unusedVariables false
set_option linter.unusedSimpArgs false
theorem pure : RFnExactNetOfEvent.PureFnExactNetOfEvent := by
  rintro l0 a1 x2 ⟨hl0, hw0⟩ hv1 hw2
  refine Ev.rounds (g := fun k => laws_FnExactNetOfEvent.f k l0 a1 x2.f0 x2.f1 x2.f2 x2.f3 x2.f4 x2.f5 x2.f6) ?_
  unfold laws_FnExactNetOfEvent.f
  obtain ⟨r0, hr0, hc0⟩ := szBandS l0 1048576 (by omega) (by omega) hl0
  refine ev_bind_eq hr0 ?_
  by_cases hn0 : r0 < 0
  · exact ev_pos hn0 (Ev.now _)
  refine ev_neg hn0 ?_
  obtain ⟨g0, g0', hlen0⟩ := hc0.resolve_left hn0
  obtain ⟨r2, hr2, hc2⟩ := szEvent1 x2 r0 g0 (by omega) hw2.2.2.1
  refine ev_bind_eq hr2 ?_
  by_cases hn2 : r2 < 0
  · exact ev_pos hn2 (Ev.now _)
  refine ev_neg hn2 ?_
  obtain ⟨g2, g2', hsm2⟩ := hc2.resolve_left hn2
  have hT0 := toBandS l0 hlen0
  have hm0 : (l0.map cvBand).length ≤ 1048576 := by simpa using hlen0
  have hE0 := eqBandS (l0.map cvBand) (by omega)
  generalize l0.map cvBand = y0 at *
  have hS := NetOfEvent_spec y0 a1 (cvEvent x2) hm0 hsm2
  have hI := NetOfEvent_impl y0 a1 (cvEvent x2) hm0 hsm2
  repeat (first | exact Ev.now _ | refine Ev.bind hS ?_ | refine Ev.bind hI ?_ | refine Ev.bind hT0 ?_ | refine Ev.bind hE0 ?_ | refine ev_bind_eq (show laws_toEvent.f x2.f0 x2.f1 x2.f2 x2.f3 x2.f4 x2.f5 x2.f6 = some (x2.f0, x2.f1, x2.f2, x2.f3, x2.f4, x2.f5, x2.f6) from rfl) ?_ | (refine ev_pos ?_ ?_; focus (first | omega | rfl | (simp; done))) | (refine ev_neg ?_ ?_; focus (first | omega | (simp; done))) | (refine ev_succ ?_; simp only [laws_FnExactNetOfEvent.j0]))
end Go.Proofs.Ytldkcddjligbdaa.FinFnExactNetOfEvent
namespace Go.Proofs.Ytldkcddjligbdaa
theorem fnExactNetOfEvent_holds : Rows.FnExactNetOfEventSaid := RFnExactNetOfEvent.fnExactNetOfEvent.proved FinFnExactNetOfEvent.pure
end Go.Proofs.Ytldkcddjligbdaa
