/- FnExactIsChoice: for every input the program's function answers what the reference's answers, and leaves its arguments alone. -/
import Derived.Test.YtldkcddjligbdaaRowFnExactIsChoice
import Derived.Test.YtldkcddjligbdaaChoice
namespace Go.Proofs.Ytldkcddjligbdaa.FinFnExactIsChoice
open Go.RowKit Go.Proofs.YtldkcddjligbdaaW.PrintWords Go.Proofs.Ytldkcddjligbdaa.F Go.Proofs.Ytldkcddjligbdaa.Pu
set_option linter.unusedVariables false
set_option linter.unusedSimpArgs false
theorem pure : RFnExactIsChoice.PureFnExactIsChoice := by
  rintro l0 l1 a2 ⟨hl0, hw0⟩ ⟨hl1, hw1⟩ hv2
  refine Ev.rounds (g := fun k => laws_FnExactIsChoice.f k l0 l1 a2) ?_
  unfold laws_FnExactIsChoice.f
  by_cases hb1 : (l1.length : Int) > 1048576
  · exact ev_pos hb1 (Ev.now _)
  refine ev_neg hb1 ?_
  have hlen1 : l1.length ≤ 1048576 := by omega
  obtain ⟨r0, hr0, hc0⟩ := szOptionS l0 1048576 (by omega) (by omega) hl0
  refine ev_bind_eq hr0 ?_
  by_cases hn0 : r0 < 0
  · exact ev_pos hn0 (Ev.now _)
  refine ev_neg hn0 ?_
  obtain ⟨g0, g0', hlen0⟩ := hc0.resolve_left hn0
  have hT0 := toOptionS l0 hlen0
  have hm0 : (l0.map cvOption).length ≤ 1048576 := by simpa using hlen0
  have hE0 := eqOptionS (l0.map cvOption) (by omega)
  generalize l0.map cvOption = y0 at *
  have hT1 := toInt64S l1 hlen1
  have hE1 := eqInt64S l1 (by omega)
  have hS := IsChoice_spec y0 l1 a2 hm0 hlen1
  have hI := IsChoice_impl y0 l1 a2 hm0 hlen1
  repeat (first | exact Ev.now _ | refine Ev.bind hS ?_ | refine Ev.bind hI ?_ | refine Ev.bind hT0 ?_ | refine Ev.bind hE0 ?_ | refine Ev.bind hT1 ?_ | refine Ev.bind hE1 ?_ | (refine ev_pos ?_ ?_; focus (first | omega | rfl | (simp; done))) | (refine ev_neg ?_ ?_; focus (first | omega | (simp; done))) | (refine ev_succ ?_; simp only [laws_FnExactIsChoice.j0]))
end Go.Proofs.Ytldkcddjligbdaa.FinFnExactIsChoice
namespace Go.Proofs.Ytldkcddjligbdaa
theorem fnExactIsChoice_holds : Rows.FnExactIsChoiceSaid := RFnExactIsChoice.fnExactIsChoice.proved FinFnExactIsChoice.pure
end Go.Proofs.Ytldkcddjligbdaa
