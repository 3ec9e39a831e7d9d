/- FnExactIsScale: for every list of bands the program's IsScale answers what the reference's answers, and leaves the list alone. -/
import Derived.Test.YtalgglmkdhajfaaRowFnExactIsScale
import Derived.Test.YtalgglmkdhajfaaScale
namespace Go.Proofs.Ytalgglmkdhajfaa.FinFnExactIsScale
open Go.RowKit Go.Proofs.YtalgglmkdhajfaaW.PrintWords Go.Proofs.Ytalgglmkdhajfaa.F Go.Proofs.Ytalgglmkdhajfaa.Pu
set_option linter.unusedVariables false
set_option linter.unusedSimpArgs false
theorem pure : RFnExactIsScale.PureFnExactIsScale := by
  rintro l ⟨hl, _⟩
  refine Ev.rounds (g := fun k => laws_FnExactIsScale.f k l) ?_
  obtain ⟨r, hr, hsz⟩ := szBandS l hl
  unfold laws_FnExactIsScale.f
  refine ev_bind_eq hr ?_
  by_cases hneg : r < 0
  · exact ev_pos hneg (Ev.now _)
  have hlen : l.length ≤ 1048576 := by omega
  have hT := toBandS l hlen
  have hm : (l.map cvBand).length ≤ 1048576 := by simpa using hlen
  have hS := isScale_spec (l.map cvBand) (by omega)
  have hI := isScale_impl (l.map cvBand) (by omega)
  have hE := eqBandS (l.map cvBand) (by omega)
  repeat (first | exact Ev.now _ | refine Ev.bind hT ?_ | refine Ev.bind hS ?_ | refine Ev.bind hI ?_ | refine Ev.bind hE ?_ | refine ev_pos (by first | omega | rfl) ?_ | refine ev_neg (by first | omega | simp) ?_)
end Go.Proofs.Ytalgglmkdhajfaa.FinFnExactIsScale
namespace Go.Proofs.Ytalgglmkdhajfaa
theorem fnExactIsScale_holds : Rows.FnExactIsScaleSaid := RFnExactIsScale.fnExactIsScale.proved FinFnExactIsScale.pure
end Go.Proofs.Ytalgglmkdhajfaa
