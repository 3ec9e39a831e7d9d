/- FnExactAgeOfShip: for every input the program's function answers what the reference's answers, and leaves its arguments alone. -/
import Derived.Test.YtmfbkbbgokjhnaaRowFnExactAgeOfShip
import Derived.Test.YtmfbkbbgokjhnaaAge
namespace Go.Proofs.Ytmfbkbbgokjhnaa.FinFnExactAgeOfShip
open Go.RowKit Go.Proofs.YtmfbkbbgokjhnaaW.PrintWords Go.Proofs.Ytmfbkbbgokjhnaa.F Go.Proofs.Ytmfbkbbgokjhnaa.Pu
set_option linter.unusedVariables false
set_option linter.unusedSimpArgs false
theorem pure : RFnExactAgeOfShip.PureFnExactAgeOfShip := by
  rintro l0 ⟨hl0, hw0⟩
  refine Ev.rounds (g := fun k => laws_FnExactAgeOfShip.f k l0) ?_
  unfold laws_FnExactAgeOfShip.f
  obtain ⟨r0, hr0, hc0⟩ := szInterestS l0 1048576 (by omega) (by omega) hl0 (fun x hx => ⟨(hw0 x hx).1, (hw0 x hx).2.2.1⟩)
  refine Ev.bind hr0 ?_
  by_cases hn0 : r0 < 0
  · exact ev_pos hn0 (Ev.now _)
  refine ev_neg hn0 ?_
  obtain ⟨g0, g0', hlen0, hsm0⟩ := hc0.resolve_left hn0
  have hT0 := toInterestS l0 hlen0
  have hm0 : (l0.map cvInterest).length ≤ 1048576 := by simpa using hlen0
  have hs0 := smallInterest_map l0 hsm0
  have hE0 := eqInterestS (l0.map cvInterest) (by omega)
  generalize l0.map cvInterest = y0 at *
  have hS := AgeOfShip_s y0 hs0 hm0
  have hI := AgeOfShip_i y0 hs0
  repeat (first | exact Ev.now _ | refine Ev.bind hS ?_ | refine Ev.bind hI ?_ | refine Ev.bind hT0 ?_ | refine Ev.bind hE0 ?_ | (refine ev_pos ?_ ?_; focus (first | omega | rfl | (simp; done))) | (refine ev_neg ?_ ?_; focus (first | omega | (simp; done))) | (refine ev_succ ?_; simp only [laws_FnExactAgeOfShip.j0]))
end Go.Proofs.Ytmfbkbbgokjhnaa.FinFnExactAgeOfShip
namespace Go.Proofs.Ytmfbkbbgokjhnaa
theorem fnExactAgeOfShip_holds : Rows.FnExactAgeOfShipSaid := RFnExactAgeOfShip.fnExactAgeOfShip.proved FinFnExactAgeOfShip.pure
end Go.Proofs.Ytmfbkbbgokjhnaa
