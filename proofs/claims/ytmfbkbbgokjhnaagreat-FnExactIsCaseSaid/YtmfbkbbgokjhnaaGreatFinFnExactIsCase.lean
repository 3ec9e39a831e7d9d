/- FnExactIsCase: for every input the program's function answers what the reference's answers, and leaves its arguments alone. -/
import Derived.Test.YtmfbkbbgokjhnaaGreatRowFnExactIsCase
import Derived.Test.YtmfbkbbgokjhnaaGreatCase
namespace Go.Proofs.YtmfbkbbgokjhnaaGreat.FinFnExactIsCase
open Go.RowKit Go.Proofs.YtmfbkbbgokjhnaaGreatW.PrintWords Go.Proofs.YtmfbkbbgokjhnaaGreat.F Go.Proofs.YtmfbkbbgokjhnaaGreat.Pu
set_option linter.unusedVariables false
set_option linter.unusedSimpArgs false
theorem pure : RFnExactIsCase.PureFnExactIsCase := by
  rintro ⟨l0, l1, l2, l3, l4, a5, a6⟩ ⟨⟨hl0, hw0⟩, ⟨hl1, hw1⟩, ⟨hl2, hw2⟩, ⟨hl3, hw3⟩, ⟨hl4, hw4⟩, hw5, hw6⟩
  simp only at hl0 hl1 hl2 hl3 hl4 hw0 hw1 hw2
  refine Ev.rounds (g := fun k => laws_FnExactIsCase.f k l0 l1 l2 l3 l4 a5 a6) ?_
  unfold laws_FnExactIsCase.f
  obtain ⟨r0, hr0, hc0⟩ := szCase1 l0 l1 l2 l3 l4 a5 a6 1048576 (by omega) (by omega) ⟨hl0, fun x hx => ⟨(hw0 x hx).1, (hw0 x hx).2.2.1⟩⟩ ⟨hl1, fun x hx => (hw1 x hx).2.2.1⟩ ⟨hl2, fun x hx => ⟨(hw2 x hx).1, (hw2 x hx).2.2.2.2.2.2⟩⟩ hl3 hl4
  refine Ev.bind hr0 ?_
  by_cases hn0 : r0 < 0
  · exact ev_pos hn0 (Ev.now _)
  refine ev_neg hn0 ?_
  obtain ⟨g0, g0', b0, b1, b2, b3, b4⟩ := hc0.resolve_left hn0
  have H := smallCase_map b0 b1 b2 b3 b4
  have hT := toCase1 l0 l1 l2 l3 l4 a5 a6 b0.1 b1.1 b2.1 b3 b4
  have hE := eqCase1 (l0.map cvInterest) (l1.map cvEvent) (l2.map cvClause) (l3.map cvBand) (l4.map cvStep) a5 a6 H.n0 H.n1 H.n2 H.n3 H.n4
  have hS := case_s H a5 a6
  have hI := case_i H a5 a6
  refine Ev.bind hT (Ev.bind hS (Ev.bind hT (Ev.bind hI (ev_neg (by simp) (Ev.bind hT (Ev.bind hE (ev_pos rfl (Ev.now _))))))))
end Go.Proofs.YtmfbkbbgokjhnaaGreat.FinFnExactIsCase
namespace Go.Proofs.YtmfbkbbgokjhnaaGreat
theorem fnExactIsCase_holds : Rows.FnExactIsCaseSaid := RFnExactIsCase.fnExactIsCase.proved FinFnExactIsCase.pure
end Go.Proofs.YtmfbkbbgokjhnaaGreat
