/- FnExactIsRight: for every input the program's function answers what the reference's answers, and leaves its arguments alone. -/
import Derived.Test.YtmfbkbbgokjhnaaRowFnExactIsRight
import Derived.Test.YtmfbkbbgokjhnaaRight
import Derived.Test.YtmfbkbbgokjhnaaTyDecision
namespace Go.Proofs.Ytmfbkbbgokjhnaa.FinFnExactIsRight
open Go.RowKit Go.Proofs.YtmfbkbbgokjhnaaW.PrintWords Go.Proofs.Ytmfbkbbgokjhnaa.F Go.Proofs.Ytmfbkbbgokjhnaa.Pu
set_option linter.unusedVariables false
set_option linter.unusedSimpArgs false
theorem pure : RFnExactIsRight.PureFnExactIsRight := by
  rintro l0 x1 ⟨d0, ds⟩ ⟨hl0, hw0⟩ hw1 ⟨hw2, hl2, hw3⟩
  simp only at hl2 hw3
  refine Ev.rounds (g := fun k => laws_FnExactIsRight.f k l0 x1.f0 x1.f1 x1.f2 x1.f3 x1.f4 x1.f5 x1.f6 d0 ds) ?_
  unfold laws_FnExactIsRight.f
  obtain ⟨r0, hr0, hc0⟩ := szClauseS l0 1048576 (by omega) (by omega) hl0 (fun x hx => ⟨(hw0 x hx).1, (hw0 x hx).2.2.2.2.2.2⟩)
  refine Ev.bind hr0 ?_
  by_cases hn0 : r0 < 0
  · exact ev_pos hn0 (Ev.now _)
  refine ev_neg hn0 ?_
  obtain ⟨g0, g0', hlen0, hsm0⟩ := hc0.resolve_left hn0
  obtain ⟨r1, hr1, hc1⟩ := szEvent1 x1 r0 g0 (by omega) hw1.2.2.1
  refine ev_bind_eq hr1 ?_
  by_cases hn1 : r1 < 0
  · exact ev_pos hn1 (Ev.now _)
  refine ev_neg hn1 ?_
  obtain ⟨g1, g1', hsm1⟩ := hc1.resolve_left hn1
  obtain ⟨r2, hr2, hc2⟩ := szDecision1 d0 ds r1 g1 (by omega) hl2 hw3
  refine Ev.bind hr2 ?_
  by_cases hn2 : r2 < 0
  · exact ev_pos hn2 (Ev.now _)
  refine ev_neg hn2 ?_
  obtain ⟨g2, g2', hlen2⟩ := hc2.resolve_left hn2
  have hT0 := toClauseS l0 hlen0
  have hm0 : (l0.map cvClause).length ≤ 1048576 := by simpa using hlen0
  have hs0 := smallClause_map l0 hsm0
  have hE0 := eqClauseS (l0.map cvClause) (by omega)
  generalize l0.map cvClause = y0 at *
  have hT2 := toDecision1 d0 ds hlen2
  have hE2 := eqDecision1 d0 ds hlen2
  have hS := IsRight_s y0 (cvEvent x1) d0 ds hs0 hsm1 hm0
  have hI := IsRight_i y0 (cvEvent x1) d0 ds hs0 hsm1
  have hT1 : laws_toEvent.f x1.f0 x1.f1 x1.f2 x1.f3 x1.f4 x1.f5 x1.f6 = some (x1.f0, x1.f1, x1.f2, x1.f3, x1.f4, x1.f5, x1.f6) := rfl
  refine Ev.bind hT0 (ev_bind_eq hT1 (Ev.bind hT2 (Ev.bind hS (Ev.bind hT0 (Ev.bind hT2 (ev_bind_eq hT1 (Ev.bind hI (ev_neg (by simp) ?_))))))))
  refine ev_succ ?_
  simp only [laws_FnExactIsRight.j0]
  refine ev_neg (by simp) (Ev.bind hT0 (Ev.bind hE0 (ev_pos rfl (Ev.bind hT2 (Ev.bind hE2 (ev_pos rfl (Ev.now _)))))))
end Go.Proofs.Ytmfbkbbgokjhnaa.FinFnExactIsRight
namespace Go.Proofs.Ytmfbkbbgokjhnaa
theorem fnExactIsRight_holds : Rows.FnExactIsRightSaid := RFnExactIsRight.fnExactIsRight.proved FinFnExactIsRight.pure
end Go.Proofs.Ytmfbkbbgokjhnaa
