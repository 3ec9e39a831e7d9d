/- FnExactFirstWrong: for every input the program's function answers what the reference's answers, and leaves its arguments alone. -/
import Derived.Test.YtmfbkbbgokjhnaaRowFnExactFirstWrong
import Derived.Test.YtmfbkbbgokjhnaaFirst
import Derived.Test.YtmfbkbbgokjhnaaTyDecisionS
namespace Go.Proofs.Ytmfbkbbgokjhnaa.FinFnExactFirstWrong
open Go.RowKit Go.Proofs.YtmfbkbbgokjhnaaW.PrintWords Go.Proofs.Ytmfbkbbgokjhnaa.F Go.Proofs.Ytmfbkbbgokjhnaa.Pu
set_option linter.unusedVariables false
set_option linter.unusedSimpArgs false
theorem pure : RFnExactFirstWrong.PureFnExactFirstWrong := by
  rintro l0 l1 l2 ⟨hl0, hw0⟩ ⟨hl1, hw1⟩ ⟨hl2, hw2⟩
  refine Ev.rounds (g := fun k => laws_FnExactFirstWrong.f k l0 l1 l2) ?_
  unfold laws_FnExactFirstWrong.f
  obtain ⟨r0, hr0, hc0⟩ := szClauseS l0 1048576 (by omega) (by omega) hl0 (fun x hx => ⟨(hw0 x hx).1, (hw0 x hx).2.2.2.2.2.2⟩)
  refine Ev.bind hr0 ?_
  by_cases hn0 : r0 < 0
  · exact ev_pos hn0 (Ev.now _)
  refine ev_neg hn0 ?_
  obtain ⟨g0, g0', hlen0, hsm0⟩ := hc0.resolve_left hn0
  obtain ⟨r1, hr1, hc1⟩ := szEventS l1 r0 g0 (by omega) hl1 (fun x hx => (hw1 x hx).2.2.1)
  refine Ev.bind hr1 ?_
  by_cases hn1 : r1 < 0
  · exact ev_pos hn1 (Ev.now _)
  refine ev_neg hn1 ?_
  obtain ⟨g1, g1', hlen1, hsm1⟩ := hc1.resolve_left hn1
  obtain ⟨r2, hr2, hc2⟩ := szDecisionS l2 r1 g1 (by omega) hl2 (fun x hx => (hw2 x hx).2)
  refine Ev.bind hr2 ?_
  by_cases hn2 : r2 < 0
  · exact ev_pos hn2 (Ev.now _)
  refine ev_neg hn2 ?_
  obtain ⟨g2, g2', hlen2, hsm2⟩ := hc2.resolve_left hn2
  have hT0 := toClauseS l0 hlen0
  have hm0 : (l0.map cvClause).length ≤ 1048576 := by simpa using hlen0
  have hs0 := smallClause_map l0 hsm0
  have hE0 := eqClauseS (l0.map cvClause) (by omega)
  have hT1 := toEventS l1 hlen1
  have hm1 : (l1.map cvEvent).length ≤ 1048576 := by simpa using hlen1
  have hs1 := smallEvent_map l1 hsm1
  have hE1 := eqEventS (l1.map cvEvent) (by omega)
  have hT2 := toDecisionS l2 hlen2 hsm2
  have hE2 := eqDecisionS (l2.map cvDec) (by rw [List.length_map]; omega) (fun x hx => by
    obtain ⟨y, hy, rfl⟩ := List.mem_map.1 hx
    exact hsm2 y hy)
  generalize l0.map cvClause = y0 at *
  generalize l1.map cvEvent = y1 at *
  generalize l2.map cvDec = y2 at *
  have hS := FirstWrong_s y0 y1 y2 hs0 hm0 hs1 hm1
  have hI := FirstWrong_i y0 y1 y2 hs0 hs1 hm1
  refine Ev.bind hT0 (Ev.bind hT1 (Ev.bind hT2 (Ev.bind hS (Ev.bind hT0 (Ev.bind hT1 (Ev.bind hT2 (Ev.bind hI (ev_pos rfl ?_))))))))
  refine ev_succ ?_
  simp only [laws_FnExactFirstWrong.j0]
  exact ev_neg (by simp) (Ev.bind hT0 (Ev.bind hE0 (ev_pos rfl (Ev.bind hT1 (Ev.bind hE1 (ev_pos rfl (Ev.bind hT2 (Ev.bind hE2 (ev_pos rfl (Ev.now _))))))))))
end Go.Proofs.Ytmfbkbbgokjhnaa.FinFnExactFirstWrong
namespace Go.Proofs.Ytmfbkbbgokjhnaa
theorem fnExactFirstWrong_holds : Rows.FnExactFirstWrongSaid := RFnExactFirstWrong.fnExactFirstWrong.proved FinFnExactFirstWrong.pure
end Go.Proofs.Ytmfbkbbgokjhnaa
