/- FnExactAgreement: for every input the program's function answers what the reference's answers, and leaves its arguments alone. -/
import Derived.Test.YtmfbkbbgokjhnaaRowFnExactAgreement
import Derived.Test.YtmfbkbbgokjhnaaAgree
namespace Go.Proofs.Ytmfbkbbgokjhnaa.FinFnExactAgreement
open Go.RowKit Go.Proofs.YtmfbkbbgokjhnaaW.PrintWords Go.Proofs.Ytmfbkbbgokjhnaa.F Go.Proofs.Ytmfbkbbgokjhnaa.Pu
set_option linter.unusedVariables false
set_option linter.unusedSimpArgs false
theorem pure : RFnExactAgreement.PureFnExactAgreement := by
  rintro l0 l1 l2 ⟨hl0, hw0⟩ ⟨hl1, hw1⟩ ⟨hl2, hw2⟩
  refine Ev.rounds (g := fun k => laws_FnExactAgreement.f k l0 l1 l2) ?_
  unfold laws_FnExactAgreement.f
  obtain ⟨r0, hr0, hc0⟩ := szClauseS l0 1048576 (by omega) (by omega) hl0 (fun x hx => ⟨(hw0 x hx).1, (hw0 x hx).2.2.2.2.2.2⟩)
  refine Ev.bind hr0 ?_
  by_cases hn0 : r0 < 0
  · exact ev_pos hn0 (Ev.now _)
  refine ev_neg hn0 ?_
  obtain ⟨g0, g0', hlen0, hsm0⟩ := hc0.resolve_left hn0
  obtain ⟨r1, hr1, hc1⟩ := szClauseS l1 r0 g0 (by omega) hl1 (fun x hx => ⟨(hw1 x hx).1, (hw1 x hx).2.2.2.2.2.2⟩)
  refine Ev.bind hr1 ?_
  by_cases hn1 : r1 < 0
  · exact ev_pos hn1 (Ev.now _)
  refine ev_neg hn1 ?_
  obtain ⟨g1, g1', hlen1, hsm1⟩ := hc1.resolve_left hn1
  obtain ⟨r2, hr2, hc2⟩ := szEventS l2 r1 g1 (by omega) hl2 (fun x hx => (hw2 x hx).2.2.1)
  refine Ev.bind hr2 ?_
  by_cases hn2 : r2 < 0
  · exact ev_pos hn2 (Ev.now _)
  refine ev_neg hn2 ?_
  obtain ⟨g2, g2', hlen2, hsm2⟩ := hc2.resolve_left hn2
  have hT0 := toClauseS l0 hlen0
  have hm0 : (l0.map cvClause).length ≤ 1048576 := by simpa using hlen0
  have hs0 := smallClause_map l0 hsm0
  have hE0 := eqClauseS (l0.map cvClause) (by omega)
  generalize l0.map cvClause = y0 at *
  have hT1 := toClauseS l1 hlen1
  have hm1 : (l1.map cvClause).length ≤ 1048576 := by simpa using hlen1
  have hs1 := smallClause_map l1 hsm1
  have hE1 := eqClauseS (l1.map cvClause) (by omega)
  generalize l1.map cvClause = y1 at *
  have hT2 := toEventS l2 hlen2
  have hm2 : (l2.map cvEvent).length ≤ 1048576 := by simpa using hlen2
  have hs2 := smallEvent_map l2 hsm2
  have hE2 := eqEventS (l2.map cvEvent) (by omega)
  generalize l2.map cvEvent = y2 at *
  have hS := Agreement_s y0 y1 y2 hs0 hs1 hs2 hm0 hm1 hm2
  have hI := Agreement_i y0 y1 y2 hs0 hs1 hs2 hm2
  repeat (first | exact Ev.now _ | refine Ev.bind hS ?_ | refine Ev.bind hI ?_ | refine Ev.bind hT0 ?_ | refine Ev.bind hE0 ?_ | refine Ev.bind hT1 ?_ | refine Ev.bind hE1 ?_ | refine Ev.bind hT2 ?_ | refine Ev.bind hE2 ?_ | (refine ev_pos ?_ ?_; focus (first | omega | rfl | (simp; done))) | (refine ev_neg ?_ ?_; focus (first | omega | (simp; done))) | (refine ev_succ ?_; simp only [laws_FnExactAgreement.j0]))
end Go.Proofs.Ytmfbkbbgokjhnaa.FinFnExactAgreement
namespace Go.Proofs.Ytmfbkbbgokjhnaa
theorem fnExactAgreement_holds : Rows.FnExactAgreementSaid := RFnExactAgreement.fnExactAgreement.proved FinFnExactAgreement.pure
end Go.Proofs.Ytmfbkbbgokjhnaa
