/- Marking a list of clauses comes to an end. -/
import Derived.Test.YtkjfpdjmomhbbaaFx18
import Derived.Test.YtkjfpdjmomhbbaaStr
import Derived.Test.YtkjfpdjmomhbbaaTyClause
namespace Go.Proofs.Ytkjfpdjmomhbbaa.Pu
open Go.RowKit Go.Proofs.YtkjfpdjmomhbbaaW.PrintWords Go.Proofs.Ytkjfpdjmomhbbaa.F
set_option linter.unusedVariables false
set_option linter.unusedSimpArgs false
theorem markClauseS (l : List S84) (hl : l.length ≤ 1048576) : ∃ k' m, 0 ≤ k' ∧ Ev (fun k => laws_markClauseS.f k l 1) (k', m) := by
  unfold laws_markClauseS.f
  obtain ⟨s, ⟨hs, hx⟩, hE⟩ := ev_inv l.length (fun k (s : List S84 × Int) i => laws_markClauseS.l0 k s.1 s.2 i) (fun i s => s.1.length = l.length ∧ s.2 = 1 + 7 * (i : Int)) (fun s => (s.2, s.1))
    (fun i s hi ⟨hs, hx⟩ => by
      obtain ⟨t, ht⟩ := markText_ev s.2 (by omega) (by omega)
      obtain ⟨u, hu⟩ := markText_ev (s.2 + 6) (by omega) (by omega)
      have e1 : wrap64 (s.2 + 1) = s.2 + 1 := w64 (by omega) (by omega)
      have e2 : wrap64 (s.2 + 1 + 1) = s.2 + 2 := by rw [w64 (by omega) (by omega)]; omega
      have e3 : wrap64 (s.2 + 2 + 1) = s.2 + 3 := by rw [w64 (by omega) (by omega)]; omega
      have e4 : wrap64 (s.2 + 3 + 1) = s.2 + 4 := by rw [w64 (by omega) (by omega)]; omega
      have e5 : wrap64 (s.2 + 4 + 1) = s.2 + 5 := by rw [w64 (by omega) (by omega)]; omega
      have e6 : wrap64 (s.2 + 5 + 1) = s.2 + 6 := by rw [w64 (by omega) (by omega)]; omega
      have e7 : wrap64 (s.2 + 6 + 1) = s.2 + 7 := by rw [w64 (by omega) (by omega)]; omega
      refine ⟨(_, s.2 + 7), ⟨?hl, by simp only; omega⟩, fun r hr => ?hr⟩
      case hr =>
        refine ev_succ ?_
        simp only [laws_markClauseS.l0, e1, e2, e3, e4, e5, e6, e7]
        refine ev_pos (by omega) (Ev.bind ht (ev_pos (by omega) ?_))
        simp only [Option.bind_some]
        refine Ev.bind hu ?_
        rw [w64s i (by omega)]
        exact hr
      case hl => simpa using hs)
    (fun s ⟨hs, hx⟩ => ev_pt fun k => by simp only [laws_markClauseS.l0]; rw [if_neg (by omega)])
    l.length 0 (l, 1) (by omega) ⟨rfl, rfl⟩
  exact ⟨s.2, s.1, by omega, hE⟩
end Go.Proofs.Ytkjfpdjmomhbbaa.Pu
