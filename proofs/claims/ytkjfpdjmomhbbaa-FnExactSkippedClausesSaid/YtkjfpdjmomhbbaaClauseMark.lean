/- Marking a list of clauses comes to an end. -/
import Derived.Test.YtkjfpdjmomhbbaaFx18
import Derived.Test.YtkjfpdjmomhbbaaStr
import Derived.Test.YtkjfpdjmomhbbaaTyClause
namespace Go.Proofs.Ytkjfpdjmomhbbaa.Pu
open Go.RowKit Go.Proofs.YtkjfpdjmomhbbaaW.PrintWords Go.Proofs.Ytkjfpdjmomhbbaa.F
set_option linter.unusedVariables false
set_option linter.unusedSimpArgs false
theorem markClauseS (l : List S84) (hl : l.length ≤ 1048576) : ∃ k' m, 0 ≤ k' ∧ Ev (fun k => laws_markClauseS.f k l 1) (k', m) := by
  unfold laws_markClauseS.f
  obtain ⟨s, ⟨hs, hx⟩, hE⟩ := ev_inv l.length (fun k (s : List S84 × Int) i => laws_markClauseS.l0 k s.1 s.2 i) (fun i s => s.1.length = l.length ∧ s.2 = 1 + 7 * (i : Int)) (fun s => (s.2, s.1))
    (fun i s hi ⟨hs, hx⟩ => by
      obtain ⟨t, ht⟩ := markText_ev s.2 (by omega) (by omega)
      obtain ⟨u, hu⟩ := markText_ev (s.2 + 6) (by omega) (by omega)
      have e1 : wrap64 (s.2 + 1) = s.2 + 1 := w64 (by omega) (by omega)
      have e2 : wrap64 (s.2 + 1 + 1) = s.2 + 2 := by rw [w64 (by omega) (by omega)]; omega
      have e3 : wrap64 (s.2 + 2 + 1) = s.2 + 3 := by rw [w64 (by omega) (by omega)]; omega
      have e4 : wrap64 (s.2 + 3 + 1) = s.2 + 4 := by rw [w64 (by omega) (by omega)]; omega
      have e5 : wrap64 (s.2 + 4 + 1) = s.2 + 5 := by rw [w64 (by omega) (by omega)]; omega
      have e6 : wrap64 (s.2 + 5 + 1) = s.2 + 6 := by rw [w64 (by omega) (by omega)]; omega
      have e7 : wrap64 (s.2 + 6 + 1) = s.2 + 7 := by rw [w64 (by omega) (by omega)]; omega
      obtain ⟨y1, h1⟩ : ∃ y : List S84, y = s.1.set i ⟨t, (s.1.getD i z84).f1, (s.1.getD i z84).f2, (s.1.getD i z84).f3, (s.1.getD i z84).f4, (s.1.getD i z84).f5, (s.1.getD i z84).f6⟩ := ⟨_, rfl⟩
      obtain ⟨y2, h2⟩ : ∃ y : List S84, y = y1.set i ⟨(y1.getD i z84).f0, s.2 + 1, (y1.getD i z84).f2, (y1.getD i z84).f3, (y1.getD i z84).f4, (y1.getD i z84).f5, (y1.getD i z84).f6⟩ := ⟨_, rfl⟩
      obtain ⟨y3, h3⟩ : ∃ y : List S84, y = y2.set i ⟨(y2.getD i z84).f0, (y2.getD i z84).f1, s.2 + 2, (y2.getD i z84).f3, (y2.getD i z84).f4, (y2.getD i z84).f5, (y2.getD i z84).f6⟩ := ⟨_, rfl⟩
      obtain ⟨y4, h4⟩ : ∃ y : List S84, y = y3.set i ⟨(y3.getD i z84).f0, (y3.getD i z84).f1, (y3.getD i z84).f2, s.2 + 3, (y3.getD i z84).f4, (y3.getD i z84).f5, (y3.getD i z84).f6⟩ := ⟨_, rfl⟩
      obtain ⟨y5, h5⟩ : ∃ y : List S84, y = y4.set i ⟨(y4.getD i z84).f0, (y4.getD i z84).f1, (y4.getD i z84).f2, (y4.getD i z84).f3, s.2 + 4, (y4.getD i z84).f5, (y4.getD i z84).f6⟩ := ⟨_, rfl⟩
      obtain ⟨y6, h6⟩ : ∃ y : List S84, y = y5.set i ⟨(y5.getD i z84).f0, (y5.getD i z84).f1, (y5.getD i z84).f2, (y5.getD i z84).f3, (y5.getD i z84).f4, s.2 + 5, (y5.getD i z84).f6⟩ := ⟨_, rfl⟩
      obtain ⟨y7, h7⟩ : ∃ y : List S84, y = y6.set i ⟨(y6.getD i z84).f0, (y6.getD i z84).f1, (y6.getD i z84).f2, (y6.getD i z84).f3, (y6.getD i z84).f4, (y6.getD i z84).f5, u⟩ := ⟨_, rfl⟩
      refine ⟨(y7, s.2 + 7), ⟨by rw [h7, h6, h5, h4, h3, h2, h1]; simpa using hs, by simp only; omega⟩, fun r hr => ?_⟩
      refine ev_succ ?_
      simp only [laws_markClauseS.l0, e1, e2, e3, e4, e5, e6, e7, rdCl, Int.toNat_natCast]
      refine ev_pos (by omega) (Ev.bind ht (ev_pos (by omega) ?_))
      refine ev_bind_eq (congrArg some h1.symm) ?_
      refine ev_bind_eq (congrArg some h2.symm) ?_
      refine ev_bind_eq (congrArg some h3.symm) ?_
      refine ev_bind_eq (congrArg some h4.symm) ?_
      refine ev_bind_eq (congrArg some h5.symm) ?_
      refine ev_bind_eq (congrArg some h6.symm) ?_
      refine Ev.bind hu ?_
      rw [w64s i (by omega)]
      rw [h7] at hr
      exact hr)
    (fun s ⟨hs, hx⟩ => ev_pt fun k => by simp only [laws_markClauseS.l0]; rw [if_neg (by omega)])
    l.length 0 (l, 1) (by omega) ⟨rfl, rfl⟩
  exact ⟨s.2, s.1, by omega, hE⟩
end Go.Proofs.Ytkjfpdjmomhbbaa.Pu
