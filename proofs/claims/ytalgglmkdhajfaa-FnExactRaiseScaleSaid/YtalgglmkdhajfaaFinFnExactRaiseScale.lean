/- FnExactRaiseScale: for every list of bands and every number the program's RaiseScale answers what the reference's answers, in new memory, and leaves the list alone. -/
import Derived.Test.YtalgglmkdhajfaaRowFnExactRaiseScale
import Derived.Test.YtalgglmkdhajfaaMerge
namespace Go.Proofs.Ytalgglmkdhajfaa.FinFnExactRaiseScale
open Go.RowKit Go.Proofs.YtalgglmkdhajfaaW.PrintWords Go.Proofs.Ytalgglmkdhajfaa.F Go.Proofs.Ytalgglmkdhajfaa.Pu
set_option linter.unusedVariables false
set_option linter.unusedSimpArgs false
theorem pure : RFnExactRaiseScale.PureFnExactRaiseScale := by
  rintro l a ⟨hl, _⟩ _
  refine Ev.rounds (g := fun k => laws_FnExactRaiseScale.f k l a) ?_
  obtain ⟨r, hr, hsz⟩ := szBandS l hl
  unfold laws_FnExactRaiseScale.f
  refine ev_bind_eq hr ?_
  by_cases hneg : r < 0
  · exact ev_pos hneg (Ev.now _)
  have hlen : l.length ≤ 1048576 := by omega
  have hT := toBandS l hlen
  have hm : (l.map cvBand).length ≤ 1048576 := by simpa using hlen
  generalize l.map cvBand = x at hT hm
  have hS := RaiseScale_spec x a hm
  have hI := RaiseScale_impl x a hm
  have hE := eqBandS x (by omega)
  have hg := raiseB_len x a
  rcases hG : raiseB x a with ⟨g, c⟩
  rw [hG] at hS hI hg
  have hE2 := eqBandS g (by simp only at hg; omega)
  obtain ⟨k1, m1, h1, hM1, _⟩ := markHeldBandS x (by omega)
  obtain ⟨k2, m2, h2, hM2, hH2⟩ := markHeldBandS g (by simp only at hg; omega)
  repeat (first | exact Ev.now _ | refine Ev.bind hT ?_ | refine Ev.bind hS ?_ | refine Ev.bind hI ?_ | refine Ev.bind hE ?_ | refine Ev.bind hE2 ?_ | refine Ev.bind hM1 ?_ | refine Ev.bind hM2 ?_ | refine Ev.bind hH2 ?_ | refine ev_pos (by first | omega | rfl) ?_ | refine ev_neg (by first | omega | simp) ?_ | (refine ev_succ ?_; simp only [laws_FnExactRaiseScale.j0, laws_FnExactRaiseScale.j1, laws_FnExactRaiseScale.j2]))
end Go.Proofs.Ytalgglmkdhajfaa.FinFnExactRaiseScale
namespace Go.Proofs.Ytalgglmkdhajfaa
theorem fnExactRaiseScale_holds : Rows.FnExactRaiseScaleSaid := RFnExactRaiseScale.fnExactRaiseScale.proved FinFnExactRaiseScale.pure
end Go.Proofs.Ytalgglmkdhajfaa
