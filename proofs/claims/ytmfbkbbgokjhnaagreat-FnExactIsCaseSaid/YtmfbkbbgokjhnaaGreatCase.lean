/- What a case is: the program and the reference alike. -/
import Derived.Test.YtmfbkbbgokjhnaaGreatFx15
import Derived.Test.YtmfbkbbgokjhnaaGreatFx29
import Derived.Test.YtmfbkbbgokjhnaaGreatTyCase
import Derived.Test.YtmfbkbbgokjhnaaGreatSchedule
import Derived.Test.YtmfbkbbgokjhnaaGreatFits
import Derived.Test.YtmfbkbbgokjhnaaGreatRulebook
namespace Go.Proofs.YtmfbkbbgokjhnaaGreat.Pu
open Go.RowKit Go.Proofs.YtmfbkbbgokjhnaaGreatW.PrintWords Go.Proofs.YtmfbkbbgokjhnaaGreat.F
set_option linter.unusedVariables false
set_option linter.unusedSimpArgs false
def caseB (l0 : List S103) (l1 : List S65) (l2 : List S105) (l3 : List S109) (l4 : List S111) (a5 a6 : Int) : Bool :=
  manifestB l0 && (isLog l1 && (rulebookB l2 && (isScale l3 && (scheduleB l4 && (fitsB l1 l0 && (decide (0 ≤ a5 ∧ a5 ≤ 10000) && (decide (0 ≤ a6 ∧ a6 ≤ 36524) && l1.all fun e => decide (e.f0 ≤ a6))))))))
theorem case_i {l0 : List S103} {l1 : List S65} {l2 : List S105} {l3 : List S109} {l4 : List S111} (H : SmallCase l0 l1 l2 l3 l4) (a5 a6 : Int) :
    Ev (fun k => impl_IsCase.f k l0 l1 l2 l3 l4 a5 a6) (caseB l0 l1 l2 l3 l4 a5 a6) := by
  unfold impl_IsCase.f caseB
  refine Ev.bind (manifest_i l0 H.s0) ?_
  cases manifestB l0
  case false => exact ev_neg (by simp) (Ev.now _)
  refine ev_pos rfl (Ev.bind (isLog_i l1 H.n1 H.s1) ?_)
  cases isLog l1
  case false => exact ev_neg (by simp) (Ev.now _)
  refine ev_pos rfl (Ev.bind (rulebook_i l2 H.s2) ?_)
  cases rulebookB l2
  case false => exact ev_neg (by simp) (Ev.now _)
  refine ev_pos rfl (Ev.bind (isScale_impl l3 (by have := H.n3; omega)) ?_)
  cases isScale l3
  case false => exact ev_neg (by simp) (Ev.now _)
  refine ev_pos rfl (Ev.bind (sched_i l4) ?_)
  cases scheduleB l4
  case false => exact ev_neg (by simp) (Ev.now _)
  refine ev_pos rfl (ev_bind_eq (fits_i l1 l0) ?_)
  cases fitsB l1 l0
  case false => exact ev_neg (by simp) (Ev.now _)
  refine ev_pos rfl (ev_bind_eq (points_impl a5) ?_)
  by_cases h5 : 0 ≤ a5 ∧ a5 ≤ 10000
  case neg => rw [decide_eq_false h5]; exact ev_neg (by simp) (Ev.now _)
  rw [decide_eq_true h5]
  refine ev_pos rfl (Ev.bind (day_i a6) ?_)
  by_cases h6 : 0 ≤ a6 ∧ a6 ≤ 36524
  case neg => rw [decide_eq_false h6]; exact ev_neg (by simp) (Ev.now _)
  rw [decide_eq_true h6]
  exact ev_pos rfl (Ev.now _)
theorem last_all (l : List S65) (d : Int) (h : isLog l = true) (hn : 0 < l.length) : decide ((l.getD (l.length - 1) z65).f0 ≤ d) = l.all fun e => decide (e.f0 ≤ d) := by
  unfold isLog at h
  simp only [Bool.and_eq_true, decide_eq_true_eq] at h
  have up : ∀ m i, i + m + 1 = l.length → (l.getD i z65).f0 ≤ (l.getD (l.length - 1) z65).f0 := by
    intro m
    induction m with
    | zero => intro i hi; rw [show l.length - 1 = i by omega]; exact Int.le_refl _
    | succ m ih =>
      intro i hi
      refine Int.le_trans ?_ (ih (i + 1) (by omega))
      have := h.1 (i + 1) (by omega)
      unfold logOK at this
      simp only [Bool.and_eq_true, decide_eq_true_eq] at this
      exact this.2 (by omega)
  rw [Bool.eq_iff_iff, decide_eq_true_eq, List.all_eq_true]
  constructor
  · intro hd x hx
    obtain ⟨i, hi, rfl⟩ := List.mem_iff_getElem.1 hx
    have := up (l.length - 1 - i) i (by omega)
    rw [getD_lt _ _ _ hi] at this
    rw [decide_eq_true_eq]
    omega
  · intro ha
    have := ha _ (mem_getD l (l.length - 1) z65 (by omega))
    rwa [decide_eq_true_eq] at this
theorem case_s {l0 : List S103} {l1 : List S65} {l2 : List S105} {l3 : List S109} {l4 : List S111} (H : SmallCase l0 l1 l2 l3 l4) (a5 a6 : Int) :
    Ev (fun k => spec_IsCase.f k l0 l1 l2 l3 l4 a5 a6) (caseB l0 l1 l2 l3 l4 a5 a6) := by
  unfold spec_IsCase.f caseB
  refine Ev.bind (manifest_s l0 H.s0) ?_
  cases manifestB l0
  case false => exact ev_neg (by simp) (Ev.now _)
  refine ev_pos rfl (Ev.bind (isLog_s l1 H.n1 H.s1) ?_)
  cases hlog : isLog l1
  case false => exact ev_neg (by simp) (Ev.now _)
  refine ev_pos rfl (Ev.bind (rulebook_s l2 H.s2 H.n2) ?_)
  cases rulebookB l2
  case false => exact ev_neg (by simp) (Ev.now _)
  refine ev_pos rfl (Ev.bind (isScale_spec l3 (by have := H.n3; omega)) ?_)
  cases isScale l3
  case false => exact ev_neg (by simp) (Ev.now _)
  refine ev_pos rfl (Ev.bind (sched_s l4 H.n4) ?_)
  cases scheduleB l4
  case false => exact ev_neg (by simp) (Ev.now _)
  refine ev_pos rfl (Ev.bind (fits_s l1 l0 H.n0 H.n1) ?_)
  cases fitsB l1 l0
  case false => exact ev_neg (by simp) (Ev.now _)
  refine ev_pos rfl (ev_bind_eq (points_spec a5) ?_)
  by_cases h5 : 0 ≤ a5 ∧ a5 ≤ 10000
  case neg => rw [decide_eq_false h5]; exact ev_neg (by simp) (Ev.now _)
  rw [decide_eq_true h5]
  refine ev_pos rfl (ev_bind_eq (day_s a6) ?_)
  by_cases h6 : 0 ≤ a6 ∧ a6 ≤ 36524
  case neg => rw [decide_eq_false h6]; exact ev_neg (by simp) (Ev.now _)
  rw [decide_eq_true h6]
  refine ev_pos rfl ?_
  by_cases hn : l1.length = 0
  · refine ev_pos hn ?_
    rw [List.eq_nil_of_length_eq_zero hn]
    exact Ev.now _
  · refine ev_neg hn ?_
    rw [show ((l1.length : Int) - 1) = ((l1.length - 1 : Nat) : Int) by omega, rdEv, last_all l1 a6 hlog (by omega)]
    exact Ev.now _
end Go.Proofs.YtmfbkbbgokjhnaaGreat.Pu
