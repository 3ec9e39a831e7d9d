/- Days, events and logs: the program and the reference alike. -/
import Derived.Test.YtmfbkbbgokjhnaaFx5
import Derived.Test.YtmfbkbbgokjhnaaFx15
import Derived.Test.YtmfbkbbgokjhnaaFx16

import Derived.Test.YtmfbkbbgokjhnaaParty
import Derived.Test.YtmfbkbbgokjhnaaTyEvent
namespace Go.Proofs.Ytmfbkbbgokjhnaa.Pu
open Go.RowKit Go.Proofs.YtmfbkbbgokjhnaaW.PrintWords Go.Proofs.Ytmfbkbbgokjhnaa.F
set_option linter.unusedVariables false
set_option linter.unusedSimpArgs false
theorem in_i (a lo hi : Int) : impl_in.f a lo hi = some (decide (lo ≤ a ∧ a ≤ hi)) := by
  unfold impl_in.f
  by_cases h : a ≥ lo <;> simp [h]
theorem in_s (a lo hi : Int) : spec_l01In.f a lo hi = some (decide (lo ≤ a ∧ a ≤ hi)) := by
  unfold spec_l01In.f
  by_cases h : a ≥ lo <;> simp [h]
theorem amt_i (n : Int) : impl_IsAmount.f n = some (decide (0 ≤ n ∧ n ≤ 1000000000)) := by simp [impl_IsAmount.f, in_i]
theorem amt_s (n : Int) : spec_IsAmount.f n = some (decide (0 ≤ n ∧ n ≤ 1000000000)) := by simp [spec_IsAmount.f, in_s]
/-- The last day. -/
theorem lastDay : impl_dayOf.f 20 2069 12 31 = some 36524 := by decide +kernel
theorem day_s (n : Int) : spec_l02Is.f n = some (decide (0 ≤ n ∧ n ≤ 36524)) := by simp [spec_l02Is.f, in_s]
theorem day_i (n : Int) : Ev (fun k => impl_isDay.f k n) (decide (0 ≤ n ∧ n ≤ 36524)) := by
  unfold impl_isDay.f
  refine Ev.bind (Ev.of (fun k => impl_dayOf.mono _ _ _ k) lastDay) ?_
  simp only [in_i, Option.bind_some]
  exact Ev.now _
theorem kind_i (n : Int) : impl_isEventKind.f n = some (decide (0 ≤ n ∧ n ≤ 6)) := by simp [impl_isEventKind.f, in_i]
def eventB (x : S43) : Bool := decide (0 ≤ x.f0 ∧ x.f0 ≤ 36524) && decide (0 ≤ x.f1 ∧ x.f1 ≤ 6) && codeB x.f2 && decide (0 ≤ x.f3 ∧ x.f3 ≤ 1000000000)
theorem event_i (x : S43) (hs : x.f2.size ≤ 1048576) : Ev (fun k => impl_IsEvent.f k x.f0 x.f1 x.f2 x.f3 x.f4 x.f5 x.f6) (eventB x) := by
  unfold impl_IsEvent.f eventB
  refine Ev.bind (day_i x.f0) ?_
  cases decide (0 ≤ x.f0 ∧ x.f0 ≤ 36524) with
  | false => exact ev_neg (by simp) (Ev.now _)
  | true =>
    refine ev_pos rfl (ev_bind_eq (kind_i x.f1) ?_)
    cases decide (0 ≤ x.f1 ∧ x.f1 ≤ 6) with
    | false => exact ev_neg (by simp) (Ev.now _)
    | true =>
      refine ev_pos rfl (Ev.bind (code_impl x.f2 hs) ?_)
      cases codeB x.f2 with
      | false => exact ev_neg (by simp) (Ev.now _)
      | true => exact ev_pos rfl (ev_bind_eq (amt_i x.f3) (by simpa using Ev.now _))
theorem event_s (x : S43) (hs : x.f2.size ≤ 1048576) : Ev (fun k => spec_IsEvent.f k x.f0 x.f1 x.f2 x.f3 x.f4 x.f5 x.f6) (eventB x) := by
  unfold spec_IsEvent.f eventB
  refine ev_bind_eq (day_s x.f0) ?_
  cases decide (0 ≤ x.f0 ∧ x.f0 ≤ 36524) with
  | false => exact ev_neg (by simp) (Ev.now _)
  | true =>
    refine ev_pos rfl (ev_bind_eq (in_s x.f1 0 6) ?_)
    cases decide (0 ≤ x.f1 ∧ x.f1 ≤ 6) with
    | false => exact ev_neg (by simp) (Ev.now _)
    | true =>
      refine ev_pos rfl (Ev.bind (code_spec x.f2 hs) ?_)
      cases codeB x.f2 with
      | false => exact ev_neg (by simp) (Ev.now _)
      | true => exact ev_pos rfl (ev_bind_eq (amt_s x.f3) (by simpa using Ev.now _))
theorem eventB_amount {x : S43} (h : eventB x = true) : 0 ≤ x.f3 ∧ x.f3 ≤ 1000000000 := by
  unfold eventB at h
  simp only [Bool.and_eq_true, decide_eq_true_eq] at h
  exact h.2
end Go.Proofs.Ytmfbkbbgokjhnaa.Pu
