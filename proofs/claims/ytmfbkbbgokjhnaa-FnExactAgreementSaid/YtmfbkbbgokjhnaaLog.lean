/- Days, events and logs: the program and the reference alike. -/
import Derived.Test.YtmfbkbbgokjhnaaFx10
import Derived.Test.YtmfbkbbgokjhnaaFx18
import Derived.Test.YtmfbkbbgokjhnaaFx21
import Derived.Test.YtmfbkbbgokjhnaaFx12
import Derived.Test.YtmfbkbbgokjhnaaFx21
import Derived.Test.YtmfbkbbgokjhnaaParty
import Derived.Test.YtmfbkbbgokjhnaaTyEvent
namespace Go.Proofs.Ytmfbkbbgokjhnaa.Pu
open Go.RowKit Go.Proofs.YtmfbkbbgokjhnaaW.PrintWords Go.Proofs.Ytmfbkbbgokjhnaa.F
set_option linter.unusedVariables false
set_option linter.unusedSimpArgs false
theorem in_i (a lo hi : Int) : impl_in.f a lo hi = some (decide (lo ≤ a ∧ a ≤ hi)) := by
  unfold impl_in.f
  by_cases h : a ≥ lo <;> simp [h]
theorem in_s (a lo hi : Int) : spec_l01In.f a lo hi = some (decide (lo ≤ a ∧ a ≤ hi)) := by
  unfold spec_l01In.f
  by_cases h : a ≥ lo <;> simp [h]
theorem amt_i (n : Int) : impl_IsAmount.f n = some (decide (0 ≤ n ∧ n ≤ 1000000000)) := by simp [impl_IsAmount.f, in_i]
theorem amt_s (n : Int) : spec_IsAmount.f n = some (decide (0 ≤ n ∧ n ≤ 1000000000)) := by simp [spec_IsAmount.f, in_s]
/-- The last day. -/
theorem lastDay : impl_dayOf.f 20 2069 12 31 = some 36524 := by decide +kernel
theorem day_s (n : Int) : spec_l02Is.f n = some (decide (0 ≤ n ∧ n ≤ 36524)) := by simp [spec_l02Is.f, in_s]
theorem day_i (n : Int) : Ev (fun k => impl_isDay.f k n) (decide (0 ≤ n ∧ n ≤ 36524)) := by
  unfold impl_isDay.f
  refine Ev.bind (Ev.of (fun k => impl_dayOf.mono _ _ _ k) lastDay) ?_
  simp only [in_i, Option.bind_some]
  exact Ev.now _
theorem kind_i (n : Int) : impl_isEventKind.f n = some (decide (0 ≤ n ∧ n ≤ 6)) := by simp [impl_isEventKind.f, in_i]
def eventB (x : S43) : Bool := decide (0 ≤ x.f0 ∧ x.f0 ≤ 36524) && decide (0 ≤ x.f1 ∧ x.f1 ≤ 6) && codeB x.f2 && decide (0 ≤ x.f3 ∧ x.f3 ≤ 1000000000)
theorem event_i (x : S43) (hs : x.f2.size ≤ 9223372036854775807) : Ev (fun k => impl_IsEvent.f k x.f0 x.f1 x.f2 x.f3 x.f4 x.f5 x.f6) (eventB x) := by
  unfold impl_IsEvent.f eventB
  refine Ev.bind (day_i x.f0) ?_
  cases decide (0 ≤ x.f0 ∧ x.f0 ≤ 36524) with
  | false => exact ev_neg (by simp) (Ev.now _)
  | true =>
    refine ev_pos rfl (ev_bind_eq (kind_i x.f1) ?_)
    cases decide (0 ≤ x.f1 ∧ x.f1 ≤ 6) with
    | false => exact ev_neg (by simp) (Ev.now _)
    | true =>
      refine ev_pos rfl (Ev.bind (code_impl x.f2 hs) ?_)
      cases codeB x.f2 with
      | false => exact ev_neg (by simp) (Ev.now _)
      | true => exact ev_pos rfl (ev_bind_eq (amt_i x.f3) (by simpa using Ev.now _))
theorem event_s (x : S43) (hs : x.f2.size ≤ 9223372036854775807) : Ev (fun k => spec_IsEvent.f k x.f0 x.f1 x.f2 x.f3 x.f4 x.f5 x.f6) (eventB x) := by
  unfold spec_IsEvent.f eventB
  refine ev_bind_eq (day_s x.f0) ?_
  cases decide (0 ≤ x.f0 ∧ x.f0 ≤ 36524) with
  | false => exact ev_neg (by simp) (Ev.now _)
  | true =>
    refine ev_pos rfl (ev_bind_eq (in_s x.f1 0 6) ?_)
    cases decide (0 ≤ x.f1 ∧ x.f1 ≤ 6) with
    | false => exact ev_neg (by simp) (Ev.now _)
    | true =>
      refine ev_pos rfl (Ev.bind (code_spec x.f2 hs) ?_)
      cases codeB x.f2 with
      | false => exact ev_neg (by simp) (Ev.now _)
      | true => exact ev_pos rfl (ev_bind_eq (amt_s x.f3) (by simpa using Ev.now _))
theorem eventB_amount {x : S43} (h : eventB x = true) : 0 ≤ x.f3 ∧ x.f3 ≤ 1000000000 := by
  unfold eventB at h
  simp only [Bool.and_eq_true, decide_eq_true_eq] at h
  exact h.2
def logOK (l : List S43) (i : Nat) : Bool := eventB (l.getD i z43) && decide (0 < i → (l.getD (i - 1) z43).f0 ≤ (l.getD i z43).f0)
def isLog (l : List S43) : Bool := decide (∀ i, i < l.length → logOK l i = true) && decide (l.length ≤ 15)
theorem isLog_s (l : List S43) (hl : l.length ≤ 1048576) (hs : ∀ x ∈ l, smallEventI x) : Ev (fun k => spec_IsLog.f k l) (isLog l) := by
  unfold spec_IsLog.f
  have h := ev_all l.length (fun k i => spec_IsLog.l0 k l i) (logOK l) (decide (l.length ≤ 15))
    (fun i r hi hok hr => by
      simp only [logOK, Bool.and_eq_true, decide_eq_true_eq] at hok
      have he := event_s (l.getD i z43) (hs _ (mem_getD l i z43 hi))
      rw [hok.1] at he
      refine ev_succ ?_
      simp only [spec_IsLog.l0, rdEv]
      refine ev_pos (by omega) (ev_pos (by omega) (Ev.bind he (ev_pos rfl ?_)))
      by_cases hp : 0 < i
      · have h2 := hok.2 hp
        refine ev_pos (by omega) ?_
        rw [w64p i hp (by omega), w64s i (by omega)]
        refine ev_pos (by omega) (ev_pos (by omega) ?_)
        simp only [rdEv]
        exact ev_neg (by omega) hr
      · rw [w64s i (by omega)]
        exact ev_neg (by omega) hr)
    (fun i hi hok => by
      have he := event_s (l.getD i z43) (hs _ (mem_getD l i z43 hi))
      refine ev_succ ?_
      simp only [spec_IsLog.l0, rdEv]
      refine ev_pos (by omega) (ev_pos (by omega) (Ev.bind he ?_))
      cases hb : eventB (l.getD i z43) with
      | false => exact ev_neg (by simp) (Ev.now _)
      | true =>
        simp only [logOK, hb, Bool.true_and, decide_eq_false_iff_not] at hok
        refine ev_pos rfl ?_
        by_cases hp : 0 < i
        · refine ev_pos (by omega) ?_
          rw [w64p i hp (by omega)]
          refine ev_pos (by omega) (ev_pos (by omega) ?_)
          simp only [rdEv]
          exact ev_pos (by
            by_cases h4 : (l.getD i z43).f0 < (l.getD (i - 1) z43).f0
            · exact h4
            · exact absurd (fun _ => by omega) hok) (Ev.now _)
        · exact absurd (fun h => absurd h hp) hok)
    (ev_pt fun k => by
      simp only [spec_IsLog.l0]
      rw [if_neg (by omega)]
      congr 1
      rw [decide_eq_decide]; omega)
    l.length 0 (by omega)
  rw [range_all] at h
  exact h
theorem isLog_i (l : List S43) (hl : l.length ≤ 1048576) (hs : ∀ x ∈ l, smallEventI x) : Ev (fun k => impl_IsLog.f k l) (isLog l) := by
  unfold impl_IsLog.f
  have h := ev_all l.length (fun k i => impl_IsLog.l0 k l l (l.length : Int) i) (logOK l) (decide (l.length ≤ 15))
    (fun i r hi hok hr => by
      simp only [logOK, Bool.and_eq_true, decide_eq_true_eq] at hok
      have he := event_i (l.getD i z43) (hs _ (mem_getD l i z43 hi))
      rw [hok.1] at he
      refine ev_succ ?_
      simp only [impl_IsLog.l0, rdEv]
      refine ev_pos (by omega) (ev_pos (by omega) (ev_pos (by omega) (Ev.bind he (ev_pos rfl ?_))))
      by_cases hp : 0 < i
      · have h2 := hok.2 hp
        refine ev_pos (by omega) ?_
        rw [w64p i hp (by omega), w64s i (by omega)]
        refine ev_pos (by omega) (ev_pos (by omega) ?_)
        simp only [rdEv]
        exact ev_neg (by omega) hr
      · rw [w64s i (by omega)]
        exact ev_neg (by omega) hr)
    (fun i hi hok => by
      have he := event_i (l.getD i z43) (hs _ (mem_getD l i z43 hi))
      refine ev_succ ?_
      simp only [impl_IsLog.l0, rdEv]
      refine ev_pos (by omega) (ev_pos (by omega) (ev_pos (by omega) (Ev.bind he ?_)))
      cases hb : eventB (l.getD i z43) with
      | false => exact ev_neg (by simp) (Ev.now _)
      | true =>
        simp only [logOK, hb, Bool.true_and, decide_eq_false_iff_not] at hok
        refine ev_pos rfl ?_
        by_cases hp : 0 < i
        · refine ev_pos (by omega) ?_
          rw [w64p i hp (by omega)]
          refine ev_pos (by omega) (ev_pos (by omega) ?_)
          simp only [rdEv]
          exact ev_pos (by
            by_cases h4 : (l.getD (i - 1) z43).f0 > (l.getD i z43).f0
            · exact h4
            · exact absurd (fun _ => by omega) hok) (Ev.now _)
        · exact absurd (fun h => absurd h hp) hok)
    (ev_pt fun k => by
      simp only [impl_IsLog.l0]
      rw [if_neg (by omega)]
      congr 1
      rw [decide_eq_decide]; omega)
    l.length 0 (by omega)
  rw [range_all] at h
  exact h
theorem isLog_events {l : List S43} (h : isLog l = true) : (∀ x ∈ l, eventB x = true) ∧ l.length ≤ 15 := by
  unfold isLog at h
  simp only [Bool.and_eq_true, decide_eq_true_eq] at h
  refine ⟨fun x hx => ?_, h.2⟩
  obtain ⟨i, hi, rfl⟩ := List.mem_iff_getElem.1 hx
  have := h.1 i hi
  simp only [logOK, Bool.and_eq_true, decide_eq_true_eq] at this
  rw [getD_lt _ _ _ hi] at this
  exact this.1
end Go.Proofs.Ytmfbkbbgokjhnaa.Pu
