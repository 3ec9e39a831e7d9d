/- The net amount of an event, and all deductions: the program and the reference alike. -/
import Derived.Test.YtldkcddjligbdaaFx5
import Derived.Test.YtldkcddjligbdaaFx11
import Derived.Test.YtldkcddjligbdaaFx15
import Derived.Test.YtldkcddjligbdaaFx18
import Derived.Test.YtldkcddjligbdaaPoints
import Derived.Test.YtldkcddjligbdaaLog
namespace Go.Proofs.Ytldkcddjligbdaa.Pu
open Go.RowKit Go.Proofs.YtldkcddjligbdaaW.PrintWords Go.Proofs.Ytldkcddjligbdaa.F
set_option linter.unusedVariables false
set_option linter.unusedSimpArgs false
def deductedM (l : List S113) (age : Int) (x : S63) : Int := if x.f1 = 5 then deductM l age x.f3 else 0
theorem deducted_i (l : List S113) (age : Int) (x : S63) (hs : isScale l = true) (h0 : 0 ≤ x.f3) (h1 : x.f3 ≤ 1000000000) (hl : l.length ≤ 1048576) : Ev (fun k => impl_deducted.f k l age x.f0 x.f1 x.f2 x.f3 x.f4 x.f5 x.f6) (deductedM l age x) := by
  have hp := points_bd (isScale_pts hs) age
  unfold impl_deducted.f deductedM
  by_cases h : x.f1 = 5
  · rw [if_pos h]; exact ev_pos h (Ev.bind (points_impl' l age (by omega)) (ev_bind_eq (comm_impl x.f3 _ h0 h1 hp.1 hp.2) (Ev.now _)))
  · rw [if_neg h]; exact ev_neg h (Ev.now _)
theorem deducted_bd (l : List S113) (age : Int) (x : S63) (hs : isScale l = true) (h0 : 0 ≤ x.f3) : 0 ≤ deductedM l age x ∧ deductedM l age x ≤ x.f3 := by
  have hp := points_bd (isScale_pts hs) age
  unfold deductedM
  by_cases h : x.f1 = 5
  · rw [if_pos h]; exact comm_le _ _ h0 hp.1 hp.2
  · rw [if_neg h]; omega
theorem net_s (l : List S113) (age : Int) (x : S63) (hs : isScale l = true) (h0 : 0 ≤ x.f3) (h1 : x.f3 ≤ 1000000000) (hl : l.length ≤ 1048576) : Ev (fun k => spec_l13Net.f k l age x.f0 x.f1 x.f2 x.f3 x.f4 x.f5 x.f6) (x.f3 - deductedM l age x) := by
  have hb := deducted_bd l age x hs h0
  unfold spec_l13Net.f
  unfold deductedM at hb ⊢
  by_cases h : x.f1 = 5
  · rw [if_pos h] at hb ⊢
    refine ev_pos h (Ev.bind (deduct_spec l age x.f3 hs h0 h1 (by omega)) ?_)
    rw [w64 (by omega) (by omega)]
    exact Ev.now _
  · rw [if_neg h]; refine ev_neg h ?_; rw [Int.sub_zero]; exact Ev.now _
def netRes (l : List S113) (age : Int) (x : S63) : Int × Int := if eventB x = true then (if scaleCode l age 0 = 0 then (x.f3 - deductedM l age x, 0) else (0, scaleCode l age 0)) else (0, 1)
theorem NetOfEvent_spec (l : List S113) (a : Int) (x : S63) (hl : l.length ≤ 1048576) (hx : x.f2.size ≤ 1048576) : Ev (fun k => spec_NetOfEvent.f k l a x.f0 x.f1 x.f2 x.f3 x.f4 x.f5 x.f6) (netRes l a x) := by
  unfold spec_NetOfEvent.f
  refine Ev.bind (event_s x hx) ?_
  unfold netRes
  cases he : eventB x with
  | false => exact ev_neg (by simp) (by simpa using Ev.now _)
  | true =>
    obtain ⟨h0, h1⟩ := eventB_amount he
    refine ev_pos rfl (Ev.bind (scaleCode_spec l a 0 (by omega)) ?_)
    rw [if_pos rfl]
    by_cases hc : scaleCode l a 0 = 0
    · have hz := (scaleCode_zero hc).1
      rw [if_pos hc]
      exact ev_pos hc (Ev.bind (net_s l a x hz h0 h1 hl) (Ev.now _))
    · rw [if_neg hc]; exact ev_neg hc (Ev.now _)
theorem NetOfEvent_impl (l : List S113) (a : Int) (x : S63) (hl : l.length ≤ 1048576) (hx : x.f2.size ≤ 1048576) : Ev (fun k => impl_NetOfEvent.f k l a x.f0 x.f1 x.f2 x.f3 x.f4 x.f5 x.f6) (netRes l a x) := by
  unfold impl_NetOfEvent.f
  refine Ev.bind (event_i x hx) ?_
  unfold netRes
  cases he : eventB x with
  | false => exact ev_neg (by simp) (by simpa using Ev.now _)
  | true =>
    obtain ⟨h0, h1⟩ := eventB_amount he
    refine ev_pos rfl (Ev.bind (scaleCode_impl l a 0 (by omega)) ?_)
    rw [if_pos rfl]
    by_cases hc : scaleCode l a 0 = 0
    · have hz := (scaleCode_zero hc).1
      have hb := deducted_bd l a x hz h0
      rw [if_pos hc]
      refine ev_pos hc (Ev.bind (deducted_i l a x hz h0 h1 hl) ?_)
      rw [w64 (by omega) (by omega)]
      exact Ev.now _
    · rw [if_neg hc]; exact ev_neg hc (Ev.now _)
def totalDed (l : List S113) (a : Int) (log : List S63) : Int × Int := if isLog log = true then (if scaleCode l a 0 = 0 then (log.foldl (fun s x => s + deductedM l a x) 0, 0) else (0, scaleCode l a 0)) else (0, 1)
theorem TotalDeduction_spec (l : List S113) (a : Int) (log : List S63) (hl : l.length ≤ 1048576) (hm : log.length ≤ 1048576) (hs : ∀ x ∈ log, smallEventI x) : Ev (fun k => spec_TotalDeduction.f k l a log) (totalDed l a log) := by
  unfold spec_TotalDeduction.f
  refine Ev.bind (isLog_s log hm hs) ?_
  unfold totalDed
  cases hlog : isLog log with
  | false => exact ev_neg (by simp) (by simpa using Ev.now _)
  | true =>
    obtain ⟨hev, h15⟩ := isLog_events hlog
    refine ev_pos rfl (Ev.bind (scaleCode_spec l a 0 (by omega)) ?_)
    rw [if_pos rfl]
    by_cases hc : scaleCode l a 0 = 0
    · have hz := (scaleCode_zero hc).1
      rw [if_pos hc]
      refine ev_pos hc ?_
      have h := ev_range log.length (fun k (s : Int) i => spec_TotalDeduction.l0 k l a log s i) (fun i s => s + deductedM l a (log.getD i z63)) (fun s => (s, (0 : Int))) (fun i s => 0 ≤ s ∧ s ≤ 1000000000 * (i : Int))
        (fun i s hi h => by
          obtain ⟨h0, h1⟩ := eventB_amount (hev _ (mem_getD log i z63 hi))
          have hb := deducted_bd l a (log.getD i z63) hz h0
          omega)
        (fun i s r hi h hr => by
          obtain ⟨h0, h1⟩ := eventB_amount (hev _ (mem_getD log i z63 hi))
          have hb := deducted_bd l a (log.getD i z63) hz h0
          refine ev_succ ?_
          simp only [spec_TotalDeduction.l0, rdEv]
          refine ev_pos (by omega) (ev_pos (by omega) (Ev.bind (net_s l a _ hz h0 h1 hl) ?_))
          rw [w64 (i := s + _) (by omega) (by omega), w64 (i := s + _ - _) (by omega) (by omega), w64s i (by omega)]
          have e : s + (log.getD i z63).f3 - ((log.getD i z63).f3 - deductedM l a (log.getD i z63)) = s + deductedM l a (log.getD i z63) := by omega
          rw [e]
          exact hr)
        (fun s _ => ev_pt fun k => by simp only [spec_TotalDeduction.l0]; rw [if_neg (by omega)])
        log.length 0 0 (by omega) (by simp)
      rw [fold_idx log z63 (fun s x => s + deductedM l a x)] at h
      exact h
    · rw [if_neg hc]; exact ev_neg hc (Ev.now _)
theorem TotalDeduction_impl (l : List S113) (a : Int) (log : List S63) (hl : l.length ≤ 1048576) (hm : log.length ≤ 1048576) (hs : ∀ x ∈ log, smallEventI x) : Ev (fun k => impl_TotalDeduction.f k l a log) (totalDed l a log) := by
  unfold impl_TotalDeduction.f
  refine Ev.bind (isLog_i log hm hs) ?_
  unfold totalDed
  cases hlog : isLog log with
  | false => exact ev_neg (by simp) (by simpa using Ev.now _)
  | true =>
    obtain ⟨hev, h15⟩ := isLog_events hlog
    refine ev_pos rfl (Ev.bind (scaleCode_impl l a 0 (by omega)) ?_)
    rw [if_pos rfl]
    by_cases hc : scaleCode l a 0 = 0
    · have hz := (scaleCode_zero hc).1
      rw [if_pos hc]
      refine ev_pos hc ?_
      have h := ev_range log.length (fun k (s : Int) i => impl_TotalDeduction.l0 k l a s log (log.length : Int) i) (fun i s => s + deductedM l a (log.getD i z63)) (fun s => (s, (0 : Int))) (fun i s => 0 ≤ s ∧ s ≤ 1000000000 * (i : Int))
        (fun i s hi h => by
          obtain ⟨h0, h1⟩ := eventB_amount (hev _ (mem_getD log i z63 hi))
          have hb := deducted_bd l a (log.getD i z63) hz h0
          omega)
        (fun i s r hi h hr => by
          obtain ⟨h0, h1⟩ := eventB_amount (hev _ (mem_getD log i z63 hi))
          have hb := deducted_bd l a (log.getD i z63) hz h0
          refine ev_succ ?_
          simp only [impl_TotalDeduction.l0, rdEv]
          refine ev_pos (by omega) (ev_pos (by omega) (ev_pos (by omega) (Ev.bind (deducted_i l a _ hz h0 h1 hl) ?_)))
          rw [w64 (i := s + _) (by omega) (by omega), w64s i (by omega)]
          exact hr)
        (fun s _ => ev_pt fun k => by simp only [impl_TotalDeduction.l0]; rw [if_neg (by omega)])
        log.length 0 0 (by omega) (by simp)
      rw [fold_idx log z63 (fun s x => s + deductedM l a x)] at h
      exact h
    · rw [if_neg hc]; exact ev_neg hc (Ev.now _)
end Go.Proofs.Ytldkcddjligbdaa.Pu
