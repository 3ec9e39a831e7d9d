/- What a schedule is: the program and the reference alike. -/
import Derived.Test.YtmfbkbbgokjhnaaGreatFx4
import Derived.Test.YtmfbkbbgokjhnaaGreatFx11
import Derived.Test.YtmfbkbbgokjhnaaGreatFx13
import Derived.Test.YtmfbkbbgokjhnaaGreatFx21
import Derived.Test.YtmfbkbbgokjhnaaGreatFx29
import Derived.Test.YtmfbkbbgokjhnaaGreatLog
import Derived.Test.YtmfbkbbgokjhnaaGreatScale
import Derived.Test.YtmfbkbbgokjhnaaGreatTyStep
import Derived.Test.YtmfbkbbgokjhnaaGreatManifest
namespace Go.Proofs.YtmfbkbbgokjhnaaGreat.Pu
open Go.RowKit Go.Proofs.YtmfbkbbgokjhnaaGreatW.PrintWords Go.Proofs.YtmfbkbbgokjhnaaGreat.F
set_option linter.unusedVariables false
set_option linter.unusedSimpArgs false
theorem sched_i (l : List S111) : Ev (fun k => impl_IsSchedule.f k l) (scheduleB l) := by
  obtain ⟨K, hK⟩ := mev_each l (fun k x => impl_isDay.f k x.f0) (fun x => decide (0 ≤ x.f0 ∧ x.f0 ≤ 36524)) (fun x hx => day_i x.f0)
  refine ⟨K, fun k hk => ?_⟩
  show impl_IsSchedule.f k l = _
  unfold impl_IsSchedule.f
  rw [if_pos]
  unfold daysAt
  rw [List.all_eq_true]
  intro x hx
  rw [hK k hk x hx]
  simp
def stepLt (l : List S111) (i : Nat) : Bool := decide (0 < i → (l.getD (i - 1) z111).f0 < (l.getD i z111).f0)
theorem cmpSt_lt (a b : S111) : cmpSt a b < 0 ↔ a.f0 < b.f0 := by
  unfold cmpSt
  by_cases h : a.f0 < b.f0
  · simp [h]
  · rw [if_neg h]
    by_cases h2 : b.f0 < a.f0 <;> simp [h2] <;> omega
theorem sched_eq (l : List S111) : ((List.range' 0 l.length).all (fun i => stepB (l.getD i z111) && stepLt l i) && decide (1 ≤ l.length ∧ l.length ≤ 12)) = scheduleB l := by
  rw [range_all]
  unfold scheduleB risingB stepLt
  rw [Bool.eq_iff_iff]
  simp only [Bool.and_eq_true, decide_eq_true_eq, List.all_eq_true]
  constructor
  · rintro ⟨h, hn⟩
    refine ⟨⟨hn, fun x hx => ?_⟩, fun j hj h1 => ?_⟩
    · obtain ⟨i, hi, rfl⟩ := List.mem_iff_getElem.1 hx
      have := (h i hi).1
      rwa [getD_lt _ _ _ hi] at this
    · rw [cmpSt_lt]
      have := (h j hj).2 (by omega)
      rwa [getD_lt _ _ _ hj, getD_lt _ _ _ (by omega)] at this
  · rintro ⟨⟨hn, h⟩, hr⟩
    refine ⟨fun i hi => ⟨h _ (mem_getD _ _ _ hi), fun h1 => ?_⟩, hn⟩
    have := (cmpSt_lt _ _).1 (hr i hi h1)
    rwa [getD_lt _ _ _ hi, getD_lt _ _ _ (by omega)]
theorem sched_s (l : List S111) (hl : l.length ≤ 1048576) : Ev (fun k => spec_IsSchedule.f k l) (scheduleB l) := by
  unfold spec_IsSchedule.f
  rw [← sched_eq]
  refine ev_all l.length (fun k i => spec_IsSchedule.l0 k l i) (fun i => stepB (l.getD i z111) && stepLt l i) (decide (1 ≤ l.length ∧ l.length ≤ 12)) (fun i r hi hp hr => ?_) (fun i hi hp => ?_) ?_ l.length 0 (by omega)
  · rw [Bool.and_eq_true] at hp
    obtain ⟨p1, p2⟩ := hp
    unfold stepB at p1
    unfold stepLt at p2
    rw [Bool.and_eq_true] at p1
    rw [decide_eq_true_eq] at p2
    refine Ev.step (fun k => ?_) hr
    simp only [spec_IsSchedule.l0, rdSt, day_s, points_spec, Option.bind_some, p1.1, p1.2]
    rw [if_pos (by omega), if_pos (by omega), if_pos True.intro, if_pos True.intro]
    by_cases h0 : 0 < i
    · rw [if_pos (by omega), w64p i h0 (by omega), if_pos (by omega), if_pos (by omega), rdSt, if_neg (by have := p2 h0; omega), w64s i (by omega)]
    · rw [if_neg (by omega), w64s i (by omega)]
  · refine ev_pt fun k => ?_
    simp only [spec_IsSchedule.l0, rdSt, day_s, points_spec, Option.bind_some]
    rw [if_pos (by omega), if_pos (by omega)]
    unfold stepB stepLt at hp
    by_cases h1 : 0 ≤ (l.getD i z111).f0 ∧ (l.getD i z111).f0 ≤ 36524
    case neg => rw [if_neg (by simpa using h1)]
    rw [if_pos (by simpa using h1)]
    by_cases h2 : 0 ≤ (l.getD i z111).f1 ∧ (l.getD i z111).f1 ≤ 10000
    case neg => rw [if_neg (by simpa using h2)]
    rw [if_pos (by simpa using h2)]
    rw [decide_eq_true h1, decide_eq_true h2, Bool.true_and, Bool.true_and, decide_eq_false_iff_not] at hp
    have h0 : 0 < i := Classical.byContradiction fun hh => hp fun h => absurd h hh
    have h3 : ¬ (l.getD (i - 1) z111).f0 < (l.getD i z111).f0 := fun h => hp fun _ => h
    rw [if_pos (by omega), w64p i h0 (by omega), if_pos (by omega), if_pos (by omega), rdSt, if_pos (by omega)]
  · refine ev_pt fun k => ?_
    simp only [spec_IsSchedule.l0, in_spec, Option.bind_some]
    rw [if_neg (by omega)]
    congr 1
    rw [decide_eq_decide]
    omega
end Go.Proofs.YtmfbkbbgokjhnaaGreat.Pu
