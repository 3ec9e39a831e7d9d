/- Codes of parties: the program and the reference alike. -/
import Derived.Test.YtmfbkbbgokjhnaaFx5
import Derived.Test.YtmfbkbbgokjhnaaFx16
import Derived.Test.YtmfbkbbgokjhnaaPu
namespace Go.Proofs.Ytmfbkbbgokjhnaa.Pu
open Go.RowKit Go.Proofs.YtmfbkbbgokjhnaaW.PrintWords Go.Proofs.Ytmfbkbbgokjhnaa.F
set_option linter.unusedVariables false
set_option linter.unusedSimpArgs false
theorem code_spec (s : ByteArray) (hs : s.size ≤ 9223372036854775807) : Ev (fun k => spec_IsPartyCode.f k s) (codeB s) := by
  unfold spec_IsPartyCode.f
  have h := ev_all s.size (fun k i => spec_IsPartyCode.l0 k s i) (fun i => decide (97 ≤ bt s (i : Int) ∧ bt s (i : Int) ≤ 122)) (decide (1 ≤ s.size ∧ s.size ≤ 6))
    (fun i r hi hok hr => by
      simp only [decide_eq_true_eq] at hok
      refine Ev.step (fun k => ?_) hr
      simp only [spec_IsPartyCode.l0]
      rw [if_pos (by omega), if_pos (by omega), if_neg (by omega), if_neg (by omega), w64s i (by omega)])
    (fun i hi hok => ev_pt fun k => by
      simp only [decide_eq_false_iff_not] at hok
      simp only [spec_IsPartyCode.l0]
      rw [if_pos (by omega), if_pos (by omega)]
      by_cases h1 : bt s (i : Int) < 97
      · rw [if_pos h1]
      · rw [if_neg h1, if_pos (by omega)])
    (ev_pt fun k => by
      simp only [spec_IsPartyCode.l0, spec_l01In.f]
      rw [if_neg (by omega)]
      by_cases h1 : (s.size : Int) ≥ 1
      · rw [if_pos h1, Option.bind_some]
        congr 1
        rw [decide_eq_decide]; omega
      · rw [if_neg h1, Option.bind_some]
        have : ¬ (1 ≤ s.size ∧ s.size ≤ 6) := by omega
        simp only [this, decide_false])
    s.size 0 (by omega)
  rw [range_all] at h
  refine ev_cast h ?_
  unfold codeB
  simp only [decide_eq_true_eq]
theorem code_impl (s : ByteArray) (hs : s.size ≤ 9223372036854775807) : Ev (fun k => impl_IsPartyCode.f k s) (codeB s) := by
  unfold impl_IsPartyCode.f impl_spelled.f
  refine Ev.bind (a := codeB s) ?_ (Ev.now _)
  have h := ev_all s.size (fun k i => impl_spelled.l0 k s 1 6 97 122 (s.size : Int) i) (fun i => decide (97 ≤ bt s (i : Int) ∧ bt s (i : Int) ≤ 122)) (decide (1 ≤ s.size ∧ s.size ≤ 6))
    (fun i r hi hok hr => by
      simp only [decide_eq_true_eq] at hok
      refine Ev.step (fun k => ?_) hr
      simp only [impl_spelled.l0]
      rw [if_pos (by omega), if_pos (by omega), if_pos (by omega), if_neg (by omega), if_neg (by omega), w64s i (by omega)])
    (fun i hi hok => ev_pt fun k => by
      simp only [decide_eq_false_iff_not] at hok
      simp only [impl_spelled.l0]
      rw [if_pos (by omega), if_pos (by omega), if_pos (by omega)]
      by_cases h1 : bt s (i : Int) < 97
      · rw [if_pos h1]
      · rw [if_neg h1, if_pos (by omega)])
    (ev_pt fun k => by
      simp only [impl_spelled.l0]
      rw [if_neg (by omega)]
      by_cases h1 : (s.size : Int) ≥ 1
      · rw [if_pos h1]
        congr 1
        rw [decide_eq_decide]; omega
      · rw [if_neg h1]
        have : ¬ (1 ≤ s.size ∧ s.size ≤ 6) := by omega
        simp only [this, decide_false])
    s.size 0 (by omega)
  rw [range_all] at h
  refine ev_cast h ?_
  unfold codeB
  simp only [decide_eq_true_eq]
end Go.Proofs.Ytmfbkbbgokjhnaa.Pu
