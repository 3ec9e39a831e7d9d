/- What it is to be a scale of deductions; the program and the reference both say so. -/
import Derived.Test.YtmfbkbbgokjhnaaGreatFx0
import Derived.Test.YtmfbkbbgokjhnaaGreatFx11
import Derived.Test.YtmfbkbbgokjhnaaGreatFx18
import Derived.Test.YtmfbkbbgokjhnaaGreatFx26
import Derived.Test.YtmfbkbbgokjhnaaGreatTyBand
namespace Go.Proofs.YtmfbkbbgokjhnaaGreat.Pu
open Go.RowKit Go.Proofs.YtmfbkbbgokjhnaaGreatW.PrintWords Go.Proofs.YtmfbkbbgokjhnaaGreat.F
set_option linter.unusedVariables false
set_option linter.unusedSimpArgs false

theorem in_impl (a lo hi : Int) : impl_in.f a lo hi = some (decide (lo ≤ a ∧ a ≤ hi)) := by
  unfold impl_in.f
  by_cases h : a ≥ lo <;> simp [h]
theorem in_spec (a lo hi : Int) : spec_l01In.f a lo hi = some (decide (lo ≤ a ∧ a ≤ hi)) := by
  unfold spec_l01In.f
  by_cases h : a ≥ lo <;> simp [h]
theorem age_impl (a : Int) : impl_isAge.f a = some (decide (0 ≤ a ∧ a ≤ 60)) := by simp [impl_isAge.f, in_impl]
theorem points_impl (a : Int) : impl_isPoints.f a = some (decide (0 ≤ a ∧ a ≤ 10000)) := by simp [impl_isPoints.f, in_impl]
theorem points_spec (a : Int) : spec_l04Points.f a = some (decide (0 ≤ a ∧ a ≤ 10000)) := by simp [spec_l04Points.f, in_spec]

theorem isScale_spec (l : List S109) (hl : l.length ≤ 8796093022208) : Ev (fun k => spec_IsScale.f k l) (isScale l) := ev_some fun _ => rfl
theorem isScale_impl (l : List S109) (hl : l.length ≤ 8796093022208) : Ev (fun k => impl_IsScale.f k l) (isScale l) := by
  unfold impl_IsScale.f
  have h := ev_all l.length (fun k i => impl_IsScale.l0 k l l (l.length : Int) i) (fun i => bandOK l i && decide (i = 0 → (l.getD i z109).f0 = 0)) (decide (1 ≤ l.length ∧ l.length ≤ 6))
    (fun i r hi hok hr => by
      simp only [bandOK, Bool.and_eq_true, decide_eq_true_eq] at hok
      obtain ⟨⟨⟨h0, h1⟩, h2⟩, hz⟩ := hok
      refine ev_succ (Ev.step (f := fun k => impl_IsScale.l0 k l l (l.length : Int) ((i + 1 : Nat) : Int)) (fun k => ?_) hr)
      simp only [impl_IsScale.l0, age_impl, points_impl, rdB, Option.bind_some]
      rw [if_pos (by omega), if_pos (by omega), if_pos (by omega), if_pos (by simpa using h0), if_pos (by simpa using h1)]
      have hb : (if (i : Int) = 0 then impl_IsScale.j1 (k + 1) l i l (l.length : Int) i ((l.getD i z109).f0 != 0) (l.getD i z109).f0 (l.getD i z109).f1 else impl_IsScale.j1 (k + 1) l i l (l.length : Int) i false (l.getD i z109).f0 (l.getD i z109).f1) = impl_IsScale.j1 (k + 1) l i l (l.length : Int) i false (l.getD i z109).f0 (l.getD i z109).f1 := by
        by_cases hi0 : (i : Int) = 0
        · rw [if_pos hi0, hz (by omega)]; rfl
        · rw [if_neg hi0]
      rw [hb]
      simp only [impl_IsScale.j1]
      rw [if_neg (by simp)]
      by_cases hp : 0 < i
      · obtain ⟨h3, h4⟩ := h2 hp
        rw [if_pos (by omega), w64p i hp (by omega), if_pos (by omega), if_pos (by omega)]
        simp only [rdB]
        rw [if_neg (by omega), if_neg (by omega), w64s i (by omega)]
      · rw [if_neg (by omega), w64s i (by omega)])
    (fun i hi hok => ev_succ (ev_pt fun k => by
      simp only [impl_IsScale.l0, age_impl, points_impl, rdB, Option.bind_some]
      rw [if_pos (by omega), if_pos (by omega), if_pos (by omega)]
      by_cases h0 : 0 ≤ (l.getD i z109).f0 ∧ (l.getD i z109).f0 ≤ 60
      · rw [if_pos (by simpa using h0)]
        by_cases h1 : 0 ≤ (l.getD i z109).f1 ∧ (l.getD i z109).f1 ≤ 10000
        · rw [if_pos (by simpa using h1)]
          simp only [bandOK, h0, h1, and_self, decide_true, Bool.true_and, Bool.and_eq_false_iff, decide_eq_false_iff_not] at hok
          by_cases hp : 0 < i
          · rw [if_neg (by omega)]
            simp only [impl_IsScale.j1]
            rw [if_neg (by simp), if_pos (by omega), w64p i hp (by omega), if_pos (by omega), if_pos (by omega)]
            simp only [rdB]
            by_cases h3 : (l.getD (i - 1) z109).f0 ≥ (l.getD i z109).f0
            · rw [if_pos h3]
            · rw [if_neg h3, if_pos (by
                by_cases h4 : (l.getD (i - 1) z109).f1 > (l.getD i z109).f1
                · exact h4
                · rcases hok with hok | hok
                  · exact absurd (fun _ => ⟨by omega, by omega⟩) hok
                  · exact absurd (fun h => by omega) hok)]
          · have hi0 : (i : Int) = 0 := by omega
            rw [if_pos hi0]
            have hz : ((l.getD i z109).f0 != 0) = true := by
              rcases hok with hok | hok
              · exact absurd (fun h => absurd h hp) hok
              · rw [bne_iff_ne]; intro he; exact hok (fun _ => he)
            rw [hz]
            simp only [impl_IsScale.j1, if_true]
        · rw [if_neg (by simpa using h1)]
          simp only [impl_IsScale.j1, if_true]
      · rw [if_neg (by simpa using h0)]
        simp only [impl_IsScale.j1, if_true]))
    (ev_pt fun k => by
      simp only [impl_IsScale.l0]
      rw [if_neg (by omega)]
      by_cases h : (1 : Int) ≤ l.length
      · rw [if_pos h]
        congr 1
        rw [decide_eq_decide]
        omega
      · rw [if_neg h]
        have : ¬ (1 ≤ l.length ∧ l.length ≤ 6) := by omega
        simp only [this, decide_false])
    l.length 0 (by omega)
  rw [range_all] at h
  refine ev_cast h ?_
  unfold isScale
  rw [Bool.eq_iff_iff]
  simp only [Bool.and_eq_true, decide_eq_true_eq]
  constructor
  · rintro ⟨h1, h2⟩
    exact ⟨fun i hi => (h1 i hi).1, h2.1, h2.2, (h1 0 (by omega)).2 rfl⟩
  · rintro ⟨h1, h2, h3, h4⟩
    exact ⟨fun i hi => ⟨h1 i hi, fun h0 => by subst h0; exact h4⟩, h2, h3⟩
end Go.Proofs.YtmfbkbbgokjhnaaGreat.Pu
