/- Whether a log fits a manifest: the program and the reference alike. -/
import Derived.Test.YtmfbkbbgokjhnaaGreatFx13
import Derived.Test.YtmfbkbbgokjhnaaGreatFx29
import Derived.Test.YtmfbkbbgokjhnaaGreatTyInterest
import Derived.Test.YtmfbkbbgokjhnaaGreatTyEvent
namespace Go.Proofs.YtmfbkbbgokjhnaaGreat.Pu
open Go.RowKit Go.Proofs.YtmfbkbbgokjhnaaGreatW.PrintWords Go.Proofs.YtmfbkbbgokjhnaaGreat.F
set_option linter.unusedVariables false
set_option linter.unusedSimpArgs false
theorem find06_s (l : List S103) (code : ByteArray) (hl : l.length ≤ 1048576) : Ev (fun k => spec_l06Find.f k l code) (idxP (hasIn code) l) := by
  unfold spec_l06Find.f
  have key : ∀ d i, i + d = l.length → (∀ j (hj : j < l.length), j < i → hasIn code l[j] = false) → Ev (fun k => spec_l06Find.l0 k l code (i : Int)) (idxP (hasIn code) l) := by
    intro d
    induction d with
    | zero =>
      intro i hi ha
      obtain rfl : i = l.length := by omega
      rw [idxP_miss _ _ (fun j hj => ha j hj hj)]
      exact ev_pt fun k => by simp only [spec_l06Find.l0]; rw [if_neg (by omega)]
    | succ d ih =>
      intro i hi ha
      have hlt : i < l.length := by omega
      have hx : l.getD i z103 = l[i] := getD_lt _ _ _ hlt
      cases hp : hasIn code l[i] with
      | true =>
        rw [idxP_hit _ _ i hlt hp (fun j hj => ha j (by omega) hj)]
        have hp' : (l.getD i z103).f0.toList = code.toList := by rw [hx]; simpa [hasIn] using hp
        exact ev_pt fun k => by simp only [spec_l06Find.l0, rdIn]; rw [if_pos (by omega), if_pos (by omega), if_pos hp']
      | false =>
        have hp' : ¬ (l.getD i z103).f0.toList = code.toList := by rw [hx]; simpa [hasIn] using hp
        refine (Ev.step (f := fun k => spec_l06Find.l0 k l code ((i + 1 : Nat) : Int)) (fun k => ?_) (ih (i + 1) (by omega) ?_))
        · simp only [spec_l06Find.l0, rdIn]; rw [if_pos (by omega), if_pos (by omega), if_neg hp', w64s i (by omega)]
        · intro j hj hji
          by_cases e : j = i
          · subst e; exact hp
          · exact ha j hj (by omega)
  exact key l.length 0 (by omega) (fun j _ h => absurd h (by omega))
theorem idxOf_snd (p : S103 → Bool) (l : List S103) : ((idxOf p l).2 == 0) = decide (0 ≤ idxP p l) := by
  unfold idxOf
  by_cases h : idxP p l < 0
  · rw [if_pos h]; simp; omega
  · rw [if_neg h]; simp; omega
theorem fits_i (log : List S65) (l : List S103) : impl_doesFit.f log l = some (fitsB log l) := rfl
theorem fits_s (log : List S65) (l : List S103) (hl : l.length ≤ 1048576) (hm : log.length ≤ 1048576) : Ev (fun k => spec_l08Fits.f k log l) (fitsB log l) := by
  unfold spec_l08Fits.f
  have h := ev_all log.length (fun k i => spec_l08Fits.l0 k log l i) (fun i => decide (0 ≤ idxP (hasIn (log.getD i z65).f2) l)) true (fun i r hi hp hr => ?_) (fun i hi hp => ?_) ?_ log.length 0 (by omega)
  · refine ev_cast h ?_
    rw [range_all, Bool.and_true]
    unfold fitsB
    rw [Bool.eq_iff_iff]
    simp only [decide_eq_true_eq, List.all_eq_true, idxOf_snd]
    constructor
    · intro h x hx
      obtain ⟨i, hi, rfl⟩ := List.mem_iff_getElem.1 hx
      have := h i hi
      rwa [getD_lt _ _ _ hi] at this
    · intro h i hi
      exact h _ (mem_getD _ _ _ hi)
  · rw [decide_eq_true_eq] at hp
    refine ev_succ ?_
    simp only [spec_l08Fits.l0, rdEv]
    refine ev_pos (by omega) (ev_pos (by omega) (Ev.bind (find06_s l _ hl) (ev_neg (by omega) ?_)))
    rw [w64s i (by omega)]
    exact hr
  · rw [decide_eq_false_iff_not] at hp
    refine ev_succ ?_
    simp only [spec_l08Fits.l0, rdEv]
    exact ev_pos (by omega) (ev_pos (by omega) (Ev.bind (find06_s l _ hl) (ev_pos (by omega) (Ev.now _))))
  · exact ev_pt fun k => by simp only [spec_l08Fits.l0]; rw [if_neg (by omega)]
end Go.Proofs.YtmfbkbbgokjhnaaGreat.Pu
