/- Rulebooks: finding a clause by its code. -/
import Derived.Test.YtmfbkbbgokjhnaaFx8
import Derived.Test.YtmfbkbbgokjhnaaFx18
import Derived.Test.YtmfbkbbgokjhnaaTyClause
import Derived.Test.YtmfbkbbgokjhnaaTyEvent
namespace Go.Proofs.Ytmfbkbbgokjhnaa.Pu
open Go.RowKit Go.Proofs.YtmfbkbbgokjhnaaW.PrintWords Go.Proofs.Ytmfbkbbgokjhnaa.F
set_option linter.unusedVariables false
set_option linter.unusedSimpArgs false
abbrev Cl := S94
abbrev Evt := S43
/-- A list's clause, the zero clause past its end. -/
abbrev at0 (l : List Cl) (i : Nat) : Cl := l.getD i z94

theorem find_s (l : List Cl) (code : ByteArray) (hl : l.length ≤ 1048576) : Ev (fun k => spec_l09Find.f k l code) (idxP (hasCode code) l) := by
  unfold spec_l09Find.f
  have key : ∀ d i, i + d = l.length → (∀ j (hj : j < l.length), j < i → hasCode code l[j] = false) → Ev (fun k => spec_l09Find.l0 k l code (i : Int)) (idxP (hasCode code) l) := by
    intro d
    induction d with
    | zero =>
      intro i hi ha
      obtain rfl : i = l.length := by omega
      rw [idxP_miss _ _ (fun j hj => ha j hj hj)]
      exact ev_pt fun k => by simp only [spec_l09Find.l0]; rw [if_neg (by omega)]
    | succ d ih =>
      intro i hi ha
      have hlt : i < l.length := by omega
      have hx : at0 l i = l[i] := getD_lt _ _ _ hlt
      cases hp : hasCode code l[i] with
      | true =>
        rw [idxP_hit _ _ i hlt hp (fun j hj => ha j (by omega) hj)]
        have hp' : (at0 l i).f0.toList = code.toList := by rw [hx]; simpa [hasCode] using hp
        exact ev_pt fun k => by simp only [spec_l09Find.l0, rdCl]; rw [if_pos (by omega), if_pos (by omega), if_pos hp']
      | false =>
        have hp' : ¬ (at0 l i).f0.toList = code.toList := by rw [hx]; simpa [hasCode] using hp
        refine (Ev.step (f := fun k => spec_l09Find.l0 k l code ((i + 1 : Nat) : Int)) (fun k => ?_) (ih (i + 1) (by omega) ?_))
        · simp only [spec_l09Find.l0, rdCl]; rw [if_pos (by omega), if_pos (by omega), if_neg hp', w64s i (by omega)]
        · intro j hj hji
          by_cases e : j = i
          · subst e; exact hp
          · exact ha j hj (by omega)
  exact key l.length 0 (by omega) (fun j _ h => absurd h (by omega))
end Go.Proofs.Ytmfbkbbgokjhnaa.Pu
