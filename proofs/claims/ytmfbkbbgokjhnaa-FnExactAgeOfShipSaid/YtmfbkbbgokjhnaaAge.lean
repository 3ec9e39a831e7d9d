/- The age of the ship of a manifest. -/
import Derived.Test.YtmfbkbbgokjhnaaFx4
import Derived.Test.YtmfbkbbgokjhnaaFx7
import Derived.Test.YtmfbkbbgokjhnaaFx8
import Derived.Test.YtmfbkbbgokjhnaaManifest
namespace Go.Proofs.Ytmfbkbbgokjhnaa.Pu
open Go.RowKit Go.Proofs.YtmfbkbbgokjhnaaW.PrintWords Go.Proofs.Ytmfbkbbgokjhnaa.F
set_option linter.unusedVariables false
set_option linter.unusedSimpArgs false
def shipAge (l : List S84) : Int := (l.getD (idxOf isShipB l).1.toNat z84).f4
theorem ship_there (l : List S84) (h : manifestB l = true) : ∃ i, ∃ hi : i < l.length, isShipB l[i] = true := by
  unfold manifestB kindN at h
  simp only [Bool.and_eq_true, decide_eq_true_eq] at h
  have h1 := h.1.1.2.1
  have : 0 < l.countP fun x => x.f1 == 0 := by omega
  obtain ⟨x, hx, hp⟩ := List.countP_pos_iff.1 this
  obtain ⟨i, hi, rfl⟩ := List.mem_iff_getElem.1 hx
  exact ⟨i, hi, hp⟩
theorem age_i (l : List S84) (h : manifestB l = true) : impl_ageOfShip.f l = some (shipAge l) := by
  obtain ⟨i, hi, _⟩ := ship_there l h
  unfold impl_ageOfShip.f shipAge
  rw [if_pos (by omega)]
theorem age_s (l : List S84) (h : manifestB l = true) (hl : l.length ≤ 1048576) : Ev (fun k => spec_l13Age.f k l) (shipAge l) := by
  obtain ⟨i0, hi0, hp0⟩ := ship_there l h
  unfold spec_l13Age.f
  have key : ∀ d i, i + d = l.length → (∀ j (hj : j < l.length), j < i → isShipB l[j] = false) → Ev (fun k => spec_l13Age.l0 k l (i : Int)) (shipAge l) := by
    intro d
    induction d with
    | zero =>
      intro i hi ha
      have := ha i0 hi0 (by omega)
      rw [hp0] at this; cases this
    | succ d ih =>
      intro i hi ha
      have hlt : i < l.length := by omega
      have hx : l.getD i z84 = l[i] := getD_lt _ _ _ hlt
      cases hp : isShipB l[i] with
      | true =>
        have hq := idxP_hit isShipB l i hlt hp (fun j hj => ha j (by omega) hj)
        have hq2 : idxOf isShipB l = ((i : Int), 0) := by rw [idxOf_hit _ _ (by omega), hq]
        have hp' : (l.getD i z84).f1 = 0 := by rw [hx]; simpa [isShipB] using hp
        unfold shipAge
        rw [hq2]
        exact ev_pt fun k => by simp only [spec_l13Age.l0, rdIn, Int.toNat_natCast]; rw [if_pos (by omega), if_pos (by omega), if_pos hp']
      | false =>
        have hp' : ¬ (l.getD i z84).f1 = 0 := by rw [hx]; simpa [isShipB] using hp
        refine (Ev.step (f := fun k => spec_l13Age.l0 k l ((i + 1 : Nat) : Int)) (fun k => ?_) (ih (i + 1) (by omega) ?_))
        · simp only [spec_l13Age.l0, rdIn]; rw [if_pos (by omega), if_pos (by omega), if_neg hp', w64s i (by omega)]
        · intro j hj hji
          by_cases e : j = i
          · subst e; exact hp
          · exact ha j hj (by omega)
  exact key l.length 0 (by omega) (fun j _ h => absurd h (by omega))
def ageRes (l : List S84) : Int × Int := if manifestB l = true then (shipAge l, 0) else (0, 1)
theorem AgeOfShip_i (l : List S84) (hs : ∀ x ∈ l, smallInterestI x) : Ev (fun k => impl_AgeOfShip.f k l) (ageRes l) := by
  unfold impl_AgeOfShip.f ageRes
  refine Ev.bind (manifest_i l hs) ?_
  cases hm : manifestB l with
  | true =>
    refine ev_pos rfl (ev_bind_eq (age_i l hm) ?_)
    exact Ev.now _
  | false => exact ev_neg (by simp) (Ev.now _)
theorem AgeOfShip_s (l : List S84) (hs : ∀ x ∈ l, smallInterestI x) (hl : l.length ≤ 1048576) : Ev (fun k => spec_AgeOfShip.f k l) (ageRes l) := by
  unfold spec_AgeOfShip.f ageRes
  refine Ev.bind (manifest_s l hs) ?_
  cases hm : manifestB l with
  | true =>
    refine ev_pos rfl (Ev.bind (age_s l hm hl) ?_)
    exact Ev.now _
  | false => exact ev_neg (by simp) (Ev.now _)
end Go.Proofs.Ytmfbkbbgokjhnaa.Pu
