/- What an interest and a manifest are: the program and the reference alike. -/
import Derived.Test.YtmfbkbbgokjhnaaGreatFx0
import Derived.Test.YtmfbkbbgokjhnaaGreatFx4
import Derived.Test.YtmfbkbbgokjhnaaGreatFx18
import Derived.Test.YtmfbkbbgokjhnaaGreatFx21
import Derived.Test.YtmfbkbbgokjhnaaGreatParty
import Derived.Test.YtmfbkbbgokjhnaaGreatTyInterest
namespace Go.Proofs.YtmfbkbbgokjhnaaGreat.Pu
open Go.RowKit Go.Proofs.YtmfbkbbgokjhnaaGreatW.PrintWords Go.Proofs.YtmfbkbbgokjhnaaGreat.F
set_option linter.unusedVariables false
set_option linter.unusedSimpArgs false
/-- What holds of each from some round on holds of all. -/
theorem mev_each {α : Type} (l : List α) (G : Nat → α → Option Bool) (ok : α → Bool) (h : ∀ x ∈ l, Ev (fun k => G k x) (ok x)) : ∃ K, ∀ k, K ≤ k → ∀ x ∈ l, G k x = some (ok x) := by
  induction l with
  | nil => exact ⟨0, fun _ _ x hx => by cases hx⟩
  | cons y l ih =>
    obtain ⟨K, hK⟩ := ih fun x hx => h x (List.mem_cons_of_mem _ hx)
    obtain ⟨L, hL⟩ := h y (List.mem_cons_self ..)
    refine ⟨max K L, fun k hk x hx => ?_⟩
    rcases List.mem_cons.1 hx with rfl | hx
    · exact hL k (by omega)
    · exact hK k (by omega) x hx
theorem in_im (a lo hi : Int) : impl_in.f a lo hi = some (decide (lo ≤ a ∧ a ≤ hi)) := by
  unfold impl_in.f
  by_cases h : lo ≤ a <;> simp [h]
theorem in_sm (a lo hi : Int) : spec_l01In.f a lo hi = some (decide (lo ≤ a ∧ a ≤ hi)) := by
  unfold spec_l01In.f
  by_cases h : a ≥ lo <;> simp [h] <;> omega
theorem amt_im (n : Int) : impl_IsAmount.f n = some (decide (0 ≤ n ∧ n ≤ 1000000000)) := by simp [impl_IsAmount.f, in_im]
theorem amt_sm (n : Int) : spec_IsAmount.f n = some (decide (0 ≤ n ∧ n ≤ 1000000000)) := by simp [spec_IsAmount.f, in_sm]
theorem interest_i (x : S103) (hs : smallInterestI x) : Ev (fun k => impl_IsInterest.f k x.f0 x.f1 x.f2 x.f3 x.f4) (interestB x) := by
  obtain ⟨h0, h2⟩ := hs
  have tail : ∀ b : Bool, Ev (fun k => impl_IsInterest.j0 k b x.f0 x.f1 x.f2 x.f3 x.f4) (codeB x.f0 && codeB x.f2 && decide (0 ≤ x.f1 ∧ x.f1 ≤ 3) && decide (0 ≤ x.f3 ∧ x.f3 ≤ 1000000000) && b) := by
    intro b
    refine ev_succ ?_
    simp only [impl_IsInterest.j0, in_im, amt_im, Option.bind_some]
    refine Ev.bind (code_impl x.f0 h0) ?_
    cases codeB x.f0
    · exact ev_some fun _ => by simp
    refine ev_pos rfl (Ev.bind (code_impl x.f2 h2) ?_)
    cases codeB x.f2 <;> cases decide (0 ≤ x.f1 ∧ x.f1 ≤ 3) <;> cases decide (0 ≤ x.f3 ∧ x.f3 ≤ 1000000000) <;> cases b <;> exact ev_some fun _ => by simp
  unfold impl_IsInterest.f interestB
  by_cases h4 : x.f4 = 0
  · refine ev_pos h4 ?_
    rw [decide_eq_true (show x.f4 = 0 ∨ x.f1 = 0 ∧ 0 ≤ x.f4 ∧ x.f4 ≤ 60 from Or.inl h4)]
    exact tail true
  refine ev_neg h4 ?_
  by_cases h1 : x.f1 = 0
  · refine ev_pos h1 ?_
    simp only [in_im, Option.bind_some]
    rw [show decide (x.f4 = 0 ∨ x.f1 = 0 ∧ 0 ≤ x.f4 ∧ x.f4 ≤ 60) = decide (0 ≤ x.f4 ∧ x.f4 ≤ 60) by simp [h4, h1]]
    exact tail _
  · refine ev_neg h1 ?_
    rw [decide_eq_false (show ¬ (x.f4 = 0 ∨ x.f1 = 0 ∧ 0 ≤ x.f4 ∧ x.f4 ≤ 60) by omega)]
    exact tail false
theorem interest_s (x : S103) (hs : smallInterestI x) : Ev (fun k => spec_IsInterest.f k x.f0 x.f1 x.f2 x.f3 x.f4) (interestB x) := by
  obtain ⟨h0, h2⟩ := hs
  have e0 := code_spec x.f0 h0
  have e2 := code_spec x.f2 h2
  unfold spec_IsInterest.f interestB
  refine Ev.bind e0 ?_
  cases codeB x.f0
  · exact ev_neg (by simp) (ev_some fun _ => by simp)
  refine ev_pos rfl (Ev.bind e2 ?_)
  cases codeB x.f2
  · exact ev_neg (by simp) (ev_some fun _ => by simp)
  refine ev_pos rfl ?_
  refine ev_some fun k => ?_
  simp only [in_sm, amt_sm, Option.bind_some]
  by_cases a : 0 ≤ x.f1 ∧ x.f1 ≤ 3 <;> by_cases b : 0 ≤ x.f3 ∧ x.f3 ≤ 1000000000 <;> by_cases c : 0 ≤ x.f4 ∧ x.f4 ≤ 60 <;> by_cases d : x.f1 = 0 <;> by_cases e : x.f4 = 0 <;> simp [a, b, c, d, e] <;> omega
theorem manifest_i (l : List S103) (hs : ∀ x ∈ l, smallInterestI x) : Ev (fun k => impl_IsManifest.f k l) (manifestB l) := by
  obtain ⟨K, hK⟩ := mev_each l (fun k x => impl_IsInterest.f k x.f0 x.f1 x.f2 x.f3 x.f4) interestB (fun x hx => interest_i x (hs x hx))
  refine ⟨K, fun k hk => ?_⟩
  show impl_IsManifest.f k l = _
  unfold impl_IsManifest.f
  rw [if_pos]
  unfold interestsAt
  rw [List.all_eq_true]
  intro x hx
  rw [hK k hk x hx]
  simp
theorem manifest_s (l : List S103) (hs : ∀ x ∈ l, smallInterestI x) : Ev (fun k => spec_IsManifest.f k l) (manifestB l) := by
  obtain ⟨K, hK⟩ := mev_each l (fun k x => spec_IsInterest.f k x.f0 x.f1 x.f2 x.f3 x.f4) interestB (fun x hx => interest_s x (hs x hx))
  refine ⟨K, fun k hk => ?_⟩
  show spec_IsManifest.f k l = _
  unfold spec_IsManifest.f
  rw [if_pos]
  unfold interestsAtS
  rw [List.all_eq_true]
  intro x hx
  rw [hK k hk x hx]
  simp
end Go.Proofs.YtmfbkbbgokjhnaaGreat.Pu
