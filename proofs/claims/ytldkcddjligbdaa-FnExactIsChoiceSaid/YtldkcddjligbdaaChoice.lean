/- Choices, their costs and gains: the program and the reference alike. -/
import Derived.Test.YtldkcddjligbdaaFx24
import Derived.Test.YtldkcddjligbdaaFx25
import Derived.Test.YtldkcddjligbdaaFx26
import Derived.Test.YtldkcddjligbdaaFx27
import Derived.Test.YtldkcddjligbdaaFx28
import Derived.Test.YtldkcddjligbdaaFx31
import Derived.Test.YtldkcddjligbdaaOptLaw
import Derived.Test.YtldkcddjligbdaaTyInt
namespace Go.Proofs.Ytldkcddjligbdaa.Pu
open Go.RowKit Go.Proofs.YtldkcddjligbdaaW.PrintWords Go.Proofs.Ytldkcddjligbdaa.F
set_option linter.unusedVariables false
set_option linter.unusedSimpArgs false

theorem choice_same (n : Nat) (l : List Int) : isChoiceB n l = risesB (n : Int) l := by
  have hc : ∀ a b : Int, cmpI a b < 0 ↔ a < b := fun a b => by
    unfold cmpI
    by_cases h1 : a < b
    · simp [h1]
    · by_cases h2 : a > b <;> simp [h1, h2]
  unfold isChoiceB risesB risingB
  rw [Bool.eq_iff_iff]
  simp only [Bool.and_eq_true, List.all_eq_true, decide_eq_true_eq]
  constructor
  · rintro ⟨h1, h2⟩ j hj
    exact ⟨h1 _ (List.getElem_mem hj), fun hj1 => (hc _ _).1 (h2 j hj hj1)⟩
  · intro h
    refine ⟨fun x hx => ?_, fun j hj h1 => (hc _ _).2 ((h j hj).2 h1)⟩
    obtain ⟨i, hi, rfl⟩ := List.mem_iff_getElem.1 hx
    exact (h i hi).1
theorem rises_range {n : Int} {l : List Int} (h : risesB n l = true) : ∀ i, i < l.length → 0 ≤ l.getD i 0 ∧ l.getD i 0 < n := by
  intro i hi
  have := of_decide_eq_true h i hi
  rw [getD_lt _ _ _ hi]
  omega
def sumStep (l : List S78) (c : List Int) (j : Nat) (s : Int × Int) : Int × Int :=
  (s.1 + (l.getD (c.getD j 0).toNat z78).f0, s.2 + ((l.getD (c.getD j 0).toNat z78).f1 - (l.getD (c.getD j 0).toNat z78).f0))
def sumsM (l : List S78) (c : List Int) : Int × Int := (List.range' 0 c.length).foldl (fun s j => sumStep l c j s) (0, 0)
theorem rdOpZ (l : List S78) (k : Int) : rd_T78 l k = l.getD k.toNat z78 := rfl
theorem elem_bd {l : List S78} (hall : ∀ x ∈ l, 0 ≤ x.f0 ∧ x.f0 ≤ 1000000000 ∧ 0 ≤ x.f1 ∧ x.f1 ≤ 1000000000) {k : Int} (h0 : 0 ≤ k) (h1 : k < l.length) : 0 ≤ (l.getD k.toNat z78).f0 ∧ (l.getD k.toNat z78).f0 ≤ 1000000000 ∧ 0 ≤ (l.getD k.toNat z78).f1 ∧ (l.getD k.toNat z78).f1 ≤ 1000000000 :=
  hall _ (mem_getD l k.toNat z78 (by omega))
theorem sums_impl (l : List S78) (c : List Int) (hall : ∀ x ∈ l, 0 ≤ x.f0 ∧ x.f0 ≤ 1000000000 ∧ 0 ≤ x.f1 ∧ x.f1 ≤ 1000000000) (hc : risesB (l.length : Int) c = true) (hlen : c.length ≤ 1048576) : Ev (fun k => impl_totals.f k l c) (sumsM l c) := by
  unfold impl_totals.f
  have hr := rises_range hc
  have h := ev_range c.length (fun k (s : Int × Int) i => impl_totals.l0 k l s.1 s.2 c (c.length : Int) i) (sumStep l c) id (fun i s => 0 ≤ s.1 ∧ s.1 ≤ 1000000000 * (i : Int) ∧ -(1000000000 * (i : Int)) ≤ s.2 ∧ s.2 ≤ 1000000000 * (i : Int))
    (fun i s hi hs => by have := elem_bd hall (hr i hi).1 (hr i hi).2; unfold sumStep; simp only; omega)
    (fun i s r hi hs hr' => by
      obtain ⟨h0, h1⟩ := hr i hi
      have hb := elem_bd hall h0 h1
      refine Ev.step (fun k => ?_) hr'
      simp only [impl_totals.l0, rdI, impl_Option_gain.f, Option.bind_some, rdOpZ]
      rw [if_pos (by omega), if_pos (by omega), if_pos (by omega), if_pos (by omega), if_pos (by omega), w64 (i := _ - _) (by omega) (by omega), w64 (i := s.1 + _) (by omega) (by omega), w64 (i := s.2 + _) (by omega) (by omega), w64s i (by omega)]
      rfl)
    (fun s _ => ev_pt fun k => by simp only [impl_totals.l0]; rw [if_neg (by omega)]; rfl)
    c.length 0 (0, 0) (by omega) (by simp)
  exact h
theorem sums_spec (l : List S78) (c : List Int) (hall : ∀ x ∈ l, 0 ≤ x.f0 ∧ x.f0 ≤ 1000000000 ∧ 0 ≤ x.f1 ∧ x.f1 ≤ 1000000000) (hc : risesB (l.length : Int) c = true) (hlen : c.length ≤ 1048576) : Ev (fun k => spec_l14Sums.f k l c) (sumsM l c) := by
  unfold spec_l14Sums.f
  have hr := rises_range hc
  have h := ev_range c.length (fun k (s : Int × Int) i => spec_l14Sums.l0 k l c s.1 s.2 i) (sumStep l c) id (fun i s => 0 ≤ s.1 ∧ s.1 ≤ 1000000000 * (i : Int) ∧ -(1000000000 * (i : Int)) ≤ s.2 ∧ s.2 ≤ 1000000000 * (i : Int))
    (fun i s hi hs => by have := elem_bd hall (hr i hi).1 (hr i hi).2; unfold sumStep; simp only; omega)
    (fun i s r hi hs hr' => by
      obtain ⟨h0, h1⟩ := hr i hi
      have hb := elem_bd hall h0 h1
      refine Ev.step (fun k => ?_) hr'
      simp only [spec_l14Sums.l0, rdI, rdOpZ]
      rw [if_pos (by omega), if_pos (by omega), if_pos (by omega), if_pos (by omega), w64 (i := s.1 + _) (by omega) (by omega), w64 (i := s.2 + _) (by omega) (by omega), w64 (i := s.2 + _ - _) (by omega) (by omega), w64s i (by omega)]
      unfold sumStep
      rw [Int.add_sub_assoc])
    (fun s _ => ev_pt fun k => by simp only [spec_l14Sums.l0]; rw [if_neg (by omega)]; rfl)
    c.length 0 (0, 0) (by omega) (by simp)
  exact h
theorem rises_f (l : List S78) (c : List Int) (hl : l.length ≤ 1048576) : spec_l14Choice.f l c = some (risesB (l.length : Int) c) := by
  unfold spec_l14Choice.f spec_l01Rises.f
  rw [if_pos ⟨by omega, by omega⟩]
  rfl
theorem isChoice_f (l : List S78) (c : List Int) : impl_isChoice.f l c = some (risesB (l.length : Int) c) := by
  unfold impl_isChoice.f
  rw [choice_same]
def gainRes (l : List S78) (c : List Int) : Int × Int := if optCode l = 0 then (if risesB (l.length : Int) c = true then ((sumsM l c).2, 0) else (0, 2)) else (0, optCode l)
theorem GainOf_impl (l : List S78) (c : List Int) (hl : l.length ≤ 1048576) (hlen : c.length ≤ 1048576) : Ev (fun k => impl_GainOf.f k l c) (gainRes l c) := by
  unfold impl_GainOf.f gainRes
  refine ev_bind_eq (optional_code l 0 amount0) ?_
  by_cases hc : optCode l = 0
  · rw [if_pos hc]
    obtain ⟨hall, _⟩ := opt_of_code l hc
    refine ev_pos hc (ev_bind_eq (isChoice_f l c) ?_)
    by_cases hr : risesB (l.length : Int) c = true
    · rw [if_pos hr]; exact ev_pos hr (Ev.bind (sums_impl l c hall hr hlen) (Ev.now _))
    · rw [if_neg hr]; exact ev_neg hr (Ev.now _)
  · rw [if_neg hc]; exact ev_neg hc (Ev.now _)
theorem GainOf_spec (l : List S78) (c : List Int) (hl : l.length ≤ 1048576) (hlen : c.length ≤ 1048576) : Ev (fun k => spec_GainOf.f k l c) (gainRes l c) := by
  unfold spec_GainOf.f gainRes
  refine Ev.bind (optCode_spec l (by omega)) ?_
  by_cases hc : optCode l = 0
  · rw [if_pos hc]
    obtain ⟨hall, _⟩ := opt_of_code l hc
    refine ev_pos hc (ev_bind_eq (rises_f l c hl) (ev_succ ?_))
    simp only [spec_GainOf.j0]
    by_cases hr : risesB (l.length : Int) c = true
    · rw [if_pos hr]
      refine ev_neg (by simp [hr]) (ev_pos hc (Ev.bind (sums_spec l c hall hr hlen) (Ev.now _)))
    · rw [if_neg hr]
      exact ev_pos (by simpa using hr) (ev_neg (by omega) (Ev.now _))
  · rw [if_neg hc]
    refine ev_neg hc (ev_succ ?_)
    simp only [spec_GainOf.j0]
    exact ev_neg (by simp) (ev_neg hc (Ev.now _))
def choiceCode (l : List S78) (a : Int) : Int := if optCode l = 0 then (if isAmountB a = true then 0 else 2) else optCode l
theorem choiceCode_impl (l : List S78) (a : Int) : impl_optional.f l a = some (choiceCode l a) := by
  unfold impl_optional.f choiceCode optCode
  by_cases h1 : l.all isOptionB = true
  · rw [if_pos h1, if_pos h1]
    by_cases h2 : l.length > 8
    · rw [if_pos h2, if_pos h2]; rfl
    · rw [if_neg h2, if_neg h2]; rfl
  · rw [if_neg h1, if_neg h1]; rfl
def isChoiceRes (l : List S78) (c : List Int) (a : Int) : Bool × Int := if choiceCode l a = 0 then (if risesB (l.length : Int) c = true then (decide ((sumsM l c).1 ≤ a), 0) else (false, 0)) else (false, choiceCode l a)
theorem IsChoice_impl (l : List S78) (c : List Int) (a : Int) (hl : l.length ≤ 1048576) (hlen : c.length ≤ 1048576) : Ev (fun k => impl_IsChoice.f k l c a) (isChoiceRes l c a) := by
  unfold impl_IsChoice.f isChoiceRes
  refine ev_bind_eq (choiceCode_impl l a) ?_
  by_cases hc : choiceCode l a = 0
  · rw [if_pos hc]
    have hc0 : optCode l = 0 := by
      unfold choiceCode at hc
      by_cases h : optCode l = 0
      · exact h
      · rw [if_neg h] at hc; exact hc
    obtain ⟨hall, _⟩ := opt_of_code l hc0
    refine ev_pos hc (ev_bind_eq (isChoice_f l c) ?_)
    by_cases hr : risesB (l.length : Int) c = true
    · rw [if_pos hr]; exact ev_pos hr (Ev.bind (sums_impl l c hall hr hlen) (Ev.now _))
    · rw [if_neg hr]; exact ev_neg hr (Ev.now _)
  · rw [if_neg hc]; exact ev_neg hc (Ev.now _)
theorem IsChoice_j1 (l : List S78) (c : List Int) (a q : Int) (hl : l.length ≤ 1048576) (hlen : c.length ≤ 1048576) (h0 : q = 0 → optCode l = 0) : Ev (fun k => spec_IsChoice.j1 k l c a q) (if q = 0 then (if risesB (l.length : Int) c = true then (decide ((sumsM l c).1 ≤ a), 0) else (false, 0)) else (false, q)) := by
  refine ev_succ ?_
  simp only [spec_IsChoice.j1]
  by_cases hc : q = 0
  · obtain ⟨hall, _⟩ := opt_of_code l (h0 hc)
    rw [if_pos hc]
    refine ev_pos hc (ev_bind_eq (rises_f l c hl) ?_)
    by_cases hr : risesB (l.length : Int) c = true
    · rw [if_pos hr]; exact ev_pos hr (Ev.bind (sums_spec l c hall hr hlen) (Ev.now _))
    · rw [if_neg hr]; exact ev_neg hr (Ev.now _)
  · rw [if_neg hc]; exact ev_neg hc (Ev.now _)
theorem IsChoice_spec (l : List S78) (c : List Int) (a : Int) (hl : l.length ≤ 1048576) (hlen : c.length ≤ 1048576) : Ev (fun k => spec_IsChoice.f k l c a) (isChoiceRes l c a) := by
  unfold spec_IsChoice.f isChoiceRes
  refine Ev.bind (optCode_spec l (by omega)) ?_
  by_cases hc : optCode l = 0
  · refine ev_pos hc (ev_bind_eq (isAmount_spec a) (ev_succ ?_))
    simp only [spec_IsChoice.j0]
    cases ha : isAmountB a with
    | true =>
      have e : choiceCode l a = optCode l := by unfold choiceCode; rw [if_pos hc, if_pos ha, hc]
      rw [e]
      exact ev_neg (by simp) (IsChoice_j1 l c a _ hl hlen (fun h => h))
    | false =>
      have e : choiceCode l a = 2 := by unfold choiceCode; rw [if_pos hc, ha, if_neg (by simp)]
      rw [e]
      exact ev_pos rfl (IsChoice_j1 l c a 2 hl hlen (fun h => by omega))
  · refine ev_neg hc (ev_succ ?_)
    simp only [spec_IsChoice.j0]
    have e : choiceCode l a = optCode l := by unfold choiceCode; rw [if_neg hc]
    rw [e]
    exact ev_neg (by simp) (IsChoice_j1 l c a _ hl hlen (fun h => h))
end Go.Proofs.Ytldkcddjligbdaa.Pu
