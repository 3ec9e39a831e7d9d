/- The laws' helpers over lists of Event, as plain functions on lists. -/
import Derived.Test.YtkjfpdjmomhbbaaFx16
import Derived.Test.YtkjfpdjmomhbbaaFx20
import Derived.Test.YtkjfpdjmomhbbaaFx22
import Derived.Test.YtkjfpdjmomhbbaaPu
namespace Go.Proofs.Ytkjfpdjmomhbbaa.Pu
open Go.RowKit Go.Proofs.YtkjfpdjmomhbbaaW.PrintWords Go.Proofs.Ytkjfpdjmomhbbaa.F
set_option linter.unusedVariables false
set_option linter.unusedSimpArgs false
def cvEvent (x : S40) : S25 := ⟨x.f0, x.f1, x.f2, x.f3, x.f4, x.f5, x.f6⟩
theorem rdEv (l : List S25) (i : Nat) : rd_T25 l (i : Int) = l.getD i z25 := by simp [rd_T25]
theorem rdLEv (l : List S40) (i : Nat) : rd_T40 l (i : Int) = l.getD i z40 := by simp [rd_T40]
def smallEvent (x : S40) : Prop := x.f2.size ≤ 1048576
def smallEventI (x : S25) : Prop := x.f2.size ≤ 1048576
def bigEvent (x : S40) : Prop := x.f2.size ≤ maxLen
theorem smallEvent_cv (x : S40) (h : smallEvent x) : smallEventI (cvEvent x) := h
theorem smallEvent_map (l : List S40) (h : ∀ x ∈ l, smallEvent x) : ∀ x ∈ l.map cvEvent, smallEventI x := by
  intro x hx
  obtain ⟨y, hy, rfl⟩ := List.mem_map.1 hx
  exact h y hy
theorem szEvent1 (x : S40) (a : Int) (h0 : 0 ≤ a) (h1 : a ≤ 1048576) (hb : bigEvent x) : ∃ r, laws_szEvent.f x.f0 x.f1 x.f2 x.f3 x.f4 x.f5 x.f6 a = some r ∧ (r < 0 ∨ (0 ≤ r ∧ r ≤ a ∧ smallEvent x)) := by
  unfold bigEvent maxLen at hb
  unfold smallEvent laws_szEvent.f
  have hb0 := hb
  have e0 : wrap64 (a - (x.f2.size : Int)) = a - (x.f2.size : Int) := w64 (by omega) (by omega)
  rw [e0]
  by_cases c0 : a - (x.f2.size : Int) < 0
  · rw [if_pos c0]; exact ⟨_, rfl, .inl (by omega)⟩
  rw [if_neg c0]
  exact ⟨_, rfl, .inr ⟨by omega, by omega, by omega⟩⟩
theorem eqEvent_refl (x : S25) : laws_eqEvent.f x.f0 x.f1 x.f2 x.f3 x.f4 x.f5 x.f6 x.f0 x.f1 x.f2 x.f3 x.f4 x.f5 x.f6 = some true := by simp [laws_eqEvent.f]
end Go.Proofs.Ytkjfpdjmomhbbaa.Pu
