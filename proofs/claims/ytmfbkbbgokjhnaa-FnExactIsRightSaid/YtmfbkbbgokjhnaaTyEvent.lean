/- The laws' helpers over lists of Event, as plain functions on lists. -/
import Derived.Test.YtmfbkbbgokjhnaaFx0
import Derived.Test.YtmfbkbbgokjhnaaFx9
import Derived.Test.YtmfbkbbgokjhnaaFx22
import Derived.Test.YtmfbkbbgokjhnaaPu
namespace Go.Proofs.Ytmfbkbbgokjhnaa.Pu
open Go.RowKit Go.Proofs.YtmfbkbbgokjhnaaW.PrintWords Go.Proofs.Ytmfbkbbgokjhnaa.F
set_option linter.unusedVariables false
set_option linter.unusedSimpArgs false
def cvEvent (x : S32) : S43 := ⟨x.f0, x.f1, x.f2, x.f3, x.f4, x.f5, x.f6⟩
theorem rdEv (l : List S43) (i : Nat) : rd_T43 l (i : Int) = l.getD i z43 := by simp [rd_T43]
theorem rdLEv (l : List S32) (i : Nat) : rd_T32 l (i : Int) = l.getD i z32 := by simp [rd_T32]
def smallEvent (x : S32) : Prop := x.f2.size ≤ 1048576
def smallEventI (x : S43) : Prop := x.f2.size ≤ 1048576
def bigEvent (x : S32) : Prop := x.f2.size ≤ maxLen
theorem smallEvent_cv (x : S32) (h : smallEvent x) : smallEventI (cvEvent x) := h
theorem smallEvent_map (l : List S32) (h : ∀ x ∈ l, smallEvent x) : ∀ x ∈ l.map cvEvent, smallEventI x := by
  intro x hx
  obtain ⟨y, hy, rfl⟩ := List.mem_map.1 hx
  exact h y hy
theorem szEvent1 (x : S32) (a : Int) (h0 : 0 ≤ a) (h1 : a ≤ 1048576) (hb : bigEvent x) : ∃ r, laws_szEvent.f x.f0 x.f1 x.f2 x.f3 x.f4 x.f5 x.f6 a = some r ∧ (r < 0 ∨ (0 ≤ r ∧ r ≤ a ∧ smallEvent x)) := by
  unfold bigEvent maxLen at hb
  unfold smallEvent laws_szEvent.f
  have hb0 := hb
  have e0 : wrap64 (a - (x.f2.size : Int)) = a - (x.f2.size : Int) := w64 (by omega) (by omega)
  rw [e0]
  by_cases c0 : a - (x.f2.size : Int) < 0
  · rw [if_pos c0]; exact ⟨_, rfl, .inl (by omega)⟩
  rw [if_neg c0]
  exact ⟨_, rfl, .inr ⟨by omega, by omega, by omega⟩⟩
theorem toEventS (l : List S32) (hl : l.length ≤ 1048576) : Ev (fun k => laws_toEventS.f k l) (l.map cvEvent) := by
  unfold laws_toEventS.f
  refine ev_pos (by omega) (ev_pos (by omega) ?_)
  obtain ⟨s, ⟨hs, hv⟩, hE⟩ := ev_inv l.length (fun k s i => laws_toEventS.l0 k l s i) (fun i s => s.length = l.length ∧ ∀ j, j < i → s.getD j z43 = cvEvent (l.getD j z32)) id
    (fun i s hi ⟨hs, hv⟩ => ⟨s.set i (cvEvent (l.getD i z32)), ⟨by simpa using hs, fun j hj => by
        rw [getD_set_eq _ _ _ _ _ (by omega)]
        by_cases h : j = i
        · subst h; rw [if_pos rfl]
        · rw [if_neg h]; exact hv j (by omega)⟩, fun r hr => by
        refine Ev.step (fun k => ?_) hr
        simp only [laws_toEventS.l0]
        rw [if_pos (by omega), if_pos (by omega)]
        simp only [laws_toEvent.f, Option.bind_some, rdLEv, Int.toNat_natCast]
        rw [if_pos (by omega), w64s i (by omega)]
        rfl⟩)
    (fun s ⟨hs, hv⟩ => ev_pt fun k => by simp only [laws_toEventS.l0]; rw [if_neg (by omega)]; rfl)
    l.length 0 (List.replicate l.length z43) (by omega) ⟨by simp, fun j hj => by omega⟩
  have e : s = l.map cvEvent := list_ext_getD _ _ z43 (by simpa using hs) (fun i hi => by rw [hv i (by omega), getD_map_lt _ _ _ z32 _ (by omega)])
  rw [← e]
  simpa using hE
end Go.Proofs.Ytmfbkbbgokjhnaa.Pu
