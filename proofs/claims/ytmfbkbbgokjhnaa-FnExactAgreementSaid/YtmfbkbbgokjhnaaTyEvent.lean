/- The laws' helpers over lists of Event, as plain functions on lists. -/
import Derived.Test.YtmfbkbbgokjhnaaFx3
import Derived.Test.YtmfbkbbgokjhnaaFx5
import Derived.Test.YtmfbkbbgokjhnaaPu
import Derived.Test.YtmfbkbbgokjhnaaFx0
namespace Go.Proofs.Ytmfbkbbgokjhnaa.Pu
open Go.RowKit Go.Proofs.YtmfbkbbgokjhnaaW.PrintWords Go.Proofs.Ytmfbkbbgokjhnaa.F
set_option linter.unusedVariables false
set_option linter.unusedSimpArgs false
theorem rdEv (l : List S43) (i : Nat) : rd_T43 l (i : Int) = l.getD i z43 := by simp [rd_T43]
def smallEventI (x : S43) : Prop := x.f2.size ≤ 9223372036854775807
def cvEvent (x : S32) : S43 := ⟨x.f0, x.f1, x.f2, x.f3, x.f4, x.f5, x.f6⟩
theorem rdLEv (l : List S32) (i : Nat) : rd_T32 l (i : Int) = l.getD i z32 := by simp [rd_T32]
def smallEvent (x : S32) : Prop := x.f2.size ≤ 1048576
def bigEvent (x : S32) : Prop := x.f2.size ≤ maxLen
theorem smallEvent_cv (x : S32) (h : smallEvent x) : smallEventI (cvEvent x) := Nat.le_trans h (by decide)
theorem smallEvent_map (l : List S32) (h : ∀ x ∈ l, smallEvent x) : ∀ x ∈ l.map cvEvent, smallEventI x := by
  intro x hx
  obtain ⟨y, hy, rfl⟩ := List.mem_map.1 hx
  exact smallEvent_cv y (h y hy)
theorem szEvent1 (x : S32) (a : Int) (h0 : 0 ≤ a) (h1 : a ≤ 1048576) (hb : bigEvent x) : ∃ r, laws_szEvent.f x.f0 x.f1 x.f2 x.f3 x.f4 x.f5 x.f6 a = some r ∧ (r < 0 ∨ (0 ≤ r ∧ r ≤ a ∧ smallEvent x)) := by
  unfold bigEvent maxLen at hb
  unfold smallEvent laws_szEvent.f
  have hb0 := hb
  have e0 : wrap64 (a - (x.f2.size : Int)) = a - (x.f2.size : Int) := w64 (by omega) (by omega)
  rw [e0]
  by_cases c0 : a - (x.f2.size : Int) < 0
  · rw [if_pos c0]; exact ⟨_, rfl, .inl (by omega)⟩
  rw [if_neg c0]
  exact ⟨_, rfl, .inr ⟨by omega, by omega, by omega⟩⟩
theorem szEventS (l : List S32) (a : Int) (h0 : 0 ≤ a) (h1 : a ≤ 1048576) (hl : l.length ≤ maxLen) (hb : ∀ x ∈ l, bigEvent x) : ∃ r, Ev (fun k => laws_szEventS.f k l a) r ∧ (r < 0 ∨ (0 ≤ r ∧ r ≤ a ∧ l.length ≤ 1048576 ∧ ∀ x ∈ l, smallEvent x)) := by
  unfold maxLen at hl
  have e : wrap64 (a - (l.length : Int)) = a - (l.length : Int) := w64 (by omega) (by omega)
  unfold laws_szEventS.f
  rw [e]
  by_cases h : (a - (l.length : Int)) < 0
  · exact ⟨-1, by simp only [if_pos h]; exact Ev.now _, .inl (by omega)⟩
  simp only [if_neg h]
  have key : ∀ d i (s : Int), i + d = l.length → 0 ≤ s → s ≤ a - (l.length : Int) → ∃ r, Ev (fun k => laws_szEventS.l0 k l s (i : Int)) r ∧ (r < 0 ∨ (0 ≤ r ∧ r ≤ s ∧ ∀ j, i ≤ j → j < l.length → smallEvent (l.getD j z32))) := by
    intro d
    induction d with
    | zero =>
      intro i s hi hs _
      exact ⟨s, ev_pt fun k => by simp only [laws_szEventS.l0]; rw [if_neg (by omega)], .inr ⟨hs, by omega, fun j h1 h2 => by omega⟩⟩
    | succ d ih =>
      intro i s hi hs hsa
      obtain ⟨r1, hr1, hc⟩ := szEvent1 (l.getD i z32) s hs (by omega) (hb _ (mem_getD l i z32 (by omega)))
      by_cases hneg : r1 < 0
      · exact ⟨-1, ev_pt fun k => by simp only [laws_szEventS.l0, rdLEv]; rw [if_pos (by omega), if_pos (by omega), hr1, Option.bind_some, if_pos hneg], .inl (by omega)⟩
      · obtain ⟨g0, g1, g2⟩ := hc.resolve_left hneg
        obtain ⟨r, hr, hrc⟩ := ih (i + 1) r1 (by omega) g0 (by omega)
        refine ⟨r, Ev.step (fun k => ?_) hr, hrc.imp_right fun ⟨q0, q1, q2⟩ => ⟨q0, by omega, fun j h1 h2 => ?_⟩⟩
        · simp only [laws_szEventS.l0, rdLEv]
          rw [if_pos (by omega), if_pos (by omega), hr1, Option.bind_some, if_neg hneg, w64s i (by omega)]
        · by_cases e : j = i
          · subst e; exact g2
          · exact q2 j (by omega) h2
  obtain ⟨r, hr, hc⟩ := key l.length 0 (a - (l.length : Int)) (by omega) (by omega) (by omega)
  refine ⟨r, hr, hc.imp_right fun ⟨q0, q1, q2⟩ => ⟨q0, by omega, by omega, fun x hx => ?_⟩⟩
  obtain ⟨i, hi, rfl⟩ := List.mem_iff_getElem.1 hx
  have := q2 i (by omega) hi
  rwa [getD_lt _ _ _ hi] at this
theorem toEventS (l : List S32) (hl : l.length ≤ 1048576) : Ev (fun k => laws_toEventS.f k l) (l.map cvEvent) := by
  unfold laws_toEventS.f
  refine ev_pos (by omega) (ev_pos (by omega) ?_)
  obtain ⟨s, ⟨hs, hv⟩, hE⟩ := ev_inv l.length (fun k s i => laws_toEventS.l0 k l s i) (fun i s => s.length = l.length ∧ ∀ j, j < i → s.getD j z43 = cvEvent (l.getD j z32)) id
    (fun i s hi ⟨hs, hv⟩ => ⟨s.set i (cvEvent (l.getD i z32)), ⟨by simpa using hs, fun j hj => by
        rw [getD_set_eq _ _ _ _ _ (by omega)]
        by_cases h : j = i
        · subst h; rw [if_pos rfl]
        · rw [if_neg h]; exact hv j (by omega)⟩, fun r hr => by
        refine Ev.step (fun k => ?_) hr
        simp only [laws_toEventS.l0]
        rw [if_pos (by omega), if_pos (by omega)]
        simp only [laws_toEvent.f, Option.bind_some, rdLEv, Int.toNat_natCast]
        rw [if_pos (by omega), w64s i (by omega)]
        rfl⟩)
    (fun s ⟨hs, hv⟩ => ev_pt fun k => by simp only [laws_toEventS.l0]; rw [if_neg (by omega)]; rfl)
    l.length 0 (List.replicate l.length z43) (by omega) ⟨by simp, fun j hj => by omega⟩
  have e : s = l.map cvEvent := list_ext_getD _ _ z43 (by simpa using hs) (fun i hi => by rw [hv i (by omega), getD_map_lt _ _ _ z32 _ (by omega)])
  rw [← e]
  simpa using hE
theorem eqEvent_refl (x : S43) : laws_eqEvent.f x.f0 x.f1 x.f2 x.f3 x.f4 x.f5 x.f6 x.f0 x.f1 x.f2 x.f3 x.f4 x.f5 x.f6 = some true := by simp [laws_eqEvent.f]
theorem eqEventS (l : List S43) (hl : l.length ≤ 8796093022208) : Ev (fun k => laws_eqEventS.f k l l) true := by
  unfold laws_eqEventS.f
  refine ev_pos rfl ?_
  have h := ev_all l.length (fun k i => laws_eqEventS.l0 k l l i) (fun _ => true) true
    (fun i r hi _ hr => by
      refine Ev.step (fun k => ?_) hr
      simp only [laws_eqEventS.l0, rdEv, eqEvent_refl, Option.bind_some]
      rw [if_pos (by omega), if_pos (by omega), if_pos (by omega)]
      simp [w64s i (by omega)])
    (fun i hi h => by cases h)
    (ev_pt fun k => by simp only [laws_eqEventS.l0]; rw [if_neg (by omega)])
    l.length 0 (by omega)
  have e : ((List.range' 0 l.length).all fun _ => true) = true := by simp [List.all_eq_true]
  rw [e] at h
  simpa using h
end Go.Proofs.Ytmfbkbbgokjhnaa.Pu
