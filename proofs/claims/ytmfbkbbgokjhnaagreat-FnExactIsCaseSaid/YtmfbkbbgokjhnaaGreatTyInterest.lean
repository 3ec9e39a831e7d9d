/- The laws' helpers over lists of Interest, as plain functions on lists. -/
import Derived.Test.YtmfbkbbgokjhnaaGreatFx0
import Derived.Test.YtmfbkbbgokjhnaaGreatFx16
import Derived.Test.YtmfbkbbgokjhnaaGreatFx29
import Derived.Test.YtmfbkbbgokjhnaaGreatFx32
import Derived.Test.YtmfbkbbgokjhnaaGreatPu
namespace Go.Proofs.YtmfbkbbgokjhnaaGreat.Pu
open Go.RowKit Go.Proofs.YtmfbkbbgokjhnaaGreatW.PrintWords Go.Proofs.YtmfbkbbgokjhnaaGreat.F
set_option linter.unusedVariables false
set_option linter.unusedSimpArgs false
def cvInterest (x : S96) : S103 := ⟨x.f0, x.f1, x.f2, x.f3, x.f4⟩
theorem rdIn (l : List S103) (i : Nat) : rd_T103 l (i : Int) = l.getD i z103 := by simp [rd_T103]
theorem rdLIn (l : List S96) (i : Nat) : rd_T96 l (i : Int) = l.getD i z96 := by simp [rd_T96]
def smallInterest (x : S96) : Prop := x.f0.size ≤ 1048576 ∧ x.f2.size ≤ 1048576
def smallInterestI (x : S103) : Prop := x.f0.size ≤ 1048576 ∧ x.f2.size ≤ 1048576
def bigInterest (x : S96) : Prop := x.f0.size ≤ maxLen ∧ x.f2.size ≤ maxLen
theorem smallInterest_cv (x : S96) (h : smallInterest x) : smallInterestI (cvInterest x) := h
theorem smallInterest_map (l : List S96) (h : ∀ x ∈ l, smallInterest x) : ∀ x ∈ l.map cvInterest, smallInterestI x := by
  intro x hx
  obtain ⟨y, hy, rfl⟩ := List.mem_map.1 hx
  exact h y hy
theorem szInterest1 (x : S96) (a : Int) (h0 : 0 ≤ a) (h1 : a ≤ 1048576) (hb : bigInterest x) : ∃ r, laws_szInterest.f x.f0 x.f1 x.f2 x.f3 x.f4 a = some r ∧ (r < 0 ∨ (0 ≤ r ∧ r ≤ a ∧ smallInterest x)) := by
  unfold bigInterest maxLen at hb
  unfold smallInterest laws_szInterest.f
  obtain ⟨hb0, hb1⟩ := hb
  have e0 : wrap64 (a - (x.f0.size : Int)) = a - (x.f0.size : Int) := w64 (by omega) (by omega)
  rw [e0]
  by_cases c0 : a - (x.f0.size : Int) < 0
  · rw [if_pos c0]; exact ⟨_, rfl, .inl (by omega)⟩
  rw [if_neg c0]
  have e1 : wrap64 (a - (x.f0.size : Int) - (x.f2.size : Int)) = a - (x.f0.size : Int) - (x.f2.size : Int) := w64 (by omega) (by omega)
  rw [e1]
  by_cases c1 : a - (x.f0.size : Int) - (x.f2.size : Int) < 0
  · rw [if_pos c1]; exact ⟨_, rfl, .inl (by omega)⟩
  rw [if_neg c1]
  exact ⟨_, rfl, .inr ⟨by omega, by omega, ⟨by omega, by omega⟩⟩⟩
theorem szInterestS (l : List S96) (a : Int) (h0 : 0 ≤ a) (h1 : a ≤ 1048576) (hl : l.length ≤ maxLen) (hb : ∀ x ∈ l, bigInterest x) : ∃ r, Ev (fun k => laws_szInterestS.f k l a) r ∧ (r < 0 ∨ (0 ≤ r ∧ r ≤ a ∧ l.length ≤ 1048576 ∧ ∀ x ∈ l, smallInterest x)) := by
  unfold maxLen at hl
  have e : wrap64 (a - (l.length : Int)) = a - (l.length : Int) := w64 (by omega) (by omega)
  unfold laws_szInterestS.f
  rw [e]
  by_cases h : (a - (l.length : Int)) < 0
  · exact ⟨-1, by simp only [if_pos h]; exact Ev.now _, .inl (by omega)⟩
  simp only [if_neg h]
  have key : ∀ d i (s : Int), i + d = l.length → 0 ≤ s → s ≤ a - (l.length : Int) → ∃ r, Ev (fun k => laws_szInterestS.l0 k l s (i : Int)) r ∧ (r < 0 ∨ (0 ≤ r ∧ r ≤ s ∧ ∀ j, i ≤ j → j < l.length → smallInterest (l.getD j z96))) := by
    intro d
    induction d with
    | zero =>
      intro i s hi hs _
      exact ⟨s, ev_pt fun k => by simp only [laws_szInterestS.l0]; rw [if_neg (by omega)], .inr ⟨hs, by omega, fun j h1 h2 => by omega⟩⟩
    | succ d ih =>
      intro i s hi hs hsa
      obtain ⟨r1, hr1, hc⟩ := szInterest1 (l.getD i z96) s hs (by omega) (hb _ (mem_getD l i z96 (by omega)))
      by_cases hneg : r1 < 0
      · exact ⟨-1, ev_pt fun k => by simp only [laws_szInterestS.l0, rdLIn]; rw [if_pos (by omega), if_pos (by omega), hr1, Option.bind_some, if_pos hneg], .inl (by omega)⟩
      · obtain ⟨g0, g1, g2⟩ := hc.resolve_left hneg
        obtain ⟨r, hr, hrc⟩ := ih (i + 1) r1 (by omega) g0 (by omega)
        refine ⟨r, Ev.step (fun k => ?_) hr, hrc.imp_right fun ⟨q0, q1, q2⟩ => ⟨q0, by omega, fun j h1 h2 => ?_⟩⟩
        · simp only [laws_szInterestS.l0, rdLIn]
          rw [if_pos (by omega), if_pos (by omega), hr1, Option.bind_some, if_neg hneg, w64s i (by omega)]
        · by_cases e : j = i
          · subst e; exact g2
          · exact q2 j (by omega) h2
  obtain ⟨r, hr, hc⟩ := key l.length 0 (a - (l.length : Int)) (by omega) (by omega) (by omega)
  refine ⟨r, hr, hc.imp_right fun ⟨q0, q1, q2⟩ => ⟨q0, by omega, by omega, fun x hx => ?_⟩⟩
  obtain ⟨i, hi, rfl⟩ := List.mem_iff_getElem.1 hx
  have := q2 i (by omega) hi
  rwa [getD_lt _ _ _ hi] at this
theorem toInterestS (l : List S96) (hl : l.length ≤ 1048576) : Ev (fun k => laws_toInterestS.f k l) (l.map cvInterest) := by
  unfold laws_toInterestS.f
  refine ev_pos (by omega) (ev_pos (by omega) ?_)
  obtain ⟨s, ⟨hs, hv⟩, hE⟩ := ev_inv l.length (fun k s i => laws_toInterestS.l0 k l s i) (fun i s => s.length = l.length ∧ ∀ j, j < i → s.getD j z103 = cvInterest (l.getD j z96)) id
    (fun i s hi ⟨hs, hv⟩ => ⟨s.set i (cvInterest (l.getD i z96)), ⟨by simpa using hs, fun j hj => by
        rw [getD_set_eq _ _ _ _ _ (by omega)]
        by_cases h : j = i
        · subst h; rw [if_pos rfl]
        · rw [if_neg h]; exact hv j (by omega)⟩, fun r hr => by
        refine Ev.step (fun k => ?_) hr
        simp only [laws_toInterestS.l0]
        rw [if_pos (by omega), if_pos (by omega)]
        simp only [laws_toInterest.f, Option.bind_some, rdLIn, Int.toNat_natCast]
        rw [if_pos (by omega), w64s i (by omega)]
        rfl⟩)
    (fun s ⟨hs, hv⟩ => ev_pt fun k => by simp only [laws_toInterestS.l0]; rw [if_neg (by omega)]; rfl)
    l.length 0 (List.replicate l.length z103) (by omega) ⟨by simp, fun j hj => by omega⟩
  have e : s = l.map cvInterest := list_ext_getD _ _ z103 (by simpa using hs) (fun i hi => by rw [hv i (by omega), getD_map_lt _ _ _ z96 _ (by omega)])
  rw [← e]
  simpa using hE
theorem eqInterest_refl (x : S103) : laws_eqInterest.f x.f0 x.f1 x.f2 x.f3 x.f4 x.f0 x.f1 x.f2 x.f3 x.f4 = some true := by simp [laws_eqInterest.f]
theorem eqInterestS (l : List S103) (hl : l.length ≤ 8796093022208) : Ev (fun k => laws_eqInterestS.f k l l) true := by
  unfold laws_eqInterestS.f
  refine ev_pos rfl ?_
  have h := ev_all l.length (fun k i => laws_eqInterestS.l0 k l l i) (fun _ => true) true
    (fun i r hi _ hr => by
      refine Ev.step (fun k => ?_) hr
      simp only [laws_eqInterestS.l0, rdIn, eqInterest_refl, Option.bind_some]
      rw [if_pos (by omega), if_pos (by omega), if_pos (by omega)]
      simp [w64s i (by omega)])
    (fun i hi h => by cases h)
    (ev_pt fun k => by simp only [laws_eqInterestS.l0]; rw [if_neg (by omega)])
    l.length 0 (by omega)
  have e : ((List.range' 0 l.length).all fun _ => true) = true := by simp [List.all_eq_true]
  rw [e] at h
  simpa using h
end Go.Proofs.YtmfbkbbgokjhnaaGreat.Pu
