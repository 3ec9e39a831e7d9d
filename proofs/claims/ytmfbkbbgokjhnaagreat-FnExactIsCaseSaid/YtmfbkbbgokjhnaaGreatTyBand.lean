/- The laws' helpers over lists of Band, as plain functions on lists. -/
import Derived.Test.YtmfbkbbgokjhnaaGreatFx0
import Derived.Test.YtmfbkbbgokjhnaaGreatFx17
import Derived.Test.YtmfbkbbgokjhnaaGreatFx32
import Derived.Test.YtmfbkbbgokjhnaaGreatFx38
import Derived.Test.YtmfbkbbgokjhnaaGreatPu
namespace Go.Proofs.YtmfbkbbgokjhnaaGreat.Pu
open Go.RowKit Go.Proofs.YtmfbkbbgokjhnaaGreatW.PrintWords Go.Proofs.YtmfbkbbgokjhnaaGreat.F
set_option linter.unusedVariables false
set_option linter.unusedSimpArgs false
def cvBand (x : S117) : S109 := ⟨x.f0, x.f1⟩
theorem rdB (l : List S109) (i : Nat) : rd_T109 l (i : Int) = l.getD i z109 := by simp [rd_T109]
theorem rdLB (l : List S117) (i : Nat) : rd_T117 l (i : Int) = l.getD i z117 := by simp [rd_T117]
def smallBand (x : S117) : Prop := True
def smallBandI (x : S109) : Prop := True
def bigBand (x : S117) : Prop := True
theorem smallBand_cv (x : S117) (h : smallBand x) : smallBandI (cvBand x) := h
theorem smallBand_map (l : List S117) (h : ∀ x ∈ l, smallBand x) : ∀ x ∈ l.map cvBand, smallBandI x := by
  intro x hx
  obtain ⟨y, hy, rfl⟩ := List.mem_map.1 hx
  exact h y hy
theorem szBandS (l : List S117) (a : Int) (h0 : 0 ≤ a) (h1 : a ≤ 1048576) (hl : l.length ≤ maxLen) : ∃ r, laws_szBandS.f l a = some r ∧ (r < 0 ∨ (0 ≤ r ∧ r ≤ a ∧ l.length ≤ 1048576)) := by
  unfold maxLen at hl
  have e : wrap64 (a - (l.length : Int)) = a - (l.length : Int) := w64 (by omega) (by omega)
  unfold laws_szBandS.f
  rw [e]
  by_cases h : (a - (l.length : Int)) < 0
  · rw [if_pos h]; exact ⟨_, rfl, .inl (by omega)⟩
  · rw [if_neg h]; exact ⟨_, rfl, .inr ⟨by omega, by omega, by omega⟩⟩
theorem toBandS (l : List S117) (hl : l.length ≤ 1048576) : Ev (fun k => laws_toBandS.f k l) (l.map cvBand) := by
  unfold laws_toBandS.f
  refine ev_pos (by omega) (ev_pos (by omega) ?_)
  obtain ⟨s, ⟨hs, hv⟩, hE⟩ := ev_inv l.length (fun k s i => laws_toBandS.l0 k l s i) (fun i s => s.length = l.length ∧ ∀ j, j < i → s.getD j z109 = cvBand (l.getD j z117)) id
    (fun i s hi ⟨hs, hv⟩ => ⟨s.set i (cvBand (l.getD i z117)), ⟨by simpa using hs, fun j hj => by
        rw [getD_set_eq _ _ _ _ _ (by omega)]
        by_cases h : j = i
        · subst h; rw [if_pos rfl]
        · rw [if_neg h]; exact hv j (by omega)⟩, fun r hr => by
        refine Ev.step (fun k => ?_) hr
        simp only [laws_toBandS.l0]
        rw [if_pos (by omega), if_pos (by omega)]
        simp only [laws_toBand.f, Option.bind_some, rdLB, Int.toNat_natCast]
        rw [if_pos (by omega), w64s i (by omega)]
        rfl⟩)
    (fun s ⟨hs, hv⟩ => ev_pt fun k => by simp only [laws_toBandS.l0]; rw [if_neg (by omega)]; rfl)
    l.length 0 (List.replicate l.length z109) (by omega) ⟨by simp, fun j hj => by omega⟩
  have e : s = l.map cvBand := list_ext_getD _ _ z109 (by simpa using hs) (fun i hi => by rw [hv i (by omega), getD_map_lt _ _ _ z117 _ (by omega)])
  rw [← e]
  simpa using hE
theorem eqBand_refl (x : S109) : laws_eqBand.f x.f0 x.f1 x.f0 x.f1 = some true := by simp [laws_eqBand.f]
theorem eqBandS (l : List S109) (hl : l.length ≤ 8796093022208) : Ev (fun k => laws_eqBandS.f k l l) true := by
  unfold laws_eqBandS.f
  refine ev_pos rfl ?_
  have h := ev_all l.length (fun k i => laws_eqBandS.l0 k l l i) (fun _ => true) true
    (fun i r hi _ hr => by
      refine Ev.step (fun k => ?_) hr
      simp only [laws_eqBandS.l0, rdB, eqBand_refl, Option.bind_some]
      rw [if_pos (by omega), if_pos (by omega), if_pos (by omega)]
      simp [w64s i (by omega)])
    (fun i hi h => by cases h)
    (ev_pt fun k => by simp only [laws_eqBandS.l0]; rw [if_neg (by omega)])
    l.length 0 (by omega)
  have e : ((List.range' 0 l.length).all fun _ => true) = true := by simp [List.all_eq_true]
  rw [e] at h
  simpa using h
end Go.Proofs.YtmfbkbbgokjhnaaGreat.Pu
