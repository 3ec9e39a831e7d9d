/- The laws' helpers over lists of Step, as plain functions on lists. -/
import Derived.Test.YtmfbkbbgokjhnaaGreatFx0
import Derived.Test.YtmfbkbbgokjhnaaGreatFx17
import Derived.Test.YtmfbkbbgokjhnaaGreatFx18
import Derived.Test.YtmfbkbbgokjhnaaGreatFx38
import Derived.Test.YtmfbkbbgokjhnaaGreatPu
namespace Go.Proofs.YtmfbkbbgokjhnaaGreat.Pu
open Go.RowKit Go.Proofs.YtmfbkbbgokjhnaaGreatW.PrintWords Go.Proofs.YtmfbkbbgokjhnaaGreat.F
set_option linter.unusedVariables false
set_option linter.unusedSimpArgs false
def cvStep (x : S119) : S111 := ⟨x.f0, x.f1⟩
theorem rdSt (l : List S111) (i : Nat) : rd_T111 l (i : Int) = l.getD i z111 := by simp [rd_T111]
theorem rdLSt (l : List S119) (i : Nat) : rd_T119 l (i : Int) = l.getD i z119 := by simp [rd_T119]
def smallStep (x : S119) : Prop := True
def smallStepI (x : S111) : Prop := True
def bigStep (x : S119) : Prop := True
theorem smallStep_cv (x : S119) (h : smallStep x) : smallStepI (cvStep x) := h
theorem smallStep_map (l : List S119) (h : ∀ x ∈ l, smallStep x) : ∀ x ∈ l.map cvStep, smallStepI x := by
  intro x hx
  obtain ⟨y, hy, rfl⟩ := List.mem_map.1 hx
  exact h y hy
theorem szStepS (l : List S119) (a : Int) (h0 : 0 ≤ a) (h1 : a ≤ 1048576) (hl : l.length ≤ maxLen) : ∃ r, laws_szStepS.f l a = some r ∧ (r < 0 ∨ (0 ≤ r ∧ r ≤ a ∧ l.length ≤ 1048576)) := by
  unfold maxLen at hl
  have e : wrap64 (a - (l.length : Int)) = a - (l.length : Int) := w64 (by omega) (by omega)
  unfold laws_szStepS.f
  rw [e]
  by_cases h : (a - (l.length : Int)) < 0
  · rw [if_pos h]; exact ⟨_, rfl, .inl (by omega)⟩
  · rw [if_neg h]; exact ⟨_, rfl, .inr ⟨by omega, by omega, by omega⟩⟩
theorem toStepS (l : List S119) (hl : l.length ≤ 1048576) : Ev (fun k => laws_toStepS.f k l) (l.map cvStep) := by
  unfold laws_toStepS.f
  refine ev_pos (by omega) (ev_pos (by omega) ?_)
  obtain ⟨s, ⟨hs, hv⟩, hE⟩ := ev_inv l.length (fun k s i => laws_toStepS.l0 k l s i) (fun i s => s.length = l.length ∧ ∀ j, j < i → s.getD j z111 = cvStep (l.getD j z119)) id
    (fun i s hi ⟨hs, hv⟩ => ⟨s.set i (cvStep (l.getD i z119)), ⟨by simpa using hs, fun j hj => by
        rw [getD_set_eq _ _ _ _ _ (by omega)]
        by_cases h : j = i
        · subst h; rw [if_pos rfl]
        · rw [if_neg h]; exact hv j (by omega)⟩, fun r hr => by
        refine Ev.step (fun k => ?_) hr
        simp only [laws_toStepS.l0]
        rw [if_pos (by omega), if_pos (by omega)]
        simp only [laws_toStep.f, Option.bind_some, rdLSt, Int.toNat_natCast]
        rw [if_pos (by omega), w64s i (by omega)]
        rfl⟩)
    (fun s ⟨hs, hv⟩ => ev_pt fun k => by simp only [laws_toStepS.l0]; rw [if_neg (by omega)]; rfl)
    l.length 0 (List.replicate l.length z111) (by omega) ⟨by simp, fun j hj => by omega⟩
  have e : s = l.map cvStep := list_ext_getD _ _ z111 (by simpa using hs) (fun i hi => by rw [hv i (by omega), getD_map_lt _ _ _ z119 _ (by omega)])
  rw [← e]
  simpa using hE
theorem eqStep_refl (x : S111) : laws_eqStep.f x.f0 x.f1 x.f0 x.f1 = some true := by simp [laws_eqStep.f]
theorem eqStepS (l : List S111) (hl : l.length ≤ 8796093022208) : Ev (fun k => laws_eqStepS.f k l l) true := by
  unfold laws_eqStepS.f
  refine ev_pos rfl ?_
  have h := ev_all l.length (fun k i => laws_eqStepS.l0 k l l i) (fun _ => true) true
    (fun i r hi _ hr => by
      refine Ev.step (fun k => ?_) hr
      simp only [laws_eqStepS.l0, rdSt, eqStep_refl, Option.bind_some]
      rw [if_pos (by omega), if_pos (by omega), if_pos (by omega)]
      simp [w64s i (by omega)])
    (fun i hi h => by cases h)
    (ev_pt fun k => by simp only [laws_eqStepS.l0]; rw [if_neg (by omega)])
    l.length 0 (by omega)
  have e : ((List.range' 0 l.length).all fun _ => true) = true := by simp [List.all_eq_true]
  rw [e] at h
  simpa using h
end Go.Proofs.YtmfbkbbgokjhnaaGreat.Pu
