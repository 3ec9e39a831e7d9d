/- The laws' helpers over lists of Option, as plain functions on lists. -/
import Derived.Test.YtldkcddjligbdaaFx2
import Derived.Test.YtldkcddjligbdaaFx3
import Derived.Test.YtldkcddjligbdaaFx5
import Derived.Test.YtldkcddjligbdaaFx6
import Derived.Test.YtldkcddjligbdaaPu
namespace Go.Proofs.Ytldkcddjligbdaa.Pu
open Go.RowKit Go.Proofs.YtldkcddjligbdaaW.PrintWords Go.Proofs.Ytldkcddjligbdaa.F
set_option linter.unusedVariables false
set_option linter.unusedSimpArgs false
def cvOption (x : S106) : S78 := ⟨x.f0, x.f1⟩
theorem rdOp (l : List S78) (i : Nat) : rd_T78 l (i : Int) = l.getD i z78 := by simp [rd_T78]
theorem rdLOp (l : List S106) (i : Nat) : rd_T106 l (i : Int) = l.getD i z106 := by simp [rd_T106]
def smallOption (x : S106) : Prop := True
def smallOptionI (x : S78) : Prop := True
def bigOption (x : S106) : Prop := True
theorem smallOption_cv (x : S106) (h : smallOption x) : smallOptionI (cvOption x) := h
theorem smallOption_map (l : List S106) (h : ∀ x ∈ l, smallOption x) : ∀ x ∈ l.map cvOption, smallOptionI x := by
  intro x hx
  obtain ⟨y, hy, rfl⟩ := List.mem_map.1 hx
  exact h y hy
theorem szOptionS (l : List S106) (a : Int) (h0 : 0 ≤ a) (h1 : a ≤ 1048576) (hl : l.length ≤ maxLen) : ∃ r, laws_szOptionS.f l a = some r ∧ (r < 0 ∨ (0 ≤ r ∧ r ≤ a ∧ l.length ≤ 1048576)) := by
  unfold maxLen at hl
  have e : wrap64 (a - (l.length : Int)) = a - (l.length : Int) := w64 (by omega) (by omega)
  unfold laws_szOptionS.f
  rw [e]
  by_cases h : (a - (l.length : Int)) < 0
  · rw [if_pos h]; exact ⟨_, rfl, .inl (by omega)⟩
  · rw [if_neg h]; exact ⟨_, rfl, .inr ⟨by omega, by omega, by omega⟩⟩
theorem toOptionS (l : List S106) (hl : l.length ≤ 1048576) : Ev (fun k => laws_toOptionS.f k l) (l.map cvOption) := by
  unfold laws_toOptionS.f
  refine ev_pos (by omega) (ev_pos (by omega) ?_)
  obtain ⟨s, ⟨hs, hv⟩, hE⟩ := ev_inv l.length (fun k s i => laws_toOptionS.l0 k l s i) (fun i s => s.length = l.length ∧ ∀ j, j < i → s.getD j z78 = cvOption (l.getD j z106)) id
    (fun i s hi ⟨hs, hv⟩ => ⟨s.set i (cvOption (l.getD i z106)), ⟨by simpa using hs, fun j hj => by
        rw [getD_set_eq _ _ _ _ _ (by omega)]
        by_cases h : j = i
        · subst h; rw [if_pos rfl]
        · rw [if_neg h]; exact hv j (by omega)⟩, fun r hr => by
        refine Ev.step (fun k => ?_) hr
        simp only [laws_toOptionS.l0]
        rw [if_pos (by omega), if_pos (by omega)]
        simp only [laws_toOption.f, Option.bind_some, rdLOp, Int.toNat_natCast]
        rw [if_pos (by omega), w64s i (by omega)]
        rfl⟩)
    (fun s ⟨hs, hv⟩ => ev_pt fun k => by simp only [laws_toOptionS.l0]; rw [if_neg (by omega)]; rfl)
    l.length 0 (List.replicate l.length z78) (by omega) ⟨by simp, fun j hj => by omega⟩
  have e : s = l.map cvOption := list_ext_getD _ _ z78 (by simpa using hs) (fun i hi => by rw [hv i (by omega), getD_map_lt _ _ _ z106 _ (by omega)])
  rw [← e]
  simpa using hE
theorem eqOption_refl (x : S78) : laws_eqOption.f x.f0 x.f1 x.f0 x.f1 = some true := by simp [laws_eqOption.f]
theorem eqOptionS (l : List S78) (hl : l.length ≤ 8796093022208) : Ev (fun k => laws_eqOptionS.f k l l) true := by
  unfold laws_eqOptionS.f
  refine ev_pos rfl ?_
  have h := ev_all l.length (fun k i => laws_eqOptionS.l0 k l l i) (fun _ => true) true
    (fun i r hi _ hr => by
      refine Ev.step (fun k => ?_) hr
      simp only [laws_eqOptionS.l0, rdOp, eqOption_refl, Option.bind_some]
      rw [if_pos (by omega), if_pos (by omega), if_pos (by omega)]
      simp [w64s i (by omega)])
    (fun i hi h => by cases h)
    (ev_pt fun k => by simp only [laws_eqOptionS.l0]; rw [if_neg (by omega)])
    l.length 0 (by omega)
  have e : ((List.range' 0 l.length).all fun _ => true) = true := by simp [List.all_eq_true]
  rw [e] at h
  simpa using h
end Go.Proofs.Ytldkcddjligbdaa.Pu
