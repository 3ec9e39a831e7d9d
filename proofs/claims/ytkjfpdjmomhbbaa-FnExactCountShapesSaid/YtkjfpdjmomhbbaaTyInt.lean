/- The laws' helpers over lists of numbers. -/
import Derived.Test.YtkjfpdjmomhbbaaFx17
import Derived.Test.YtkjfpdjmomhbbaaFx18
import Derived.Test.YtkjfpdjmomhbbaaFx19
import Derived.Test.YtkjfpdjmomhbbaaPu
namespace Go.Proofs.Ytkjfpdjmomhbbaa.Pu
open Go.RowKit Go.Proofs.YtkjfpdjmomhbbaaW.PrintWords Go.Proofs.Ytkjfpdjmomhbbaa.F
set_option linter.unusedVariables false
set_option linter.unusedSimpArgs false
theorem rdI (l : List Int) (i : Nat) : rd l (i : Int) = l.getD i 0 := by simp [rd]
theorem eqInt64S (l : List Int) (hl : l.length ≤ 8796093022208) : Ev (fun k => laws_eqInt64S.f k l l) true := by
  unfold laws_eqInt64S.f
  refine ev_pos rfl ?_
  have h := ev_all l.length (fun k i => laws_eqInt64S.l0 k l l i) (fun _ => true) true
    (fun i r hi _ hr => by
      refine Ev.step (fun k => ?_) hr
      simp only [laws_eqInt64S.l0]
      rw [if_pos (by omega), if_pos (by omega), if_pos (by omega)]
      simp [w64s i (by omega)])
    (fun i hi h => by cases h)
    (ev_pt fun k => by simp only [laws_eqInt64S.l0]; rw [if_neg (by omega)])
    l.length 0 (by omega)
  have e : ((List.range' 0 l.length).all fun _ => true) = true := by simp [List.all_eq_true]
  rw [e] at h
  simpa using h
theorem markInt64S (l : List Int) (hl : l.length ≤ 8796093022208) : ∃ k' m, k' = 1 + (l.length : Int) ∧ m.length = l.length ∧ (∀ j, j < l.length → m.getD j 0 = 1 + (j : Int)) ∧ Ev (fun k => laws_markInt64S.f k l 1) (k', m) := by
  unfold laws_markInt64S.f
  obtain ⟨⟨s, q⟩, ⟨hs, hq, hv⟩, hE⟩ := ev_inv l.length (fun k (s : List Int × Int) i => laws_markInt64S.l0 k s.1 s.2 i) (fun i s => s.1.length = l.length ∧ s.2 = 1 + (i : Int) ∧ ∀ j, j < i → s.1.getD j 0 = 1 + (j : Int)) (fun s => (s.2, s.1))
    (fun i s hi ⟨hs, hq, hv⟩ => by
      obtain ⟨s, q⟩ := s
      simp only at hs hq hv
      subst hq
      refine ⟨(s.set i (1 + (i : Int)), 1 + ((i + 1 : Nat) : Int)), ⟨by simpa using hs, rfl, fun j hj => ?_⟩, fun r hr => ?_⟩
      · simp only
        rw [getD_set_eq _ _ _ _ _ (by omega)]
        by_cases h : j = i
        · subst h; rw [if_pos rfl]
        · rw [if_neg h]; exact hv j (by omega)
      · refine Ev.step (fun k => ?_) hr
        simp only [laws_markInt64S.l0]
        rw [if_pos (by omega), if_pos (by omega)]
        simp only [Int.toNat_natCast]
        rw [w64s i (by omega), w64 (by omega) (by omega)]
        have e : (1 + (i : Int) + 1) = 1 + ((i + 1 : Nat) : Int) := by omega
        rw [e])
    (fun s ⟨hs, hq, hv⟩ => ev_pt fun k => by simp only [laws_markInt64S.l0]; rw [if_neg (by omega)])
    l.length 0 (l, 1) (by omega) ⟨rfl, rfl, fun j hj => by omega⟩
  simp only at hs hq hv hE
  exact ⟨q, s, hq, hs, hv, by simpa using hE⟩
theorem heldInt64S (s : List Int) (n : Nat) (hn : n ≤ 8796093022208) (hs : s.length = n) (hv : ∀ j, j < n → s.getD j 0 = 1 + (j : Int)) : Ev (fun k => laws_heldInt64S.f k s 1) (1 + (n : Int)) := by
  unfold laws_heldInt64S.f
  obtain ⟨q', hq', hE'⟩ := ev_inv n (fun k (q : Int) i => laws_heldInt64S.l0 k s q i) (fun i q => q = 1 + (i : Int)) id
    (fun i q hi hq => by
      subst hq
      refine ⟨1 + ((i + 1 : Nat) : Int), rfl, fun r hr => ?_⟩
      refine Ev.step (fun k => ?_) hr
      simp only [laws_heldInt64S.l0, rdI]
      rw [hv i hi, if_pos (by omega), if_pos (by omega), if_pos rfl, w64s i (by omega), w64 (i := 1 + (i : Int) + 1) (by omega) (by omega)]
      have e : (1 + (i : Int) + 1) = 1 + ((i + 1 : Nat) : Int) := by omega
      rw [e])
    (fun q hq => ev_pt fun k => by simp only [laws_heldInt64S.l0]; rw [if_neg (by omega)]; rfl)
    n 0 1 (by omega) rfl
  rw [← hq']
  simpa using hE'
theorem markHeldInt64S (l : List Int) (hl : l.length ≤ 8796093022208) : ∃ k' m, 0 ≤ k' ∧ Ev (fun k => laws_markInt64S.f k l 1) (k', m) ∧ Ev (fun k => laws_heldInt64S.f k m 1) k' := by
  obtain ⟨k', m, hk, hm, hv, hE⟩ := markInt64S l hl
  exact ⟨k', m, by omega, hE, by rw [hk]; exact heldInt64S m l.length hl hm hv⟩
end Go.Proofs.Ytkjfpdjmomhbbaa.Pu
