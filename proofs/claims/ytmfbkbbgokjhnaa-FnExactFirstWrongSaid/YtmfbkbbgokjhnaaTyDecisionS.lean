/- The laws' helpers over lists of Decisions. -/
import Derived.Test.YtmfbkbbgokjhnaaFx5
import Derived.Test.YtmfbkbbgokjhnaaFx15
import Derived.Test.YtmfbkbbgokjhnaaFx27
import Derived.Test.YtmfbkbbgokjhnaaTyDecision
namespace Go.Proofs.Ytmfbkbbgokjhnaa.Pu
open Go.RowKit Go.Proofs.YtmfbkbbgokjhnaaW.PrintWords Go.Proofs.Ytmfbkbbgokjhnaa.F
set_option linter.unusedVariables false
set_option linter.unusedSimpArgs false
def cvDec (x : S35) : S45 := ⟨x.f0, x.f1⟩
def bigDec (x : S35) : Prop := x.f1.length ≤ maxLen ∧ ∀ y ∈ x.f1, y.size ≤ maxLen
theorem rdDc (l : List S45) (i : Nat) : rd_T45 l (i : Int) = l.getD i z45 := by simp [rd_T45]
theorem rdLDc (l : List S35) (i : Nat) : rd_T35 l (i : Int) = l.getD i z35 := by simp [rd_T35]
theorem szDecisionS (l : List S35) (a : Int) (h0 : 0 ≤ a) (h1 : a ≤ 1048576) (hl : l.length ≤ maxLen) (hb : ∀ x ∈ l, bigDec x) : ∃ r, Ev (fun k => laws_szDecisionS.f k l a) r ∧ (r < 0 ∨ (0 ≤ r ∧ r ≤ a ∧ l.length ≤ 1048576 ∧ ∀ x ∈ l, x.f1.length ≤ 1048576)) := by
  unfold maxLen at hl
  have e : wrap64 (a - (l.length : Int)) = a - (l.length : Int) := w64 (by omega) (by omega)
  unfold laws_szDecisionS.f
  rw [e]
  by_cases h : (a - (l.length : Int)) < 0
  · exact ⟨-1, by simp only [if_pos h]; exact Ev.now _, .inl (by omega)⟩
  simp only [if_neg h]
  have key : ∀ d i (s : Int), i + d = l.length → 0 ≤ s → s ≤ a - (l.length : Int) → ∃ r, Ev (fun k => laws_szDecisionS.l0 k l s (i : Int)) r ∧ (r < 0 ∨ (0 ≤ r ∧ r ≤ s ∧ ∀ j, i ≤ j → j < l.length → (l.getD j z35).f1.length ≤ 1048576)) := by
    intro d
    induction d with
    | zero =>
      intro i s hi hs _
      exact ⟨s, ev_pt fun k => by simp only [laws_szDecisionS.l0]; rw [if_neg (by omega)], .inr ⟨hs, by omega, fun j h1 h2 => by omega⟩⟩
    | succ d ih =>
      intro i s hi hs hsa
      have hx := hb _ (mem_getD l i z35 (by omega))
      obtain ⟨r1, hr1, hc⟩ := szDecision1 (l.getD i z35).f0 (l.getD i z35).f1 s hs (by omega) hx.1 hx.2
      by_cases hneg : r1 < 0
      · refine ⟨-1, ev_succ ?_, .inl (by omega)⟩
        simp only [laws_szDecisionS.l0, rdLDc]
        exact ev_pos (by omega) (ev_pos (by omega) (Ev.bind hr1 (ev_pos hneg (Ev.now _))))
      · obtain ⟨g0, g1, g2⟩ := hc.resolve_left hneg
        obtain ⟨r, hr, hrc⟩ := ih (i + 1) r1 (by omega) g0 (by omega)
        refine ⟨r, ev_succ ?_, hrc.imp_right fun ⟨q0, q1, q2⟩ => ⟨q0, by omega, fun j h1 h2 => ?_⟩⟩
        · simp only [laws_szDecisionS.l0, rdLDc]
          refine ev_pos (by omega) (ev_pos (by omega) (Ev.bind hr1 (ev_neg hneg ?_)))
          rw [w64s i (by omega)]
          exact hr
        · by_cases e : j = i
          · subst e; exact g2
          · exact q2 j (by omega) h2
  obtain ⟨r, hr, hc⟩ := key l.length 0 (a - (l.length : Int)) (by omega) (by omega) (by omega)
  refine ⟨r, hr, hc.imp_right fun ⟨q0, q1, q2⟩ => ⟨q0, by omega, by omega, fun x hx => ?_⟩⟩
  obtain ⟨i, hi, rfl⟩ := List.mem_iff_getElem.1 hx
  have := q2 i (by omega) hi
  rwa [getD_lt _ _ _ hi] at this
theorem toDecisionS (l : List S35) (hl : l.length ≤ 1048576) (hs : ∀ x ∈ l, x.f1.length ≤ 1048576) : Ev (fun k => laws_toDecisionS.f k l) (l.map cvDec) := by
  unfold laws_toDecisionS.f
  refine ev_pos (by omega) (ev_pos (by omega) ?_)
  obtain ⟨s, ⟨hs', hv⟩, hE⟩ := ev_inv l.length (fun k s i => laws_toDecisionS.l0 k l s i) (fun i s => s.length = l.length ∧ ∀ j, j < i → s.getD j z45 = cvDec (l.getD j z35)) id
    (fun i s hi ⟨hs', hv⟩ => ⟨s.set i (cvDec (l.getD i z35)), ⟨by simpa using hs', fun j hj => by
        rw [getD_set_eq _ _ _ _ _ (by omega)]
        by_cases h : j = i
        · subst h; rw [if_pos rfl]
        · rw [if_neg h]; exact hv j (by omega)⟩, fun r hr => by
        refine ev_succ ?_
        simp only [laws_toDecisionS.l0, rdLDc]
        refine ev_pos (by omega) (ev_pos (by omega) (Ev.bind (toDecision1 _ _ (hs _ (mem_getD l i z35 hi))) (ev_pos (by omega) ?_)))
        rw [w64s i (by omega), Int.toNat_natCast]
        exact hr⟩)
    (fun s ⟨hs', hv⟩ => ev_pt fun k => by simp only [laws_toDecisionS.l0]; rw [if_neg (by omega)]; rfl)
    l.length 0 (List.replicate l.length z45) (by omega) ⟨by simp, fun j hj => by omega⟩
  have e : s = l.map cvDec := list_ext_getD _ _ z45 (by simpa using hs') (fun i hi => by rw [hv i (by omega), getD_map_lt _ _ _ z35 _ (by omega)])
  rw [← e]
  simpa using hE
theorem eqDecisionS (l : List S45) (hl : l.length ≤ 8796093022208) (hs : ∀ x ∈ l, x.f1.length ≤ 1048576) : Ev (fun k => laws_eqDecisionS.f k l l) true := by
  unfold laws_eqDecisionS.f
  refine ev_pos rfl ?_
  have h := ev_all l.length (fun k i => laws_eqDecisionS.l0 k l l i) (fun _ => true) true
    (fun i r hi _ hr => by
      refine ev_succ ?_
      simp only [laws_eqDecisionS.l0, rdDc]
      refine ev_pos (by omega) (ev_pos (by omega) (ev_pos (by omega) (Ev.bind (eqDecision1 _ _ (hs _ (mem_getD l i z45 hi))) (ev_pos rfl ?_))))
      rw [w64s i (by omega)]
      exact hr)
    (fun i hi h => by cases h)
    (ev_pt fun k => by simp only [laws_eqDecisionS.l0]; rw [if_neg (by omega)])
    l.length 0 (by omega)
  have e : ((List.range' 0 l.length).all fun _ => true) = true := by simp [List.all_eq_true]
  rw [e] at h
  simpa using h
end Go.Proofs.Ytmfbkbbgokjhnaa.Pu
