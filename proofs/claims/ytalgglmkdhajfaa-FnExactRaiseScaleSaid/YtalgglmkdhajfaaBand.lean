/- The helpers of the laws over lists of bands, as plain functions on lists. -/
import Derived.Test.YtalgglmkdhajfaaFx1
import Derived.Test.YtalgglmkdhajfaaFx3
import Derived.Test.YtalgglmkdhajfaaFx4
import Derived.Test.YtalgglmkdhajfaaFx5
import Derived.Test.YtalgglmkdhajfaaPu
namespace Go.Proofs.Ytalgglmkdhajfaa.Pu
open Go.RowKit Go.Proofs.YtalgglmkdhajfaaW.PrintWords Go.Proofs.Ytalgglmkdhajfaa.F
set_option linter.unusedVariables false
set_option linter.unusedSimpArgs false

def cvBand (x : S48) : S46 := ⟨x.f0, x.f1⟩
theorem rdB (l : List S46) (i : Nat) : rd_T46 l (i : Int) = l.getD i z46 := by simp [rd_T46]
theorem rdLB (l : List S48) (i : Nat) : rd_T48 l (i : Int) = l.getD i z48 := by simp [rd_T48]

theorem szBandS (l : List S48) (hl : l.length ≤ maxLen) : ∃ r, laws_szBandS.f l 1048576 = some r ∧ (r < 0 ∨ l.length ≤ 1048576) := by
  unfold maxLen at hl
  have e : wrap64 (1048576 - (l.length : Int)) = 1048576 - (l.length : Int) := w64 (by omega) (by omega)
  unfold laws_szBandS.f
  rw [e]
  by_cases h : (1048576 - (l.length : Int)) < 0
  · rw [if_pos h]; exact ⟨_, rfl, .inl (by omega)⟩
  · rw [if_neg h]; exact ⟨_, rfl, .inr (by omega)⟩

theorem toBandS (l : List S48) (hl : l.length ≤ 1048576) : Ev (fun k => laws_toBandS.f k l) (l.map cvBand) := by
  unfold laws_toBandS.f
  refine ev_pos (by omega) (ev_pos (by omega) ?_)
  obtain ⟨s, ⟨hs, hv⟩, hE⟩ := ev_inv l.length (fun k s i => laws_toBandS.l0 k l s i) (fun i s => s.length = l.length ∧ ∀ j, j < i → s.getD j z46 = cvBand (l.getD j z48)) id
    (fun i s hi ⟨hs, hv⟩ => ⟨s.set i (cvBand (l.getD i z48)), ⟨by simpa using hs, fun j hj => by
        rw [getD_set_eq _ _ _ _ _ (by omega)]
        by_cases h : j = i
        · subst h; rw [if_pos rfl]
        · rw [if_neg h]; exact hv j (by omega)⟩, fun r hr => by
        refine Ev.step (fun k => ?_) hr
        simp only [laws_toBandS.l0]
        rw [if_pos (by omega), if_pos (by omega)]
        simp only [laws_toBand.f, Option.bind_some, rdLB, Int.toNat_natCast]
        rw [if_pos (by omega), w64s i (by omega)]
        rfl⟩)
    (fun s ⟨hs, hv⟩ => ev_pt fun k => by simp only [laws_toBandS.l0]; rw [if_neg (by omega)]; rfl)
    l.length 0 (List.replicate l.length z46) (by omega) ⟨by simp, fun j hj => by omega⟩
  have e : s = l.map cvBand := list_ext_getD _ _ z46 (by simpa using hs) (fun i hi => by rw [hv i (by omega), getD_map_lt _ _ _ z48 _ (by omega)])
  rw [← e]
  simpa using hE

theorem eqBandS (l : List S46) (hl : l.length ≤ 8796093022208) : Ev (fun k => laws_eqBandS.f k l l) true := by
  unfold laws_eqBandS.f
  refine ev_pos rfl ?_
  have h := ev_all l.length (fun k i => laws_eqBandS.l0 k l l i) (fun _ => true) true
    (fun i r hi _ hr => by
      refine Ev.step (fun k => ?_) hr
      simp only [laws_eqBandS.l0]
      rw [if_pos (by omega), if_pos (by omega)]
      simp [laws_eqBand.f, w64s i (by omega), hi])
    (fun i hi h => by cases h)
    (ev_pt fun k => by simp only [laws_eqBandS.l0]; rw [if_neg (by omega)])
    l.length 0 (by omega)
  have e : ((List.range' 0 l.length).all fun _ => true) = true := by simp [List.all_eq_true]
  rw [e] at h
  simpa using h

def mkBand (k : Int) : S46 := ⟨k, k + 1⟩
/-- What the marks leave, and that they are found again. -/
theorem markHeldBandS (l : List S46) (hl : l.length ≤ 8796093022208) : ∃ k' m, 0 ≤ k' ∧ Ev (fun k => laws_markBandS.f k l 1) (k', m) ∧ Ev (fun k => laws_heldBandS.f k m 1) k' := by
  unfold laws_markBandS.f laws_heldBandS.f
  obtain ⟨⟨s, q⟩, ⟨hs, hq, hv⟩, hE⟩ := ev_inv l.length (fun k (s : List S46 × Int) i => laws_markBandS.l0 k s.1 s.2 i) (fun i s => s.1.length = l.length ∧ s.2 = 1 + 2 * (i : Int) ∧ ∀ j, j < i → s.1.getD j z46 = mkBand (1 + 2 * (j : Int))) (fun s => (s.2, s.1))
    (fun i s hi ⟨hs, hq, hv⟩ => by
      obtain ⟨s, q⟩ := s
      simp only at hs hq hv
      subst hq
      refine ⟨(s.set i (mkBand (1 + 2 * (i : Int))), 1 + 2 * ((i + 1 : Nat) : Int)), ⟨by simpa using hs, rfl, fun j hj => ?_⟩, fun r hr => ?_⟩
      · simp only
        rw [getD_set_eq _ _ _ _ _ (by omega)]
        by_cases h : j = i
        · subst h; rw [if_pos rfl]
        · rw [if_neg h]; exact hv j (by omega)
      · refine Ev.step (fun k => ?_) hr
        simp only [laws_markBandS.l0]
        rw [if_pos (by omega), if_pos (by omega)]
        simp only [Option.bind_some, Int.toNat_natCast, rdB]
        rw [getD_set_eq _ _ _ _ _ (by omega), if_pos rfl, w64s i (by omega), List.set_set]
        rw [w64 (i := 1 + 2 * (i : Int) + 1) (by omega) (by omega), w64 (by omega) (by omega)]
        have e : (1 + 2 * (i : Int) + 1 + 1) = 1 + 2 * ((i + 1 : Nat) : Int) := by omega
        rw [e]
        rfl)
    (fun s ⟨hs, hq, hv⟩ => ev_pt fun k => by simp only [laws_markBandS.l0]; rw [if_neg (by omega)])
    l.length 0 (l, 1) (by omega) ⟨rfl, rfl, fun j hj => by omega⟩
  simp only at hs hq hv hE
  refine ⟨q, s, by omega, by simpa using hE, ?_⟩
  obtain ⟨q', hq', hE'⟩ := ev_inv l.length (fun k (q : Int) i => laws_heldBandS.l0 k s q i) (fun i q => q = 1 + 2 * (i : Int)) id
    (fun i q hi hq => by
      subst hq
      refine ⟨1 + 2 * ((i + 1 : Nat) : Int), rfl, fun r hr => ?_⟩
      refine Ev.step (fun k => ?_) hr
      simp only [laws_heldBandS.l0, rdB]
      rw [hv i hi, if_pos (by omega), if_pos (by omega), if_pos (show (mkBand (1 + 2 * (i : Int))).f0 = 1 + 2 * (i : Int) from rfl), if_pos (show (mkBand (1 + 2 * (i : Int))).f1 = wrap64 (1 + 2 * (i : Int) + 1) from (w64 (i := 1 + 2 * (i : Int) + 1) (by omega) (by omega)).symm), w64s i (by omega), w64 (i := 1 + 2 * (i : Int) + 1) (by omega) (by omega), w64 (by omega) (by omega)]
      have e : (1 + 2 * (i : Int) + 1 + 1) = 1 + 2 * ((i + 1 : Nat) : Int) := by omega
      rw [e])
    (fun q hq => ev_pt fun k => by simp only [laws_heldBandS.l0]; rw [if_neg (by omega)]; rfl)
    l.length 0 1 (by omega) rfl
  obtain rfl : q = q' := by omega
  simpa using hE'
end Go.Proofs.Ytalgglmkdhajfaa.Pu
