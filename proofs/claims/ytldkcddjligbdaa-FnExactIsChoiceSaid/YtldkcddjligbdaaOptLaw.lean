/- Options: the code, the best one, what is allowed in all: the program and the reference alike. -/
import Derived.Test.YtldkcddjligbdaaFx2
import Derived.Test.YtldkcddjligbdaaFx3
import Derived.Test.YtldkcddjligbdaaFx4
import Derived.Test.YtldkcddjligbdaaFx5
import Derived.Test.YtldkcddjligbdaaFx15
import Derived.Test.YtldkcddjligbdaaTyOption
namespace Go.Proofs.Ytldkcddjligbdaa.Pu
open Go.RowKit Go.Proofs.YtldkcddjligbdaaW.PrintWords Go.Proofs.Ytldkcddjligbdaa.F
set_option linter.unusedVariables false
set_option linter.unusedSimpArgs false

theorem isAmount_spec (n : Int) : spec_IsAmount.f n = some (isAmountB n) := by
  unfold spec_IsAmount.f spec_l01In.f isAmountB
  by_cases h : n ≥ 0 <;> simp [h]
theorem isOption_spec (x : S78) : spec_IsOption.f x.f0 x.f1 = some (isOptionB x) := by
  unfold spec_IsOption.f isOptionB
  simp only [isAmount_spec, Option.bind_some]
  cases isAmountB x.f0 <;> simp
/-- The code of options. -/
def optCode (l : List S78) : Int := if l.all isOptionB = true then (if l.length > 8 then 3 else 0) else 1
theorem optCode_spec (l : List S78) (hl : l.length ≤ 8796093022208) : Ev (fun k => spec_l14Code.f k l) (optCode l) := by
  unfold spec_l14Code.f
  have h := ev_find l.length (fun k i => spec_l14Code.l0 k l i) (fun i => !isOptionB (l.getD i z78)) (fun _ => 1) (if l.length > 8 then (3 : Int) else 0)
    (fun i r hi hp hr => by
      refine Ev.step (fun k => ?_) hr
      simp only [spec_l14Code.l0, rdOp, isOption_spec, Option.bind_some]
      rw [if_pos (by omega), if_pos (by omega), if_pos (by simpa using hp), w64s i (by omega)])
    (fun i hi hp => ev_pt fun k => by
      simp only [spec_l14Code.l0, rdOp, isOption_spec, Option.bind_some]
      rw [if_pos (by omega), if_pos (by omega), if_neg (by simpa using hp)])
    (ev_pt fun k => by
      simp only [spec_l14Code.l0]
      rw [if_neg (by omega)]
      by_cases h8 : l.length > 8
      · rw [if_pos (by omega), if_pos h8]
      · rw [if_neg (by omega), if_neg h8])
    l.length 0 (by omega)
  refine ev_cast h ?_
  unfold optCode
  rcases hf : (List.range' 0 l.length).find? (fun i => !isOptionB (l.getD i z78)) with _ | j
  · have ha : l.all isOptionB = true := by
      rw [List.all_eq_true]
      intro x hx
      obtain ⟨i, hi, rfl⟩ := List.mem_iff_getElem.1 hx
      have := List.find?_eq_none.1 hf i (by simp [List.mem_range'_1]; omega)
      rw [getD_lt _ _ _ hi] at this
      simpa using this
    simp [ha]
  · have h1 := List.find?_some hf
    have h2 := List.mem_of_find?_eq_some hf
    simp [List.mem_range'_1] at h2
    have ha : ¬ l.all isOptionB = true := by
      intro ha
      have := List.all_eq_true.1 ha _ (mem_getD l j z78 (by omega))
      rw [this] at h1
      simp at h1
    simp [ha]
theorem optional_code (l : List S78) (a : Int) (ha : isAmountB a = true) : impl_optional.f l a = some (optCode l) := by
  unfold impl_optional.f optCode
  simp [ha]
theorem amount0 : isAmountB 0 = true := by decide
theorem opt_of_code (l : List S78) (h : optCode l = 0) : (∀ x ∈ l, 0 ≤ x.f0 ∧ x.f0 ≤ 1000000000 ∧ 0 ≤ x.f1 ∧ x.f1 ≤ 1000000000) ∧ l.length ≤ 8 := by
  unfold optCode at h
  by_cases ha : l.all isOptionB = true
  · rw [if_pos ha] at h
    refine ⟨fun x hx => ?_, by by_cases h8 : l.length > 8; · rw [if_pos h8] at h; omega
                               · omega⟩
    have := List.all_eq_true.1 ha x hx
    simp [isOptionB, isAmountB] at this
    omega
  · rw [if_neg ha] at h; omega

/-- The best option: its index and its gain; none yet: (-1, 0). -/
def bestStep (l : List S78) (i : Nat) (s : Int × Int) : Int × Int :=
  if (l.getD i z78).f1 - (l.getD i z78).f0 > s.2 then ((i : Int), (l.getD i z78).f1 - (l.getD i z78).f0) else s
def bestOpt (l : List S78) : Int × Int := (List.range' 0 l.length).foldl (fun s j => bestStep l j s) (-1, 0)
def bestRes (l : List S78) : Int × Int := if optCode l = 0 then (if (bestOpt l).1 < 0 then (0, 4) else ((bestOpt l).1, 0)) else (0, optCode l)
theorem best_inv (l : List S78) : ((bestOpt l).1 = -1 ∧ (bestOpt l).2 = 0) ∨ (0 ≤ (bestOpt l).1 ∧ 0 < (bestOpt l).2) := by
  have key : ∀ d i (s : Int × Int), ((s.1 = -1 ∧ s.2 = 0) ∨ (0 ≤ s.1 ∧ 0 < s.2)) → (((List.range' i d).foldl (fun s j => bestStep l j s) s).1 = -1 ∧ ((List.range' i d).foldl (fun s j => bestStep l j s) s).2 = 0) ∨ (0 ≤ ((List.range' i d).foldl (fun s j => bestStep l j s) s).1 ∧ 0 < ((List.range' i d).foldl (fun s j => bestStep l j s) s).2) := by
    intro d
    induction d with
    | zero => intro i s h; simpa using h
    | succ d ih =>
      intro i s h
      rw [List.range'_succ, List.foldl_cons]
      refine ih (i + 1) _ ?_
      unfold bestStep
      split
      · right; simp only; omega
      · exact h
  exact key l.length 0 (-1, 0) (.inl ⟨rfl, rfl⟩)
theorem BestOption_impl (l : List S78) (hl : l.length ≤ 1048576) : Ev (fun k => impl_BestOption.f k l) (bestRes l) := by
  unfold impl_BestOption.f bestRes
  refine ev_bind_eq (optional_code l 0 amount0) ?_
  by_cases hc : optCode l = 0
  · rw [if_pos hc]
    refine ev_pos hc ?_
    obtain ⟨hall, hlen⟩ := opt_of_code l hc
    have h := ev_range l.length (fun k (s : Int × Int) i => impl_BestOption.l0 k s.1 s.2 l (l.length : Int) i) (bestStep l) (fun s => if s.1 < 0 then ((0 : Int), (4 : Int)) else (s.1, 0)) (fun _ _ => True)
      (fun _ _ _ _ => trivial)
      (fun i s r hi _ hr => by
        have hb := hall _ (mem_getD l i z78 hi)
        refine Ev.step (fun k => ?_) hr
        simp only [impl_BestOption.l0, rdOp, impl_Option_gain.f, Option.bind_some]
        rw [if_pos (by omega), if_pos (by omega), if_pos (by omega), w64 (i := _ - _) (by omega) (by omega), w64s i (by omega)]
        unfold bestStep
        by_cases hg : (l.getD i z78).f1 - (l.getD i z78).f0 > s.2
        · rw [if_pos hg, if_pos hg]
        · rw [if_neg hg, if_neg hg])
      (fun s _ => ev_pt fun k => by
        simp only [impl_BestOption.l0]
        rw [if_neg (by omega)]
        by_cases h0 : s.1 < 0
        · rw [if_pos h0, if_pos h0]
        · rw [if_neg h0, if_neg h0])
      l.length 0 (-1, 0) (by omega) trivial
    exact h
  · rw [if_neg hc]; exact ev_neg hc (Ev.now _)
theorem BestOption_spec (l : List S78) (hl : l.length ≤ 1048576) : Ev (fun k => spec_BestOption.f k l) (bestRes l) := by
  unfold spec_BestOption.f bestRes
  refine Ev.bind (optCode_spec l (by omega)) ?_
  by_cases hc : optCode l = 0
  · rw [if_pos hc]
    refine ev_pos hc ?_
    obtain ⟨hall, hlen⟩ := opt_of_code l hc
    -- the reference keeps 0 where the program keeps -1
    obtain ⟨s, ⟨hs0, hs1⟩, hE⟩ := ev_inv l.length (fun k (s : Int × Int) i => spec_BestOption.l0 k l s.1 s.2 i)
      (fun i s => s.2 = ((List.range' 0 i).foldl (fun s j => bestStep l j s) (-1, 0)).2 ∧ (0 < s.2 → s.1 = ((List.range' 0 i).foldl (fun s j => bestStep l j s) (-1, 0)).1) ∧ 0 ≤ s.2)
      (fun s => if s.2 = 0 then ((0 : Int), (4 : Int)) else (s.1, 0))
      (fun i s hi ⟨hs, hs1, hs2⟩ => by
        have hb := hall _ (mem_getD l i z78 hi)
        have hr1 : List.range' 0 (i + 1) = List.range' 0 i ++ [i] := by rw [List.range'_concat]; simp
        refine ⟨if (l.getD i z78).f1 - (l.getD i z78).f0 > s.2 then ((i : Int), (l.getD i z78).f1 - (l.getD i z78).f0) else s, ?_, fun r hr => ?_⟩
        · rw [hr1, List.foldl_append, List.foldl_cons, List.foldl_nil]
          generalize (List.range' 0 i).foldl (fun s j => bestStep l j s) (-1, 0) = q at hs hs1
          unfold bestStep
          rw [← hs]
          by_cases hg : (l.getD i z78).f1 - (l.getD i z78).f0 > s.2
          · rw [if_pos hg, if_pos hg]; exact ⟨rfl, fun _ => rfl, by simp only; omega⟩
          · rw [if_neg hg, if_neg hg]; exact ⟨hs, hs1, hs2⟩
        · refine Ev.step (fun k => ?_) hr
          simp only [spec_BestOption.l0, rdOp]
          rw [if_pos (by omega), if_pos (by omega), w64 (i := _ - _) (by omega) (by omega), w64s i (by omega)]
          by_cases hg : (l.getD i z78).f1 - (l.getD i z78).f0 > s.2
          · rw [if_pos hg, if_pos hg]
          · rw [if_neg hg, if_neg hg])
      (fun s _ => ev_pt fun k => by
        simp only [spec_BestOption.l0]
        rw [if_neg (by omega)]
        by_cases h0 : s.2 = 0
        · rw [if_pos h0, if_pos h0]
        · rw [if_neg h0, if_neg h0])
      l.length 0 (0, 0) (by omega) ⟨rfl, fun h => by simp at h, by simp⟩
    refine ev_cast hE ?_
    have hi := best_inv l
    have e1 : s.2 = (bestOpt l).2 := hs0
    have e2 : 0 < s.2 → s.1 = (bestOpt l).1 := hs1.1
    by_cases h0 : s.2 = 0
    · rw [if_pos h0, if_pos (by omega)]
    · rw [if_neg h0, if_neg (by omega), e2 (by omega)]
  · rw [if_neg hc]; exact ev_neg hc (Ev.now _)

def allowedSum (l : List S78) : Int := l.foldl (fun s x => s + mn x.f0 x.f1) 0
def amountRes (n : Int) : Int × Int := if isAmountB n = true then (n, 0) else (0, 3)
def totalAllowed (l : List S78) : Int × Int := if optCode l = 0 then amountRes (allowedSum l) else (0, optCode l)
theorem mn_bd (a b : Int) (h : 0 ≤ a ∧ a ≤ 1000000000 ∧ 0 ≤ b ∧ b ≤ 1000000000) : 0 ≤ mn a b ∧ mn a b ≤ 1000000000 := by unfold mn; split <;> omega
theorem result_spec (n : Int) : (spec_l04Result.f n).bind (fun b => some (b.1, b.2)) = some (amountRes n) := by
  unfold spec_l04Result.f amountRes
  rw [isAmount_spec]
  cases isAmountB n <;> simp
theorem result_impl (n : Int) : (impl_amountOf.f n).bind (fun b => some (b.1, b.2)) = some (amountRes n) := by
  unfold impl_amountOf.f amountRes
  rw [isAmount_f]
  cases isAmountB n <;> simp
theorem TotalAllowed_impl (l : List S78) (hl : l.length ≤ 1048576) : Ev (fun k => impl_TotalAllowed.f k l) (totalAllowed l) := by
  unfold impl_TotalAllowed.f totalAllowed
  refine ev_bind_eq (optional_code l 0 amount0) ?_
  by_cases hc : optCode l = 0
  · rw [if_pos hc]
    refine ev_pos hc ?_
    obtain ⟨hall, hlen⟩ := opt_of_code l hc
    have h := ev_range l.length (fun k (s : Int) i => impl_TotalAllowed.l0 k s l (l.length : Int) i) (fun i s => s + mn (l.getD i z78).f0 (l.getD i z78).f1) amountRes (fun i s => 0 ≤ s ∧ s ≤ 1000000000 * (i : Int))
      (fun i s hi hs => by have := mn_bd _ _ (hall _ (mem_getD l i z78 hi)); omega)
      (fun i s r hi hs hr => by
        have hb := mn_bd _ _ (hall _ (mem_getD l i z78 hi))
        refine Ev.step (fun k => ?_) hr
        simp only [impl_TotalAllowed.l0, rdOp, impl_Option_allowed.f, Option.bind_some]
        rw [if_pos (by omega), if_pos (by omega), if_pos (by omega), w64 (i := _ + _) (by omega) (by omega), w64s i (by omega)])
      (fun s _ => ev_pt fun k => by
        simp only [impl_TotalAllowed.l0]
        rw [if_neg (by omega), result_impl])
      l.length 0 0 (by omega) (by omega)
    rw [fold_idx l z78 (fun s x => s + mn x.f0 x.f1)] at h
    exact h
  · rw [if_neg hc]; exact ev_neg hc (Ev.now _)
theorem TotalAllowed_spec (l : List S78) (hl : l.length ≤ 1048576) : Ev (fun k => spec_TotalAllowed.f k l) (totalAllowed l) := by
  unfold spec_TotalAllowed.f totalAllowed
  refine Ev.bind (optCode_spec l (by omega)) ?_
  by_cases hc : optCode l = 0
  · rw [if_pos hc]
    refine ev_pos hc ?_
    obtain ⟨hall, hlen⟩ := opt_of_code l hc
    have h := ev_range l.length (fun k (s : Int) i => spec_TotalAllowed.l0 k l s i) (fun i s => s + mn (l.getD i z78).f0 (l.getD i z78).f1) amountRes (fun i s => 0 ≤ s ∧ s ≤ 1000000000 * (i : Int))
      (fun i s hi hs => by have := mn_bd _ _ (hall _ (mem_getD l i z78 hi)); omega)
      (fun i s r hi hs hr => by
        have hb := mn_bd _ _ (hall _ (mem_getD l i z78 hi))
        refine Ev.step (fun k => ?_) hr
        simp only [spec_TotalAllowed.l0, rdOp]
        rw [if_pos (by omega), if_pos (by omega), w64 (i := _ + _) (by omega) (by omega), w64s i (by omega)])
      (fun s _ => ev_pt fun k => by
        simp only [spec_TotalAllowed.l0]
        rw [if_neg (by omega), result_spec])
      l.length 0 0 (by omega) (by omega)
    rw [fold_idx l z78 (fun s x => s + mn x.f0 x.f1)] at h
    exact h
  · rw [if_neg hc]; exact ev_neg hc (Ev.now _)
end Go.Proofs.Ytldkcddjligbdaa.Pu
