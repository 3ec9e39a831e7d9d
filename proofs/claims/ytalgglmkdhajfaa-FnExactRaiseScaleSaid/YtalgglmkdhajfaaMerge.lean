/- Merging bands and raising a scale: the program and the reference hand back one list. -/
import Derived.Test.YtalgglmkdhajfaaFx4
import Derived.Test.YtalgglmkdhajfaaFx5
import Derived.Test.YtalgglmkdhajfaaFx7
import Derived.Test.YtalgglmkdhajfaaScale
namespace Go.Proofs.Ytalgglmkdhajfaa.Pu
open Go.RowKit Go.Proofs.YtalgglmkdhajfaaW.PrintWords Go.Proofs.Ytalgglmkdhajfaa.F
set_option linter.unusedVariables false
set_option linter.unusedSimpArgs false

def mergeStep (l : List S46) (i : Nat) (s : List S46) : List S46 :=
  if i = 0 ∨ (l.getD i z46).f1 ≠ (l.getD (i - 1) z46).f1 then s ++ [l.getD i z46] else s
def merged (l : List S46) : List S46 := (List.range' 0 l.length).foldl (fun s j => mergeStep l j s) []
theorem mergeStep_len (l : List S46) (i : Nat) (s : List S46) (h : s.length ≤ i) : (mergeStep l i s).length ≤ i + 1 := by
  unfold mergeStep; split
  · simp; omega
  · omega
theorem merged_spec (l : List S46) (hl : l.length ≤ 1048576) : Ev (fun k => spec_MergeBands.l0 k l [] 0) (merged l, 0) :=
  ev_range l.length (fun k s i => spec_MergeBands.l0 k l s i) (mergeStep l) (fun s => (s, (0 : Int))) (fun i s => s.length ≤ i)
    (fun i s _ h => mergeStep_len l i s h)
    (fun i s r hi hs hr => by
      refine Ev.step (fun k => ?_) hr
      simp only [spec_MergeBands.l0, rdB]
      rw [if_pos (by omega)]
      by_cases h0 : (i : Int) = 0
      · rw [if_pos h0, if_pos (by omega), if_pos (by omega), w64s i (by omega)]
        unfold mergeStep
        rw [if_pos (.inl (by omega))]
      · rw [if_neg h0, if_pos (by omega), w64p i (by omega) (by omega), if_pos (by omega), if_pos (by omega)]
        simp only [rdB]
        unfold mergeStep
        by_cases h1 : (l.getD i z46).f1 = (l.getD (i - 1) z46).f1
        · rw [if_pos h1, if_neg (by rintro (h | h); · omega
                                    · exact h h1), w64s i (by omega)]
        · rw [if_neg h1, if_pos (by omega), if_pos (.inr h1), w64s i (by omega)])
    (fun s hs => ev_pt fun k => by simp only [spec_MergeBands.l0]; rw [if_neg (by omega)])
    l.length 0 [] (by omega) (by simp)
theorem merged_impl (l : List S46) (hl : l.length ≤ 1048576) : Ev (fun k => impl_MergeBands.l0 k l [] l (l.length : Int) 0) (merged l, 0) :=
  ev_range l.length (fun k s i => impl_MergeBands.l0 k l s l (l.length : Int) i) (mergeStep l) (fun s => (s, (0 : Int))) (fun i s => s.length ≤ i)
    (fun i s _ h => mergeStep_len l i s h)
    (fun i s r hi hs hr => by
      refine Ev.step (fun k => ?_) hr
      simp only [impl_MergeBands.l0, rdB]
      rw [if_pos (by omega), if_pos (by omega), if_pos (by omega)]
      by_cases h0 : (i : Int) = 0
      · rw [if_pos h0, if_pos (by omega), w64s i (by omega)]
        unfold mergeStep
        rw [if_pos (.inl (by omega))]
      · rw [if_neg h0, w64p i (by omega) (by omega), if_pos (by omega), if_pos (by omega)]
        simp only [rdB]
        unfold mergeStep
        by_cases h1 : (l.getD (i - 1) z46).f1 = (l.getD i z46).f1
        · rw [if_pos h1, if_neg (by rintro (h | h); · omega
                                    · exact h h1.symm), w64s i (by omega)]
        · rw [if_neg h1, if_pos (by omega), if_pos (.inr (Ne.symm h1)), w64s i (by omega)])
    (fun s hs => ev_pt fun k => by simp only [impl_MergeBands.l0]; rw [if_neg (by omega)])
    l.length 0 [] (by omega) (by simp)
theorem merged_len (l : List S46) : (merged l).length ≤ l.length := by
  have key : ∀ d i s, s.length ≤ i → ((List.range' i d).foldl (fun s j => mergeStep l j s) s).length ≤ i + d := by
    intro d
    induction d with
    | zero => intro i s h; simpa using h
    | succ d ih => intro i s h; rw [List.range'_succ, List.foldl_cons]; have := ih (i + 1) _ (mergeStep_len l i s h); omega
  simpa [merged] using key l.length 0 [] (by simp)
def mergeB (l : List S46) : List S46 × Int := if isScale l = true then (merged l, 0) else ([], 1)
theorem MergeBands_spec (l : List S46) (hl : l.length ≤ 1048576) : Ev (fun k => spec_MergeBands.f k l) (mergeB l) := by
  unfold spec_MergeBands.f mergeB
  refine Ev.bind (isScale_spec l (by omega)) ?_
  by_cases h : isScale l = true
  · rw [if_pos h]; exact ev_pos h (merged_spec l hl)
  · rw [if_neg h]; exact ev_neg h (Ev.now _)
theorem MergeBands_impl (l : List S46) (hl : l.length ≤ 1048576) : Ev (fun k => impl_MergeBands.f k l) (mergeB l) := by
  unfold impl_MergeBands.f mergeB
  refine Ev.bind (isScale_impl l (by omega)) ?_
  by_cases h : isScale l = true
  · rw [if_pos h]; exact ev_pos h (merged_impl l hl)
  · rw [if_neg h]; exact ev_neg h (Ev.now _)
theorem mergeB_len (l : List S46) : (mergeB l).1.length ≤ l.length := by
  unfold mergeB; split
  · exact merged_len l
  · simp

def raised (by_ : Int) (x : S46) : S46 := ⟨x.f0, mn 10000 (wrap64 (x.f1 + by_))⟩
theorem mn_comm (a b : Int) : mn a b = mn b a := by unfold mn; split <;> split <;> omega
def raiseB (l : List S46) (by_ : Int) : List S46 × Int := if isScale l = true then (if 0 ≤ by_ ∧ by_ ≤ 10000 then (l.map (raised by_), 0) else ([], 2)) else ([], 1)
theorem RaiseScale_spec (l : List S46) (a : Int) (hl : l.length ≤ 1048576) : Ev (fun k => spec_RaiseScale.f k l a) (raiseB l a) := by
  unfold spec_RaiseScale.f raiseB
  refine Ev.bind (isScale_spec l (by omega)) ?_
  by_cases h : isScale l = true
  · rw [if_pos h]
    refine ev_pos h (ev_bind_eq (points_spec a) ?_)
    by_cases ha : 0 ≤ a ∧ a ≤ 10000
    · rw [if_pos ha]
      refine ev_pos (by simpa using ha) ?_
      have hh := ev_range l.length (fun k s i => spec_RaiseScale.l0 k l a s i) (fun j s => s ++ [raised a (l.getD j z46)]) (fun s => (s, (0 : Int))) (fun i s => s.length ≤ i)
        (fun i s _ h => by simp; omega)
        (fun i s r hi hs hr => by
          refine Ev.step (fun k => ?_) hr
          simp only [spec_RaiseScale.l0, rdB]
          rw [if_pos (by omega), if_pos (by omega), if_pos (by omega), w64s i (by omega)]
          rfl)
        (fun s hs => ev_pt fun k => by simp only [spec_RaiseScale.l0]; rw [if_neg (by omega)])
        l.length 0 [] (by omega) (by simp)
      rw [fold_idx l z46 (fun s x => s ++ [raised a x]), foldl_push] at hh
      simpa using hh
    · rw [if_neg ha]; exact ev_neg (by simpa using ha) (Ev.now _)
  · rw [if_neg h]; exact ev_neg h (Ev.now _)
theorem RaiseScale_impl (l : List S46) (a : Int) (hl : l.length ≤ 1048576) : Ev (fun k => impl_RaiseScale.f k l a) (raiseB l a) := by
  unfold impl_RaiseScale.f raiseB
  refine Ev.bind (isScale_impl l (by omega)) ?_
  by_cases h : isScale l = true
  · rw [if_pos h]
    refine ev_pos h (ev_bind_eq (points_impl a) ?_)
    by_cases ha : 0 ≤ a ∧ a ≤ 10000
    · rw [if_pos ha]
      refine ev_pos (by simpa using ha) ?_
      have hh := ev_range l.length (fun k s i => impl_RaiseScale.l0 k a s l (l.length : Int) i) (fun j s => s ++ [raised a (l.getD j z46)]) (fun s => (s, (0 : Int))) (fun i s => s.length ≤ i)
        (fun i s _ h => by simp; omega)
        (fun i s r hi hs hr => by
          refine Ev.step (fun k => ?_) hr
          simp only [impl_RaiseScale.l0, rdB]
          rw [if_pos (by omega), if_pos (by omega), if_pos (by omega), if_pos (by omega), w64s i (by omega), mn_comm]
          rfl)
        (fun s hs => ev_pt fun k => by simp only [impl_RaiseScale.l0]; rw [if_neg (by omega)])
        l.length 0 [] (by omega) (by simp)
      rw [fold_idx l z46 (fun s x => s ++ [raised a x]), foldl_push] at hh
      simpa using hh
    · rw [if_neg ha]; exact ev_neg (by simpa using ha) (Ev.now _)
  · rw [if_neg h]; exact ev_neg h (Ev.now _)
theorem raiseB_len (l : List S46) (a : Int) : (raiseB l a).1.length ≤ l.length := by
  unfold raiseB; split
  · split <;> simp
  · simp
end Go.Proofs.Ytalgglmkdhajfaa.Pu
