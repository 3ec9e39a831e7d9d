/- Lists of strings: the laws' helpers, and what a text's mark is. -/
import Derived.Test.YtmfbkbbgokjhnaaFx19
import Derived.Test.YtmfbkbbgokjhnaaPu
namespace Go.Proofs.Ytmfbkbbgokjhnaa.Pu
open Go.RowKit Go.Proofs.YtmfbkbbgokjhnaaW.PrintWords Go.Proofs.Ytmfbkbbgokjhnaa.F
set_option linter.unusedVariables false
set_option linter.unusedSimpArgs false
theorem rdS (l : List ByteArray) (i : Nat) : rdOf ByteArray.empty l (i : Int) = l.getD i ByteArray.empty := by simp [rdOf]
/-- The same texts, byte by byte. -/
def sameStrs (a b : List ByteArray) : Bool := decide (a.map (·.toList) = b.map (·.toList))
theorem sameStrs_at (a b : List ByteArray) (h : a.length = b.length) : (List.range' 0 a.length).all (fun i => decide ((a.getD i ByteArray.empty).toList = (b.getD i ByteArray.empty).toList)) = sameStrs a b := by
  rw [range_all]
  unfold sameStrs
  rw [decide_eq_decide]
  constructor
  · intro H
    refine list_ext_getD _ _ [] (by simpa using h) fun i hi => ?_
    rw [List.length_map] at hi
    rw [getD_map_lt _ _ _ ByteArray.empty _ hi, getD_map_lt _ _ _ ByteArray.empty _ (by omega)]
    simpa using H i hi
  · intro H i hi
    have := congrArg (fun l => l.getD i []) H
    simp only at this
    rw [getD_map_lt _ _ _ ByteArray.empty _ hi, getD_map_lt _ _ _ ByteArray.empty _ (by omega)] at this
    simpa using this
theorem sameStrs_len (a b : List ByteArray) (h : ¬ a.length = b.length) : sameStrs a b = false := by
  unfold sameStrs
  rw [decide_eq_false_iff_not]
  intro H
  exact h (by simpa using congrArg List.length H)
theorem equalStr (a b : List ByteArray) (hl : a.length ≤ 8796093022208) : Ev (fun k => slices_Equal_string_string.f k a b) (sameStrs a b) := by
  unfold slices_Equal_string_string.f
  by_cases h : a.length = b.length
  case neg =>
    rw [sameStrs_len a b h]
    exact ev_neg (by omega) (Ev.now _)
  refine ev_pos (by omega) ?_
  have key := ev_all a.length (fun k i => slices_Equal_string_string.l0 k a b (a.length : Int) i) (fun i => decide ((a.getD i ByteArray.empty).toList = (b.getD i ByteArray.empty).toList)) true
    (fun i r hi hp hr => ?_) (fun i hi hp => ?_) ?_ a.length 0 (by omega)
  · rw [sameStrs_at a b h, Bool.and_true] at key
    exact key
  · refine Ev.step (f := fun k => slices_Equal_string_string.l0 k a b (a.length : Int) ((i + 1 : Nat) : Int)) (fun k => ?_) hr
    simp only [slices_Equal_string_string.l0, rdS]
    rw [if_pos (by omega), if_pos (by omega), if_pos (by omega), if_pos (by omega), if_pos (of_decide_eq_true hp), w64s i (by omega)]
  · exact ev_pt fun k => by
      simp only [slices_Equal_string_string.l0, rdS]
      rw [if_pos (by omega), if_pos (by omega), if_pos (by omega), if_pos (by omega), if_neg (of_decide_eq_false hp)]
  · exact ev_pt fun k => by simp only [slices_Equal_string_string.l0]; rw [if_neg (by omega)]
end Go.Proofs.Ytmfbkbbgokjhnaa.Pu
