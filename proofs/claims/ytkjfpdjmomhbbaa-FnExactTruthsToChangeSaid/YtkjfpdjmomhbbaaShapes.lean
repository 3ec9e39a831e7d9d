/- The plain events, and the laws' functions over them: the program and the reference alike. -/
import Derived.Test.YtkjfpdjmomhbbaaFx6
import Derived.Test.YtkjfpdjmomhbbaaFx8
import Derived.Test.YtkjfpdjmomhbbaaFx13
import Derived.Test.YtkjfpdjmomhbbaaFx14
import Derived.Test.YtkjfpdjmomhbbaaFx15
import Derived.Test.YtkjfpdjmomhbbaaFx9
import Derived.Test.YtkjfpdjmomhbbaaFx16
import Derived.Test.YtkjfpdjmomhbbaaFx21
import Derived.Test.YtkjfpdjmomhbbaaFx23
import Derived.Test.YtkjfpdjmomhbbaaFx24
import Derived.Test.YtkjfpdjmomhbbaaRulebook
namespace Go.Proofs.Ytkjfpdjmomhbbaa.Pu
open Go.RowKit Go.Proofs.YtkjfpdjmomhbbaaW.PrintWords Go.Proofs.Ytkjfpdjmomhbbaa.F
set_option linter.unusedVariables false
set_option linter.unusedSimpArgs false
/-- The i-th plain event, and all of them. -/
def pe (i : Nat) : Evt := ⟨0, ((i / 8 : Nat) : Int), (⟨#[]⟩ : ByteArray), 0, decide (i % 8 / 4 = 1), decide (i % 8 / 2 % 2 = 1), decide (i % 8 % 2 = 1)⟩
def plain : List Evt := (List.range 56).map pe
theorem plain_len : plain.length = 56 := by simp [plain]
theorem plain_get (i : Nat) (h : i < 56) : plain.getD i z25 = pe i := by simp [plain, List.getD_eq_getElem?_getD, h]
theorem bits_and (j : Nat) (h : j < 8) : (Go.bits .and .i64 (j : Int) 4 != 0) = decide (j / 4 = 1) ∧ (Go.bits .and .i64 (j : Int) 2 != 0) = decide (j / 2 % 2 = 1) ∧ (Go.bits .and .i64 (j : Int) 1 != 0) = decide (j % 2 = 1) := by
  rcases (by omega : j = 0 ∨ j = 1 ∨ j = 2 ∨ j = 3 ∨ j = 4 ∨ j = 5 ∨ j = 6 ∨ j = 7) with rfl | rfl | rfl | rfl | rfl | rfl | rfl | rfl <;> decide +kernel
theorem bits_div (j : Nat) (h : j < 8) : (wrap64 (Int.tdiv (j : Int) 4) == 1) = decide (j / 4 = 1) ∧ (Int.tmod (wrap64 (Int.tdiv (j : Int) 2)) 2 == 1) = decide (j / 2 % 2 = 1) ∧ (Int.tmod (j : Int) 2 == 1) = decide (j % 2 = 1) := by
  rcases (by omega : j = 0 ∨ j = 1 ∨ j = 2 ∨ j = 3 ∨ j = 4 ∨ j = 5 ∨ j = 6 ∨ j = 7) with rfl | rfl | rfl | rfl | rfl | rfl | rfl | rfl <;> decide +kernel
theorem pe_at (kd j : Nat) (h : j < 8) : pe (8 * kd + j) = ⟨0, (kd : Int), (⟨#[]⟩ : ByteArray), 0, decide (j / 4 = 1), decide (j / 2 % 2 = 1), decide (j % 2 = 1)⟩ := by
  unfold pe
  rw [show (8 * kd + j) / 8 = kd by omega, show (8 * kd + j) % 8 = j by omega]
theorem plain_i : Ev (fun k => impl_plainEvents.f k) plain := by
  unfold impl_plainEvents.f
  have key : ∀ (d kd j : Nat), 8 * kd + j + d = 56 → j < 8 → kd ≤ 6 → Ev (fun k => impl_plainEvents.l1 k ((List.range (8 * kd + j)).map pe) (kd : Int) (j : Int)) plain := by
    intro d
    induction d with
    | zero => intro kd j h1 h2 h3; omega
    | succ d ih =>
      intro kd j h1 h2 h3
      obtain ⟨b1, b2, b3⟩ := bits_and j h2
      have push : ((List.range (8 * kd + j)).map pe) ++ [(⟨0, (kd : Int), (⟨#[]⟩ : ByteArray), 0, (Go.bits .and .i64 (j : Int) 4) != 0, (Go.bits .and .i64 (j : Int) 2) != 0, (Go.bits .and .i64 (j : Int) 1) != 0⟩ : Evt)] = (List.range (8 * kd + j + 1)).map pe := by
        rw [List.range_succ, List.map_append, b1, b2, b3, List.map_singleton, pe_at kd j h2]
      by_cases hj : j + 1 < 8
      · refine Ev.step (f := fun k => impl_plainEvents.l1 k ((List.range (8 * kd + (j + 1))).map pe) (kd : Int) ((j + 1 : Nat) : Int)) (fun k => ?_) (ih kd (j + 1) (by omega) hj h3)
        simp only [impl_plainEvents.l1]
        rw [if_pos (by omega), if_pos (by simp; omega), push, w64s j (by omega)]
        rfl
      · obtain rfl : j = 7 := by omega
        by_cases hk : kd = 6
        · subst hk
          refine ⟨3, fun k hk => ?_⟩
          obtain ⟨m, rfl⟩ : ∃ m, k = m + 3 := ⟨k - 3, by omega⟩
          simp only [impl_plainEvents.l1]
          rw [if_pos (by omega), if_pos (by simp), push, w64s 7 (by omega), if_neg (by omega), w64s 6 (by omega)]
          simp only [impl_plainEvents.l0]
          rw [if_neg (by omega)]
          rfl
        · refine ev_succ (ev_succ (Ev.step (f := fun k => impl_plainEvents.l1 k ((List.range (8 * (kd + 1) + 0)).map pe) ((kd + 1 : Nat) : Int) ((0 : Nat) : Int)) (fun k => ?_) (ih (kd + 1) 0 (by omega) (by omega) (by omega))))
          simp only [impl_plainEvents.l1]
          rw [if_pos (by omega), if_pos (by simp; omega), push, w64s 7 (by omega), if_neg (by omega), w64s kd (by omega)]
          simp only [impl_plainEvents.l0]
          rw [if_pos (by omega)]
          rw [show 8 * kd + 7 + 1 = 8 * (kd + 1) + 0 by omega]
          rfl
  refine Ev.step (f := fun k => impl_plainEvents.l1 k ((List.range (8 * 0 + 0)).map pe) ((0 : Nat) : Int) ((0 : Nat) : Int)) (fun k => ?_) (key 56 0 0 (by omega) (by omega) (by omega))
  simp only [impl_plainEvents.l0]
  rw [if_pos (by omega)]
  rfl
/-- The code of a rulebook and a result that is asked for. -/
def askCode (l : List Cl) (r : Int) : Int := if rulebookB l = true then (if 0 ≤ r ∧ r ≤ 2 then 0 else 2) else 1
theorem askCode_s (l : List Cl) (r : Int) (hs : ∀ x ∈ l, smallClauseI x) (hl : l.length ≤ 1048576) : Ev (fun k => spec_l12Code.f k l r) (askCode l r) := by
  unfold spec_l12Code.f askCode
  refine Ev.bind (rulebook_s l hs hl) ?_
  simp only [in_s, Option.bind_some]
  by_cases h : rulebookB l = true
  case neg => refine ev_neg h ?_; rw [if_neg h]; exact Ev.now _
  refine ev_pos h ?_
  rw [if_pos h]
  by_cases h2 : 0 ≤ r ∧ r ≤ 2
  · refine ev_pos (by simpa using h2) ?_; rw [if_pos h2]; exact Ev.now _
  · refine ev_neg (by simpa using h2) ?_; rw [if_neg h2]; exact Ev.now _
theorem isResult_i (r : Int) : impl_isResult.f r = some (decide (0 ≤ r ∧ r ≤ 2)) := by simp [impl_isResult.f, in_i]
theorem result_at {l : List Cl} (H : RB l) (kd j : Nat) (h : j < 8) : Ev (fun k => spec_l10Result.f k l 0 (kd : Int) (⟨#[]⟩ : ByteArray) 0 (wrap64 (Int.tdiv (j : Int) 4) == 1) (Int.tmod (wrap64 (Int.tdiv (j : Int) 2)) 2 == 1) (Int.tmod (j : Int) 2 == 1)) (resM l (pe (8 * kd + j))) := by
  obtain ⟨b1, b2, b3⟩ := bits_div j h
  rw [b1, b2, b3]
  have := result_s H (pe (8 * kd + j))
  rw [pe_at kd j h] at this ⊢
  exact this
theorem eqEv7 (a b : Int) (c : ByteArray) (d : Int) (e f g : Bool) : laws_eqEvent.f a b c d e f g a b c d e f g = some true := by simp [laws_eqEvent.f]
abbrev Wit := Int × Int × ByteArray × Int × Bool × Bool × Bool × Int
def noWit (c : Int) : Wit := (0, 0, (⟨#[]⟩ : ByteArray), 0, false, false, false, c)
def witAt (i : Nat) : Wit := ((pe i).f0, (pe i).f1, (pe i).f2, (pe i).f3, (pe i).f4, (pe i).f5, (pe i).f6, 0)
def witFrom (l : List Cl) (r : Int) (i d : Nat) : Wit := (((List.range' i d).find? fun i => decide (resM l (pe i) = r)).map witAt).getD (noWit 4)
def witM (l : List Cl) (r : Int) : Wit := if askCode l r = 0 then witFrom l r 0 56 else noWit (askCode l r)
theorem Witness_s (l : List Cl) (r : Int) (hs : ∀ x ∈ l, smallClauseI x) (hl : l.length ≤ 1048576) : Ev (fun k => spec_WitnessFor.f k l r) (witM l r) := by
  unfold spec_WitnessFor.f witM
  refine Ev.bind (askCode_s l r hs hl) ?_
  by_cases h : askCode l r = 0
  case neg => refine ev_neg h ?_; rw [if_neg h]; exact Ev.now _
  refine ev_pos h ?_
  rw [if_pos h]
  have H : RB l := rb_of (by
    unfold askCode at h
    by_cases hr : rulebookB l = true
    · exact hr
    · rw [if_neg hr] at h; omega)
  have key : ∀ (d kd j : Nat), 8 * kd + j + d = 56 → j < 8 → kd ≤ 6 → Ev (fun k => spec_WitnessFor.l1 k l r (kd : Int) (j : Int)) (witFrom l r (8 * kd + j) d) := by
    intro d
    induction d with
    | zero => intro kd j h1 h2 h3; omega
    | succ d ih =>
      intro kd j h1 h2 h3
      obtain ⟨b1, b2, b3⟩ := bits_div j h2
      unfold witFrom
      rw [List.range'_succ, List.find?_cons]
      refine ev_succ ?_
      simp only [spec_WitnessFor.l1]
      refine ev_pos (by omega) (Ev.bind (result_at H kd j h2) ?_)
      by_cases hp : resM l (pe (8 * kd + j)) = r
      · rw [decide_eq_true hp]
        refine ev_pos hp ?_
        rw [b1, b2, b3]
        refine ev_cast (Ev.now _) ?_
        simp only [Option.map_some, Option.getD_some, witAt, pe_at kd j h2]
      · rw [decide_eq_false hp]
        refine ev_neg hp ?_
        rw [w64s j (by omega)]
        by_cases hj : j + 1 < 8
        · exact ih kd (j + 1) (by omega) hj h3
        · obtain rfl : j = 7 := by omega
          refine ev_succ ?_
          simp only [spec_WitnessFor.l1]
          refine ev_neg (by omega) ?_
          rw [w64s kd (by omega)]
          refine ev_succ ?_
          simp only [spec_WitnessFor.l0]
          by_cases hk : kd = 6
          · subst hk
            refine ev_neg (by omega) ?_
            obtain rfl : d = 0 := by omega
            exact Ev.now _
          · refine ev_pos (by omega) ?_
            exact ih (kd + 1) 0 (by omega) (by omega) (by omega)
  refine ev_succ ?_
  simp only [spec_WitnessFor.l0]
  refine ev_pos (by omega) ?_
  exact key 56 0 0 (by omega) (by omega) (by omega)
theorem Witness_i (l : List Cl) (r : Int) (hs : ∀ x ∈ l, smallClauseI x) : Ev (fun k => impl_WitnessFor.f k l r) (witM l r) := by
  unfold impl_WitnessFor.f witM askCode
  refine Ev.bind (rulebook_i l hs) ?_
  by_cases hr : rulebookB l = true
  case neg => refine ev_neg hr ?_; rw [if_neg hr, if_neg (by omega)]; exact Ev.now _
  refine ev_pos hr ?_
  rw [if_pos hr]
  simp only [isResult_i, Option.bind_some]
  by_cases h2 : 0 ≤ r ∧ r ≤ 2
  case neg => refine ev_neg (by simpa using h2) ?_; rw [if_neg h2, if_neg (by omega)]; exact Ev.now _
  refine ev_pos (by simpa using h2) (Ev.bind plain_i ?_)
  rw [if_pos h2, if_pos rfl]
  have H := rb_of hr
  rw [plain_len]
  refine ev_find 56 (fun k i => impl_WitnessFor.l0 k l r plain ((56 : Nat) : Int) i) (fun i => decide (resM l (pe i) = r)) witAt (noWit 4)
    (fun i q hi hp hq => ?_) (fun i hi hp => ?_) ?_ 56 0 (by omega)
  · refine ev_succ ?_
    simp only [impl_WitnessFor.l0, rdEv, plain_get i hi, plain_len]
    refine ev_pos (by omega) (ev_pos (by omega) (ev_pos (by omega) (Ev.bind (decide_i H (pe i)) ?_)))
    refine ev_neg (of_decide_eq_false hp) ?_
    rw [w64s i (by omega)]
    exact hq
  · refine ev_succ ?_
    simp only [impl_WitnessFor.l0, rdEv, plain_get i hi, plain_len]
    refine ev_pos (by omega) (ev_pos (by omega) (ev_pos (by omega) (Ev.bind (decide_i H (pe i)) ?_)))
    exact ev_pos (of_decide_eq_true hp) (Ev.now _)
  · exact ev_pt fun k => by simp only [impl_WitnessFor.l0]; rw [if_neg (by omega)]; rfl
end Go.Proofs.Ytkjfpdjmomhbbaa.Pu
