/- The plain events, and the laws' functions over them: the program and the reference alike. -/
import Derived.Test.YtkjfpdjmomhbbaaFx10
import Derived.Test.YtkjfpdjmomhbbaaFx15
import Derived.Test.YtkjfpdjmomhbbaaFx16
import Derived.Test.YtkjfpdjmomhbbaaFx11
import Derived.Test.YtkjfpdjmomhbbaaFx17
import Derived.Test.YtkjfpdjmomhbbaaRulebook
namespace Go.Proofs.Ytkjfpdjmomhbbaa.Pu
open Go.RowKit Go.Proofs.YtkjfpdjmomhbbaaW.PrintWords Go.Proofs.Ytkjfpdjmomhbbaa.F
set_option linter.unusedVariables false
set_option linter.unusedSimpArgs false
/-- The i-th plain event, and all of them. -/
def pe (i : Nat) : Evt := ⟨0, ((i / 8 : Nat) : Int), (⟨#[]⟩ : ByteArray), 0, decide (i % 8 / 4 = 1), decide (i % 8 / 2 % 2 = 1), decide (i % 8 % 2 = 1)⟩
def plain : List Evt := (List.range 56).map pe
theorem plain_len : plain.length = 56 := by simp [plain]
theorem plain_get (i : Nat) (h : i < 56) : plain.getD i z25 = pe i := by simp [plain, List.getD_eq_getElem?_getD, h]
theorem bits_and (j : Nat) (h : j < 8) : (Go.bits .and .i64 (j : Int) 4 != 0) = decide (j / 4 = 1) ∧ (Go.bits .and .i64 (j : Int) 2 != 0) = decide (j / 2 % 2 = 1) ∧ (Go.bits .and .i64 (j : Int) 1 != 0) = decide (j % 2 = 1) := by
  rcases (by omega : j = 0 ∨ j = 1 ∨ j = 2 ∨ j = 3 ∨ j = 4 ∨ j = 5 ∨ j = 6 ∨ j = 7) with rfl | rfl | rfl | rfl | rfl | rfl | rfl | rfl <;> decide +kernel
theorem bits_div (j : Nat) (h : j < 8) : (wrap64 (Int.tdiv (j : Int) 4) == 1) = decide (j / 4 = 1) ∧ (Int.tmod (wrap64 (Int.tdiv (j : Int) 2)) 2 == 1) = decide (j / 2 % 2 = 1) ∧ (Int.tmod (j : Int) 2 == 1) = decide (j % 2 = 1) := by
  rcases (by omega : j = 0 ∨ j = 1 ∨ j = 2 ∨ j = 3 ∨ j = 4 ∨ j = 5 ∨ j = 6 ∨ j = 7) with rfl | rfl | rfl | rfl | rfl | rfl | rfl | rfl <;> decide +kernel
theorem pe_at (kd j : Nat) (h : j < 8) : pe (8 * kd + j) = ⟨0, (kd : Int), (⟨#[]⟩ : ByteArray), 0, decide (j / 4 = 1), decide (j / 2 % 2 = 1), decide (j % 2 = 1)⟩ := by
  unfold pe
  rw [show (8 * kd + j) / 8 = kd by omega, show (8 * kd + j) % 8 = j by omega]
theorem plain_i : Ev (fun k => impl_plainEvents.f k) plain := by
  unfold impl_plainEvents.f
  have key : ∀ (d kd j : Nat), 8 * kd + j + d = 56 → j < 8 → kd ≤ 6 → Ev (fun k => impl_plainEvents.l1 k ((List.range (8 * kd + j)).map pe) (kd : Int) (j : Int)) plain := by
    intro d
    induction d with
    | zero => intro kd j h1 h2 h3; omega
    | succ d ih =>
      intro kd j h1 h2 h3
      obtain ⟨b1, b2, b3⟩ := bits_and j h2
      have push : ((List.range (8 * kd + j)).map pe) ++ [(⟨0, (kd : Int), (⟨#[]⟩ : ByteArray), 0, (Go.bits .and .i64 (j : Int) 4) != 0, (Go.bits .and .i64 (j : Int) 2) != 0, (Go.bits .and .i64 (j : Int) 1) != 0⟩ : Evt)] = (List.range (8 * kd + j + 1)).map pe := by
        rw [List.range_succ, List.map_append, b1, b2, b3, List.map_singleton, pe_at kd j h2]
      by_cases hj : j + 1 < 8
      · refine Ev.step (f := fun k => impl_plainEvents.l1 k ((List.range (8 * kd + (j + 1))).map pe) (kd : Int) ((j + 1 : Nat) : Int)) (fun k => ?_) (ih kd (j + 1) (by omega) hj h3)
        simp only [impl_plainEvents.l1]
        rw [if_pos (by omega), if_pos (by simp; omega), push, w64s j (by omega)]
        rfl
      · obtain rfl : j = 7 := by omega
        by_cases hk : kd = 6
        · subst hk
          refine ⟨3, fun k hk => ?_⟩
          obtain ⟨m, rfl⟩ : ∃ m, k = m + 3 := ⟨k - 3, by omega⟩
          simp only [impl_plainEvents.l1]
          rw [if_pos (by omega), if_pos (by simp), push, w64s 7 (by omega), if_neg (by omega), w64s 6 (by omega)]
          simp only [impl_plainEvents.l0]
          rw [if_neg (by omega)]
          rfl
        · refine ev_succ (ev_succ (Ev.step (f := fun k => impl_plainEvents.l1 k ((List.range (8 * (kd + 1) + 0)).map pe) ((kd + 1 : Nat) : Int) ((0 : Nat) : Int)) (fun k => ?_) (ih (kd + 1) 0 (by omega) (by omega) (by omega))))
          simp only [impl_plainEvents.l1]
          rw [if_pos (by omega), if_pos (by simp; omega), push, w64s 7 (by omega), if_neg (by omega), w64s kd (by omega)]
          simp only [impl_plainEvents.l0]
          rw [if_pos (by omega)]
          rw [show 8 * kd + 7 + 1 = 8 * (kd + 1) + 0 by omega]
          rfl
  refine Ev.step (f := fun k => impl_plainEvents.l1 k ((List.range (8 * 0 + 0)).map pe) ((0 : Nat) : Int) ((0 : Nat) : Int)) (fun k => ?_) (key 56 0 0 (by omega) (by omega) (by omega))
  simp only [impl_plainEvents.l0]
  rw [if_pos (by omega)]
  rfl
/-- The code of a rulebook and a result that is asked for. -/
def askCode (l : List Cl) (r : Int) : Int := if rulebookB l = true then (if 0 ≤ r ∧ r ≤ 2 then 0 else 2) else 1
theorem result_at {l : List Cl} (H : RB l) (kd j : Nat) (h : j < 8) : Ev (fun k => spec_l10Result.f k l 0 (kd : Int) (⟨#[]⟩ : ByteArray) 0 (wrap64 (Int.tdiv (j : Int) 4) == 1) (Int.tmod (wrap64 (Int.tdiv (j : Int) 2)) 2 == 1) (Int.tmod (j : Int) 2 == 1)) (resM l (pe (8 * kd + j))) := by
  obtain ⟨b1, b2, b3⟩ := bits_div j h
  rw [b1, b2, b3]
  have := result_s H (pe (8 * kd + j))
  rw [pe_at kd j h] at this ⊢
  exact this
def cntStep (l : List Cl) (i : Nat) (s : List Int) : List Int := s.set (resM l (pe i) : Int).toNat (wrap64 (rd s (resM l (pe i)) + 1))
def shapesM (l : List Cl) : List Int × Int := if rulebookB l = true then ((List.range' 0 56).foldl (fun s i => cntStep l i s) [0, 0, 0], 0) else ([], 1)
theorem cntStep_len (l : List Cl) (i : Nat) (s : List Int) : (cntStep l i s).length = s.length := by simp [cntStep]
theorem shapesM_len (l : List Cl) : (shapesM l).1.length ≤ 3 := by
  unfold shapesM
  split
  · have : ∀ (m : List Nat) (s : List Int), (m.foldl (fun s i => cntStep l i s) s).length = s.length := by
      intro m
      induction m with
      | nil => intro s; rfl
      | cons x m ih => intro s; rw [List.foldl_cons, ih, cntStep_len]
    simp only [this]
    decide
  · decide
theorem Shapes_s (l : List Cl) (hs : ∀ x ∈ l, smallClauseI x) (hl : l.length ≤ 1048576) : Ev (fun k => spec_CountShapes.f k l) (shapesM l) := by
  unfold spec_CountShapes.f shapesM
  refine Ev.bind (rulebook_s l hs hl) ?_
  by_cases hr : rulebookB l = true
  case neg => refine ev_neg hr ?_; rw [if_neg hr]; exact Ev.now _
  refine ev_pos hr ?_
  rw [if_pos hr]
  have H := rb_of hr
  have key : ∀ (d kd j : Nat) (s : List Int), 8 * kd + j + d = 56 → j < 8 → kd ≤ 6 → s.length = 3 → Ev (fun k => spec_CountShapes.l1 k l s (kd : Int) (j : Int)) ((List.range' (8 * kd + j) d).foldl (fun s i => cntStep l i s) s, 0) := by
    intro d
    induction d with
    | zero => intro kd j s h1 h2 h3 h4; omega
    | succ d ih =>
      intro kd j s h1 h2 h3 h4
      rw [List.range'_succ, List.foldl_cons]
      have hR := resM_range H (pe (8 * kd + j))
      have hlen := cntStep_len l (8 * kd + j) s
      refine ev_succ ?_
      simp only [spec_CountShapes.l1]
      refine ev_pos (by omega) (Ev.bind (result_at H kd j h2) ?_)
      refine ev_pos (by omega) (ev_pos (by omega) ?_)
      rw [w64s j (by omega)]
      by_cases hj : j + 1 < 8
      · exact ih kd (j + 1) _ (by omega) hj h3 (by simpa using h4)
      · obtain rfl : j = 7 := by omega
        refine ev_succ ?_
        simp only [spec_CountShapes.l1]
        refine ev_neg (by omega) ?_
        rw [w64s kd (by omega)]
        refine ev_succ ?_
        simp only [spec_CountShapes.l0]
        by_cases hk : kd = 6
        · subst hk
          refine ev_neg (by omega) ?_
          obtain rfl : d = 0 := by omega
          exact Ev.now _
        · refine ev_pos (by omega) ?_
          exact ih (kd + 1) 0 _ (by omega) (by omega) (by omega) (by simpa using h4)
  refine ev_succ ?_
  simp only [spec_CountShapes.l0]
  refine ev_pos (by omega) ?_
  exact key 56 0 0 _ (by omega) (by omega) (by omega) rfl
theorem Shapes_i (l : List Cl) (hs : ∀ x ∈ l, smallClauseI x) : Ev (fun k => impl_CountShapes.f k l) (shapesM l) := by
  unfold impl_CountShapes.f shapesM
  refine Ev.bind (rulebook_i l hs) ?_
  by_cases hr : rulebookB l = true
  case neg => refine ev_neg hr ?_; rw [if_neg hr]; exact Ev.now _
  refine ev_pos hr (ev_pos (by omega) (Ev.bind plain_i ?_))
  rw [if_pos hr]
  have H := rb_of hr
  rw [plain_len]
  refine ev_range 56 (fun k s i => impl_CountShapes.l0 k l s plain ((56 : Nat) : Int) i) (fun i s => cntStep l i s) (fun s => (s, (0 : Int))) (fun _ s => s.length = 3)
    (fun i s hi h => by rw [cntStep_len]; exact h) (fun i s q hi h hq => ?_) (fun s h => ?_) 56 0 _ (by omega) rfl
  · have hR := resM_range H (pe i)
    refine ev_succ ?_
    simp only [impl_CountShapes.l0, rdEv, plain_get i hi, plain_len]
    refine ev_pos (by omega) (ev_pos (by omega) (ev_pos (by omega) (Ev.bind (decide_i H (pe i)) ?_)))
    refine ev_pos (by omega) (ev_pos (by omega) ?_)
    rw [w64s i (by omega)]
    exact hq
  · exact ev_pt fun k => by simp only [impl_CountShapes.l0]; rw [if_neg (by omega)]
end Go.Proofs.Ytkjfpdjmomhbbaa.Pu
