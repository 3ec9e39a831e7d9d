-- Written by this session's program (wip/bin/hp.py) over the kit's print: a function's Lean form, and a proof that the call does what it says.
import Derived.Test.YtkjfpdjmomhbbaaFx0
import Derived.Test.YtkjfpdjmomhbbaaFx13
import Derived.Test.YtkjfpdjmomhbbaaFx14
import Derived.Test.YtkjfpdjmomhbbaaFx15
import Derived.Test.YtkjfpdjmomhbbaaFx23
namespace Go.Proofs.Ytkjfpdjmomhbbaa.F
open Go.RowKit Go.Proofs.YtkjfpdjmomhbbaaW.PrintWords Go.Proofs.YtkjfpdjmomhbbaaW.PrintLast Go.Proofs.YtkjfpdjmomhbbaaW.PrintMore
attribute [local go_sem] max2_int min2_int max_two min_two max_three min_three max_four min_four   -- for this text's walks alone
set_option linter.unusedVariables false
set_option linter.unusedSimpArgs false

/-! ### impl_TruthsToChange: function 29 -/
mutual
def impl_TruthsToChange.j0 : Nat → List (S84) → Int → Bool → Int → Int → ByteArray → Int → Bool → Bool → Bool → Option (Int × Int)
  | 0, _, _, _, _, _, _, _, _, _, _ => none
  | k + 1, x0, x2, x11, x296000, x296001, x296002, x296003, x296004, x296005, x296006 => if x11 = true then (some (0, 1)) else ((impl_isResult.f x2).bind fun t298 => (if t298 = true then ((impl_plainEvents.f k).bind fun t299 => (impl_TruthsToChange.l0 k x0 x2 4 t299 (t299.length : Int) 0 x296000 x296001 x296002 x296003 x296004 x296005 x296006)) else (some (0, 2))))
def impl_TruthsToChange.l0 : Nat → List (S84) → Int → Int → List (S25) → Int → Int → Int → Int → ByteArray → Int → Bool → Bool → Bool → Option (Int × Int)
  | 0, _, _, _, _, _, _, _, _, _, _, _, _, _ => none
  | k + 1, x0, x2, x8, x24, x25, x26, x296000, x296001, x296002, x296003, x296004, x296005, x296006 => if x26 < x25 then (if 0 ≤ x26 then (if x26 < (x24.length : Int) then (if ((rd_T25 x24 x26).f1) = x296001 then ((impl_decide.f k x0 ((rd_T25 x24 x26).f0) ((rd_T25 x24 x26).f1) ((rd_T25 x24 x26).f2) ((rd_T25 x24 x26).f3) ((rd_T25 x24 x26).f4) ((rd_T25 x24 x26).f5) ((rd_T25 x24 x26).f6)).bind fun bt304 => (if bt304.1 = x2 then ((impl_changed.f k ((rd_T25 x24 x26).f0) ((rd_T25 x24 x26).f1) ((rd_T25 x24 x26).f2) ((rd_T25 x24 x26).f3) ((rd_T25 x24 x26).f4) ((rd_T25 x24 x26).f5) ((rd_T25 x24 x26).f6) x296000 x296001 x296002 x296003 x296004 x296005 x296006).bind fun t308 => (impl_TruthsToChange.l0 k x0 x2 (mn x8 t308) x24 x25 (wrap64 (x26 + 1)) x296000 x296001 x296002 x296003 x296004 x296005 x296006)) else (impl_TruthsToChange.l0 k x0 x2 x8 x24 x25 (wrap64 (x26 + 1)) x296000 x296001 x296002 x296003 x296004 x296005 x296006))) else (impl_TruthsToChange.l0 k x0 x2 x8 x24 x25 (wrap64 (x26 + 1)) x296000 x296001 x296002 x296003 x296004 x296005 x296006)) else (none)) else (none)) else (if x8 = 4 then (some (0, 4)) else (some (x8, 0)))
end
def impl_TruthsToChange.f (k : Nat) (l0 : List (S84)) (a1_0 : Int) (a1_1 : Int) (a1_2 : ByteArray) (a1_3 : Int) (a1_4 : Bool) (a1_5 : Bool) (a1_6 : Bool) (a2 : Int) : Option (Int × Int) := (impl_IsRulebook.f k l0).bind fun t296 => (if t296 = true then ((impl_IsEvent.f k a1_0 a1_1 a1_2 a1_3 a1_4 a1_5 a1_6).bind fun t297 => (impl_TruthsToChange.j0 k l0 a2 (!t297) a1_0 a1_1 a1_2 a1_3 a1_4 a1_5 a1_6)) else (impl_TruthsToChange.j0 k l0 a2 true a1_0 a1_1 a1_2 a1_3 a1_4 a1_5 a1_6))
theorem impl_TruthsToChange.mono_l : ∀ k, (∀ y0 y1 y2 y3 y4 y5 y6 y7 y8 y9, LeO (impl_TruthsToChange.j0 k y0 y1 y2 y3 y4 y5 y6 y7 y8 y9) (impl_TruthsToChange.j0 (k + 1) y0 y1 y2 y3 y4 y5 y6 y7 y8 y9)) ∧ (∀ y0 y1 y2 y3 y4 y5 y6 y7 y8 y9 y10 y11 y12, LeO (impl_TruthsToChange.l0 k y0 y1 y2 y3 y4 y5 y6 y7 y8 y9 y10 y11 y12) (impl_TruthsToChange.l0 (k + 1) y0 y1 y2 y3 y4 y5 y6 y7 y8 y9 y10 y11 y12))
  | 0 => ⟨fun _ _ _ _ _ _ _ _ _ _ r h => by simp [impl_TruthsToChange.j0] at h, fun _ _ _ _ _ _ _ _ _ _ _ _ _ r h => by simp [impl_TruthsToChange.l0] at h⟩
  | k + 1 => by
    obtain ⟨ih0, ih1⟩ := impl_TruthsToChange.mono_l k
    refine ⟨?_, ?_⟩
    · intro y0 y1 y2 y3 y4 y5 y6 y7 y8 y9
      unfold impl_TruthsToChange.j0
      repeat' first
      | (with_reducible exact ih0 _ _ _ _ _ _ _ _ _ _)
      | (with_reducible exact ih1 _ _ _ _ _ _ _ _ _ _ _ _ _)
      | (with_reducible exact impl_IsEvent.mono _ _ _ _ _ _ _ _)
      | (with_reducible exact impl_IsRulebook.mono _ _)
      | (with_reducible exact impl_changed.mono _ _ _ _ _ _ _ _ _ _ _ _ _ _ _)
      | (with_reducible exact impl_decide.mono _ _ _ _ _ _ _ _ _)
      | (with_reducible exact impl_plainEvents.mono _)
      | (with_reducible exact LeO.refl _)
      | (with_reducible exact LeO.none _)
      | (with_reducible refine LeO.ite ?_ ?_)
      | (with_reducible refine LeO.bind ?_ (fun _ => ?_))
      | exact ih0 _ _ _ _ _ _ _ _ _ _
      | exact ih1 _ _ _ _ _ _ _ _ _ _ _ _ _
      | exact impl_IsEvent.mono _ _ _ _ _ _ _ _
      | exact impl_IsRulebook.mono _ _
      | exact impl_changed.mono _ _ _ _ _ _ _ _ _ _ _ _ _ _ _
      | exact impl_decide.mono _ _ _ _ _ _ _ _ _
      | exact impl_plainEvents.mono _
      | exact LeO.none _
      | refine LeO.ite ?_ ?_
      | refine LeO.bind ?_ (fun _ => ?_)
    · intro y0 y1 y2 y3 y4 y5 y6 y7 y8 y9 y10 y11 y12
      unfold impl_TruthsToChange.l0
      repeat' first
      | (with_reducible exact ih0 _ _ _ _ _ _ _ _ _ _)
      | (with_reducible exact ih1 _ _ _ _ _ _ _ _ _ _ _ _ _)
      | (with_reducible exact impl_IsEvent.mono _ _ _ _ _ _ _ _)
      | (with_reducible exact impl_IsRulebook.mono _ _)
      | (with_reducible exact impl_changed.mono _ _ _ _ _ _ _ _ _ _ _ _ _ _ _)
      | (with_reducible exact impl_decide.mono _ _ _ _ _ _ _ _ _)
      | (with_reducible exact impl_plainEvents.mono _)
      | (with_reducible exact LeO.refl _)
      | (with_reducible exact LeO.none _)
      | (with_reducible refine LeO.ite ?_ ?_)
      | (with_reducible refine LeO.bind ?_ (fun _ => ?_))
      | exact ih0 _ _ _ _ _ _ _ _ _ _
      | exact ih1 _ _ _ _ _ _ _ _ _ _ _ _ _
      | exact impl_IsEvent.mono _ _ _ _ _ _ _ _
      | exact impl_IsRulebook.mono _ _
      | exact impl_changed.mono _ _ _ _ _ _ _ _ _ _ _ _ _ _ _
      | exact impl_decide.mono _ _ _ _ _ _ _ _ _
      | exact impl_plainEvents.mono _
      | exact LeO.none _
      | refine LeO.ite ?_ ?_
      | refine LeO.bind ?_ (fun _ => ?_)
theorem impl_TruthsToChange.mono : ∀ a0 a1 a2 a3 a4 a5 a6 a7 a8 k, LeO (impl_TruthsToChange.f k a0 a1 a2 a3 a4 a5 a6 a7 a8) (impl_TruthsToChange.f (k + 1) a0 a1 a2 a3 a4 a5 a6 a7 a8) := by
  intro a0 a1 a2 a3 a4 a5 a6 a7 a8 k
  obtain ⟨ih0, ih1⟩ := impl_TruthsToChange.mono_l k
  unfold impl_TruthsToChange.f
  repeat' first
      | (with_reducible exact ih0 _ _ _ _ _ _ _ _ _ _)
      | (with_reducible exact ih1 _ _ _ _ _ _ _ _ _ _ _ _ _)
      | (with_reducible exact impl_IsEvent.mono _ _ _ _ _ _ _ _)
      | (with_reducible exact impl_IsRulebook.mono _ _)
      | (with_reducible exact impl_changed.mono _ _ _ _ _ _ _ _ _ _ _ _ _ _ _)
      | (with_reducible exact impl_decide.mono _ _ _ _ _ _ _ _ _)
      | (with_reducible exact impl_plainEvents.mono _)
      | (with_reducible exact LeO.refl _)
      | (with_reducible exact LeO.none _)
      | (with_reducible refine LeO.ite ?_ ?_)
      | (with_reducible refine LeO.bind ?_ (fun _ => ?_))
      | exact ih0 _ _ _ _ _ _ _ _ _ _
      | exact ih1 _ _ _ _ _ _ _ _ _ _ _ _ _
      | exact impl_IsEvent.mono _ _ _ _ _ _ _ _
      | exact impl_IsRulebook.mono _ _
      | exact impl_changed.mono _ _ _ _ _ _ _ _ _ _ _ _ _ _ _
      | exact impl_decide.mono _ _ _ _ _ _ _ _ _
      | exact impl_plainEvents.mono _
      | exact LeO.none _
      | refine LeO.ite ?_ ?_
      | refine LeO.bind ?_ (fun _ => ?_)
set_option maxHeartbeats 8000000 in
set_option maxRecDepth 100000 in
attribute [local go_sem] Instr.field asAgg in
theorem impl_TruthsToChange.calls (k : Nat) (A0 : Option Addr) (c0 : Nat) (l0 : List (S84)) (a1_0 : Int) (a1_1 : Int) (a1_2 : ByteArray) (a1_3 : Int) (a1_4 : Bool) (a1_5 : Bool) (a1_6 : Bool) (a2 : Int) (r1 : Int) (r2 : Int) (w : World) (hr0 : Kd.C k84 w A0 l0.length l0) (hc0 : l0.length ≤ c0) (h : impl_TruthsToChange.f k l0 a1_0 a1_1 a1_2 a1_3 a1_4 a1_5 a1_6 a2 = some (r1, r2)) :
    Calls Try.prog 29 #[.slice A0 l0.length c0, .agg #[.int .i64 a1_0, .int .i64 a1_1, .string a1_2, .int .i64 a1_3, .bool a1_4, .bool a1_5, .bool a1_6], .int .i64 a2] w fun e w' => e = .returned (.tuple #[.int .i64 r1, .int .i64 r2]) ∧ Below w.heap.size w w' := by
  have hu25 := Try.underlying25
  have HR0 := Aside0.mk hr0
  have HC0 := Aside0.mk hc0
  clear hr0 hc0
  have HB := Aside0.mk (Below.refl w.heap.size w)
  have H : ((impl_IsRulebook.f k l0).bind fun t296 => (if t296 = true then ((impl_IsEvent.f k a1_0 a1_1 a1_2 a1_3 a1_4 a1_5 a1_6).bind fun t297 => (impl_TruthsToChange.j0 k l0 a2 (!t297) a1_0 a1_1 a1_2 a1_3 a1_4 a1_5 a1_6)) else (impl_TruthsToChange.j0 k l0 a2 true a1_0 a1_1 a1_2 a1_3 a1_4 a1_5 a1_6))) = some (r1, r2) := h
  clear h
  have HC4 := Aside0.mk H
  clear H
  go_enter Try.func29, Try.ntmps29
  go_upto_region 1 with (first | ((with_reducible refine gate_dst (N := 4) rfl ?_); refine box_event ?hg (N := 4) ?hd (cs := #[.int .i64 a1_0, .int .i64 a1_1, .string a1_2, .int .i64 a1_3, .bool a1_4, .bool a1_5, .bool a1_6]) (t := 25) ?hr ?_; (case hd => rfl); (case hg => rfl); (case hr => first | (go_simp; done) | (go_simp; rfl)); intro gb295 hg w5 hbox hb; have n0_ := Aside0.mk (below_step (by repeat (first | (with_reducible first | exact HB.out | apply below_alloc | apply pw_below_drewN | apply below_drew1) | exact HB.out)) hb); have n1_ := Aside0.mk (hbox); have n2_ := Aside0.mk ((by rw [hg]; exact (below_size (by repeat (first | (with_reducible first | exact HB.out | apply below_alloc | apply pw_below_drewN | apply below_drew1) | exact HB.out))) : w.heap.size ≤ gb295)); have n3_ := Aside0.mk ((by rw [hg]; exact (below_size (by repeat (first | (with_reducible first | exact HB.out | apply below_alloc | apply pw_below_drewN | apply below_drew1) | exact HB.out))) : w.heap.size ≤ gb295)); clear HB; have HB := n0_; have BK295 := n1_; have GW295 := n2_; have GE295 := n3_; clear n0_ n1_ n2_ n3_; clear hb hbox hg))
  (try simp only [Act.put, List.setIfInBounds_toArray, List.set_cons_zero, List.set_cons_succ])
  go_cut [11] (fun v11 wc => ∃ (kq : Nat) (x11_3 : Bool), v11 = .bool x11_3 ∧ Aside0 (impl_TruthsToChange.j0 kq l0 a2 x11_3 a1_0 a1_1 a1_2 a1_3 a1_4 a1_5 a1_6 = some (r1, r2)) ∧ Aside0 (kq ≤ k) ∧ Aside0 (wc.heap[gb295]? = some (.cells #[.int .i64 a1_0, .int .i64 a1_1, .string a1_2, .int .i64 a1_3, .bool a1_4, .bool a1_5, .bool a1_6] 25 (0, 0))) ∧ Aside0 (Below w.heap.size w wc))
  case first =>
    have H := HC4.out
    clear HC4
    replace H := Option.bind_eq_some_iff.mp H
    obtain ⟨t296, A60, H⟩ := H
    replace H : (if t296 = true then ((impl_IsEvent.f k a1_0 a1_1 a1_2 a1_3 a1_4 a1_5 a1_6).bind fun t297 => (impl_TruthsToChange.j0 k l0 a2 (!t297) a1_0 a1_1 a1_2 a1_3 a1_4 a1_5 a1_6)) else (impl_TruthsToChange.j0 k l0 a2 true a1_0 a1_1 a1_2 a1_3 a1_4 a1_5 a1_6)) = some (r1, r2) := H
    have A6 := Aside0.mk A60
    clear A60
    by_cases c7 : t296 = true
    · subst c7
      have H1 : ((impl_IsEvent.f k a1_0 a1_1 a1_2 a1_3 a1_4 a1_5 a1_6).bind fun t297 => (impl_TruthsToChange.j0 k l0 a2 (!t297) a1_0 a1_1 a1_2 a1_3 a1_4 a1_5 a1_6)) = some (r1, r2) := by rw [if_pos rfl] at H; exact H
      clear H
      have H := H1
      clear H1
      replace H := Option.bind_eq_some_iff.mp H
      obtain ⟨t297, A80, H⟩ := H
      replace H : (impl_TruthsToChange.j0 k l0 a2 (!t297) a1_0 a1_1 a1_2 a1_3 a1_4 a1_5 a1_6) = some (r1, r2) := H
      have A8 := Aside0.mk A80
      clear A80
      have H' := Aside0.mk H
      clear H
      go_wp2_with (first | ((with_reducible refine gate_callee (f := 68) rfl ?_); refine goesL_ (some 13) rfl rfl Try.func68 (by kernel_rfl) rfl #[.slice A0 l0.length c0] rfl (by (try simp only [List.map_toArray, List.map_cons, List.map_nil]); first | done | rfl | (simp only [List.length_drop, List.length_take]; rfl)) ?_; (with_reducible refine (impl_IsRulebook.calls k _ _ l0 true _ ?side1 ?side2 A6.out).mono ?_); (case side1 => repeat (first | exact (Kd.C_below HR0.out HB.out) | (with_reducible refine Kd.C_alloc ?_ _) | (with_reducible refine Kd.C_drewN ?_ _) | (with_reducible refine Kd.C_drew ?_))); (case side2 => exact HC0.out); rintro e w9 ⟨rfl, hb⟩; refine ⟨_, rfl, ?_⟩; have n0_ := Aside0.mk (blk_below (g := gb295) (o := .cells #[.int .i64 a1_0, .int .i64 a1_1, .string a1_2, .int .i64 a1_3, .bool a1_4, .bool a1_5, .bool a1_6] 25 (0, 0)) (by (with_reducible repeat (first | refine blk_drewN ?_ _ | refine blk_drew ?_ | refine blk_alloc ?_ _)); exact BK295.out) hb); have n1_ := Aside0.mk (below_step (by repeat (first | (with_reducible first | exact HB.out | apply below_alloc | apply pw_below_drewN | apply below_drew1 | refine below_set ?_ GE295.out) | exact HB.out)) hb); clear BK295; clear HB; have BK295 := n0_; have HB := n1_; clear n0_ n1_; (try clear hb); (try clear hb2); (try clear hk); (try clear hi); have hcz10_0 : w9.cell? ⟨gb295, 0, none⟩ = some (.int .i64 a1_0) := (blk_cell BK295.out 0).trans rfl; have hcz10_1 : w9.cell? ⟨gb295, 1, none⟩ = some (.int .i64 a1_1) := (blk_cell BK295.out 1).trans rfl; have hcz10_2 : w9.cell? ⟨gb295, 2, none⟩ = some (.string a1_2) := (blk_cell BK295.out 2).trans rfl; have hcz10_3 : w9.cell? ⟨gb295, 3, none⟩ = some (.int .i64 a1_3) := (blk_cell BK295.out 3).trans rfl; have hcz10_4 : w9.cell? ⟨gb295, 4, none⟩ = some (.bool a1_4) := (blk_cell BK295.out 4).trans rfl; have hcz10_5 : w9.cell? ⟨gb295, 5, none⟩ = some (.bool a1_5) := (blk_cell BK295.out 5).trans rfl; have hcz10_6 : w9.cell? ⟨gb295, 6, none⟩ = some (.bool a1_6) := (blk_cell BK295.out 6).trans rfl; have hfz10_0 := blk_frozen BK295.out 0; have hfz10_1 := blk_frozen BK295.out 1; have hfz10_2 := blk_frozen BK295.out 2; have hfz10_3 := blk_frozen BK295.out 3; have hfz10_4 := blk_frozen BK295.out 4; have hfz10_5 := blk_frozen BK295.out 5; have hfz10_6 := blk_frozen BK295.out 6) | (go_at_call 92; (with_reducible refine (impl_IsEvent.calls k a1_0 a1_1 a1_2 a1_3 a1_4 a1_5 a1_6 t297 _ A8.out).mono ?_); rintro e w11 ⟨rfl, hb⟩; have n0_ := Aside0.mk (blk_below (g := gb295) (o := .cells #[.int .i64 a1_0, .int .i64 a1_1, .string a1_2, .int .i64 a1_3, .bool a1_4, .bool a1_5, .bool a1_6] 25 (0, 0)) (by (with_reducible repeat (first | refine blk_drewN ?_ _ | refine blk_drew ?_ | refine blk_alloc ?_ _)); exact BK295.out) hb); have n1_ := Aside0.mk (below_step (by repeat (first | (with_reducible first | exact HB.out | apply below_alloc | apply pw_below_drewN | apply below_drew1 | refine below_set ?_ GE295.out) | exact HB.out)) hb); clear BK295; clear HB; have BK295 := n0_; have HB := n1_; clear n0_ n1_; (try clear hb); (try clear hb2); (try clear hk); (try clear hi)))
      go_meet
      case rel => exact ⟨_, (!t297), (by first | rfl | (simp; done) | (simp [*]; done)), H', ⟨by first | omega | exact Nat.le_refl _⟩, ⟨by (with_reducible repeat (first | refine blk_drewN ?_ _ | refine blk_drew ?_ | refine blk_alloc ?_ _)); exact BK295.out⟩, ⟨by repeat (first | (with_reducible first | exact HB.out | apply below_alloc | apply pw_below_drewN | apply below_drew1 | refine below_set ?_ GE295.out) | exact HB.out)⟩⟩
    · replace c7 := Bool.eq_false_iff.mpr c7
      subst c7
      have H1 : (impl_TruthsToChange.j0 k l0 a2 true a1_0 a1_1 a1_2 a1_3 a1_4 a1_5 a1_6) = some (r1, r2) := by rw [if_neg (show ¬ (false = true) by decide)] at H; exact H
      clear H
      have H := H1
      clear H1
      have H' := Aside0.mk H
      clear H
      go_wp2_with (first | ((with_reducible refine gate_callee (f := 68) rfl ?_); refine goesL_ (some 13) rfl rfl Try.func68 (by kernel_rfl) rfl #[.slice A0 l0.length c0] rfl (by (try simp only [List.map_toArray, List.map_cons, List.map_nil]); first | done | rfl | (simp only [List.length_drop, List.length_take]; rfl)) ?_; (with_reducible refine (impl_IsRulebook.calls k _ _ l0 false _ ?side1 ?side2 A6.out).mono ?_); (case side1 => repeat (first | exact (Kd.C_below HR0.out HB.out) | (with_reducible refine Kd.C_alloc ?_ _) | (with_reducible refine Kd.C_drewN ?_ _) | (with_reducible refine Kd.C_drew ?_))); (case side2 => exact HC0.out); rintro e w12 ⟨rfl, hb⟩; refine ⟨_, rfl, ?_⟩; have n0_ := Aside0.mk (blk_below (g := gb295) (o := .cells #[.int .i64 a1_0, .int .i64 a1_1, .string a1_2, .int .i64 a1_3, .bool a1_4, .bool a1_5, .bool a1_6] 25 (0, 0)) (by (with_reducible repeat (first | refine blk_drewN ?_ _ | refine blk_drew ?_ | refine blk_alloc ?_ _)); exact BK295.out) hb); have n1_ := Aside0.mk (below_step (by repeat (first | (with_reducible first | exact HB.out | apply below_alloc | apply pw_below_drewN | apply below_drew1 | refine below_set ?_ GE295.out) | exact HB.out)) hb); clear BK295; clear HB; have BK295 := n0_; have HB := n1_; clear n0_ n1_; (try clear hb); (try clear hb2); (try clear hk); (try clear hi)))
      go_meet
      case rel => exact ⟨_, (true), (by first | rfl | (simp; done) | (simp [*]; done)), H', ⟨by first | omega | exact Nat.le_refl _⟩, ⟨by (with_reducible repeat (first | refine blk_drewN ?_ _ | refine blk_drew ?_ | refine blk_alloc ?_ _)); exact BK295.out⟩, ⟨by repeat (first | (with_reducible first | exact HB.out | apply below_alloc | apply pw_below_drewN | apply below_drew1 | refine below_set ?_ GE295.out) | exact HB.out)⟩⟩
  case rest =>
    clear HC4
    try clear c2
    try clear p2
    try clear c6
    try clear c7
    try clear hcz10_0
    try clear hcz10_1
    try clear hcz10_2
    try clear hcz10_3
    try clear hcz10_4
    try clear hcz10_5
    try clear hcz10_6
    try clear hfz10_0
    try clear hfz10_1
    try clear hfz10_2
    try clear hfz10_3
    try clear hfz10_4
    try clear hfz10_5
    try clear hfz10_6
    obtain ⟨kq, x11_3, rfl, HA, HJ3, BK295, HB⟩ := hcut
    cases kq with
    | zero => exact absurd HA.out (by simp [impl_TruthsToChange.j0])
    | succ kj3 =>
      have H := HA.out
      clear HA
      simp only [impl_TruthsToChange.j0] at H
      by_cases c13 : x11_3 = true
      · subst c13
        have H1 : (some (0, 1)) = some (r1, r2) := by rw [if_pos rfl] at H; exact H
        clear H
        have H := H1
        clear H1
        simp only [Option.some.injEq, Prod.mk.injEq] at H
        obtain ⟨rfl, rfl⟩ := H
        go_wp2
        go_ret2
        exact ⟨by first | rfl | (simp [errW_none, errW_some] <;> rfl) | (simp [*, errW_none, errW_some] <;> rfl), by repeat (first | (with_reducible first | exact HB.out | apply below_alloc | apply pw_below_drewN | apply below_drew1 | refine below_set ?_ GE295.out) | exact HB.out)⟩
      · replace c13 := Bool.eq_false_iff.mpr c13
        subst c13
        have H1 : ((impl_isResult.f a2).bind fun t298 => (if t298 = true then ((impl_plainEvents.f kj3).bind fun t299 => (impl_TruthsToChange.l0 kj3 l0 a2 4 t299 (t299.length : Int) 0 a1_0 a1_1 a1_2 a1_3 a1_4 a1_5 a1_6)) else (some (0, 2)))) = some (r1, r2) := by rw [if_neg (show ¬ (false = true) by decide)] at H; exact H
        clear H
        have H := H1
        clear H1
        replace H := Option.bind_eq_some_iff.mp H
        obtain ⟨t298, A140, H⟩ := H
        replace H : (if t298 = true then ((impl_plainEvents.f kj3).bind fun t299 => (impl_TruthsToChange.l0 kj3 l0 a2 4 t299 (t299.length : Int) 0 a1_0 a1_1 a1_2 a1_3 a1_4 a1_5 a1_6)) else (some (0, 2))) = some (r1, r2) := H
        have A14 := Aside0.mk A140
        clear A140
        by_cases c15 : t298 = true
        · subst c15
          have H1 : ((impl_plainEvents.f kj3).bind fun t299 => (impl_TruthsToChange.l0 kj3 l0 a2 4 t299 (t299.length : Int) 0 a1_0 a1_1 a1_2 a1_3 a1_4 a1_5 a1_6)) = some (r1, r2) := by rw [if_pos rfl] at H; exact H
          clear H
          have H := H1
          clear H1
          replace H := Option.bind_eq_some_iff.mp H
          obtain ⟨t299, A160, H⟩ := H
          replace H : (impl_TruthsToChange.l0 kj3 l0 a2 4 t299 (t299.length : Int) 0 a1_0 a1_1 a1_2 a1_3 a1_4 a1_5 a1_6) = some (r1, r2) := H
          have A16 := Aside0.mk A160
          clear A160
          have H' := Aside0.mk H
          clear H
          go_wp2_with (first | ((with_reducible refine gate_callee (f := 86) rfl ?_); refine goesL_ (some 22) rfl rfl Try.func86 (by kernel_rfl) rfl #[.int .i64 a2] rfl (by (try simp only [List.map_toArray, List.map_cons, List.map_nil]); first | done | rfl | (simp only [List.length_drop, List.length_take]; rfl)) ?_; (with_reducible refine (impl_isResult.calls a2 true _ A14.out).mono ?_); rintro e w' ⟨rfl, ⟨nd, rfl⟩⟩; refine ⟨_, rfl, ?_⟩) | ((with_reducible refine gate_callee (f := 87) rfl ?_); refine goesL_ (some 24) rfl rfl Try.func87 (by kernel_rfl) rfl #[] rfl (by (try simp only [List.map_toArray, List.map_cons, List.map_nil]); first | done | rfl | (simp only [List.length_drop, List.length_take]; rfl)) ?_; (with_reducible refine (impl_plainEvents.calls kj3  t299 _ A16.out).mono ?_); rintro e w17 ⟨v300, rfl, ho0, hb⟩; refine ⟨_, rfl, ?_⟩; have n0_ := Aside0.mk (Kd.R_lower (Kd.R_newB ho0 (g := gb295) (o := .cells #[.int .i64 a1_0, .int .i64 a1_1, .string a1_2, .int .i64 a1_3, .bool a1_4, .bool a1_5, .bool a1_6] 25 (0, 0)) (by (with_reducible repeat (first | refine blk_drewN ?_ _ | refine blk_drew ?_ | refine blk_alloc ?_ _)); exact BK295.out)) (below_size (by repeat (first | (with_reducible first | exact HB.out | apply below_alloc | apply pw_below_drewN | apply below_drew1 | refine below_set ?_ GE295.out) | exact HB.out)))); have n1_ := Aside0.mk (blk_below (g := gb295) (o := .cells #[.int .i64 a1_0, .int .i64 a1_1, .string a1_2, .int .i64 a1_3, .bool a1_4, .bool a1_5, .bool a1_6] 25 (0, 0)) (by (with_reducible repeat (first | refine blk_drewN ?_ _ | refine blk_drew ?_ | refine blk_alloc ?_ _)); exact BK295.out) hb); have n2_ := Aside0.mk (below_step (by repeat (first | (with_reducible first | exact HB.out | apply below_alloc | apply pw_below_drewN | apply below_drew1 | refine below_set ?_ GE295.out) | exact HB.out)) hb); clear BK295; clear HB; have HO301 := n0_; have BK295 := n1_; have HB := n2_; clear n0_ n1_ n2_; (try clear hb); (try clear hb2); (try clear hk); (try clear hi); (try clear ho0); obtain ⟨Ao18, co18, eo18⟩ := Kd.R_slice HO301.out; subst eo18))
          go_loopg [8, 26] kj3 (fun kq v8 v26 w' => ∃ (x8_2 : Int) (x26_2 : Int), v8 = .int .i64 x8_2 ∧ v26 = .int .i64 x26_2 ∧ Aside0 (impl_TruthsToChange.l0 kq l0 a2 x8_2 t299 (t299.length : Int) x26_2 a1_0 a1_1 a1_2 a1_3 a1_4 a1_5 a1_6 = some (r1, r2)) ∧ Aside0 (kq ≤ kj3) ∧ Aside0 (Kd.R k25 25 w' w.heap.size (fun k_ => k_ ≠ gb295) (.slice Ao18 t299.length co18) t299) ∧ Aside0 (w'.heap[gb295]? = some (.cells #[.int .i64 a1_0, .int .i64 a1_1, .string a1_2, .int .i64 a1_3, .bool a1_4, .bool a1_5, .bool a1_6] 25 (0, 0))) ∧ Aside0 (Below w.heap.size w w'))
          case atStart => exact ⟨(4), (0), (by first | rfl | (simp; done) | (simp [*]; done)), (by first | rfl | (simp; done) | (simp [*]; done)), H', ⟨Nat.le_refl _⟩, ⟨by (with_reducible repeat (first | apply Kd.R_alloc | apply Kd.R_drewN | apply Kd.R_drew)); exact Kd.R_mono HO301.out (fun _ hk => hk.2)⟩, ⟨by (with_reducible repeat (first | refine blk_drewN ?_ _ | refine blk_drew ?_ | refine blk_alloc ?_ _)); exact BK295.out⟩, ⟨by repeat (first | (with_reducible first | exact HB.out | apply below_alloc | apply pw_below_drewN | apply below_drew1 | refine below_set ?_ GE295.out) | exact HB.out)⟩⟩
          case round =>
            clear H'
            try clear c1
            try clear c2
            try clear p2
            try clear c6
            try clear c7
            try clear c8
            try clear c13
            try clear c15
            try clear hcz10_0
            try clear hcz10_1
            try clear hcz10_2
            try clear hcz10_3
            try clear hcz10_4
            try clear hcz10_5
            try clear hcz10_6
            try clear hfz10_0
            try clear hfz10_1
            try clear hfz10_2
            try clear hfz10_3
            try clear hfz10_4
            try clear hfz10_5
            try clear hfz10_6
            try clear p2
            obtain ⟨x8_2, x26_2, rfl, rfl, HA, HK2, HO_24, BK295, HB⟩ := hrel
            cases gk with
            | zero => exact absurd HA.out (by simp [impl_TruthsToChange.l0])
            | succ k2 =>
              have H := HA.out
              clear HA
              simp only [impl_TruthsToChange.l0] at H
              by_cases c19 : x26_2 < (t299.length : Int)
              · rw [if_pos c19] at H
                have c19b0 : decide (x26_2 < (t299.length : Int)) = true := decide_eq_true c19
                clear c19
                by_cases c20 : 0 ≤ x26_2
                · rw [if_pos c20] at H
                  have c20b0 : decide (0 ≤ x26_2) = true := decide_eq_true c20
                  clear c20
                  by_cases c21 : x26_2 < (t299.length : Int)
                  · rw [if_pos c21] at H
                    have c21b0 : decide (x26_2 < (t299.length : Int)) = true := decide_eq_true c21
                    clear c21
                    by_cases c22 : ((rd_T25 t299 x26_2).f1) = a1_1
                    · rw [if_pos c22] at H
                      have c22b0 : (((rd_T25 t299 x26_2).f1) == a1_1) = true := beq_iff_eq.mpr c22
                      have c22b1 : (((rd_T25 t299 x26_2).f1) != a1_1) = false := bne_eq_false_iff_eq.mpr c22
                      clear c22
                      replace H := Option.bind_eq_some_iff.mp H
                      obtain ⟨⟨t304, t305⟩, A230, H⟩ := H
                      replace H : (if t304 = a2 then ((impl_changed.f k2 ((rd_T25 t299 x26_2).f0) ((rd_T25 t299 x26_2).f1) ((rd_T25 t299 x26_2).f2) ((rd_T25 t299 x26_2).f3) ((rd_T25 t299 x26_2).f4) ((rd_T25 t299 x26_2).f5) ((rd_T25 t299 x26_2).f6) a1_0 a1_1 a1_2 a1_3 a1_4 a1_5 a1_6).bind fun t308 => (impl_TruthsToChange.l0 k2 l0 a2 (mn x8_2 t308) t299 (t299.length : Int) (wrap64 (x26_2 + 1)) a1_0 a1_1 a1_2 a1_3 a1_4 a1_5 a1_6)) else (impl_TruthsToChange.l0 k2 l0 a2 x8_2 t299 (t299.length : Int) (wrap64 (x26_2 + 1)) a1_0 a1_1 a1_2 a1_3 a1_4 a1_5 a1_6)) = some (r1, r2) := H
                      have A23 := Aside0.mk A230
                      clear A230
                      by_cases c24 : t304 = a2
                      · rw [if_pos c24] at H
                        have c24b0 : (t304 == a2) = true := beq_iff_eq.mpr c24
                        have c24b1 : (t304 != a2) = false := bne_eq_false_iff_eq.mpr c24
                        clear c24
                        replace H := Option.bind_eq_some_iff.mp H
                        obtain ⟨t308, A250, H⟩ := H
                        replace H : (impl_TruthsToChange.l0 k2 l0 a2 (mn x8_2 t308) t299 (t299.length : Int) (wrap64 (x26_2 + 1)) a1_0 a1_1 a1_2 a1_3 a1_4 a1_5 a1_6) = some (r1, r2) := H
                        have A25 := Aside0.mk A250
                        clear A250
                        obtain ⟨ji26, hji26⟩ : ∃ j_ : Int, (mn x8_2 t308) = j_ := ⟨_, rfl⟩
                        replace H : (impl_TruthsToChange.l0 k2 l0 a2 ji26 t299 (t299.length : Int) (wrap64 (x26_2 + 1)) a1_0 a1_1 a1_2 a1_3 a1_4 a1_5 a1_6) = some (r1, r2) := by first | (rw [hji26] at H; exact H) | (simp only [hji26] at H ⊢; exact H)
                        (try rw [hji26] at A23)
                        (try rw [hji26] at A25)
                        have hji26_ : (if t308 < x8_2 then t308 else x8_2) = ji26 := hji26
                        have H' := Aside0.mk H
                        clear H
                        have p302 : 0 ≤ (x26_2 : Int) := of_decide_eq_true (by first | (with_reducible assumption) | assumption)
                        have q302 : x26_2 < (t299.length : Int) := of_decide_eq_true (by first | (with_reducible assumption) | assumption)
                        obtain ⟨ad302, e302, hx302_0, hx302_1, hx302_2, hx302_3, hx302_4, hx302_5, hx302_6⟩ := at_T25 (Kd.R_reads' HO_24.out).2.2 x26_2 p302 q302
                        cases e302
                        replace p302 := eq_true p302
                        replace q302 := eq_true q302
                        go_wp2_with (first | ((with_reducible refine gate_dst (N := 10) rfl ?_); refine box_event ?hg (N := 10) ?hd (cs := #[.int .i64 0, .int .i64 0, .string (⟨#[]⟩ : ByteArray), .int .i64 0, .bool false, .bool false, .bool false]) (t := 25) ?hr ?_; (case hd => rfl); (case hg => rfl); (case hr => first | (go_simp; done) | (go_simp; rfl)); intro gb303 hg w27 hbox hb; have n0_ := Aside0.mk (Kd.R_below (Kd.R_elderB (by (with_reducible repeat (first | apply Kd.R_alloc | apply Kd.R_drewN | apply Kd.R_drew)); exact HO_24.out) gb303 (Nat.le_of_eq hg.symm)) hb); have n1_ := Aside0.mk (blk_below (g := gb295) (o := .cells #[.int .i64 a1_0, .int .i64 a1_1, .string a1_2, .int .i64 a1_3, .bool a1_4, .bool a1_5, .bool a1_6] 25 (0, 0)) (by (with_reducible repeat (first | refine blk_drewN ?_ _ | refine blk_drew ?_ | refine blk_alloc ?_ _)); exact BK295.out) hb); have n2_ := Aside0.mk (below_step (by repeat (first | (with_reducible first | exact HB.out | apply below_alloc | apply pw_below_drewN | apply below_drew1 | refine below_set ?_ GE295.out) | exact HB.out)) hb); have n3_ := Aside0.mk (hbox); have n4_ := Aside0.mk ((by rw [hg]; exact (below_size (by repeat (first | (with_reducible first | exact HB.out | apply below_alloc | apply pw_below_drewN | apply below_drew1 | refine below_set ?_ GE295.out) | exact HB.out))) : w.heap.size ≤ gb303)); have n5_ := Aside0.mk ((by rw [hg]; exact (below_size (by repeat (first | (with_reducible first | exact HB.out | apply below_alloc | apply pw_below_drewN | apply below_drew1 | refine below_set ?_ GE295.out) | exact HB.out))) : w.heap.size ≤ gb303)); have n6_ := Aside0.mk ((by rw [hg]; exact Nat.ne_of_lt (blk_lt (g := gb295) (o := .cells #[.int .i64 a1_0, .int .i64 a1_1, .string a1_2, .int .i64 a1_3, .bool a1_4, .bool a1_5, .bool a1_6] 25 (0, 0)) (by (with_reducible repeat (first | refine blk_drewN ?_ _ | refine blk_drew ?_ | refine blk_alloc ?_ _)); exact BK295.out)) : gb295 ≠ gb303)); have n7_ := Aside0.mk ((by rw [hg]; exact Nat.ne_of_gt (blk_lt (g := gb295) (o := .cells #[.int .i64 a1_0, .int .i64 a1_1, .string a1_2, .int .i64 a1_3, .bool a1_4, .bool a1_5, .bool a1_6] 25 (0, 0)) (by (with_reducible repeat (first | refine blk_drewN ?_ _ | refine blk_drew ?_ | refine blk_alloc ?_ _)); exact BK295.out)) : gb303 ≠ gb295)); clear HO_24; clear BK295; clear HB; have HO_24 := n0_; have BK295 := n1_; have HB := n2_; have BK303 := n3_; have GW303 := n4_; have GE303 := n5_; have NB295_303 := n6_; have NB303_295 := n7_; clear n0_ n1_ n2_ n3_ n4_ n5_ n6_ n7_; clear hb hbox hg; have hnb28 := NB303_295.out; have hnc28 := NB295_303.out; have hcz29_0 : w27.cell? ⟨gb303, 0, none⟩ = some (.int .i64 0) := (blk_cell BK303.out 0).trans rfl; have hcz29_1 : w27.cell? ⟨gb303, 1, none⟩ = some (.int .i64 0) := (blk_cell BK303.out 1).trans rfl; have hcz29_2 : w27.cell? ⟨gb303, 2, none⟩ = some (.string (⟨#[]⟩ : ByteArray)) := (blk_cell BK303.out 2).trans rfl; have hcz29_3 : w27.cell? ⟨gb303, 3, none⟩ = some (.int .i64 0) := (blk_cell BK303.out 3).trans rfl; have hcz29_4 : w27.cell? ⟨gb303, 4, none⟩ = some (.bool false) := (blk_cell BK303.out 4).trans rfl; have hcz29_5 : w27.cell? ⟨gb303, 5, none⟩ = some (.bool false) := (blk_cell BK303.out 5).trans rfl; have hcz29_6 : w27.cell? ⟨gb303, 6, none⟩ = some (.bool false) := (blk_cell BK303.out 6).trans rfl; have hfz29_0 := blk_frozen BK303.out 0; have hfz29_1 := blk_frozen BK303.out 1; have hfz29_2 := blk_frozen BK303.out 2; have hfz29_3 := blk_frozen BK303.out 3; have hfz29_4 := blk_frozen BK303.out 4; have hfz29_5 := blk_frozen BK303.out 5; have hfz29_6 := blk_frozen BK303.out 6; have hcz30_0 : w27.cell? ⟨gb295, 0, none⟩ = some (.int .i64 a1_0) := (blk_cell BK295.out 0).trans rfl; have hcz30_1 : w27.cell? ⟨gb295, 1, none⟩ = some (.int .i64 a1_1) := (blk_cell BK295.out 1).trans rfl; have hcz30_2 : w27.cell? ⟨gb295, 2, none⟩ = some (.string a1_2) := (blk_cell BK295.out 2).trans rfl; have hcz30_3 : w27.cell? ⟨gb295, 3, none⟩ = some (.int .i64 a1_3) := (blk_cell BK295.out 3).trans rfl; have hcz30_4 : w27.cell? ⟨gb295, 4, none⟩ = some (.bool a1_4) := (blk_cell BK295.out 4).trans rfl; have hcz30_5 : w27.cell? ⟨gb295, 5, none⟩ = some (.bool a1_5) := (blk_cell BK295.out 5).trans rfl; have hcz30_6 : w27.cell? ⟨gb295, 6, none⟩ = some (.bool a1_6) := (blk_cell BK295.out 6).trans rfl; have hfz30_0 := blk_frozen BK295.out 0; have hfz30_1 := blk_frozen BK295.out 1; have hfz30_2 := blk_frozen BK295.out 2; have hfz30_3 := blk_frozen BK295.out 3; have hfz30_4 := blk_frozen BK295.out 4; have hfz30_5 := blk_frozen BK295.out 5; have hfz30_6 := blk_frozen BK295.out 6) | (go_at_call 88; (with_reducible refine (impl_decide.calls k2 _ _ l0 ((rd_T25 t299 x26_2).f0) ((rd_T25 t299 x26_2).f1) ((rd_T25 t299 x26_2).f2) ((rd_T25 t299 x26_2).f3) ((rd_T25 t299 x26_2).f4) ((rd_T25 t299 x26_2).f5) ((rd_T25 t299 x26_2).f6) t304 t305 _ ?side1 ?side2 A23.out).mono ?_); (case side1 => exact Kd.C_below HR0.out (by repeat (first | (with_reducible first | exact HB.out | apply below_alloc | apply pw_below_drewN | apply below_drew1 | refine below_set ?_ GE295.out | refine below_set ?_ GE303.out) | exact HB.out))); (case side2 => exact HC0.out); rintro e w31 ⟨v306, rfl, ho0, hb⟩; have n0_ := Aside0.mk (Kd.R_below (by (with_reducible repeat (first | apply Kd.R_alloc | apply Kd.R_drewN | apply Kd.R_drew)); exact (Kd.R_mono (Kd.R_far (p := ⟨gb303, 6, none⟩) (Kd.R_far (p := ⟨gb303, 5, none⟩) (Kd.R_far (p := ⟨gb303, 4, none⟩) (Kd.R_far (p := ⟨gb303, 3, none⟩) (Kd.R_far (p := ⟨gb303, 2, none⟩) (Kd.R_far (p := ⟨gb303, 1, none⟩) (Kd.R_far (p := ⟨gb303, 0, none⟩) (Kd.R_mono HO_24.out (fun k_ hk => (⟨hk, hk.2⟩ : _ ∧ k_ ≠ gb303))) (fun _ hk => hk.2) (.int .i64 ((rd_T25 t299 x26_2).f0))) (fun _ hk => hk.2) (.int .i64 ((rd_T25 t299 x26_2).f1))) (fun _ hk => hk.2) (.string ((rd_T25 t299 x26_2).f2))) (fun _ hk => hk.2) (.int .i64 ((rd_T25 t299 x26_2).f3))) (fun _ hk => hk.2) (.bool ((rd_T25 t299 x26_2).f4))) (fun _ hk => hk.2) (.bool ((rd_T25 t299 x26_2).f5))) (fun _ hk => hk.2) (.bool ((rd_T25 t299 x26_2).f6))) (fun _ h_ => h_.1))) hb); have n1_ := Aside0.mk (Kd.R_lower ho0 (below_size (by repeat (first | (with_reducible first | exact HB.out | apply below_alloc | apply pw_below_drewN | apply below_drew1 | refine below_set ?_ GE295.out | refine below_set ?_ GE303.out) | exact HB.out)))); have n2_ := Aside0.mk (blk_below (g := gb295) (o := .cells #[.int .i64 a1_0, .int .i64 a1_1, .string a1_2, .int .i64 a1_3, .bool a1_4, .bool a1_5, .bool a1_6] 25 (0, 0)) (by (with_reducible repeat (first | refine blk_drewN ?_ _ | refine blk_drew ?_ | refine blk_alloc ?_ _)); refine blk_far ?_ NB295_303.out _; (with_reducible repeat (first | refine blk_drewN ?_ _ | refine blk_drew ?_ | refine blk_alloc ?_ _)); refine blk_far ?_ NB295_303.out _; (with_reducible repeat (first | refine blk_drewN ?_ _ | refine blk_drew ?_ | refine blk_alloc ?_ _)); refine blk_far ?_ NB295_303.out _; (with_reducible repeat (first | refine blk_drewN ?_ _ | refine blk_drew ?_ | refine blk_alloc ?_ _)); refine blk_far ?_ NB295_303.out _; (with_reducible repeat (first | refine blk_drewN ?_ _ | refine blk_drew ?_ | refine blk_alloc ?_ _)); refine blk_far ?_ NB295_303.out _; (with_reducible repeat (first | refine blk_drewN ?_ _ | refine blk_drew ?_ | refine blk_alloc ?_ _)); refine blk_far ?_ NB295_303.out _; (with_reducible repeat (first | refine blk_drewN ?_ _ | refine blk_drew ?_ | refine blk_alloc ?_ _)); refine blk_far ?_ NB295_303.out _; (with_reducible repeat (first | refine blk_drewN ?_ _ | refine blk_drew ?_ | refine blk_alloc ?_ _)); exact BK295.out) hb); have n3_ := Aside0.mk (blk_below (g := gb303) (o := .cells #[.int .i64 ((rd_T25 t299 x26_2).f0), .int .i64 ((rd_T25 t299 x26_2).f1), .string ((rd_T25 t299 x26_2).f2), .int .i64 ((rd_T25 t299 x26_2).f3), .bool ((rd_T25 t299 x26_2).f4), .bool ((rd_T25 t299 x26_2).f5), .bool ((rd_T25 t299 x26_2).f6)] 25 (0, 0)) (by (with_reducible repeat (first | refine blk_drewN ?_ _ | refine blk_drew ?_ | refine blk_alloc ?_ _)); refine blk_put (cs := #[.int .i64 ((rd_T25 t299 x26_2).f0), .int .i64 ((rd_T25 t299 x26_2).f1), .string ((rd_T25 t299 x26_2).f2), .int .i64 ((rd_T25 t299 x26_2).f3), .bool ((rd_T25 t299 x26_2).f4), .bool ((rd_T25 t299 x26_2).f5), .bool false]) ?_ 6 _ rfl; (with_reducible repeat (first | refine blk_drewN ?_ _ | refine blk_drew ?_ | refine blk_alloc ?_ _)); refine blk_put (cs := #[.int .i64 ((rd_T25 t299 x26_2).f0), .int .i64 ((rd_T25 t299 x26_2).f1), .string ((rd_T25 t299 x26_2).f2), .int .i64 ((rd_T25 t299 x26_2).f3), .bool ((rd_T25 t299 x26_2).f4), .bool false, .bool false]) ?_ 5 _ rfl; (with_reducible repeat (first | refine blk_drewN ?_ _ | refine blk_drew ?_ | refine blk_alloc ?_ _)); refine blk_put (cs := #[.int .i64 ((rd_T25 t299 x26_2).f0), .int .i64 ((rd_T25 t299 x26_2).f1), .string ((rd_T25 t299 x26_2).f2), .int .i64 ((rd_T25 t299 x26_2).f3), .bool false, .bool false, .bool false]) ?_ 4 _ rfl; (with_reducible repeat (first | refine blk_drewN ?_ _ | refine blk_drew ?_ | refine blk_alloc ?_ _)); refine blk_put (cs := #[.int .i64 ((rd_T25 t299 x26_2).f0), .int .i64 ((rd_T25 t299 x26_2).f1), .string ((rd_T25 t299 x26_2).f2), .int .i64 0, .bool false, .bool false, .bool false]) ?_ 3 _ rfl; (with_reducible repeat (first | refine blk_drewN ?_ _ | refine blk_drew ?_ | refine blk_alloc ?_ _)); refine blk_put (cs := #[.int .i64 ((rd_T25 t299 x26_2).f0), .int .i64 ((rd_T25 t299 x26_2).f1), .string (⟨#[]⟩ : ByteArray), .int .i64 0, .bool false, .bool false, .bool false]) ?_ 2 _ rfl; (with_reducible repeat (first | refine blk_drewN ?_ _ | refine blk_drew ?_ | refine blk_alloc ?_ _)); refine blk_put (cs := #[.int .i64 ((rd_T25 t299 x26_2).f0), .int .i64 0, .string (⟨#[]⟩ : ByteArray), .int .i64 0, .bool false, .bool false, .bool false]) ?_ 1 _ rfl; (with_reducible repeat (first | refine blk_drewN ?_ _ | refine blk_drew ?_ | refine blk_alloc ?_ _)); refine blk_put (cs := #[.int .i64 0, .int .i64 0, .string (⟨#[]⟩ : ByteArray), .int .i64 0, .bool false, .bool false, .bool false]) ?_ 0 _ rfl; (with_reducible repeat (first | refine blk_drewN ?_ _ | refine blk_drew ?_ | refine blk_alloc ?_ _)); exact BK303.out) hb); have n4_ := Aside0.mk (below_step (by repeat (first | (with_reducible first | exact HB.out | apply below_alloc | apply pw_below_drewN | apply below_drew1 | refine below_set ?_ GE295.out | refine below_set ?_ GE303.out) | exact HB.out)) hb); clear HO_24; clear BK295; clear BK303; clear HB; have HO_24 := n0_; have HO307 := n1_; have BK295 := n2_; have BK303 := n3_; have HB := n4_; clear n0_ n1_ n2_ n3_ n4_; (try clear hb); (try clear hb2); (try clear hk); (try clear hi); (try clear ho0); have hcz32_0 : w31.cell? ⟨gb303, 0, none⟩ = some (.int .i64 ((rd_T25 t299 x26_2).f0)) := (blk_cell BK303.out 0).trans rfl; have hcz32_1 : w31.cell? ⟨gb303, 1, none⟩ = some (.int .i64 ((rd_T25 t299 x26_2).f1)) := (blk_cell BK303.out 1).trans rfl; have hcz32_2 : w31.cell? ⟨gb303, 2, none⟩ = some (.string ((rd_T25 t299 x26_2).f2)) := (blk_cell BK303.out 2).trans rfl; have hcz32_3 : w31.cell? ⟨gb303, 3, none⟩ = some (.int .i64 ((rd_T25 t299 x26_2).f3)) := (blk_cell BK303.out 3).trans rfl; have hcz32_4 : w31.cell? ⟨gb303, 4, none⟩ = some (.bool ((rd_T25 t299 x26_2).f4)) := (blk_cell BK303.out 4).trans rfl; have hcz32_5 : w31.cell? ⟨gb303, 5, none⟩ = some (.bool ((rd_T25 t299 x26_2).f5)) := (blk_cell BK303.out 5).trans rfl; have hcz32_6 : w31.cell? ⟨gb303, 6, none⟩ = some (.bool ((rd_T25 t299 x26_2).f6)) := (blk_cell BK303.out 6).trans rfl; have hfz32_0 := blk_frozen BK303.out 0; have hfz32_1 := blk_frozen BK303.out 1; have hfz32_2 := blk_frozen BK303.out 2; have hfz32_3 := blk_frozen BK303.out 3; have hfz32_4 := blk_frozen BK303.out 4; have hfz32_5 := blk_frozen BK303.out 5; have hfz32_6 := blk_frozen BK303.out 6; have hcz33_0 : w31.cell? ⟨gb295, 0, none⟩ = some (.int .i64 a1_0) := (blk_cell BK295.out 0).trans rfl; have hcz33_1 : w31.cell? ⟨gb295, 1, none⟩ = some (.int .i64 a1_1) := (blk_cell BK295.out 1).trans rfl; have hcz33_2 : w31.cell? ⟨gb295, 2, none⟩ = some (.string a1_2) := (blk_cell BK295.out 2).trans rfl; have hcz33_3 : w31.cell? ⟨gb295, 3, none⟩ = some (.int .i64 a1_3) := (blk_cell BK295.out 3).trans rfl; have hcz33_4 : w31.cell? ⟨gb295, 4, none⟩ = some (.bool a1_4) := (blk_cell BK295.out 4).trans rfl; have hcz33_5 : w31.cell? ⟨gb295, 5, none⟩ = some (.bool a1_5) := (blk_cell BK295.out 5).trans rfl; have hcz33_6 : w31.cell? ⟨gb295, 6, none⟩ = some (.bool a1_6) := (blk_cell BK295.out 6).trans rfl; have hfz33_0 := blk_frozen BK295.out 0; have hfz33_1 := blk_frozen BK295.out 1; have hfz33_2 := blk_frozen BK295.out 2; have hfz33_3 := blk_frozen BK295.out 3; have hfz33_4 := blk_frozen BK295.out 4; have hfz33_5 := blk_frozen BK295.out 5; have hfz33_6 := blk_frozen BK295.out 6; obtain ⟨Av_ho0, cv_ho0, ev_ho0⟩ := Kd.R_slice HO307.out; subst ev_ho0) | ((with_reducible refine gate_callee (f := 93) rfl ?_); refine goesL_ (some 46) rfl rfl Try.func93 (by kernel_rfl) rfl #[.agg #[.int .i64 ((rd_T25 t299 x26_2).f0), .int .i64 ((rd_T25 t299 x26_2).f1), .string ((rd_T25 t299 x26_2).f2), .int .i64 ((rd_T25 t299 x26_2).f3), .bool ((rd_T25 t299 x26_2).f4), .bool ((rd_T25 t299 x26_2).f5), .bool ((rd_T25 t299 x26_2).f6)], .agg #[.int .i64 a1_0, .int .i64 a1_1, .string a1_2, .int .i64 a1_3, .bool a1_4, .bool a1_5, .bool a1_6]] rfl (by (try simp only [List.map_toArray, List.map_cons, List.map_nil]); first | done | rfl | (simp only [List.length_drop, List.length_take]; rfl)) ?_; (with_reducible refine (impl_changed.calls k2 ((rd_T25 t299 x26_2).f0) ((rd_T25 t299 x26_2).f1) ((rd_T25 t299 x26_2).f2) ((rd_T25 t299 x26_2).f3) ((rd_T25 t299 x26_2).f4) ((rd_T25 t299 x26_2).f5) ((rd_T25 t299 x26_2).f6) a1_0 a1_1 a1_2 a1_3 a1_4 a1_5 a1_6 t308 _ A25.out).mono ?_); rintro e w34 ⟨rfl, hb⟩; refine ⟨_, rfl, ?_⟩; have n0_ := Aside0.mk (Kd.R_below (by (with_reducible repeat (first | apply Kd.R_alloc | apply Kd.R_drewN | apply Kd.R_drew)); exact HO_24.out) hb); have n1_ := Aside0.mk (Kd.R_below (by (with_reducible repeat (first | apply Kd.R_alloc | apply Kd.R_drewN | apply Kd.R_drew)); exact HO307.out) hb); have n2_ := Aside0.mk (blk_below (g := gb295) (o := .cells #[.int .i64 a1_0, .int .i64 a1_1, .string a1_2, .int .i64 a1_3, .bool a1_4, .bool a1_5, .bool a1_6] 25 (0, 0)) (by (with_reducible repeat (first | refine blk_drewN ?_ _ | refine blk_drew ?_ | refine blk_alloc ?_ _)); exact BK295.out) hb); have n3_ := Aside0.mk (blk_below (g := gb303) (o := .cells #[.int .i64 ((rd_T25 t299 x26_2).f0), .int .i64 ((rd_T25 t299 x26_2).f1), .string ((rd_T25 t299 x26_2).f2), .int .i64 ((rd_T25 t299 x26_2).f3), .bool ((rd_T25 t299 x26_2).f4), .bool ((rd_T25 t299 x26_2).f5), .bool ((rd_T25 t299 x26_2).f6)] 25 (0, 0)) (by (with_reducible repeat (first | refine blk_drewN ?_ _ | refine blk_drew ?_ | refine blk_alloc ?_ _)); exact BK303.out) hb); have n4_ := Aside0.mk (below_step (by repeat (first | (with_reducible first | exact HB.out | apply below_alloc | apply pw_below_drewN | apply below_drew1 | refine below_set ?_ GE295.out | refine below_set ?_ GE303.out) | exact HB.out)) hb); clear HO_24; clear HO307; clear BK295; clear BK303; clear HB; have HO_24 := n0_; have HO307 := n1_; have BK295 := n2_; have BK303 := n3_; have HB := n4_; clear n0_ n1_ n2_ n3_ n4_; (try clear hb); (try clear hb2); (try clear hk); (try clear hi)))
                        go_roundg k2
                        case measure => have := HJ3.out; have := HK2.out; omega
                        case rel => exact ⟨(ji26), (wrap64 (x26_2 + 1)), (by first | rfl | (simp; done) | (simp only [← hji26] <;> (first | rfl | simp)) | (simp [*]; done)), (by first | rfl | (simp; done) | (simp [*]; done)), H', ⟨by have := HJ3.out; have := HK2.out; omega⟩, ⟨by (with_reducible repeat (first | apply Kd.R_alloc | apply Kd.R_drewN | apply Kd.R_drew)); exact Kd.R_mono HO_24.out (fun _ hk => hk.1)⟩, ⟨by (with_reducible repeat (first | refine blk_drewN ?_ _ | refine blk_drew ?_ | refine blk_alloc ?_ _)); exact BK295.out⟩, ⟨by repeat (first | (with_reducible first | exact HB.out | apply below_alloc | apply pw_below_drewN | apply below_drew1 | refine below_set ?_ GE295.out | refine below_set ?_ GE303.out) | exact HB.out)⟩⟩
                      · rw [if_neg c24] at H
                        have c24b0 : (t304 == a2) = false := beq_eq_false_iff_ne.mpr c24
                        have c24b1 : (t304 != a2) = true := bne_iff_ne.mpr c24
                        have H' := Aside0.mk H
                        clear H
                        have p302 : 0 ≤ (x26_2 : Int) := of_decide_eq_true (by first | (with_reducible assumption) | assumption)
                        have q302 : x26_2 < (t299.length : Int) := of_decide_eq_true (by first | (with_reducible assumption) | assumption)
                        obtain ⟨ad302, e302, hx302_0, hx302_1, hx302_2, hx302_3, hx302_4, hx302_5, hx302_6⟩ := at_T25 (Kd.R_reads' HO_24.out).2.2 x26_2 p302 q302
                        cases e302
                        replace p302 := eq_true p302
                        replace q302 := eq_true q302
                        go_wp2_with (first | ((with_reducible refine gate_dst (N := 10) rfl ?_); refine box_event ?hg (N := 10) ?hd (cs := #[.int .i64 0, .int .i64 0, .string (⟨#[]⟩ : ByteArray), .int .i64 0, .bool false, .bool false, .bool false]) (t := 25) ?hr ?_; (case hd => rfl); (case hg => rfl); (case hr => first | (go_simp; done) | (go_simp; rfl)); intro gb303 hg w35 hbox hb; have n0_ := Aside0.mk (Kd.R_below (Kd.R_elderB (by (with_reducible repeat (first | apply Kd.R_alloc | apply Kd.R_drewN | apply Kd.R_drew)); exact HO_24.out) gb303 (Nat.le_of_eq hg.symm)) hb); have n1_ := Aside0.mk (blk_below (g := gb295) (o := .cells #[.int .i64 a1_0, .int .i64 a1_1, .string a1_2, .int .i64 a1_3, .bool a1_4, .bool a1_5, .bool a1_6] 25 (0, 0)) (by (with_reducible repeat (first | refine blk_drewN ?_ _ | refine blk_drew ?_ | refine blk_alloc ?_ _)); exact BK295.out) hb); have n2_ := Aside0.mk (below_step (by repeat (first | (with_reducible first | exact HB.out | apply below_alloc | apply pw_below_drewN | apply below_drew1 | refine below_set ?_ GE295.out) | exact HB.out)) hb); have n3_ := Aside0.mk (hbox); have n4_ := Aside0.mk ((by rw [hg]; exact (below_size (by repeat (first | (with_reducible first | exact HB.out | apply below_alloc | apply pw_below_drewN | apply below_drew1 | refine below_set ?_ GE295.out) | exact HB.out))) : w.heap.size ≤ gb303)); have n5_ := Aside0.mk ((by rw [hg]; exact (below_size (by repeat (first | (with_reducible first | exact HB.out | apply below_alloc | apply pw_below_drewN | apply below_drew1 | refine below_set ?_ GE295.out) | exact HB.out))) : w.heap.size ≤ gb303)); have n6_ := Aside0.mk ((by rw [hg]; exact Nat.ne_of_lt (blk_lt (g := gb295) (o := .cells #[.int .i64 a1_0, .int .i64 a1_1, .string a1_2, .int .i64 a1_3, .bool a1_4, .bool a1_5, .bool a1_6] 25 (0, 0)) (by (with_reducible repeat (first | refine blk_drewN ?_ _ | refine blk_drew ?_ | refine blk_alloc ?_ _)); exact BK295.out)) : gb295 ≠ gb303)); have n7_ := Aside0.mk ((by rw [hg]; exact Nat.ne_of_gt (blk_lt (g := gb295) (o := .cells #[.int .i64 a1_0, .int .i64 a1_1, .string a1_2, .int .i64 a1_3, .bool a1_4, .bool a1_5, .bool a1_6] 25 (0, 0)) (by (with_reducible repeat (first | refine blk_drewN ?_ _ | refine blk_drew ?_ | refine blk_alloc ?_ _)); exact BK295.out)) : gb303 ≠ gb295)); clear HO_24; clear BK295; clear HB; have HO_24 := n0_; have BK295 := n1_; have HB := n2_; have BK303 := n3_; have GW303 := n4_; have GE303 := n5_; have NB295_303 := n6_; have NB303_295 := n7_; clear n0_ n1_ n2_ n3_ n4_ n5_ n6_ n7_; clear hb hbox hg; have hnb36 := NB303_295.out; have hnc36 := NB295_303.out; have hcz37_0 : w35.cell? ⟨gb303, 0, none⟩ = some (.int .i64 0) := (blk_cell BK303.out 0).trans rfl; have hcz37_1 : w35.cell? ⟨gb303, 1, none⟩ = some (.int .i64 0) := (blk_cell BK303.out 1).trans rfl; have hcz37_2 : w35.cell? ⟨gb303, 2, none⟩ = some (.string (⟨#[]⟩ : ByteArray)) := (blk_cell BK303.out 2).trans rfl; have hcz37_3 : w35.cell? ⟨gb303, 3, none⟩ = some (.int .i64 0) := (blk_cell BK303.out 3).trans rfl; have hcz37_4 : w35.cell? ⟨gb303, 4, none⟩ = some (.bool false) := (blk_cell BK303.out 4).trans rfl; have hcz37_5 : w35.cell? ⟨gb303, 5, none⟩ = some (.bool false) := (blk_cell BK303.out 5).trans rfl; have hcz37_6 : w35.cell? ⟨gb303, 6, none⟩ = some (.bool false) := (blk_cell BK303.out 6).trans rfl; have hfz37_0 := blk_frozen BK303.out 0; have hfz37_1 := blk_frozen BK303.out 1; have hfz37_2 := blk_frozen BK303.out 2; have hfz37_3 := blk_frozen BK303.out 3; have hfz37_4 := blk_frozen BK303.out 4; have hfz37_5 := blk_frozen BK303.out 5; have hfz37_6 := blk_frozen BK303.out 6; have hcz38_0 : w35.cell? ⟨gb295, 0, none⟩ = some (.int .i64 a1_0) := (blk_cell BK295.out 0).trans rfl; have hcz38_1 : w35.cell? ⟨gb295, 1, none⟩ = some (.int .i64 a1_1) := (blk_cell BK295.out 1).trans rfl; have hcz38_2 : w35.cell? ⟨gb295, 2, none⟩ = some (.string a1_2) := (blk_cell BK295.out 2).trans rfl; have hcz38_3 : w35.cell? ⟨gb295, 3, none⟩ = some (.int .i64 a1_3) := (blk_cell BK295.out 3).trans rfl; have hcz38_4 : w35.cell? ⟨gb295, 4, none⟩ = some (.bool a1_4) := (blk_cell BK295.out 4).trans rfl; have hcz38_5 : w35.cell? ⟨gb295, 5, none⟩ = some (.bool a1_5) := (blk_cell BK295.out 5).trans rfl; have hcz38_6 : w35.cell? ⟨gb295, 6, none⟩ = some (.bool a1_6) := (blk_cell BK295.out 6).trans rfl; have hfz38_0 := blk_frozen BK295.out 0; have hfz38_1 := blk_frozen BK295.out 1; have hfz38_2 := blk_frozen BK295.out 2; have hfz38_3 := blk_frozen BK295.out 3; have hfz38_4 := blk_frozen BK295.out 4; have hfz38_5 := blk_frozen BK295.out 5; have hfz38_6 := blk_frozen BK295.out 6) | (go_at_call 88; (with_reducible refine (impl_decide.calls k2 _ _ l0 ((rd_T25 t299 x26_2).f0) ((rd_T25 t299 x26_2).f1) ((rd_T25 t299 x26_2).f2) ((rd_T25 t299 x26_2).f3) ((rd_T25 t299 x26_2).f4) ((rd_T25 t299 x26_2).f5) ((rd_T25 t299 x26_2).f6) t304 t305 _ ?side1 ?side2 A23.out).mono ?_); (case side1 => exact Kd.C_below HR0.out (by repeat (first | (with_reducible first | exact HB.out | apply below_alloc | apply pw_below_drewN | apply below_drew1 | refine below_set ?_ GE295.out | refine below_set ?_ GE303.out) | exact HB.out))); (case side2 => exact HC0.out); rintro e w39 ⟨v306, rfl, ho0, hb⟩; have n0_ := Aside0.mk (Kd.R_below (by (with_reducible repeat (first | apply Kd.R_alloc | apply Kd.R_drewN | apply Kd.R_drew)); exact (Kd.R_mono (Kd.R_far (p := ⟨gb303, 6, none⟩) (Kd.R_far (p := ⟨gb303, 5, none⟩) (Kd.R_far (p := ⟨gb303, 4, none⟩) (Kd.R_far (p := ⟨gb303, 3, none⟩) (Kd.R_far (p := ⟨gb303, 2, none⟩) (Kd.R_far (p := ⟨gb303, 1, none⟩) (Kd.R_far (p := ⟨gb303, 0, none⟩) (Kd.R_mono HO_24.out (fun k_ hk => (⟨hk, hk.2⟩ : _ ∧ k_ ≠ gb303))) (fun _ hk => hk.2) (.int .i64 ((rd_T25 t299 x26_2).f0))) (fun _ hk => hk.2) (.int .i64 ((rd_T25 t299 x26_2).f1))) (fun _ hk => hk.2) (.string ((rd_T25 t299 x26_2).f2))) (fun _ hk => hk.2) (.int .i64 ((rd_T25 t299 x26_2).f3))) (fun _ hk => hk.2) (.bool ((rd_T25 t299 x26_2).f4))) (fun _ hk => hk.2) (.bool ((rd_T25 t299 x26_2).f5))) (fun _ hk => hk.2) (.bool ((rd_T25 t299 x26_2).f6))) (fun _ h_ => h_.1))) hb); have n1_ := Aside0.mk (Kd.R_lower ho0 (below_size (by repeat (first | (with_reducible first | exact HB.out | apply below_alloc | apply pw_below_drewN | apply below_drew1 | refine below_set ?_ GE295.out | refine below_set ?_ GE303.out) | exact HB.out)))); have n2_ := Aside0.mk (blk_below (g := gb295) (o := .cells #[.int .i64 a1_0, .int .i64 a1_1, .string a1_2, .int .i64 a1_3, .bool a1_4, .bool a1_5, .bool a1_6] 25 (0, 0)) (by (with_reducible repeat (first | refine blk_drewN ?_ _ | refine blk_drew ?_ | refine blk_alloc ?_ _)); refine blk_far ?_ NB295_303.out _; (with_reducible repeat (first | refine blk_drewN ?_ _ | refine blk_drew ?_ | refine blk_alloc ?_ _)); refine blk_far ?_ NB295_303.out _; (with_reducible repeat (first | refine blk_drewN ?_ _ | refine blk_drew ?_ | refine blk_alloc ?_ _)); refine blk_far ?_ NB295_303.out _; (with_reducible repeat (first | refine blk_drewN ?_ _ | refine blk_drew ?_ | refine blk_alloc ?_ _)); refine blk_far ?_ NB295_303.out _; (with_reducible repeat (first | refine blk_drewN ?_ _ | refine blk_drew ?_ | refine blk_alloc ?_ _)); refine blk_far ?_ NB295_303.out _; (with_reducible repeat (first | refine blk_drewN ?_ _ | refine blk_drew ?_ | refine blk_alloc ?_ _)); refine blk_far ?_ NB295_303.out _; (with_reducible repeat (first | refine blk_drewN ?_ _ | refine blk_drew ?_ | refine blk_alloc ?_ _)); refine blk_far ?_ NB295_303.out _; (with_reducible repeat (first | refine blk_drewN ?_ _ | refine blk_drew ?_ | refine blk_alloc ?_ _)); exact BK295.out) hb); have n3_ := Aside0.mk (blk_below (g := gb303) (o := .cells #[.int .i64 ((rd_T25 t299 x26_2).f0), .int .i64 ((rd_T25 t299 x26_2).f1), .string ((rd_T25 t299 x26_2).f2), .int .i64 ((rd_T25 t299 x26_2).f3), .bool ((rd_T25 t299 x26_2).f4), .bool ((rd_T25 t299 x26_2).f5), .bool ((rd_T25 t299 x26_2).f6)] 25 (0, 0)) (by (with_reducible repeat (first | refine blk_drewN ?_ _ | refine blk_drew ?_ | refine blk_alloc ?_ _)); refine blk_put (cs := #[.int .i64 ((rd_T25 t299 x26_2).f0), .int .i64 ((rd_T25 t299 x26_2).f1), .string ((rd_T25 t299 x26_2).f2), .int .i64 ((rd_T25 t299 x26_2).f3), .bool ((rd_T25 t299 x26_2).f4), .bool ((rd_T25 t299 x26_2).f5), .bool false]) ?_ 6 _ rfl; (with_reducible repeat (first | refine blk_drewN ?_ _ | refine blk_drew ?_ | refine blk_alloc ?_ _)); refine blk_put (cs := #[.int .i64 ((rd_T25 t299 x26_2).f0), .int .i64 ((rd_T25 t299 x26_2).f1), .string ((rd_T25 t299 x26_2).f2), .int .i64 ((rd_T25 t299 x26_2).f3), .bool ((rd_T25 t299 x26_2).f4), .bool false, .bool false]) ?_ 5 _ rfl; (with_reducible repeat (first | refine blk_drewN ?_ _ | refine blk_drew ?_ | refine blk_alloc ?_ _)); refine blk_put (cs := #[.int .i64 ((rd_T25 t299 x26_2).f0), .int .i64 ((rd_T25 t299 x26_2).f1), .string ((rd_T25 t299 x26_2).f2), .int .i64 ((rd_T25 t299 x26_2).f3), .bool false, .bool false, .bool false]) ?_ 4 _ rfl; (with_reducible repeat (first | refine blk_drewN ?_ _ | refine blk_drew ?_ | refine blk_alloc ?_ _)); refine blk_put (cs := #[.int .i64 ((rd_T25 t299 x26_2).f0), .int .i64 ((rd_T25 t299 x26_2).f1), .string ((rd_T25 t299 x26_2).f2), .int .i64 0, .bool false, .bool false, .bool false]) ?_ 3 _ rfl; (with_reducible repeat (first | refine blk_drewN ?_ _ | refine blk_drew ?_ | refine blk_alloc ?_ _)); refine blk_put (cs := #[.int .i64 ((rd_T25 t299 x26_2).f0), .int .i64 ((rd_T25 t299 x26_2).f1), .string (⟨#[]⟩ : ByteArray), .int .i64 0, .bool false, .bool false, .bool false]) ?_ 2 _ rfl; (with_reducible repeat (first | refine blk_drewN ?_ _ | refine blk_drew ?_ | refine blk_alloc ?_ _)); refine blk_put (cs := #[.int .i64 ((rd_T25 t299 x26_2).f0), .int .i64 0, .string (⟨#[]⟩ : ByteArray), .int .i64 0, .bool false, .bool false, .bool false]) ?_ 1 _ rfl; (with_reducible repeat (first | refine blk_drewN ?_ _ | refine blk_drew ?_ | refine blk_alloc ?_ _)); refine blk_put (cs := #[.int .i64 0, .int .i64 0, .string (⟨#[]⟩ : ByteArray), .int .i64 0, .bool false, .bool false, .bool false]) ?_ 0 _ rfl; (with_reducible repeat (first | refine blk_drewN ?_ _ | refine blk_drew ?_ | refine blk_alloc ?_ _)); exact BK303.out) hb); have n4_ := Aside0.mk (below_step (by repeat (first | (with_reducible first | exact HB.out | apply below_alloc | apply pw_below_drewN | apply below_drew1 | refine below_set ?_ GE295.out | refine below_set ?_ GE303.out) | exact HB.out)) hb); clear HO_24; clear BK295; clear BK303; clear HB; have HO_24 := n0_; have HO307 := n1_; have BK295 := n2_; have BK303 := n3_; have HB := n4_; clear n0_ n1_ n2_ n3_ n4_; (try clear hb); (try clear hb2); (try clear hk); (try clear hi); (try clear ho0); obtain ⟨Av_ho0, cv_ho0, ev_ho0⟩ := Kd.R_slice HO307.out; subst ev_ho0))
                        go_roundg k2
                        case measure => have := HJ3.out; have := HK2.out; omega
                        case rel => exact ⟨(x8_2), (wrap64 (x26_2 + 1)), (by first | rfl | (simp; done) | (simp [*]; done)), (by first | rfl | (simp; done) | (simp [*]; done)), H', ⟨by have := HJ3.out; have := HK2.out; omega⟩, ⟨by (with_reducible repeat (first | apply Kd.R_alloc | apply Kd.R_drewN | apply Kd.R_drew)); exact Kd.R_mono HO_24.out (fun _ hk => hk.1)⟩, ⟨by (with_reducible repeat (first | refine blk_drewN ?_ _ | refine blk_drew ?_ | refine blk_alloc ?_ _)); exact BK295.out⟩, ⟨by repeat (first | (with_reducible first | exact HB.out | apply below_alloc | apply pw_below_drewN | apply below_drew1 | refine below_set ?_ GE295.out | refine below_set ?_ GE303.out) | exact HB.out)⟩⟩
                    · rw [if_neg c22] at H
                      have c22b0 : (((rd_T25 t299 x26_2).f1) == a1_1) = false := beq_eq_false_iff_ne.mpr c22
                      have c22b1 : (((rd_T25 t299 x26_2).f1) != a1_1) = true := bne_iff_ne.mpr c22
                      have H' := Aside0.mk H
                      clear H
                      have p302 : 0 ≤ (x26_2 : Int) := of_decide_eq_true (by first | (with_reducible assumption) | assumption)
                      have q302 : x26_2 < (t299.length : Int) := of_decide_eq_true (by first | (with_reducible assumption) | assumption)
                      obtain ⟨ad302, e302, hx302_0, hx302_1, hx302_2, hx302_3, hx302_4, hx302_5, hx302_6⟩ := at_T25 (Kd.R_reads' HO_24.out).2.2 x26_2 p302 q302
                      cases e302
                      replace p302 := eq_true p302
                      replace q302 := eq_true q302
                      go_wp2_with (first | ((with_reducible refine gate_dst (N := 10) rfl ?_); refine box_event ?hg (N := 10) ?hd (cs := #[.int .i64 0, .int .i64 0, .string (⟨#[]⟩ : ByteArray), .int .i64 0, .bool false, .bool false, .bool false]) (t := 25) ?hr ?_; (case hd => rfl); (case hg => rfl); (case hr => first | (go_simp; done) | (go_simp; rfl)); intro gb303 hg w40 hbox hb; have n0_ := Aside0.mk (Kd.R_below (Kd.R_elderB (by (with_reducible repeat (first | apply Kd.R_alloc | apply Kd.R_drewN | apply Kd.R_drew)); exact HO_24.out) gb303 (Nat.le_of_eq hg.symm)) hb); have n1_ := Aside0.mk (blk_below (g := gb295) (o := .cells #[.int .i64 a1_0, .int .i64 a1_1, .string a1_2, .int .i64 a1_3, .bool a1_4, .bool a1_5, .bool a1_6] 25 (0, 0)) (by (with_reducible repeat (first | refine blk_drewN ?_ _ | refine blk_drew ?_ | refine blk_alloc ?_ _)); exact BK295.out) hb); have n2_ := Aside0.mk (below_step (by repeat (first | (with_reducible first | exact HB.out | apply below_alloc | apply pw_below_drewN | apply below_drew1 | refine below_set ?_ GE295.out) | exact HB.out)) hb); have n3_ := Aside0.mk (hbox); have n4_ := Aside0.mk ((by rw [hg]; exact (below_size (by repeat (first | (with_reducible first | exact HB.out | apply below_alloc | apply pw_below_drewN | apply below_drew1 | refine below_set ?_ GE295.out) | exact HB.out))) : w.heap.size ≤ gb303)); have n5_ := Aside0.mk ((by rw [hg]; exact (below_size (by repeat (first | (with_reducible first | exact HB.out | apply below_alloc | apply pw_below_drewN | apply below_drew1 | refine below_set ?_ GE295.out) | exact HB.out))) : w.heap.size ≤ gb303)); have n6_ := Aside0.mk ((by rw [hg]; exact Nat.ne_of_lt (blk_lt (g := gb295) (o := .cells #[.int .i64 a1_0, .int .i64 a1_1, .string a1_2, .int .i64 a1_3, .bool a1_4, .bool a1_5, .bool a1_6] 25 (0, 0)) (by (with_reducible repeat (first | refine blk_drewN ?_ _ | refine blk_drew ?_ | refine blk_alloc ?_ _)); exact BK295.out)) : gb295 ≠ gb303)); have n7_ := Aside0.mk ((by rw [hg]; exact Nat.ne_of_gt (blk_lt (g := gb295) (o := .cells #[.int .i64 a1_0, .int .i64 a1_1, .string a1_2, .int .i64 a1_3, .bool a1_4, .bool a1_5, .bool a1_6] 25 (0, 0)) (by (with_reducible repeat (first | refine blk_drewN ?_ _ | refine blk_drew ?_ | refine blk_alloc ?_ _)); exact BK295.out)) : gb303 ≠ gb295)); clear HO_24; clear BK295; clear HB; have HO_24 := n0_; have BK295 := n1_; have HB := n2_; have BK303 := n3_; have GW303 := n4_; have GE303 := n5_; have NB295_303 := n6_; have NB303_295 := n7_; clear n0_ n1_ n2_ n3_ n4_ n5_ n6_ n7_; clear hb hbox hg; have hnb41 := NB303_295.out; have hnc41 := NB295_303.out; have hcz42_0 : w40.cell? ⟨gb303, 0, none⟩ = some (.int .i64 0) := (blk_cell BK303.out 0).trans rfl; have hcz42_1 : w40.cell? ⟨gb303, 1, none⟩ = some (.int .i64 0) := (blk_cell BK303.out 1).trans rfl; have hcz42_2 : w40.cell? ⟨gb303, 2, none⟩ = some (.string (⟨#[]⟩ : ByteArray)) := (blk_cell BK303.out 2).trans rfl; have hcz42_3 : w40.cell? ⟨gb303, 3, none⟩ = some (.int .i64 0) := (blk_cell BK303.out 3).trans rfl; have hcz42_4 : w40.cell? ⟨gb303, 4, none⟩ = some (.bool false) := (blk_cell BK303.out 4).trans rfl; have hcz42_5 : w40.cell? ⟨gb303, 5, none⟩ = some (.bool false) := (blk_cell BK303.out 5).trans rfl; have hcz42_6 : w40.cell? ⟨gb303, 6, none⟩ = some (.bool false) := (blk_cell BK303.out 6).trans rfl; have hfz42_0 := blk_frozen BK303.out 0; have hfz42_1 := blk_frozen BK303.out 1; have hfz42_2 := blk_frozen BK303.out 2; have hfz42_3 := blk_frozen BK303.out 3; have hfz42_4 := blk_frozen BK303.out 4; have hfz42_5 := blk_frozen BK303.out 5; have hfz42_6 := blk_frozen BK303.out 6; have hcz43_0 : w40.cell? ⟨gb295, 0, none⟩ = some (.int .i64 a1_0) := (blk_cell BK295.out 0).trans rfl; have hcz43_1 : w40.cell? ⟨gb295, 1, none⟩ = some (.int .i64 a1_1) := (blk_cell BK295.out 1).trans rfl; have hcz43_2 : w40.cell? ⟨gb295, 2, none⟩ = some (.string a1_2) := (blk_cell BK295.out 2).trans rfl; have hcz43_3 : w40.cell? ⟨gb295, 3, none⟩ = some (.int .i64 a1_3) := (blk_cell BK295.out 3).trans rfl; have hcz43_4 : w40.cell? ⟨gb295, 4, none⟩ = some (.bool a1_4) := (blk_cell BK295.out 4).trans rfl; have hcz43_5 : w40.cell? ⟨gb295, 5, none⟩ = some (.bool a1_5) := (blk_cell BK295.out 5).trans rfl; have hcz43_6 : w40.cell? ⟨gb295, 6, none⟩ = some (.bool a1_6) := (blk_cell BK295.out 6).trans rfl; have hfz43_0 := blk_frozen BK295.out 0; have hfz43_1 := blk_frozen BK295.out 1; have hfz43_2 := blk_frozen BK295.out 2; have hfz43_3 := blk_frozen BK295.out 3; have hfz43_4 := blk_frozen BK295.out 4; have hfz43_5 := blk_frozen BK295.out 5; have hfz43_6 := blk_frozen BK295.out 6))
                      go_roundg k2
                      case measure => have := HJ3.out; have := HK2.out; omega
                      case rel => exact ⟨(x8_2), (wrap64 (x26_2 + 1)), (by first | rfl | (simp; done) | (simp [*]; done)), (by first | rfl | (simp; done) | (simp [*]; done)), H', ⟨by have := HJ3.out; have := HK2.out; omega⟩, ⟨by (with_reducible repeat (first | apply Kd.R_alloc | apply Kd.R_drewN | apply Kd.R_drew)); exact Kd.R_mono (Kd.R_far (p := ⟨gb303, 6, none⟩) (Kd.R_far (p := ⟨gb303, 5, none⟩) (Kd.R_far (p := ⟨gb303, 4, none⟩) (Kd.R_far (p := ⟨gb303, 3, none⟩) (Kd.R_far (p := ⟨gb303, 2, none⟩) (Kd.R_far (p := ⟨gb303, 1, none⟩) (Kd.R_far (p := ⟨gb303, 0, none⟩) (Kd.R_mono HO_24.out (fun k_ hk => (⟨hk, hk.2⟩ : _ ∧ k_ ≠ gb303))) (fun _ hk => hk.2) (.int .i64 ((rd_T25 t299 x26_2).f0))) (fun _ hk => hk.2) (.int .i64 ((rd_T25 t299 x26_2).f1))) (fun _ hk => hk.2) (.string ((rd_T25 t299 x26_2).f2))) (fun _ hk => hk.2) (.int .i64 ((rd_T25 t299 x26_2).f3))) (fun _ hk => hk.2) (.bool ((rd_T25 t299 x26_2).f4))) (fun _ hk => hk.2) (.bool ((rd_T25 t299 x26_2).f5))) (fun _ hk => hk.2) (.bool ((rd_T25 t299 x26_2).f6))) (fun _ hk => hk.1.1)⟩, ⟨by (with_reducible repeat (first | refine blk_drewN ?_ _ | refine blk_drew ?_ | refine blk_alloc ?_ _)); refine blk_far ?_ NB295_303.out _; (with_reducible repeat (first | refine blk_drewN ?_ _ | refine blk_drew ?_ | refine blk_alloc ?_ _)); refine blk_far ?_ NB295_303.out _; (with_reducible repeat (first | refine blk_drewN ?_ _ | refine blk_drew ?_ | refine blk_alloc ?_ _)); refine blk_far ?_ NB295_303.out _; (with_reducible repeat (first | refine blk_drewN ?_ _ | refine blk_drew ?_ | refine blk_alloc ?_ _)); refine blk_far ?_ NB295_303.out _; (with_reducible repeat (first | refine blk_drewN ?_ _ | refine blk_drew ?_ | refine blk_alloc ?_ _)); refine blk_far ?_ NB295_303.out _; (with_reducible repeat (first | refine blk_drewN ?_ _ | refine blk_drew ?_ | refine blk_alloc ?_ _)); refine blk_far ?_ NB295_303.out _; (with_reducible repeat (first | refine blk_drewN ?_ _ | refine blk_drew ?_ | refine blk_alloc ?_ _)); refine blk_far ?_ NB295_303.out _; (with_reducible repeat (first | refine blk_drewN ?_ _ | refine blk_drew ?_ | refine blk_alloc ?_ _)); exact BK295.out⟩, ⟨by repeat (first | (with_reducible first | exact HB.out | apply below_alloc | apply pw_below_drewN | apply below_drew1 | refine below_set ?_ GE295.out | refine below_set ?_ GE303.out) | exact HB.out)⟩⟩
                  · rw [if_neg c21] at H
                    exact absurd H (by simp)
                · rw [if_neg c20] at H
                  exact absurd H (by simp)
              · rw [if_neg c19] at H
                have c19b0 : decide (x26_2 < (t299.length : Int)) = false := decide_eq_false c19
                clear c19
                by_cases c44 : x8_2 = 4
                · rw [if_pos c44] at H
                  have c44b0 : (x8_2 == 4) = true := beq_iff_eq.mpr c44
                  have c44b1 : (x8_2 != 4) = false := bne_eq_false_iff_eq.mpr c44
                  clear c44
                  simp only [Option.some.injEq, Prod.mk.injEq] at H
                  obtain ⟨rfl, rfl⟩ := H
                  go_wp2
                  go_ret2
                  exact ⟨by first | rfl | (simp [errW_none, errW_some] <;> rfl) | (simp [*, errW_none, errW_some] <;> rfl), by repeat (first | (with_reducible first | exact HB.out | apply below_alloc | apply pw_below_drewN | apply below_drew1 | refine below_set ?_ GE295.out) | exact HB.out)⟩
                · rw [if_neg c44] at H
                  have c44b0 : (x8_2 == 4) = false := beq_eq_false_iff_ne.mpr c44
                  have c44b1 : (x8_2 != 4) = true := bne_iff_ne.mpr c44
                  simp only [Option.some.injEq, Prod.mk.injEq] at H
                  obtain ⟨rfl, rfl⟩ := H
                  go_wp2
                  go_ret2
                  exact ⟨by first | rfl | (simp [errW_none, errW_some] <;> rfl) | (simp [*, errW_none, errW_some] <;> rfl), by repeat (first | (with_reducible first | exact HB.out | apply below_alloc | apply pw_below_drewN | apply below_drew1 | refine below_set ?_ GE295.out) | exact HB.out)⟩
        · replace c15 := Bool.eq_false_iff.mpr c15
          subst c15
          have H1 : (some (0, 2)) = some (r1, r2) := by rw [if_neg (show ¬ (false = true) by decide)] at H; exact H
          clear H
          have H := H1
          clear H1
          simp only [Option.some.injEq, Prod.mk.injEq] at H
          obtain ⟨rfl, rfl⟩ := H
          go_wp2_with (first | ((with_reducible refine gate_callee (f := 86) rfl ?_); refine goesL_ (some 22) rfl rfl Try.func86 (by kernel_rfl) rfl #[.int .i64 a2] rfl (by (try simp only [List.map_toArray, List.map_cons, List.map_nil]); first | done | rfl | (simp only [List.length_drop, List.length_take]; rfl)) ?_; (with_reducible refine (impl_isResult.calls a2 false _ A14.out).mono ?_); rintro e w' ⟨rfl, ⟨nd, rfl⟩⟩; refine ⟨_, rfl, ?_⟩))
          go_ret2
          exact ⟨by first | rfl | (simp [errW_none, errW_some] <;> rfl) | (simp [*, errW_none, errW_some] <;> rfl), by repeat (first | (with_reducible first | exact HB.out | apply below_alloc | apply pw_below_drewN | apply below_drew1 | refine below_set ?_ GE295.out) | exact HB.out)⟩

end Go.Proofs.Ytkjfpdjmomhbbaa.F
