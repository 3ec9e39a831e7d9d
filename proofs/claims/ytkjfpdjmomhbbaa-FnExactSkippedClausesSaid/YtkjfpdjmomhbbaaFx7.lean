-- Written by this session's program (wip/bin/hp.py) over the kit's print: a function's Lean form, and a proof that the call does what it says.
import Derived.Test.YtkjfpdjmomhbbaaFx0
import Derived.Test.YtkjfpdjmomhbbaaFx4
import Derived.Test.YtkjfpdjmomhbbaaFx5
import Derived.Test.YtkjfpdjmomhbbaaFx6
namespace Go.Proofs.Ytkjfpdjmomhbbaa.F
open Go.RowKit Go.Proofs.YtkjfpdjmomhbbaaW.PrintWords Go.Proofs.YtkjfpdjmomhbbaaW.PrintLast Go.Proofs.YtkjfpdjmomhbbaaW.PrintMore
attribute [local go_sem] max2_int min2_int max_two min_two max_three min_three max_four min_four   -- for this text's walks alone
set_option linter.unusedVariables false
set_option linter.unusedSimpArgs false

/-! ### spec_IsRulebook: function 69 -/
mutual
def spec_IsRulebook.l0 : Nat → List (S84) → Int → Option (Bool)
  | 0, _, _ => none
  | k + 1, x0, x3 => if x3 < (x0.length : Int) then (if 0 ≤ x3 then ((spec_IsClause.f k ((rd_T84 x0 x3).f0) ((rd_T84 x0 x3).f1) ((rd_T84 x0 x3).f2) ((rd_T84 x0 x3).f3) ((rd_T84 x0 x3).f4) ((rd_T84 x0 x3).f5) ((rd_T84 x0 x3).f6)).bind fun t140 => (if t140 = true then ((spec_l09Find.f k x0 ((rd_T84 x0 x3).f0)).bind fun t141 => (spec_IsRulebook.j1 k x0 x3 (t141 != x3) ((rd_T84 x0 x3).f0) ((rd_T84 x0 x3).f1) ((rd_T84 x0 x3).f2) ((rd_T84 x0 x3).f3) ((rd_T84 x0 x3).f4) ((rd_T84 x0 x3).f5) ((rd_T84 x0 x3).f6))) else (spec_IsRulebook.j1 k x0 x3 true ((rd_T84 x0 x3).f0) ((rd_T84 x0 x3).f1) ((rd_T84 x0 x3).f2) ((rd_T84 x0 x3).f3) ((rd_T84 x0 x3).f4) ((rd_T84 x0 x3).f5) ((rd_T84 x0 x3).f6)))) else (none)) else (if 0 ≤ (wrap64 ((x0.length : Int) - 1)) then (if (wrap64 ((x0.length : Int) - 1)) < (x0.length : Int) then (if ((rd_T84 x0 (wrap64 ((x0.length : Int) - 1))).f1) = (-1) then (if ((rd_T84 x0 (wrap64 ((x0.length : Int) - 1))).f2) = 0 then (if ((rd_T84 x0 (wrap64 ((x0.length : Int) - 1))).f3) = 0 then (if ((rd_T84 x0 (wrap64 ((x0.length : Int) - 1))).f4) = 0 then (some (((rd_T84 x0 (wrap64 ((x0.length : Int) - 1))).f5) != 3)) else (some false)) else (some false)) else (some false)) else (some false)) else (none)) else (none))
def spec_IsRulebook.j1 : Nat → List (S84) → Int → Bool → ByteArray → Int → Int → Int → Int → Int → ByteArray → Option (Bool)
  | 0, _, _, _, _, _, _, _, _, _, _ => none
  | k + 1, x0, x3, x30, x140000, x140001, x140002, x140003, x140004, x140005, x140006 => if x30 = true then (some false) else (if x140005 = 3 then ((spec_l09Find.f k x0 x140006).bind fun t142 => (if t142 ≤ x3 then (some false) else (spec_IsRulebook.l0 k x0 (wrap64 (x3 + 1))))) else (spec_IsRulebook.l0 k x0 (wrap64 (x3 + 1))))
end
def spec_IsRulebook.f (k : Nat) (l0 : List (S84)) : Option (Bool) := (spec_l01In.f (l0.length : Int) 1 12).bind fun t135 => (if t135 = true then (spec_IsRulebook.l0 k l0 0) else (some false))
theorem spec_IsRulebook.mono_l : ∀ k, (∀ y0 y1, LeO (spec_IsRulebook.l0 k y0 y1) (spec_IsRulebook.l0 (k + 1) y0 y1)) ∧ (∀ y0 y1 y2 y3 y4 y5 y6 y7 y8 y9, LeO (spec_IsRulebook.j1 k y0 y1 y2 y3 y4 y5 y6 y7 y8 y9) (spec_IsRulebook.j1 (k + 1) y0 y1 y2 y3 y4 y5 y6 y7 y8 y9))
  | 0 => ⟨fun _ _ r h => by simp [spec_IsRulebook.l0] at h, fun _ _ _ _ _ _ _ _ _ _ r h => by simp [spec_IsRulebook.j1] at h⟩
  | k + 1 => by
    obtain ⟨ih0, ih1⟩ := spec_IsRulebook.mono_l k
    refine ⟨?_, ?_⟩
    · intro y0 y1
      unfold spec_IsRulebook.l0
      repeat' first
      | (with_reducible exact ih0 _ _)
      | (with_reducible exact ih1 _ _ _ _ _ _ _ _ _ _)
      | (with_reducible exact spec_IsClause.mono _ _ _ _ _ _ _ _)
      | (with_reducible exact spec_l09Find.mono _ _ _)
      | (with_reducible exact LeO.refl _)
      | (with_reducible exact LeO.none _)
      | (with_reducible refine LeO.ite ?_ ?_)
      | (with_reducible refine LeO.bind ?_ (fun _ => ?_))
      | exact ih0 _ _
      | exact ih1 _ _ _ _ _ _ _ _ _ _
      | exact spec_IsClause.mono _ _ _ _ _ _ _ _
      | exact spec_l09Find.mono _ _ _
      | exact LeO.none _
      | refine LeO.ite ?_ ?_
      | refine LeO.bind ?_ (fun _ => ?_)
    · intro y0 y1 y2 y3 y4 y5 y6 y7 y8 y9
      unfold spec_IsRulebook.j1
      repeat' first
      | (with_reducible exact ih0 _ _)
      | (with_reducible exact ih1 _ _ _ _ _ _ _ _ _ _)
      | (with_reducible exact spec_IsClause.mono _ _ _ _ _ _ _ _)
      | (with_reducible exact spec_l09Find.mono _ _ _)
      | (with_reducible exact LeO.refl _)
      | (with_reducible exact LeO.none _)
      | (with_reducible refine LeO.ite ?_ ?_)
      | (with_reducible refine LeO.bind ?_ (fun _ => ?_))
      | exact ih0 _ _
      | exact ih1 _ _ _ _ _ _ _ _ _ _
      | exact spec_IsClause.mono _ _ _ _ _ _ _ _
      | exact spec_l09Find.mono _ _ _
      | exact LeO.none _
      | refine LeO.ite ?_ ?_
      | refine LeO.bind ?_ (fun _ => ?_)
theorem spec_IsRulebook.mono : ∀ a0 k, LeO (spec_IsRulebook.f k a0) (spec_IsRulebook.f (k + 1) a0) := by
  intro a0 k
  obtain ⟨ih0, ih1⟩ := spec_IsRulebook.mono_l k
  unfold spec_IsRulebook.f
  repeat' first
      | (with_reducible exact ih0 _ _)
      | (with_reducible exact ih1 _ _ _ _ _ _ _ _ _ _)
      | (with_reducible exact spec_IsClause.mono _ _ _ _ _ _ _ _)
      | (with_reducible exact spec_l09Find.mono _ _ _)
      | (with_reducible exact LeO.refl _)
      | (with_reducible exact LeO.none _)
      | (with_reducible refine LeO.ite ?_ ?_)
      | (with_reducible refine LeO.bind ?_ (fun _ => ?_))
      | exact ih0 _ _
      | exact ih1 _ _ _ _ _ _ _ _ _ _
      | exact spec_IsClause.mono _ _ _ _ _ _ _ _
      | exact spec_l09Find.mono _ _ _
      | exact LeO.none _
      | refine LeO.ite ?_ ?_
      | refine LeO.bind ?_ (fun _ => ?_)
set_option maxHeartbeats 8000000 in
set_option maxRecDepth 100000 in
theorem spec_IsRulebook.calls (k : Nat) (A0 : Option Addr) (c0 : Nat) (l0 : List (S84)) (r : Bool) (w : World) (hr0 : Kd.C k84 w A0 l0.length l0) (hc0 : l0.length ≤ c0) (h : spec_IsRulebook.f k l0 = some r) :
    Calls Try.prog 69 #[.slice A0 l0.length c0] w fun e w' => e = .returned (.bool r) ∧ Below w.heap.size w w' := by
  have hu84 := Try.underlying84
  have HR0 := Aside0.mk hr0
  have HC0 := Aside0.mk hc0
  clear hr0 hc0
  have HB := Aside0.mk (Below.refl w.heap.size w)
  have H : ((spec_l01In.f (l0.length : Int) 1 12).bind fun t135 => (if t135 = true then (spec_IsRulebook.l0 k l0 0) else (some false))) = some r := h
  clear h
  replace H := Option.bind_eq_some_iff.mp H
  obtain ⟨t135, A20, H⟩ := H
  replace H : (if t135 = true then (spec_IsRulebook.l0 k l0 0) else (some false)) = some r := H
  have A2 := Aside0.mk A20
  clear A20
  by_cases c3 : t135 = true
  · subst c3
    have H1 : (spec_IsRulebook.l0 k l0 0) = some r := by rw [if_pos rfl] at H; exact H
    clear H
    have H := H1
    clear H1
    have H' := Aside0.mk H
    clear H
    go_enter Try.func69, Try.ntmps69
    go_wp2_with (first | ((with_reducible refine gate_callee (f := 116) rfl ?_); refine goesL_ (some 8) rfl rfl Try.func116 (by kernel_rfl) rfl #[.int .i64 (l0.length : Int), .int .i64 1, .int .i64 12] rfl (by (try simp only [List.map_toArray, List.map_cons, List.map_nil]); first | done | rfl | (simp only [List.length_drop, List.length_take]; rfl)) ?_; (with_reducible refine (spec_l01In.calls (l0.length : Int) 1 12 true _ A2.out).mono ?_); rintro e w' ⟨rfl, ⟨nd, rfl⟩⟩; refine ⟨_, rfl, ?_⟩))
    go_loopg [3] k (fun kq v3 w' => ∃ (x3_1 : Int), v3 = .int .i64 x3_1 ∧ Aside0 (spec_IsRulebook.l0 kq l0 x3_1 = some r) ∧ Aside0 (kq ≤ k) ∧ Aside0 (Below w.heap.size w w'))
    case atStart => exact ⟨(0), (by first | rfl | (simp; done) | (simp [*]; done)), H', ⟨Nat.le_refl _⟩, ⟨by repeat (first | (with_reducible first | exact HB.out | apply below_alloc | apply pw_below_drewN | apply below_drew1) | exact HB.out)⟩⟩
    case round =>
      clear H'
      try clear c1
      try clear p2
      try clear c3
      obtain ⟨x3_1, rfl, HA, HK1, HB⟩ := hrel
      cases gk with
      | zero => exact absurd HA.out (by simp [spec_IsRulebook.l0])
      | succ k1 =>
        have H := HA.out
        clear HA
        simp only [spec_IsRulebook.l0] at H
        by_cases c4 : x3_1 < (l0.length : Int)
        · rw [if_pos c4] at H
          have c4b0 : decide (x3_1 < (l0.length : Int)) = true := decide_eq_true c4
          clear c4
          by_cases c5 : 0 ≤ x3_1
          · rw [if_pos c5] at H
            have c5b0 : decide (0 ≤ x3_1) = true := decide_eq_true c5
            clear c5
            have HC6 := Aside0.mk H
            clear H
            have p138 : 0 ≤ (x3_1 : Int) := of_decide_eq_true (by first | (with_reducible assumption) | assumption)
            have q138 : x3_1 < (l0.length : Int) := of_decide_eq_true (by first | (with_reducible assumption) | assumption)
            obtain ⟨ad138, e138, hx138_0, hx138_1, hx138_2, hx138_3, hx138_4, hx138_5, hx138_6⟩ := at_T84 HR0.out x3_1 p138 q138
            cases e138
            replace hx138_0 := (HB.out.cell (World.block_lt_of_cell? w _ hx138_0)).trans hx138_0
            replace hx138_1 := (HB.out.cell (World.block_lt_of_cell? w _ hx138_1)).trans hx138_1
            replace hx138_2 := (HB.out.cell (World.block_lt_of_cell? w _ hx138_2)).trans hx138_2
            replace hx138_3 := (HB.out.cell (World.block_lt_of_cell? w _ hx138_3)).trans hx138_3
            replace hx138_4 := (HB.out.cell (World.block_lt_of_cell? w _ hx138_4)).trans hx138_4
            replace hx138_5 := (HB.out.cell (World.block_lt_of_cell? w _ hx138_5)).trans hx138_5
            replace hx138_6 := (HB.out.cell (World.block_lt_of_cell? w _ hx138_6)).trans hx138_6
            replace p138 := eq_true p138
            replace q138 := eq_true q138
            go_upto_region 7 with (first | ((with_reducible refine gate_dst (N := 4) rfl ?_); refine box_event ?hg (N := 4) ?hd (cs := #[.string (⟨#[]⟩ : ByteArray), .int .i64 0, .int .i64 0, .int .i64 0, .int .i64 0, .int .i64 0, .string (⟨#[]⟩ : ByteArray)]) (t := 84) ?hr ?_; (case hd => rfl); (case hg => rfl); (case hr => first | (go_simp; done) | (go_simp; rfl)); intro gb139 hg w7 hbox hb; have n0_ := Aside0.mk (below_step (by repeat (first | (with_reducible first | exact HB.out | apply below_alloc | apply pw_below_drewN | apply below_drew1) | exact HB.out)) hb); have n1_ := Aside0.mk (hbox); have n2_ := Aside0.mk ((by rw [hg]; exact (below_size (by repeat (first | (with_reducible first | exact HB.out | apply below_alloc | apply pw_below_drewN | apply below_drew1) | exact HB.out))) : w.heap.size ≤ gb139)); have n3_ := Aside0.mk ((by rw [hg]; exact (below_size (by repeat (first | (with_reducible first | exact HB.out | apply below_alloc | apply pw_below_drewN | apply below_drew1) | exact HB.out))) : w.heap.size ≤ gb139)); clear HB; have HB := n0_; have BK139 := n1_; have GW139 := n2_; have GE139 := n3_; clear n0_ n1_ n2_ n3_; clear hb hbox hg; have hcz8_0 : w7.cell? ⟨gb139, 0, none⟩ = some (.string (⟨#[]⟩ : ByteArray)) := (blk_cell BK139.out 0).trans rfl; have hcz8_1 : w7.cell? ⟨gb139, 1, none⟩ = some (.int .i64 0) := (blk_cell BK139.out 1).trans rfl; have hcz8_2 : w7.cell? ⟨gb139, 2, none⟩ = some (.int .i64 0) := (blk_cell BK139.out 2).trans rfl; have hcz8_3 : w7.cell? ⟨gb139, 3, none⟩ = some (.int .i64 0) := (blk_cell BK139.out 3).trans rfl; have hcz8_4 : w7.cell? ⟨gb139, 4, none⟩ = some (.int .i64 0) := (blk_cell BK139.out 4).trans rfl; have hcz8_5 : w7.cell? ⟨gb139, 5, none⟩ = some (.int .i64 0) := (blk_cell BK139.out 5).trans rfl; have hcz8_6 : w7.cell? ⟨gb139, 6, none⟩ = some (.string (⟨#[]⟩ : ByteArray)) := (blk_cell BK139.out 6).trans rfl; have hfz8_0 := blk_frozen BK139.out 0; have hfz8_1 := blk_frozen BK139.out 1; have hfz8_2 := blk_frozen BK139.out 2; have hfz8_3 := blk_frozen BK139.out 3; have hfz8_4 := blk_frozen BK139.out 4; have hfz8_5 := blk_frozen BK139.out 5; have hfz8_6 := blk_frozen BK139.out 6))
            (try simp only [Act.put, List.setIfInBounds_toArray, List.set_cons_zero, List.set_cons_succ])
            go_cut [30] (fun v30 wc => ∃ (kq : Nat) (x30_5 : Bool), v30 = .bool x30_5 ∧ Aside0 (spec_IsRulebook.j1 kq l0 x3_1 x30_5 ((rd_T84 l0 x3_1).f0) ((rd_T84 l0 x3_1).f1) ((rd_T84 l0 x3_1).f2) ((rd_T84 l0 x3_1).f3) ((rd_T84 l0 x3_1).f4) ((rd_T84 l0 x3_1).f5) ((rd_T84 l0 x3_1).f6) = some r) ∧ Aside0 (kq ≤ k1) ∧ Aside0 (wc.heap[gb139]? = some (.cells #[.string ((rd_T84 l0 x3_1).f0), .int .i64 ((rd_T84 l0 x3_1).f1), .int .i64 ((rd_T84 l0 x3_1).f2), .int .i64 ((rd_T84 l0 x3_1).f3), .int .i64 ((rd_T84 l0 x3_1).f4), .int .i64 ((rd_T84 l0 x3_1).f5), .string ((rd_T84 l0 x3_1).f6)] 84 (0, 0))) ∧ Aside0 (Below w.heap.size w wc))
            case first =>
              have H := HC6.out
              clear HC6
              replace H := Option.bind_eq_some_iff.mp H
              obtain ⟨t140, A90, H⟩ := H
              replace H : (if t140 = true then ((spec_l09Find.f k1 l0 ((rd_T84 l0 x3_1).f0)).bind fun t141 => (spec_IsRulebook.j1 k1 l0 x3_1 (t141 != x3_1) ((rd_T84 l0 x3_1).f0) ((rd_T84 l0 x3_1).f1) ((rd_T84 l0 x3_1).f2) ((rd_T84 l0 x3_1).f3) ((rd_T84 l0 x3_1).f4) ((rd_T84 l0 x3_1).f5) ((rd_T84 l0 x3_1).f6))) else (spec_IsRulebook.j1 k1 l0 x3_1 true ((rd_T84 l0 x3_1).f0) ((rd_T84 l0 x3_1).f1) ((rd_T84 l0 x3_1).f2) ((rd_T84 l0 x3_1).f3) ((rd_T84 l0 x3_1).f4) ((rd_T84 l0 x3_1).f5) ((rd_T84 l0 x3_1).f6))) = some r := H
              have A9 := Aside0.mk A90
              clear A90
              by_cases c10 : t140 = true
              · subst c10
                have H1 : ((spec_l09Find.f k1 l0 ((rd_T84 l0 x3_1).f0)).bind fun t141 => (spec_IsRulebook.j1 k1 l0 x3_1 (t141 != x3_1) ((rd_T84 l0 x3_1).f0) ((rd_T84 l0 x3_1).f1) ((rd_T84 l0 x3_1).f2) ((rd_T84 l0 x3_1).f3) ((rd_T84 l0 x3_1).f4) ((rd_T84 l0 x3_1).f5) ((rd_T84 l0 x3_1).f6))) = some r := by rw [if_pos rfl] at H; exact H
                clear H
                have H := H1
                clear H1
                replace H := Option.bind_eq_some_iff.mp H
                obtain ⟨t141, A110, H⟩ := H
                replace H : (spec_IsRulebook.j1 k1 l0 x3_1 (t141 != x3_1) ((rd_T84 l0 x3_1).f0) ((rd_T84 l0 x3_1).f1) ((rd_T84 l0 x3_1).f2) ((rd_T84 l0 x3_1).f3) ((rd_T84 l0 x3_1).f4) ((rd_T84 l0 x3_1).f5) ((rd_T84 l0 x3_1).f6)) = some r := H
                have A11 := Aside0.mk A110
                clear A110
                have H' := Aside0.mk H
                clear H
                have hcz12_0 : w7.cell? ⟨gb139, 0, none⟩ = some (.string (⟨#[]⟩ : ByteArray)) := (blk_cell BK139.out 0).trans rfl
                have hcz12_1 : w7.cell? ⟨gb139, 1, none⟩ = some (.int .i64 0) := (blk_cell BK139.out 1).trans rfl
                have hcz12_2 : w7.cell? ⟨gb139, 2, none⟩ = some (.int .i64 0) := (blk_cell BK139.out 2).trans rfl
                have hcz12_3 : w7.cell? ⟨gb139, 3, none⟩ = some (.int .i64 0) := (blk_cell BK139.out 3).trans rfl
                have hcz12_4 : w7.cell? ⟨gb139, 4, none⟩ = some (.int .i64 0) := (blk_cell BK139.out 4).trans rfl
                have hcz12_5 : w7.cell? ⟨gb139, 5, none⟩ = some (.int .i64 0) := (blk_cell BK139.out 5).trans rfl
                have hcz12_6 : w7.cell? ⟨gb139, 6, none⟩ = some (.string (⟨#[]⟩ : ByteArray)) := (blk_cell BK139.out 6).trans rfl
                have hfz12_0 := blk_frozen BK139.out 0
                have hfz12_1 := blk_frozen BK139.out 1
                have hfz12_2 := blk_frozen BK139.out 2
                have hfz12_3 := blk_frozen BK139.out 3
                have hfz12_4 := blk_frozen BK139.out 4
                have hfz12_5 := blk_frozen BK139.out 5
                have hfz12_6 := blk_frozen BK139.out 6
                go_wp2_with (first | ((with_reducible refine gate_callee (f := 119) rfl ?_); refine goesL_ (some 21) rfl rfl Try.func119 (by kernel_rfl) rfl #[.agg #[.string ((rd_T84 l0 x3_1).f0), .int .i64 ((rd_T84 l0 x3_1).f1), .int .i64 ((rd_T84 l0 x3_1).f2), .int .i64 ((rd_T84 l0 x3_1).f3), .int .i64 ((rd_T84 l0 x3_1).f4), .int .i64 ((rd_T84 l0 x3_1).f5), .string ((rd_T84 l0 x3_1).f6)]] rfl (by (try simp only [List.map_toArray, List.map_cons, List.map_nil]); first | done | rfl | (simp only [List.length_drop, List.length_take]; rfl)) ?_; (with_reducible refine (spec_IsClause.calls k1 ((rd_T84 l0 x3_1).f0) ((rd_T84 l0 x3_1).f1) ((rd_T84 l0 x3_1).f2) ((rd_T84 l0 x3_1).f3) ((rd_T84 l0 x3_1).f4) ((rd_T84 l0 x3_1).f5) ((rd_T84 l0 x3_1).f6) true _ A9.out).mono ?_); rintro e w13 ⟨rfl, hb⟩; refine ⟨_, rfl, ?_⟩; have n0_ := Aside0.mk (blk_below (g := gb139) (o := .cells #[.string ((rd_T84 l0 x3_1).f0), .int .i64 ((rd_T84 l0 x3_1).f1), .int .i64 ((rd_T84 l0 x3_1).f2), .int .i64 ((rd_T84 l0 x3_1).f3), .int .i64 ((rd_T84 l0 x3_1).f4), .int .i64 ((rd_T84 l0 x3_1).f5), .string ((rd_T84 l0 x3_1).f6)] 84 (0, 0)) (by (with_reducible repeat (first | refine blk_drewN ?_ _ | refine blk_drew ?_ | refine blk_alloc ?_ _)); refine blk_put (cs := #[.string ((rd_T84 l0 x3_1).f0), .int .i64 ((rd_T84 l0 x3_1).f1), .int .i64 ((rd_T84 l0 x3_1).f2), .int .i64 ((rd_T84 l0 x3_1).f3), .int .i64 ((rd_T84 l0 x3_1).f4), .int .i64 ((rd_T84 l0 x3_1).f5), .string (⟨#[]⟩ : ByteArray)]) ?_ 6 _ rfl; (with_reducible repeat (first | refine blk_drewN ?_ _ | refine blk_drew ?_ | refine blk_alloc ?_ _)); refine blk_put (cs := #[.string ((rd_T84 l0 x3_1).f0), .int .i64 ((rd_T84 l0 x3_1).f1), .int .i64 ((rd_T84 l0 x3_1).f2), .int .i64 ((rd_T84 l0 x3_1).f3), .int .i64 ((rd_T84 l0 x3_1).f4), .int .i64 0, .string (⟨#[]⟩ : ByteArray)]) ?_ 5 _ rfl; (with_reducible repeat (first | refine blk_drewN ?_ _ | refine blk_drew ?_ | refine blk_alloc ?_ _)); refine blk_put (cs := #[.string ((rd_T84 l0 x3_1).f0), .int .i64 ((rd_T84 l0 x3_1).f1), .int .i64 ((rd_T84 l0 x3_1).f2), .int .i64 ((rd_T84 l0 x3_1).f3), .int .i64 0, .int .i64 0, .string (⟨#[]⟩ : ByteArray)]) ?_ 4 _ rfl; (with_reducible repeat (first | refine blk_drewN ?_ _ | refine blk_drew ?_ | refine blk_alloc ?_ _)); refine blk_put (cs := #[.string ((rd_T84 l0 x3_1).f0), .int .i64 ((rd_T84 l0 x3_1).f1), .int .i64 ((rd_T84 l0 x3_1).f2), .int .i64 0, .int .i64 0, .int .i64 0, .string (⟨#[]⟩ : ByteArray)]) ?_ 3 _ rfl; (with_reducible repeat (first | refine blk_drewN ?_ _ | refine blk_drew ?_ | refine blk_alloc ?_ _)); refine blk_put (cs := #[.string ((rd_T84 l0 x3_1).f0), .int .i64 ((rd_T84 l0 x3_1).f1), .int .i64 0, .int .i64 0, .int .i64 0, .int .i64 0, .string (⟨#[]⟩ : ByteArray)]) ?_ 2 _ rfl; (with_reducible repeat (first | refine blk_drewN ?_ _ | refine blk_drew ?_ | refine blk_alloc ?_ _)); refine blk_put (cs := #[.string ((rd_T84 l0 x3_1).f0), .int .i64 0, .int .i64 0, .int .i64 0, .int .i64 0, .int .i64 0, .string (⟨#[]⟩ : ByteArray)]) ?_ 1 _ rfl; (with_reducible repeat (first | refine blk_drewN ?_ _ | refine blk_drew ?_ | refine blk_alloc ?_ _)); refine blk_put (cs := #[.string (⟨#[]⟩ : ByteArray), .int .i64 0, .int .i64 0, .int .i64 0, .int .i64 0, .int .i64 0, .string (⟨#[]⟩ : ByteArray)]) ?_ 0 _ rfl; (with_reducible repeat (first | refine blk_drewN ?_ _ | refine blk_drew ?_ | refine blk_alloc ?_ _)); exact BK139.out) hb); have n1_ := Aside0.mk (below_step (by repeat (first | (with_reducible first | exact HB.out | apply below_alloc | apply pw_below_drewN | apply below_drew1 | refine below_set ?_ GE139.out) | exact HB.out)) hb); clear BK139; clear HB; have BK139 := n0_; have HB := n1_; clear n0_ n1_; (try clear hb); (try clear hb2); (try clear hk); (try clear hi); have hcz14_0 : w13.cell? ⟨gb139, 0, none⟩ = some (.string ((rd_T84 l0 x3_1).f0)) := (blk_cell BK139.out 0).trans rfl; have hcz14_1 : w13.cell? ⟨gb139, 1, none⟩ = some (.int .i64 ((rd_T84 l0 x3_1).f1)) := (blk_cell BK139.out 1).trans rfl; have hcz14_2 : w13.cell? ⟨gb139, 2, none⟩ = some (.int .i64 ((rd_T84 l0 x3_1).f2)) := (blk_cell BK139.out 2).trans rfl; have hcz14_3 : w13.cell? ⟨gb139, 3, none⟩ = some (.int .i64 ((rd_T84 l0 x3_1).f3)) := (blk_cell BK139.out 3).trans rfl; have hcz14_4 : w13.cell? ⟨gb139, 4, none⟩ = some (.int .i64 ((rd_T84 l0 x3_1).f4)) := (blk_cell BK139.out 4).trans rfl; have hcz14_5 : w13.cell? ⟨gb139, 5, none⟩ = some (.int .i64 ((rd_T84 l0 x3_1).f5)) := (blk_cell BK139.out 5).trans rfl; have hcz14_6 : w13.cell? ⟨gb139, 6, none⟩ = some (.string ((rd_T84 l0 x3_1).f6)) := (blk_cell BK139.out 6).trans rfl; have hfz14_0 := blk_frozen BK139.out 0; have hfz14_1 := blk_frozen BK139.out 1; have hfz14_2 := blk_frozen BK139.out 2; have hfz14_3 := blk_frozen BK139.out 3; have hfz14_4 := blk_frozen BK139.out 4; have hfz14_5 := blk_frozen BK139.out 5; have hfz14_6 := blk_frozen BK139.out 6) | (go_at_call 123; (with_reducible refine (spec_l09Find.calls k1 _ _ l0 ((rd_T84 l0 x3_1).f0) t141 _ ?side1 ?side2 A11.out).mono ?_); (case side1 => repeat (first | exact (Kd.C_below HR0.out HB.out) | (with_reducible refine Kd.C_alloc ?_ _) | (with_reducible refine Kd.C_drewN ?_ _) | (with_reducible refine Kd.C_drew ?_))); (case side2 => exact HC0.out); rintro e w' ⟨rfl, ⟨nd, rfl⟩⟩))
                go_meet
                case rel => exact ⟨_, ((t141 != x3_1)), (by first | rfl | (simp; done) | (simp [*]; done)), H', ⟨by have := HK1.out; first | omega | exact Nat.le_refl _⟩, ⟨by (with_reducible repeat (first | refine blk_drewN ?_ _ | refine blk_drew ?_ | refine blk_alloc ?_ _)); exact BK139.out⟩, ⟨by repeat (first | (with_reducible first | exact HB.out | apply below_alloc | apply pw_below_drewN | apply below_drew1 | refine below_set ?_ GE139.out) | exact HB.out)⟩⟩
              · replace c10 := Bool.eq_false_iff.mpr c10
                subst c10
                have H1 : (spec_IsRulebook.j1 k1 l0 x3_1 true ((rd_T84 l0 x3_1).f0) ((rd_T84 l0 x3_1).f1) ((rd_T84 l0 x3_1).f2) ((rd_T84 l0 x3_1).f3) ((rd_T84 l0 x3_1).f4) ((rd_T84 l0 x3_1).f5) ((rd_T84 l0 x3_1).f6)) = some r := by rw [if_neg (show ¬ (false = true) by decide)] at H; exact H
                clear H
                have H := H1
                clear H1
                have H' := Aside0.mk H
                clear H
                have hcz15_0 : w7.cell? ⟨gb139, 0, none⟩ = some (.string (⟨#[]⟩ : ByteArray)) := (blk_cell BK139.out 0).trans rfl
                have hcz15_1 : w7.cell? ⟨gb139, 1, none⟩ = some (.int .i64 0) := (blk_cell BK139.out 1).trans rfl
                have hcz15_2 : w7.cell? ⟨gb139, 2, none⟩ = some (.int .i64 0) := (blk_cell BK139.out 2).trans rfl
                have hcz15_3 : w7.cell? ⟨gb139, 3, none⟩ = some (.int .i64 0) := (blk_cell BK139.out 3).trans rfl
                have hcz15_4 : w7.cell? ⟨gb139, 4, none⟩ = some (.int .i64 0) := (blk_cell BK139.out 4).trans rfl
                have hcz15_5 : w7.cell? ⟨gb139, 5, none⟩ = some (.int .i64 0) := (blk_cell BK139.out 5).trans rfl
                have hcz15_6 : w7.cell? ⟨gb139, 6, none⟩ = some (.string (⟨#[]⟩ : ByteArray)) := (blk_cell BK139.out 6).trans rfl
                have hfz15_0 := blk_frozen BK139.out 0
                have hfz15_1 := blk_frozen BK139.out 1
                have hfz15_2 := blk_frozen BK139.out 2
                have hfz15_3 := blk_frozen BK139.out 3
                have hfz15_4 := blk_frozen BK139.out 4
                have hfz15_5 := blk_frozen BK139.out 5
                have hfz15_6 := blk_frozen BK139.out 6
                go_wp2_with (first | ((with_reducible refine gate_callee (f := 119) rfl ?_); refine goesL_ (some 21) rfl rfl Try.func119 (by kernel_rfl) rfl #[.agg #[.string ((rd_T84 l0 x3_1).f0), .int .i64 ((rd_T84 l0 x3_1).f1), .int .i64 ((rd_T84 l0 x3_1).f2), .int .i64 ((rd_T84 l0 x3_1).f3), .int .i64 ((rd_T84 l0 x3_1).f4), .int .i64 ((rd_T84 l0 x3_1).f5), .string ((rd_T84 l0 x3_1).f6)]] rfl (by (try simp only [List.map_toArray, List.map_cons, List.map_nil]); first | done | rfl | (simp only [List.length_drop, List.length_take]; rfl)) ?_; (with_reducible refine (spec_IsClause.calls k1 ((rd_T84 l0 x3_1).f0) ((rd_T84 l0 x3_1).f1) ((rd_T84 l0 x3_1).f2) ((rd_T84 l0 x3_1).f3) ((rd_T84 l0 x3_1).f4) ((rd_T84 l0 x3_1).f5) ((rd_T84 l0 x3_1).f6) false _ A9.out).mono ?_); rintro e w16 ⟨rfl, hb⟩; refine ⟨_, rfl, ?_⟩; have n0_ := Aside0.mk (blk_below (g := gb139) (o := .cells #[.string ((rd_T84 l0 x3_1).f0), .int .i64 ((rd_T84 l0 x3_1).f1), .int .i64 ((rd_T84 l0 x3_1).f2), .int .i64 ((rd_T84 l0 x3_1).f3), .int .i64 ((rd_T84 l0 x3_1).f4), .int .i64 ((rd_T84 l0 x3_1).f5), .string ((rd_T84 l0 x3_1).f6)] 84 (0, 0)) (by (with_reducible repeat (first | refine blk_drewN ?_ _ | refine blk_drew ?_ | refine blk_alloc ?_ _)); refine blk_put (cs := #[.string ((rd_T84 l0 x3_1).f0), .int .i64 ((rd_T84 l0 x3_1).f1), .int .i64 ((rd_T84 l0 x3_1).f2), .int .i64 ((rd_T84 l0 x3_1).f3), .int .i64 ((rd_T84 l0 x3_1).f4), .int .i64 ((rd_T84 l0 x3_1).f5), .string (⟨#[]⟩ : ByteArray)]) ?_ 6 _ rfl; (with_reducible repeat (first | refine blk_drewN ?_ _ | refine blk_drew ?_ | refine blk_alloc ?_ _)); refine blk_put (cs := #[.string ((rd_T84 l0 x3_1).f0), .int .i64 ((rd_T84 l0 x3_1).f1), .int .i64 ((rd_T84 l0 x3_1).f2), .int .i64 ((rd_T84 l0 x3_1).f3), .int .i64 ((rd_T84 l0 x3_1).f4), .int .i64 0, .string (⟨#[]⟩ : ByteArray)]) ?_ 5 _ rfl; (with_reducible repeat (first | refine blk_drewN ?_ _ | refine blk_drew ?_ | refine blk_alloc ?_ _)); refine blk_put (cs := #[.string ((rd_T84 l0 x3_1).f0), .int .i64 ((rd_T84 l0 x3_1).f1), .int .i64 ((rd_T84 l0 x3_1).f2), .int .i64 ((rd_T84 l0 x3_1).f3), .int .i64 0, .int .i64 0, .string (⟨#[]⟩ : ByteArray)]) ?_ 4 _ rfl; (with_reducible repeat (first | refine blk_drewN ?_ _ | refine blk_drew ?_ | refine blk_alloc ?_ _)); refine blk_put (cs := #[.string ((rd_T84 l0 x3_1).f0), .int .i64 ((rd_T84 l0 x3_1).f1), .int .i64 ((rd_T84 l0 x3_1).f2), .int .i64 0, .int .i64 0, .int .i64 0, .string (⟨#[]⟩ : ByteArray)]) ?_ 3 _ rfl; (with_reducible repeat (first | refine blk_drewN ?_ _ | refine blk_drew ?_ | refine blk_alloc ?_ _)); refine blk_put (cs := #[.string ((rd_T84 l0 x3_1).f0), .int .i64 ((rd_T84 l0 x3_1).f1), .int .i64 0, .int .i64 0, .int .i64 0, .int .i64 0, .string (⟨#[]⟩ : ByteArray)]) ?_ 2 _ rfl; (with_reducible repeat (first | refine blk_drewN ?_ _ | refine blk_drew ?_ | refine blk_alloc ?_ _)); refine blk_put (cs := #[.string ((rd_T84 l0 x3_1).f0), .int .i64 0, .int .i64 0, .int .i64 0, .int .i64 0, .int .i64 0, .string (⟨#[]⟩ : ByteArray)]) ?_ 1 _ rfl; (with_reducible repeat (first | refine blk_drewN ?_ _ | refine blk_drew ?_ | refine blk_alloc ?_ _)); refine blk_put (cs := #[.string (⟨#[]⟩ : ByteArray), .int .i64 0, .int .i64 0, .int .i64 0, .int .i64 0, .int .i64 0, .string (⟨#[]⟩ : ByteArray)]) ?_ 0 _ rfl; (with_reducible repeat (first | refine blk_drewN ?_ _ | refine blk_drew ?_ | refine blk_alloc ?_ _)); exact BK139.out) hb); have n1_ := Aside0.mk (below_step (by repeat (first | (with_reducible first | exact HB.out | apply below_alloc | apply pw_below_drewN | apply below_drew1 | refine below_set ?_ GE139.out) | exact HB.out)) hb); clear BK139; clear HB; have BK139 := n0_; have HB := n1_; clear n0_ n1_; (try clear hb); (try clear hb2); (try clear hk); (try clear hi)))
                go_meet
                case rel => exact ⟨_, (true), (by first | rfl | (simp; done) | (simp [*]; done)), H', ⟨by have := HK1.out; first | omega | exact Nat.le_refl _⟩, ⟨by (with_reducible repeat (first | refine blk_drewN ?_ _ | refine blk_drew ?_ | refine blk_alloc ?_ _)); exact BK139.out⟩, ⟨by repeat (first | (with_reducible first | exact HB.out | apply below_alloc | apply pw_below_drewN | apply below_drew1 | refine below_set ?_ GE139.out) | exact HB.out)⟩⟩
            case rest =>
              clear HC6
              try clear c1
              try clear p1
              try clear q1
              try clear hx1
              try clear p2
              try clear c3
              try clear c4
              try clear c4b0
              try clear c5
              try clear c5b0
              try clear c6
              try clear c10
              try clear c11
              try clear p13
              try clear q13
              try clear hx13
              try clear hcz12_0
              try clear hcz12_1
              try clear hcz12_2
              try clear hcz12_3
              try clear hcz12_4
              try clear hcz12_5
              try clear hcz12_6
              try clear hcz14_0
              try clear hcz14_1
              try clear hcz14_2
              try clear hcz14_3
              try clear hcz14_4
              try clear hcz14_5
              try clear hcz14_6
              try clear hcz15_0
              try clear hcz15_1
              try clear hcz15_2
              try clear hcz15_3
              try clear hcz15_4
              try clear hcz15_5
              try clear hcz15_6
              try clear hcz8_0
              try clear hcz8_1
              try clear hcz8_2
              try clear hcz8_3
              try clear hcz8_4
              try clear hcz8_5
              try clear hcz8_6
              try clear hfz12_0
              try clear hfz12_1
              try clear hfz12_2
              try clear hfz12_3
              try clear hfz12_4
              try clear hfz12_5
              try clear hfz12_6
              try clear hfz14_0
              try clear hfz14_1
              try clear hfz14_2
              try clear hfz14_3
              try clear hfz14_4
              try clear hfz14_5
              try clear hfz14_6
              try clear hfz15_0
              try clear hfz15_1
              try clear hfz15_2
              try clear hfz15_3
              try clear hfz15_4
              try clear hfz15_5
              try clear hfz15_6
              try clear hfz8_0
              try clear hfz8_1
              try clear hfz8_2
              try clear hfz8_3
              try clear hfz8_4
              try clear hfz8_5
              try clear hfz8_6
              try clear hx138_0
              try clear hx138_1
              try clear hx138_2
              try clear hx138_3
              try clear hx138_4
              try clear hx138_5
              try clear hx138_6
              try clear p138
              try clear p2
              try clear q138
              obtain ⟨kq, x30_5, rfl, HA, HJ5, BK139, HB⟩ := hcut
              cases kq with
              | zero => exact absurd HA.out (by simp [spec_IsRulebook.j1])
              | succ kj5 =>
                have H := HA.out
                clear HA
                simp only [spec_IsRulebook.j1] at H
                by_cases c17 : x30_5 = true
                · subst c17
                  have H1 : (some false) = some r := by rw [if_pos rfl] at H; exact H
                  clear H
                  have H := H1
                  clear H1
                  obtain rfl := Option.some.inj H
                  go_wp2
                  go_ret
                  exact ⟨by first | rfl | (simp [errW_none, errW_some] <;> rfl) | (simp [*, errW_none, errW_some] <;> rfl), by repeat (first | (with_reducible first | exact HB.out | apply below_alloc | apply pw_below_drewN | apply below_drew1 | refine below_set ?_ GE139.out) | exact HB.out)⟩
                · replace c17 := Bool.eq_false_iff.mpr c17
                  subst c17
                  have H1 : (if ((rd_T84 l0 x3_1).f5) = 3 then ((spec_l09Find.f kj5 l0 ((rd_T84 l0 x3_1).f6)).bind fun t142 => (if t142 ≤ x3_1 then (some false) else (spec_IsRulebook.l0 kj5 l0 (wrap64 (x3_1 + 1))))) else (spec_IsRulebook.l0 kj5 l0 (wrap64 (x3_1 + 1)))) = some r := by rw [if_neg (show ¬ (false = true) by decide)] at H; exact H
                  clear H
                  have H := H1
                  clear H1
                  by_cases c18 : ((rd_T84 l0 x3_1).f5) = 3
                  · rw [if_pos c18] at H
                    have c18b0 : (((rd_T84 l0 x3_1).f5) == 3) = true := beq_iff_eq.mpr c18
                    have c18b1 : (((rd_T84 l0 x3_1).f5) != 3) = false := bne_eq_false_iff_eq.mpr c18
                    clear c18
                    replace H := Option.bind_eq_some_iff.mp H
                    obtain ⟨t142, A190, H⟩ := H
                    replace H : (if t142 ≤ x3_1 then (some false) else (spec_IsRulebook.l0 kj5 l0 (wrap64 (x3_1 + 1)))) = some r := H
                    have A19 := Aside0.mk A190
                    clear A190
                    by_cases c20 : t142 ≤ x3_1
                    · rw [if_pos c20] at H
                      have c20b0 : decide (t142 ≤ x3_1) = true := decide_eq_true c20
                      clear c20
                      obtain rfl := Option.some.inj H
                      have hcz21_0 : wc.cell? ⟨gb139, 0, none⟩ = some (.string ((rd_T84 l0 x3_1).f0)) := (blk_cell BK139.out 0).trans rfl
                      have hcz21_1 : wc.cell? ⟨gb139, 1, none⟩ = some (.int .i64 ((rd_T84 l0 x3_1).f1)) := (blk_cell BK139.out 1).trans rfl
                      have hcz21_2 : wc.cell? ⟨gb139, 2, none⟩ = some (.int .i64 ((rd_T84 l0 x3_1).f2)) := (blk_cell BK139.out 2).trans rfl
                      have hcz21_3 : wc.cell? ⟨gb139, 3, none⟩ = some (.int .i64 ((rd_T84 l0 x3_1).f3)) := (blk_cell BK139.out 3).trans rfl
                      have hcz21_4 : wc.cell? ⟨gb139, 4, none⟩ = some (.int .i64 ((rd_T84 l0 x3_1).f4)) := (blk_cell BK139.out 4).trans rfl
                      have hcz21_5 : wc.cell? ⟨gb139, 5, none⟩ = some (.int .i64 ((rd_T84 l0 x3_1).f5)) := (blk_cell BK139.out 5).trans rfl
                      have hcz21_6 : wc.cell? ⟨gb139, 6, none⟩ = some (.string ((rd_T84 l0 x3_1).f6)) := (blk_cell BK139.out 6).trans rfl
                      have hfz21_0 := blk_frozen BK139.out 0
                      have hfz21_1 := blk_frozen BK139.out 1
                      have hfz21_2 := blk_frozen BK139.out 2
                      have hfz21_3 := blk_frozen BK139.out 3
                      have hfz21_4 := blk_frozen BK139.out 4
                      have hfz21_5 := blk_frozen BK139.out 5
                      have hfz21_6 := blk_frozen BK139.out 6
                      go_wp2_with (first | (go_at_call 123; (with_reducible refine (spec_l09Find.calls kj5 _ _ l0 ((rd_T84 l0 x3_1).f6) t142 _ ?side1 ?side2 A19.out).mono ?_); (case side1 => repeat (first | exact (Kd.C_below HR0.out HB.out) | (with_reducible refine Kd.C_alloc ?_ _) | (with_reducible refine Kd.C_drewN ?_ _) | (with_reducible refine Kd.C_drew ?_))); (case side2 => exact HC0.out); rintro e w' ⟨rfl, ⟨nd, rfl⟩⟩))
                      go_ret
                      exact ⟨by first | rfl | (simp [errW_none, errW_some] <;> rfl) | (simp [*, errW_none, errW_some] <;> rfl), by repeat (first | (with_reducible first | exact HB.out | apply below_alloc | apply pw_below_drewN | apply below_drew1 | refine below_set ?_ GE139.out) | exact HB.out)⟩
                    · rw [if_neg c20] at H
                      have c20b0 : decide (t142 ≤ x3_1) = false := decide_eq_false c20
                      clear c20
                      have H' := Aside0.mk H
                      clear H
                      have hcz22_0 : wc.cell? ⟨gb139, 0, none⟩ = some (.string ((rd_T84 l0 x3_1).f0)) := (blk_cell BK139.out 0).trans rfl
                      have hcz22_1 : wc.cell? ⟨gb139, 1, none⟩ = some (.int .i64 ((rd_T84 l0 x3_1).f1)) := (blk_cell BK139.out 1).trans rfl
                      have hcz22_2 : wc.cell? ⟨gb139, 2, none⟩ = some (.int .i64 ((rd_T84 l0 x3_1).f2)) := (blk_cell BK139.out 2).trans rfl
                      have hcz22_3 : wc.cell? ⟨gb139, 3, none⟩ = some (.int .i64 ((rd_T84 l0 x3_1).f3)) := (blk_cell BK139.out 3).trans rfl
                      have hcz22_4 : wc.cell? ⟨gb139, 4, none⟩ = some (.int .i64 ((rd_T84 l0 x3_1).f4)) := (blk_cell BK139.out 4).trans rfl
                      have hcz22_5 : wc.cell? ⟨gb139, 5, none⟩ = some (.int .i64 ((rd_T84 l0 x3_1).f5)) := (blk_cell BK139.out 5).trans rfl
                      have hcz22_6 : wc.cell? ⟨gb139, 6, none⟩ = some (.string ((rd_T84 l0 x3_1).f6)) := (blk_cell BK139.out 6).trans rfl
                      have hfz22_0 := blk_frozen BK139.out 0
                      have hfz22_1 := blk_frozen BK139.out 1
                      have hfz22_2 := blk_frozen BK139.out 2
                      have hfz22_3 := blk_frozen BK139.out 3
                      have hfz22_4 := blk_frozen BK139.out 4
                      have hfz22_5 := blk_frozen BK139.out 5
                      have hfz22_6 := blk_frozen BK139.out 6
                      go_wp2_with (first | (go_at_call 123; (with_reducible refine (spec_l09Find.calls kj5 _ _ l0 ((rd_T84 l0 x3_1).f6) t142 _ ?side1 ?side2 A19.out).mono ?_); (case side1 => repeat (first | exact (Kd.C_below HR0.out HB.out) | (with_reducible refine Kd.C_alloc ?_ _) | (with_reducible refine Kd.C_drewN ?_ _) | (with_reducible refine Kd.C_drew ?_))); (case side2 => exact HC0.out); rintro e w' ⟨rfl, ⟨nd, rfl⟩⟩))
                      go_roundg kj5
                      case measure => have := HK1.out; have := HJ5.out; omega
                      case rel => exact ⟨(wrap64 (x3_1 + 1)), (by first | rfl | (simp; done) | (simp [*]; done)), H', ⟨by have := HK1.out; have := HJ5.out; omega⟩, ⟨by repeat (first | (with_reducible first | exact HB.out | apply below_alloc | apply pw_below_drewN | apply below_drew1 | refine below_set ?_ GE139.out) | exact HB.out)⟩⟩
                  · rw [if_neg c18] at H
                    have c18b0 : (((rd_T84 l0 x3_1).f5) == 3) = false := beq_eq_false_iff_ne.mpr c18
                    have c18b1 : (((rd_T84 l0 x3_1).f5) != 3) = true := bne_iff_ne.mpr c18
                    have H' := Aside0.mk H
                    clear H
                    have hcz23_0 : wc.cell? ⟨gb139, 0, none⟩ = some (.string ((rd_T84 l0 x3_1).f0)) := (blk_cell BK139.out 0).trans rfl
                    have hcz23_1 : wc.cell? ⟨gb139, 1, none⟩ = some (.int .i64 ((rd_T84 l0 x3_1).f1)) := (blk_cell BK139.out 1).trans rfl
                    have hcz23_2 : wc.cell? ⟨gb139, 2, none⟩ = some (.int .i64 ((rd_T84 l0 x3_1).f2)) := (blk_cell BK139.out 2).trans rfl
                    have hcz23_3 : wc.cell? ⟨gb139, 3, none⟩ = some (.int .i64 ((rd_T84 l0 x3_1).f3)) := (blk_cell BK139.out 3).trans rfl
                    have hcz23_4 : wc.cell? ⟨gb139, 4, none⟩ = some (.int .i64 ((rd_T84 l0 x3_1).f4)) := (blk_cell BK139.out 4).trans rfl
                    have hcz23_5 : wc.cell? ⟨gb139, 5, none⟩ = some (.int .i64 ((rd_T84 l0 x3_1).f5)) := (blk_cell BK139.out 5).trans rfl
                    have hcz23_6 : wc.cell? ⟨gb139, 6, none⟩ = some (.string ((rd_T84 l0 x3_1).f6)) := (blk_cell BK139.out 6).trans rfl
                    have hfz23_0 := blk_frozen BK139.out 0
                    have hfz23_1 := blk_frozen BK139.out 1
                    have hfz23_2 := blk_frozen BK139.out 2
                    have hfz23_3 := blk_frozen BK139.out 3
                    have hfz23_4 := blk_frozen BK139.out 4
                    have hfz23_5 := blk_frozen BK139.out 5
                    have hfz23_6 := blk_frozen BK139.out 6
                    go_wp2
                    go_roundg kj5
                    case measure => have := HK1.out; have := HJ5.out; omega
                    case rel => exact ⟨(wrap64 (x3_1 + 1)), (by first | rfl | (simp; done) | (simp [*]; done)), H', ⟨by have := HK1.out; have := HJ5.out; omega⟩, ⟨by repeat (first | (with_reducible first | exact HB.out | apply below_alloc | apply pw_below_drewN | apply below_drew1 | refine below_set ?_ GE139.out) | exact HB.out)⟩⟩
          · rw [if_neg c5] at H
            exact absurd H (by simp)
        · rw [if_neg c4] at H
          have c4b0 : decide (x3_1 < (l0.length : Int)) = false := decide_eq_false c4
          clear c4
          obtain ⟨ji24, hji24⟩ : ∃ j_ : Int, (wrap64 ((l0.length : Int) - 1)) = j_ := ⟨_, rfl⟩
          replace H : (if 0 ≤ (ji24) then (if (ji24) < (l0.length : Int) then (if ((rd_T84 l0 (ji24)).f1) = (-1) then (if ((rd_T84 l0 (ji24)).f2) = 0 then (if ((rd_T84 l0 (ji24)).f3) = 0 then (if ((rd_T84 l0 (ji24)).f4) = 0 then (some (((rd_T84 l0 (ji24)).f5) != 3)) else (some false)) else (some false)) else (some false)) else (some false)) else (none)) else (none)) = some r := by first | (rw [hji24] at H; exact H) | (simp only [hji24] at H ⊢; exact H)
          have hji24w : (IntKind.i64.wrap ((l0.length : Int) - 1)) = ji24 := (i64_w _).trans hji24
          by_cases c25 : 0 ≤ (ji24)
          · rw [if_pos c25] at H
            have c25b0 : decide (0 ≤ (ji24)) = true := decide_eq_true c25
            clear c25
            by_cases c26 : (ji24) < (l0.length : Int)
            · rw [if_pos c26] at H
              have c26b0 : decide ((ji24) < (l0.length : Int)) = true := decide_eq_true c26
              clear c26
              by_cases c27 : ((rd_T84 l0 (ji24)).f1) = (-1)
              · rw [if_pos c27] at H
                have c27b0 : (((rd_T84 l0 (ji24)).f1) == (-1)) = true := beq_iff_eq.mpr c27
                have c27b1 : (((rd_T84 l0 (ji24)).f1) != (-1)) = false := bne_eq_false_iff_eq.mpr c27
                clear c27
                by_cases c28 : ((rd_T84 l0 (ji24)).f2) = 0
                · rw [if_pos c28] at H
                  have c28b0 : (((rd_T84 l0 (ji24)).f2) == 0) = true := beq_iff_eq.mpr c28
                  have c28b1 : (((rd_T84 l0 (ji24)).f2) != 0) = false := bne_eq_false_iff_eq.mpr c28
                  clear c28
                  by_cases c29 : ((rd_T84 l0 (ji24)).f3) = 0
                  · rw [if_pos c29] at H
                    have c29b0 : (((rd_T84 l0 (ji24)).f3) == 0) = true := beq_iff_eq.mpr c29
                    have c29b1 : (((rd_T84 l0 (ji24)).f3) != 0) = false := bne_eq_false_iff_eq.mpr c29
                    clear c29
                    by_cases c30 : ((rd_T84 l0 (ji24)).f4) = 0
                    · rw [if_pos c30] at H
                      have c30b0 : (((rd_T84 l0 (ji24)).f4) == 0) = true := beq_iff_eq.mpr c30
                      have c30b1 : (((rd_T84 l0 (ji24)).f4) != 0) = false := bne_eq_false_iff_eq.mpr c30
                      clear c30
                      obtain rfl := Option.some.inj H
                      have p136 : 0 ≤ ((ji24) : Int) := of_decide_eq_true (by first | (with_reducible assumption) | assumption)
                      have q136 : (ji24) < (l0.length : Int) := of_decide_eq_true (by first | (with_reducible assumption) | assumption)
                      obtain ⟨ad136, e136, hx136_0, hx136_1, hx136_2, hx136_3, hx136_4, hx136_5, hx136_6⟩ := at_T84 HR0.out (ji24) p136 q136
                      cases e136
                      replace hx136_0 := (HB.out.cell (World.block_lt_of_cell? w _ hx136_0)).trans hx136_0
                      replace hx136_1 := (HB.out.cell (World.block_lt_of_cell? w _ hx136_1)).trans hx136_1
                      replace hx136_2 := (HB.out.cell (World.block_lt_of_cell? w _ hx136_2)).trans hx136_2
                      replace hx136_3 := (HB.out.cell (World.block_lt_of_cell? w _ hx136_3)).trans hx136_3
                      replace hx136_4 := (HB.out.cell (World.block_lt_of_cell? w _ hx136_4)).trans hx136_4
                      replace hx136_5 := (HB.out.cell (World.block_lt_of_cell? w _ hx136_5)).trans hx136_5
                      replace hx136_6 := (HB.out.cell (World.block_lt_of_cell? w _ hx136_6)).trans hx136_6
                      replace p136 := eq_true p136
                      replace q136 := eq_true q136
                      go_wp2_with (first | ((with_reducible refine gate_dst (N := 5) rfl ?_); refine box_event ?hg (N := 5) ?hd (cs := #[.string (⟨#[]⟩ : ByteArray), .int .i64 0, .int .i64 0, .int .i64 0, .int .i64 0, .int .i64 0, .string (⟨#[]⟩ : ByteArray)]) (t := 84) ?hr ?_; (case hd => rfl); (case hg => rfl); (case hr => first | (go_simp; done) | (go_simp; rfl)); intro gb137 hg w31 hbox hb; have n0_ := Aside0.mk (below_step (by repeat (first | (with_reducible first | exact HB.out | apply below_alloc | apply pw_below_drewN | apply below_drew1) | exact HB.out)) hb); have n1_ := Aside0.mk (hbox); have n2_ := Aside0.mk ((by rw [hg]; exact (below_size (by repeat (first | (with_reducible first | exact HB.out | apply below_alloc | apply pw_below_drewN | apply below_drew1) | exact HB.out))) : w.heap.size ≤ gb137)); have n3_ := Aside0.mk ((by rw [hg]; exact (below_size (by repeat (first | (with_reducible first | exact HB.out | apply below_alloc | apply pw_below_drewN | apply below_drew1) | exact HB.out))) : w.heap.size ≤ gb137)); clear HB; have HB := n0_; have BK137 := n1_; have GW137 := n2_; have GE137 := n3_; clear n0_ n1_ n2_ n3_; clear hb hbox hg; have hcz32_0 : w31.cell? ⟨gb137, 0, none⟩ = some (.string (⟨#[]⟩ : ByteArray)) := (blk_cell BK137.out 0).trans rfl; have hcz32_1 : w31.cell? ⟨gb137, 1, none⟩ = some (.int .i64 0) := (blk_cell BK137.out 1).trans rfl; have hcz32_2 : w31.cell? ⟨gb137, 2, none⟩ = some (.int .i64 0) := (blk_cell BK137.out 2).trans rfl; have hcz32_3 : w31.cell? ⟨gb137, 3, none⟩ = some (.int .i64 0) := (blk_cell BK137.out 3).trans rfl; have hcz32_4 : w31.cell? ⟨gb137, 4, none⟩ = some (.int .i64 0) := (blk_cell BK137.out 4).trans rfl; have hcz32_5 : w31.cell? ⟨gb137, 5, none⟩ = some (.int .i64 0) := (blk_cell BK137.out 5).trans rfl; have hcz32_6 : w31.cell? ⟨gb137, 6, none⟩ = some (.string (⟨#[]⟩ : ByteArray)) := (blk_cell BK137.out 6).trans rfl; have hfz32_0 := blk_frozen BK137.out 0; have hfz32_1 := blk_frozen BK137.out 1; have hfz32_2 := blk_frozen BK137.out 2; have hfz32_3 := blk_frozen BK137.out 3; have hfz32_4 := blk_frozen BK137.out 4; have hfz32_5 := blk_frozen BK137.out 5; have hfz32_6 := blk_frozen BK137.out 6))
                      go_ret
                      exact ⟨by first | rfl | (simp [errW_none, errW_some] <;> rfl) | (simp only [← hji24]; first | rfl | (simp [errW_none, errW_some] <;> rfl)) | (simp [*, errW_none, errW_some] <;> rfl), by repeat (first | (with_reducible first | exact HB.out | apply below_alloc | apply pw_below_drewN | apply below_drew1 | refine below_set ?_ GE137.out) | exact HB.out)⟩
                    · rw [if_neg c30] at H
                      have c30b0 : (((rd_T84 l0 (ji24)).f4) == 0) = false := beq_eq_false_iff_ne.mpr c30
                      have c30b1 : (((rd_T84 l0 (ji24)).f4) != 0) = true := bne_iff_ne.mpr c30
                      obtain rfl := Option.some.inj H
                      have p136 : 0 ≤ ((ji24) : Int) := of_decide_eq_true (by first | (with_reducible assumption) | assumption)
                      have q136 : (ji24) < (l0.length : Int) := of_decide_eq_true (by first | (with_reducible assumption) | assumption)
                      obtain ⟨ad136, e136, hx136_0, hx136_1, hx136_2, hx136_3, hx136_4, hx136_5, hx136_6⟩ := at_T84 HR0.out (ji24) p136 q136
                      cases e136
                      replace hx136_0 := (HB.out.cell (World.block_lt_of_cell? w _ hx136_0)).trans hx136_0
                      replace hx136_1 := (HB.out.cell (World.block_lt_of_cell? w _ hx136_1)).trans hx136_1
                      replace hx136_2 := (HB.out.cell (World.block_lt_of_cell? w _ hx136_2)).trans hx136_2
                      replace hx136_3 := (HB.out.cell (World.block_lt_of_cell? w _ hx136_3)).trans hx136_3
                      replace hx136_4 := (HB.out.cell (World.block_lt_of_cell? w _ hx136_4)).trans hx136_4
                      replace hx136_5 := (HB.out.cell (World.block_lt_of_cell? w _ hx136_5)).trans hx136_5
                      replace hx136_6 := (HB.out.cell (World.block_lt_of_cell? w _ hx136_6)).trans hx136_6
                      replace p136 := eq_true p136
                      replace q136 := eq_true q136
                      go_wp2_with (first | ((with_reducible refine gate_dst (N := 5) rfl ?_); refine box_event ?hg (N := 5) ?hd (cs := #[.string (⟨#[]⟩ : ByteArray), .int .i64 0, .int .i64 0, .int .i64 0, .int .i64 0, .int .i64 0, .string (⟨#[]⟩ : ByteArray)]) (t := 84) ?hr ?_; (case hd => rfl); (case hg => rfl); (case hr => first | (go_simp; done) | (go_simp; rfl)); intro gb137 hg w33 hbox hb; have n0_ := Aside0.mk (below_step (by repeat (first | (with_reducible first | exact HB.out | apply below_alloc | apply pw_below_drewN | apply below_drew1) | exact HB.out)) hb); have n1_ := Aside0.mk (hbox); have n2_ := Aside0.mk ((by rw [hg]; exact (below_size (by repeat (first | (with_reducible first | exact HB.out | apply below_alloc | apply pw_below_drewN | apply below_drew1) | exact HB.out))) : w.heap.size ≤ gb137)); have n3_ := Aside0.mk ((by rw [hg]; exact (below_size (by repeat (first | (with_reducible first | exact HB.out | apply below_alloc | apply pw_below_drewN | apply below_drew1) | exact HB.out))) : w.heap.size ≤ gb137)); clear HB; have HB := n0_; have BK137 := n1_; have GW137 := n2_; have GE137 := n3_; clear n0_ n1_ n2_ n3_; clear hb hbox hg; have hcz34_0 : w33.cell? ⟨gb137, 0, none⟩ = some (.string (⟨#[]⟩ : ByteArray)) := (blk_cell BK137.out 0).trans rfl; have hcz34_1 : w33.cell? ⟨gb137, 1, none⟩ = some (.int .i64 0) := (blk_cell BK137.out 1).trans rfl; have hcz34_2 : w33.cell? ⟨gb137, 2, none⟩ = some (.int .i64 0) := (blk_cell BK137.out 2).trans rfl; have hcz34_3 : w33.cell? ⟨gb137, 3, none⟩ = some (.int .i64 0) := (blk_cell BK137.out 3).trans rfl; have hcz34_4 : w33.cell? ⟨gb137, 4, none⟩ = some (.int .i64 0) := (blk_cell BK137.out 4).trans rfl; have hcz34_5 : w33.cell? ⟨gb137, 5, none⟩ = some (.int .i64 0) := (blk_cell BK137.out 5).trans rfl; have hcz34_6 : w33.cell? ⟨gb137, 6, none⟩ = some (.string (⟨#[]⟩ : ByteArray)) := (blk_cell BK137.out 6).trans rfl; have hfz34_0 := blk_frozen BK137.out 0; have hfz34_1 := blk_frozen BK137.out 1; have hfz34_2 := blk_frozen BK137.out 2; have hfz34_3 := blk_frozen BK137.out 3; have hfz34_4 := blk_frozen BK137.out 4; have hfz34_5 := blk_frozen BK137.out 5; have hfz34_6 := blk_frozen BK137.out 6))
                      go_ret
                      exact ⟨by first | rfl | (simp [errW_none, errW_some] <;> rfl) | (simp only [← hji24]; first | rfl | (simp [errW_none, errW_some] <;> rfl)) | (simp [*, errW_none, errW_some] <;> rfl), by repeat (first | (with_reducible first | exact HB.out | apply below_alloc | apply pw_below_drewN | apply below_drew1 | refine below_set ?_ GE137.out) | exact HB.out)⟩
                  · rw [if_neg c29] at H
                    have c29b0 : (((rd_T84 l0 (ji24)).f3) == 0) = false := beq_eq_false_iff_ne.mpr c29
                    have c29b1 : (((rd_T84 l0 (ji24)).f3) != 0) = true := bne_iff_ne.mpr c29
                    obtain rfl := Option.some.inj H
                    have p136 : 0 ≤ ((ji24) : Int) := of_decide_eq_true (by first | (with_reducible assumption) | assumption)
                    have q136 : (ji24) < (l0.length : Int) := of_decide_eq_true (by first | (with_reducible assumption) | assumption)
                    obtain ⟨ad136, e136, hx136_0, hx136_1, hx136_2, hx136_3, hx136_4, hx136_5, hx136_6⟩ := at_T84 HR0.out (ji24) p136 q136
                    cases e136
                    replace hx136_0 := (HB.out.cell (World.block_lt_of_cell? w _ hx136_0)).trans hx136_0
                    replace hx136_1 := (HB.out.cell (World.block_lt_of_cell? w _ hx136_1)).trans hx136_1
                    replace hx136_2 := (HB.out.cell (World.block_lt_of_cell? w _ hx136_2)).trans hx136_2
                    replace hx136_3 := (HB.out.cell (World.block_lt_of_cell? w _ hx136_3)).trans hx136_3
                    replace hx136_4 := (HB.out.cell (World.block_lt_of_cell? w _ hx136_4)).trans hx136_4
                    replace hx136_5 := (HB.out.cell (World.block_lt_of_cell? w _ hx136_5)).trans hx136_5
                    replace hx136_6 := (HB.out.cell (World.block_lt_of_cell? w _ hx136_6)).trans hx136_6
                    replace p136 := eq_true p136
                    replace q136 := eq_true q136
                    go_wp2_with (first | ((with_reducible refine gate_dst (N := 5) rfl ?_); refine box_event ?hg (N := 5) ?hd (cs := #[.string (⟨#[]⟩ : ByteArray), .int .i64 0, .int .i64 0, .int .i64 0, .int .i64 0, .int .i64 0, .string (⟨#[]⟩ : ByteArray)]) (t := 84) ?hr ?_; (case hd => rfl); (case hg => rfl); (case hr => first | (go_simp; done) | (go_simp; rfl)); intro gb137 hg w35 hbox hb; have n0_ := Aside0.mk (below_step (by repeat (first | (with_reducible first | exact HB.out | apply below_alloc | apply pw_below_drewN | apply below_drew1) | exact HB.out)) hb); have n1_ := Aside0.mk (hbox); have n2_ := Aside0.mk ((by rw [hg]; exact (below_size (by repeat (first | (with_reducible first | exact HB.out | apply below_alloc | apply pw_below_drewN | apply below_drew1) | exact HB.out))) : w.heap.size ≤ gb137)); have n3_ := Aside0.mk ((by rw [hg]; exact (below_size (by repeat (first | (with_reducible first | exact HB.out | apply below_alloc | apply pw_below_drewN | apply below_drew1) | exact HB.out))) : w.heap.size ≤ gb137)); clear HB; have HB := n0_; have BK137 := n1_; have GW137 := n2_; have GE137 := n3_; clear n0_ n1_ n2_ n3_; clear hb hbox hg; have hcz36_0 : w35.cell? ⟨gb137, 0, none⟩ = some (.string (⟨#[]⟩ : ByteArray)) := (blk_cell BK137.out 0).trans rfl; have hcz36_1 : w35.cell? ⟨gb137, 1, none⟩ = some (.int .i64 0) := (blk_cell BK137.out 1).trans rfl; have hcz36_2 : w35.cell? ⟨gb137, 2, none⟩ = some (.int .i64 0) := (blk_cell BK137.out 2).trans rfl; have hcz36_3 : w35.cell? ⟨gb137, 3, none⟩ = some (.int .i64 0) := (blk_cell BK137.out 3).trans rfl; have hcz36_4 : w35.cell? ⟨gb137, 4, none⟩ = some (.int .i64 0) := (blk_cell BK137.out 4).trans rfl; have hcz36_5 : w35.cell? ⟨gb137, 5, none⟩ = some (.int .i64 0) := (blk_cell BK137.out 5).trans rfl; have hcz36_6 : w35.cell? ⟨gb137, 6, none⟩ = some (.string (⟨#[]⟩ : ByteArray)) := (blk_cell BK137.out 6).trans rfl; have hfz36_0 := blk_frozen BK137.out 0; have hfz36_1 := blk_frozen BK137.out 1; have hfz36_2 := blk_frozen BK137.out 2; have hfz36_3 := blk_frozen BK137.out 3; have hfz36_4 := blk_frozen BK137.out 4; have hfz36_5 := blk_frozen BK137.out 5; have hfz36_6 := blk_frozen BK137.out 6))
                    go_ret
                    exact ⟨by first | rfl | (simp [errW_none, errW_some] <;> rfl) | (simp only [← hji24]; first | rfl | (simp [errW_none, errW_some] <;> rfl)) | (simp [*, errW_none, errW_some] <;> rfl), by repeat (first | (with_reducible first | exact HB.out | apply below_alloc | apply pw_below_drewN | apply below_drew1 | refine below_set ?_ GE137.out) | exact HB.out)⟩
                · rw [if_neg c28] at H
                  have c28b0 : (((rd_T84 l0 (ji24)).f2) == 0) = false := beq_eq_false_iff_ne.mpr c28
                  have c28b1 : (((rd_T84 l0 (ji24)).f2) != 0) = true := bne_iff_ne.mpr c28
                  obtain rfl := Option.some.inj H
                  have p136 : 0 ≤ ((ji24) : Int) := of_decide_eq_true (by first | (with_reducible assumption) | assumption)
                  have q136 : (ji24) < (l0.length : Int) := of_decide_eq_true (by first | (with_reducible assumption) | assumption)
                  obtain ⟨ad136, e136, hx136_0, hx136_1, hx136_2, hx136_3, hx136_4, hx136_5, hx136_6⟩ := at_T84 HR0.out (ji24) p136 q136
                  cases e136
                  replace hx136_0 := (HB.out.cell (World.block_lt_of_cell? w _ hx136_0)).trans hx136_0
                  replace hx136_1 := (HB.out.cell (World.block_lt_of_cell? w _ hx136_1)).trans hx136_1
                  replace hx136_2 := (HB.out.cell (World.block_lt_of_cell? w _ hx136_2)).trans hx136_2
                  replace hx136_3 := (HB.out.cell (World.block_lt_of_cell? w _ hx136_3)).trans hx136_3
                  replace hx136_4 := (HB.out.cell (World.block_lt_of_cell? w _ hx136_4)).trans hx136_4
                  replace hx136_5 := (HB.out.cell (World.block_lt_of_cell? w _ hx136_5)).trans hx136_5
                  replace hx136_6 := (HB.out.cell (World.block_lt_of_cell? w _ hx136_6)).trans hx136_6
                  replace p136 := eq_true p136
                  replace q136 := eq_true q136
                  go_wp2_with (first | ((with_reducible refine gate_dst (N := 5) rfl ?_); refine box_event ?hg (N := 5) ?hd (cs := #[.string (⟨#[]⟩ : ByteArray), .int .i64 0, .int .i64 0, .int .i64 0, .int .i64 0, .int .i64 0, .string (⟨#[]⟩ : ByteArray)]) (t := 84) ?hr ?_; (case hd => rfl); (case hg => rfl); (case hr => first | (go_simp; done) | (go_simp; rfl)); intro gb137 hg w37 hbox hb; have n0_ := Aside0.mk (below_step (by repeat (first | (with_reducible first | exact HB.out | apply below_alloc | apply pw_below_drewN | apply below_drew1) | exact HB.out)) hb); have n1_ := Aside0.mk (hbox); have n2_ := Aside0.mk ((by rw [hg]; exact (below_size (by repeat (first | (with_reducible first | exact HB.out | apply below_alloc | apply pw_below_drewN | apply below_drew1) | exact HB.out))) : w.heap.size ≤ gb137)); have n3_ := Aside0.mk ((by rw [hg]; exact (below_size (by repeat (first | (with_reducible first | exact HB.out | apply below_alloc | apply pw_below_drewN | apply below_drew1) | exact HB.out))) : w.heap.size ≤ gb137)); clear HB; have HB := n0_; have BK137 := n1_; have GW137 := n2_; have GE137 := n3_; clear n0_ n1_ n2_ n3_; clear hb hbox hg; have hcz38_0 : w37.cell? ⟨gb137, 0, none⟩ = some (.string (⟨#[]⟩ : ByteArray)) := (blk_cell BK137.out 0).trans rfl; have hcz38_1 : w37.cell? ⟨gb137, 1, none⟩ = some (.int .i64 0) := (blk_cell BK137.out 1).trans rfl; have hcz38_2 : w37.cell? ⟨gb137, 2, none⟩ = some (.int .i64 0) := (blk_cell BK137.out 2).trans rfl; have hcz38_3 : w37.cell? ⟨gb137, 3, none⟩ = some (.int .i64 0) := (blk_cell BK137.out 3).trans rfl; have hcz38_4 : w37.cell? ⟨gb137, 4, none⟩ = some (.int .i64 0) := (blk_cell BK137.out 4).trans rfl; have hcz38_5 : w37.cell? ⟨gb137, 5, none⟩ = some (.int .i64 0) := (blk_cell BK137.out 5).trans rfl; have hcz38_6 : w37.cell? ⟨gb137, 6, none⟩ = some (.string (⟨#[]⟩ : ByteArray)) := (blk_cell BK137.out 6).trans rfl; have hfz38_0 := blk_frozen BK137.out 0; have hfz38_1 := blk_frozen BK137.out 1; have hfz38_2 := blk_frozen BK137.out 2; have hfz38_3 := blk_frozen BK137.out 3; have hfz38_4 := blk_frozen BK137.out 4; have hfz38_5 := blk_frozen BK137.out 5; have hfz38_6 := blk_frozen BK137.out 6))
                  go_ret
                  exact ⟨by first | rfl | (simp [errW_none, errW_some] <;> rfl) | (simp only [← hji24]; first | rfl | (simp [errW_none, errW_some] <;> rfl)) | (simp [*, errW_none, errW_some] <;> rfl), by repeat (first | (with_reducible first | exact HB.out | apply below_alloc | apply pw_below_drewN | apply below_drew1 | refine below_set ?_ GE137.out) | exact HB.out)⟩
              · rw [if_neg c27] at H
                have c27b0 : (((rd_T84 l0 (ji24)).f1) == (-1)) = false := beq_eq_false_iff_ne.mpr c27
                have c27b1 : (((rd_T84 l0 (ji24)).f1) != (-1)) = true := bne_iff_ne.mpr c27
                obtain rfl := Option.some.inj H
                have p136 : 0 ≤ ((ji24) : Int) := of_decide_eq_true (by first | (with_reducible assumption) | assumption)
                have q136 : (ji24) < (l0.length : Int) := of_decide_eq_true (by first | (with_reducible assumption) | assumption)
                obtain ⟨ad136, e136, hx136_0, hx136_1, hx136_2, hx136_3, hx136_4, hx136_5, hx136_6⟩ := at_T84 HR0.out (ji24) p136 q136
                cases e136
                replace hx136_0 := (HB.out.cell (World.block_lt_of_cell? w _ hx136_0)).trans hx136_0
                replace hx136_1 := (HB.out.cell (World.block_lt_of_cell? w _ hx136_1)).trans hx136_1
                replace hx136_2 := (HB.out.cell (World.block_lt_of_cell? w _ hx136_2)).trans hx136_2
                replace hx136_3 := (HB.out.cell (World.block_lt_of_cell? w _ hx136_3)).trans hx136_3
                replace hx136_4 := (HB.out.cell (World.block_lt_of_cell? w _ hx136_4)).trans hx136_4
                replace hx136_5 := (HB.out.cell (World.block_lt_of_cell? w _ hx136_5)).trans hx136_5
                replace hx136_6 := (HB.out.cell (World.block_lt_of_cell? w _ hx136_6)).trans hx136_6
                replace p136 := eq_true p136
                replace q136 := eq_true q136
                go_wp2_with (first | ((with_reducible refine gate_dst (N := 5) rfl ?_); refine box_event ?hg (N := 5) ?hd (cs := #[.string (⟨#[]⟩ : ByteArray), .int .i64 0, .int .i64 0, .int .i64 0, .int .i64 0, .int .i64 0, .string (⟨#[]⟩ : ByteArray)]) (t := 84) ?hr ?_; (case hd => rfl); (case hg => rfl); (case hr => first | (go_simp; done) | (go_simp; rfl)); intro gb137 hg w39 hbox hb; have n0_ := Aside0.mk (below_step (by repeat (first | (with_reducible first | exact HB.out | apply below_alloc | apply pw_below_drewN | apply below_drew1) | exact HB.out)) hb); have n1_ := Aside0.mk (hbox); have n2_ := Aside0.mk ((by rw [hg]; exact (below_size (by repeat (first | (with_reducible first | exact HB.out | apply below_alloc | apply pw_below_drewN | apply below_drew1) | exact HB.out))) : w.heap.size ≤ gb137)); have n3_ := Aside0.mk ((by rw [hg]; exact (below_size (by repeat (first | (with_reducible first | exact HB.out | apply below_alloc | apply pw_below_drewN | apply below_drew1) | exact HB.out))) : w.heap.size ≤ gb137)); clear HB; have HB := n0_; have BK137 := n1_; have GW137 := n2_; have GE137 := n3_; clear n0_ n1_ n2_ n3_; clear hb hbox hg; have hcz40_0 : w39.cell? ⟨gb137, 0, none⟩ = some (.string (⟨#[]⟩ : ByteArray)) := (blk_cell BK137.out 0).trans rfl; have hcz40_1 : w39.cell? ⟨gb137, 1, none⟩ = some (.int .i64 0) := (blk_cell BK137.out 1).trans rfl; have hcz40_2 : w39.cell? ⟨gb137, 2, none⟩ = some (.int .i64 0) := (blk_cell BK137.out 2).trans rfl; have hcz40_3 : w39.cell? ⟨gb137, 3, none⟩ = some (.int .i64 0) := (blk_cell BK137.out 3).trans rfl; have hcz40_4 : w39.cell? ⟨gb137, 4, none⟩ = some (.int .i64 0) := (blk_cell BK137.out 4).trans rfl; have hcz40_5 : w39.cell? ⟨gb137, 5, none⟩ = some (.int .i64 0) := (blk_cell BK137.out 5).trans rfl; have hcz40_6 : w39.cell? ⟨gb137, 6, none⟩ = some (.string (⟨#[]⟩ : ByteArray)) := (blk_cell BK137.out 6).trans rfl; have hfz40_0 := blk_frozen BK137.out 0; have hfz40_1 := blk_frozen BK137.out 1; have hfz40_2 := blk_frozen BK137.out 2; have hfz40_3 := blk_frozen BK137.out 3; have hfz40_4 := blk_frozen BK137.out 4; have hfz40_5 := blk_frozen BK137.out 5; have hfz40_6 := blk_frozen BK137.out 6))
                go_ret
                exact ⟨by first | rfl | (simp [errW_none, errW_some] <;> rfl) | (simp only [← hji24]; first | rfl | (simp [errW_none, errW_some] <;> rfl)) | (simp [*, errW_none, errW_some] <;> rfl), by repeat (first | (with_reducible first | exact HB.out | apply below_alloc | apply pw_below_drewN | apply below_drew1 | refine below_set ?_ GE137.out) | exact HB.out)⟩
            · rw [if_neg c26] at H
              exact absurd H (by simp)
          · rw [if_neg c25] at H
            exact absurd H (by simp)
  · replace c3 := Bool.eq_false_iff.mpr c3
    subst c3
    have H1 : (some false) = some r := by rw [if_neg (show ¬ (false = true) by decide)] at H; exact H
    clear H
    have H := H1
    clear H1
    obtain rfl := Option.some.inj H
    go_enter Try.func69, Try.ntmps69
    go_wp2_with (first | ((with_reducible refine gate_callee (f := 116) rfl ?_); refine goesL_ (some 8) rfl rfl Try.func116 (by kernel_rfl) rfl #[.int .i64 (l0.length : Int), .int .i64 1, .int .i64 12] rfl (by (try simp only [List.map_toArray, List.map_cons, List.map_nil]); first | done | rfl | (simp only [List.length_drop, List.length_take]; rfl)) ?_; (with_reducible refine (spec_l01In.calls (l0.length : Int) 1 12 false _ A2.out).mono ?_); rintro e w' ⟨rfl, ⟨nd, rfl⟩⟩; refine ⟨_, rfl, ?_⟩))
    go_ret
    exact ⟨by first | rfl | (simp [errW_none, errW_some] <;> rfl) | (simp [*, errW_none, errW_some] <;> rfl), by repeat (first | (with_reducible first | exact HB.out | apply below_alloc | apply pw_below_drewN | apply below_drew1) | exact HB.out)⟩

end Go.Proofs.Ytkjfpdjmomhbbaa.F
