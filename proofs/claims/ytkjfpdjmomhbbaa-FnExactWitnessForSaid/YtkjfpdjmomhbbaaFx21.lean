-- Written by this session's program (wip/bin/hp.py) over the kit's print: a function's Lean form, and a proof that the call does what it says.
import Derived.Test.YtkjfpdjmomhbbaaFx0
import Derived.Test.YtkjfpdjmomhbbaaFx6
import Derived.Test.YtkjfpdjmomhbbaaFx8
import Derived.Test.YtkjfpdjmomhbbaaFx20
namespace Go.Proofs.Ytkjfpdjmomhbbaa.F
open Go.RowKit Go.Proofs.YtkjfpdjmomhbbaaW.PrintWords Go.Proofs.YtkjfpdjmomhbbaaW.PrintLast Go.Proofs.YtkjfpdjmomhbbaaW.PrintMore
attribute [local go_sem] max2_int min2_int max_two min_two max_three min_three max_four min_four   -- for this text's walks alone
set_option linter.unusedVariables false
set_option linter.unusedSimpArgs false

/-! ### spec_TruthsToChange: function 27 -/
mutual
def spec_TruthsToChange.l0 : Nat → List (S84) → Int → Int → Int → Int → Int → ByteArray → Int → Bool → Bool → Bool → Option (Int × Int)
  | 0, _, _, _, _, _, _, _, _, _, _, _ => none
  | k + 1, x0, x2, x9, x10, x270000, x270001, x270002, x270003, x270004, x270005, x270006 => if x10 < 8 then (if (Int.tmod x10 2) = 1 then (spec_TruthsToChange.j1 k x0 x2 x9 x10 (0 + 1) x270000 x270001 x270002 x270003 x270004 x270005 x270006 x270000 x270001 x270002 x270003 (!x270004) x270005 x270006) else (spec_TruthsToChange.j1 k x0 x2 x9 x10 0 x270000 x270001 x270002 x270003 x270004 x270005 x270006 x270000 x270001 x270002 x270003 x270004 x270005 x270006)) else (if x9 = 4 then (some (0, 4)) else (some (x9, 0)))
def spec_TruthsToChange.j1 : Nat → List (S84) → Int → Int → Int → Int → Int → Int → ByteArray → Int → Bool → Bool → Bool → Int → Int → ByteArray → Int → Bool → Bool → Bool → Option (Int × Int)
  | 0, _, _, _, _, _, _, _, _, _, _, _, _, _, _, _, _, _, _, _ => none
  | k + 1, x0, x2, x9, x10, x12, x270000, x270001, x270002, x270003, x270004, x270005, x270006, x273000, x273001, x273002, x273003, x273004, x273005, x273006 => if (Int.tmod (wrap64 (Int.tdiv x10 2)) 2) = 1 then (spec_TruthsToChange.j2 k x0 x2 x9 x10 (wrap64 (x12 + 1)) x270000 x270001 x270002 x270003 x270004 x270005 x270006 x273000 x273001 x273002 x273003 x273004 (!x273005) x273006) else (spec_TruthsToChange.j2 k x0 x2 x9 x10 x12 x270000 x270001 x270002 x270003 x270004 x270005 x270006 x273000 x273001 x273002 x273003 x273004 x273005 x273006)
def spec_TruthsToChange.j2 : Nat → List (S84) → Int → Int → Int → Int → Int → Int → ByteArray → Int → Bool → Bool → Bool → Int → Int → ByteArray → Int → Bool → Bool → Bool → Option (Int × Int)
  | 0, _, _, _, _, _, _, _, _, _, _, _, _, _, _, _, _, _, _, _ => none
  | k + 1, x0, x2, x9, x10, x12, x270000, x270001, x270002, x270003, x270004, x270005, x270006, x273000, x273001, x273002, x273003, x273004, x273005, x273006 => if (wrap64 (Int.tdiv x10 4)) = 1 then ((spec_l10Result.f k x0 x273000 x273001 x273002 x273003 x273004 x273005 (!x273006)).bind fun t273 => (if t273 = x2 then (spec_TruthsToChange.l0 k x0 x2 (mn x9 (wrap64 (x12 + 1))) (wrap64 (x10 + 1)) x270000 x270001 x270002 x270003 x270004 x270005 x270006) else (spec_TruthsToChange.l0 k x0 x2 x9 (wrap64 (x10 + 1)) x270000 x270001 x270002 x270003 x270004 x270005 x270006))) else ((spec_l10Result.f k x0 x273000 x273001 x273002 x273003 x273004 x273005 x273006).bind fun t274 => (if t274 = x2 then (spec_TruthsToChange.l0 k x0 x2 (mn x9 x12) (wrap64 (x10 + 1)) x270000 x270001 x270002 x270003 x270004 x270005 x270006) else (spec_TruthsToChange.l0 k x0 x2 x9 (wrap64 (x10 + 1)) x270000 x270001 x270002 x270003 x270004 x270005 x270006)))
end
def spec_TruthsToChange.f (k : Nat) (l0 : List (S84)) (a1_0 : Int) (a1_1 : Int) (a1_2 : ByteArray) (a1_3 : Int) (a1_4 : Bool) (a1_5 : Bool) (a1_6 : Bool) (a2 : Int) : Option (Int × Int) := (spec_IsEvent.f k a1_0 a1_1 a1_2 a1_3 a1_4 a1_5 a1_6).bind fun t270 => (if t270 = true then ((spec_l12Code.f k l0 a2).bind fun t271 => (if t271 = 0 then (spec_TruthsToChange.l0 k l0 a2 4 0 a1_0 a1_1 a1_2 a1_3 a1_4 a1_5 a1_6) else (some (0, t271)))) else (some (0, 1)))
theorem spec_TruthsToChange.mono_l : ∀ k, (∀ y0 y1 y2 y3 y4 y5 y6 y7 y8 y9 y10, LeO (spec_TruthsToChange.l0 k y0 y1 y2 y3 y4 y5 y6 y7 y8 y9 y10) (spec_TruthsToChange.l0 (k + 1) y0 y1 y2 y3 y4 y5 y6 y7 y8 y9 y10)) ∧ (∀ y0 y1 y2 y3 y4 y5 y6 y7 y8 y9 y10 y11 y12 y13 y14 y15 y16 y17 y18, LeO (spec_TruthsToChange.j1 k y0 y1 y2 y3 y4 y5 y6 y7 y8 y9 y10 y11 y12 y13 y14 y15 y16 y17 y18) (spec_TruthsToChange.j1 (k + 1) y0 y1 y2 y3 y4 y5 y6 y7 y8 y9 y10 y11 y12 y13 y14 y15 y16 y17 y18)) ∧ (∀ y0 y1 y2 y3 y4 y5 y6 y7 y8 y9 y10 y11 y12 y13 y14 y15 y16 y17 y18, LeO (spec_TruthsToChange.j2 k y0 y1 y2 y3 y4 y5 y6 y7 y8 y9 y10 y11 y12 y13 y14 y15 y16 y17 y18) (spec_TruthsToChange.j2 (k + 1) y0 y1 y2 y3 y4 y5 y6 y7 y8 y9 y10 y11 y12 y13 y14 y15 y16 y17 y18))
  | 0 => ⟨fun _ _ _ _ _ _ _ _ _ _ _ r h => by simp [spec_TruthsToChange.l0] at h, fun _ _ _ _ _ _ _ _ _ _ _ _ _ _ _ _ _ _ _ r h => by simp [spec_TruthsToChange.j1] at h, fun _ _ _ _ _ _ _ _ _ _ _ _ _ _ _ _ _ _ _ r h => by simp [spec_TruthsToChange.j2] at h⟩
  | k + 1 => by
    obtain ⟨ih0, ih1, ih2⟩ := spec_TruthsToChange.mono_l k
    refine ⟨?_, ?_, ?_⟩
    · intro y0 y1 y2 y3 y4 y5 y6 y7 y8 y9 y10
      unfold spec_TruthsToChange.l0
      repeat' first
      | (with_reducible exact ih0 _ _ _ _ _ _ _ _ _ _ _)
      | (with_reducible exact ih1 _ _ _ _ _ _ _ _ _ _ _ _ _ _ _ _ _ _ _)
      | (with_reducible exact ih2 _ _ _ _ _ _ _ _ _ _ _ _ _ _ _ _ _ _ _)
      | (with_reducible exact spec_IsEvent.mono _ _ _ _ _ _ _ _)
      | (with_reducible exact spec_l10Result.mono _ _ _ _ _ _ _ _ _)
      | (with_reducible exact spec_l12Code.mono _ _ _)
      | (with_reducible exact LeO.refl _)
      | (with_reducible exact LeO.none _)
      | (with_reducible refine LeO.ite ?_ ?_)
      | (with_reducible refine LeO.bind ?_ (fun _ => ?_))
      | exact ih0 _ _ _ _ _ _ _ _ _ _ _
      | exact ih1 _ _ _ _ _ _ _ _ _ _ _ _ _ _ _ _ _ _ _
      | exact ih2 _ _ _ _ _ _ _ _ _ _ _ _ _ _ _ _ _ _ _
      | exact spec_IsEvent.mono _ _ _ _ _ _ _ _
      | exact spec_l10Result.mono _ _ _ _ _ _ _ _ _
      | exact spec_l12Code.mono _ _ _
      | exact LeO.none _
      | refine LeO.ite ?_ ?_
      | refine LeO.bind ?_ (fun _ => ?_)
    · intro y0 y1 y2 y3 y4 y5 y6 y7 y8 y9 y10 y11 y12 y13 y14 y15 y16 y17 y18
      unfold spec_TruthsToChange.j1
      repeat' first
      | (with_reducible exact ih0 _ _ _ _ _ _ _ _ _ _ _)
      | (with_reducible exact ih1 _ _ _ _ _ _ _ _ _ _ _ _ _ _ _ _ _ _ _)
      | (with_reducible exact ih2 _ _ _ _ _ _ _ _ _ _ _ _ _ _ _ _ _ _ _)
      | (with_reducible exact spec_IsEvent.mono _ _ _ _ _ _ _ _)
      | (with_reducible exact spec_l10Result.mono _ _ _ _ _ _ _ _ _)
      | (with_reducible exact spec_l12Code.mono _ _ _)
      | (with_reducible exact LeO.refl _)
      | (with_reducible exact LeO.none _)
      | (with_reducible refine LeO.ite ?_ ?_)
      | (with_reducible refine LeO.bind ?_ (fun _ => ?_))
      | exact ih0 _ _ _ _ _ _ _ _ _ _ _
      | exact ih1 _ _ _ _ _ _ _ _ _ _ _ _ _ _ _ _ _ _ _
      | exact ih2 _ _ _ _ _ _ _ _ _ _ _ _ _ _ _ _ _ _ _
      | exact spec_IsEvent.mono _ _ _ _ _ _ _ _
      | exact spec_l10Result.mono _ _ _ _ _ _ _ _ _
      | exact spec_l12Code.mono _ _ _
      | exact LeO.none _
      | refine LeO.ite ?_ ?_
      | refine LeO.bind ?_ (fun _ => ?_)
    · intro y0 y1 y2 y3 y4 y5 y6 y7 y8 y9 y10 y11 y12 y13 y14 y15 y16 y17 y18
      unfold spec_TruthsToChange.j2
      repeat' first
      | (with_reducible exact ih0 _ _ _ _ _ _ _ _ _ _ _)
      | (with_reducible exact ih1 _ _ _ _ _ _ _ _ _ _ _ _ _ _ _ _ _ _ _)
      | (with_reducible exact ih2 _ _ _ _ _ _ _ _ _ _ _ _ _ _ _ _ _ _ _)
      | (with_reducible exact spec_IsEvent.mono _ _ _ _ _ _ _ _)
      | (with_reducible exact spec_l10Result.mono _ _ _ _ _ _ _ _ _)
      | (with_reducible exact spec_l12Code.mono _ _ _)
      | (with_reducible exact LeO.refl _)
      | (with_reducible exact LeO.none _)
      | (with_reducible refine LeO.ite ?_ ?_)
      | (with_reducible refine LeO.bind ?_ (fun _ => ?_))
      | exact ih0 _ _ _ _ _ _ _ _ _ _ _
      | exact ih1 _ _ _ _ _ _ _ _ _ _ _ _ _ _ _ _ _ _ _
      | exact ih2 _ _ _ _ _ _ _ _ _ _ _ _ _ _ _ _ _ _ _
      | exact spec_IsEvent.mono _ _ _ _ _ _ _ _
      | exact spec_l10Result.mono _ _ _ _ _ _ _ _ _
      | exact spec_l12Code.mono _ _ _
      | exact LeO.none _
      | refine LeO.ite ?_ ?_
      | refine LeO.bind ?_ (fun _ => ?_)
theorem spec_TruthsToChange.mono : ∀ a0 a1 a2 a3 a4 a5 a6 a7 a8 k, LeO (spec_TruthsToChange.f k a0 a1 a2 a3 a4 a5 a6 a7 a8) (spec_TruthsToChange.f (k + 1) a0 a1 a2 a3 a4 a5 a6 a7 a8) := by
  intro a0 a1 a2 a3 a4 a5 a6 a7 a8 k
  obtain ⟨ih0, ih1, ih2⟩ := spec_TruthsToChange.mono_l k
  unfold spec_TruthsToChange.f
  repeat' first
      | (with_reducible exact ih0 _ _ _ _ _ _ _ _ _ _ _)
      | (with_reducible exact ih1 _ _ _ _ _ _ _ _ _ _ _ _ _ _ _ _ _ _ _)
      | (with_reducible exact ih2 _ _ _ _ _ _ _ _ _ _ _ _ _ _ _ _ _ _ _)
      | (with_reducible exact spec_IsEvent.mono _ _ _ _ _ _ _ _)
      | (with_reducible exact spec_l10Result.mono _ _ _ _ _ _ _ _ _)
      | (with_reducible exact spec_l12Code.mono _ _ _)
      | (with_reducible exact LeO.refl _)
      | (with_reducible exact LeO.none _)
      | (with_reducible refine LeO.ite ?_ ?_)
      | (with_reducible refine LeO.bind ?_ (fun _ => ?_))
      | exact ih0 _ _ _ _ _ _ _ _ _ _ _
      | exact ih1 _ _ _ _ _ _ _ _ _ _ _ _ _ _ _ _ _ _ _
      | exact ih2 _ _ _ _ _ _ _ _ _ _ _ _ _ _ _ _ _ _ _
      | exact spec_IsEvent.mono _ _ _ _ _ _ _ _
      | exact spec_l10Result.mono _ _ _ _ _ _ _ _ _
      | exact spec_l12Code.mono _ _ _
      | exact LeO.none _
      | refine LeO.ite ?_ ?_
      | refine LeO.bind ?_ (fun _ => ?_)
set_option maxHeartbeats 8000000 in
set_option maxRecDepth 100000 in
theorem spec_TruthsToChange.calls (k : Nat) (A0 : Option Addr) (c0 : Nat) (l0 : List (S84)) (a1_0 : Int) (a1_1 : Int) (a1_2 : ByteArray) (a1_3 : Int) (a1_4 : Bool) (a1_5 : Bool) (a1_6 : Bool) (a2 : Int) (r1 : Int) (r2 : Int) (w : World) (hr0 : Kd.C k84 w A0 l0.length l0) (hc0 : l0.length ≤ c0) (h : spec_TruthsToChange.f k l0 a1_0 a1_1 a1_2 a1_3 a1_4 a1_5 a1_6 a2 = some (r1, r2)) :
    Calls Try.prog 27 #[.slice A0 l0.length c0, .agg #[.int .i64 a1_0, .int .i64 a1_1, .string a1_2, .int .i64 a1_3, .bool a1_4, .bool a1_5, .bool a1_6], .int .i64 a2] w fun e w' => e = .returned (.tuple #[.int .i64 r1, .int .i64 r2]) ∧ Below w.heap.size w w' := by
  have hu25 := Try.underlying25
  have HR0 := Aside0.mk hr0
  have HC0 := Aside0.mk hc0
  clear hr0 hc0
  have HB := Aside0.mk (Below.refl w.heap.size w)
  have H : ((spec_IsEvent.f k a1_0 a1_1 a1_2 a1_3 a1_4 a1_5 a1_6).bind fun t270 => (if t270 = true then ((spec_l12Code.f k l0 a2).bind fun t271 => (if t271 = 0 then (spec_TruthsToChange.l0 k l0 a2 4 0 a1_0 a1_1 a1_2 a1_3 a1_4 a1_5 a1_6) else (some (0, t271)))) else (some (0, 1)))) = some (r1, r2) := h
  clear h
  replace H := Option.bind_eq_some_iff.mp H
  obtain ⟨t270, A40, H⟩ := H
  replace H : (if t270 = true then ((spec_l12Code.f k l0 a2).bind fun t271 => (if t271 = 0 then (spec_TruthsToChange.l0 k l0 a2 4 0 a1_0 a1_1 a1_2 a1_3 a1_4 a1_5 a1_6) else (some (0, t271)))) else (some (0, 1))) = some (r1, r2) := H
  have A4 := Aside0.mk A40
  clear A40
  by_cases c5 : t270 = true
  · subst c5
    have H1 : ((spec_l12Code.f k l0 a2).bind fun t271 => (if t271 = 0 then (spec_TruthsToChange.l0 k l0 a2 4 0 a1_0 a1_1 a1_2 a1_3 a1_4 a1_5 a1_6) else (some (0, t271)))) = some (r1, r2) := by rw [if_pos rfl] at H; exact H
    clear H
    have H := H1
    clear H1
    replace H := Option.bind_eq_some_iff.mp H
    obtain ⟨t271, A60, H⟩ := H
    replace H : (if t271 = 0 then (spec_TruthsToChange.l0 k l0 a2 4 0 a1_0 a1_1 a1_2 a1_3 a1_4 a1_5 a1_6) else (some (0, t271))) = some (r1, r2) := H
    have A6 := Aside0.mk A60
    clear A60
    by_cases c7 : t271 = 0
    · rw [if_pos c7] at H
      have c7b0 : (t271 == 0) = true := beq_iff_eq.mpr c7
      have c7b1 : (t271 != 0) = false := bne_eq_false_iff_eq.mpr c7
      clear c7
      have H' := Aside0.mk H
      clear H
      go_enter Try.func27, Try.ntmps27
      go_wp2_with (first | ((with_reducible refine gate_dst (N := 4) rfl ?_); refine box_event ?hg (N := 4) ?hd (cs := #[.int .i64 a1_0, .int .i64 a1_1, .string a1_2, .int .i64 a1_3, .bool a1_4, .bool a1_5, .bool a1_6]) (t := 25) ?hr ?_; (case hd => rfl); (case hg => rfl); (case hr => first | (go_simp; done) | (go_simp; rfl)); intro gb269 hg w8 hbox hb; have n0_ := Aside0.mk (below_step (by repeat (first | (with_reducible first | exact HB.out | apply below_alloc | apply pw_below_drewN | apply below_drew1) | exact HB.out)) hb); have n1_ := Aside0.mk (hbox); have n2_ := Aside0.mk ((by rw [hg]; exact (below_size (by repeat (first | (with_reducible first | exact HB.out | apply below_alloc | apply pw_below_drewN | apply below_drew1) | exact HB.out))) : w.heap.size ≤ gb269)); have n3_ := Aside0.mk ((by rw [hg]; exact (below_size (by repeat (first | (with_reducible first | exact HB.out | apply below_alloc | apply pw_below_drewN | apply below_drew1) | exact HB.out))) : w.heap.size ≤ gb269)); clear HB; have HB := n0_; have BK269 := n1_; have GW269 := n2_; have GE269 := n3_; clear n0_ n1_ n2_ n3_; clear hb hbox hg; have hcz9_0 : w8.cell? ⟨gb269, 0, none⟩ = some (.int .i64 a1_0) := (blk_cell BK269.out 0).trans rfl; have hcz9_1 : w8.cell? ⟨gb269, 1, none⟩ = some (.int .i64 a1_1) := (blk_cell BK269.out 1).trans rfl; have hcz9_2 : w8.cell? ⟨gb269, 2, none⟩ = some (.string a1_2) := (blk_cell BK269.out 2).trans rfl; have hcz9_3 : w8.cell? ⟨gb269, 3, none⟩ = some (.int .i64 a1_3) := (blk_cell BK269.out 3).trans rfl; have hcz9_4 : w8.cell? ⟨gb269, 4, none⟩ = some (.bool a1_4) := (blk_cell BK269.out 4).trans rfl; have hcz9_5 : w8.cell? ⟨gb269, 5, none⟩ = some (.bool a1_5) := (blk_cell BK269.out 5).trans rfl; have hcz9_6 : w8.cell? ⟨gb269, 6, none⟩ = some (.bool a1_6) := (blk_cell BK269.out 6).trans rfl; have hfz9_0 := blk_frozen BK269.out 0; have hfz9_1 := blk_frozen BK269.out 1; have hfz9_2 := blk_frozen BK269.out 2; have hfz9_3 := blk_frozen BK269.out 3; have hfz9_4 := blk_frozen BK269.out 4; have hfz9_5 := blk_frozen BK269.out 5; have hfz9_6 := blk_frozen BK269.out 6) | ((with_reducible refine gate_callee (f := 91) rfl ?_); refine goesL_ (some 14) rfl rfl Try.func91 (by kernel_rfl) rfl #[.agg #[.int .i64 a1_0, .int .i64 a1_1, .string a1_2, .int .i64 a1_3, .bool a1_4, .bool a1_5, .bool a1_6]] rfl (by (try simp only [List.map_toArray, List.map_cons, List.map_nil]); first | done | rfl | (simp only [List.length_drop, List.length_take]; rfl)) ?_; (with_reducible refine (spec_IsEvent.calls k a1_0 a1_1 a1_2 a1_3 a1_4 a1_5 a1_6 true _ A4.out).mono ?_); rintro e w10 ⟨rfl, hb⟩; refine ⟨_, rfl, ?_⟩; have n0_ := Aside0.mk (blk_below (g := gb269) (o := .cells #[.int .i64 a1_0, .int .i64 a1_1, .string a1_2, .int .i64 a1_3, .bool a1_4, .bool a1_5, .bool a1_6] 25 (0, 0)) (by (with_reducible repeat (first | refine blk_drewN ?_ _ | refine blk_drew ?_ | refine blk_alloc ?_ _)); exact BK269.out) hb); have n1_ := Aside0.mk (below_step (by repeat (first | (with_reducible first | exact HB.out | apply below_alloc | apply pw_below_drewN | apply below_drew1 | refine below_set ?_ GE269.out) | exact HB.out)) hb); clear BK269; clear HB; have BK269 := n0_; have HB := n1_; clear n0_ n1_; (try clear hb); (try clear hb2); (try clear hk); (try clear hi)) | ((with_reducible refine gate_callee (f := 83) rfl ?_); refine goesL_ (some 18) rfl rfl Try.func83 (by kernel_rfl) rfl #[.slice A0 l0.length c0, .int .i64 a2] rfl (by (try simp only [List.map_toArray, List.map_cons, List.map_nil]); first | done | rfl | (simp only [List.length_drop, List.length_take]; rfl)) ?_; (with_reducible refine (spec_l12Code.calls k _ _ l0 a2 t271 _ ?side1 ?side2 A6.out).mono ?_); (case side1 => repeat (first | exact (Kd.C_below HR0.out HB.out) | (with_reducible refine Kd.C_alloc ?_ _) | (with_reducible refine Kd.C_drewN ?_ _) | (with_reducible refine Kd.C_drew ?_))); (case side2 => exact HC0.out); rintro e w11 ⟨rfl, hb⟩; refine ⟨_, rfl, ?_⟩; have n0_ := Aside0.mk (blk_below (g := gb269) (o := .cells #[.int .i64 a1_0, .int .i64 a1_1, .string a1_2, .int .i64 a1_3, .bool a1_4, .bool a1_5, .bool a1_6] 25 (0, 0)) (by (with_reducible repeat (first | refine blk_drewN ?_ _ | refine blk_drew ?_ | refine blk_alloc ?_ _)); exact BK269.out) hb); have n1_ := Aside0.mk (below_step (by repeat (first | (with_reducible first | exact HB.out | apply below_alloc | apply pw_below_drewN | apply below_drew1 | refine below_set ?_ GE269.out) | exact HB.out)) hb); clear BK269; clear HB; have BK269 := n0_; have HB := n1_; clear n0_ n1_; (try clear hb); (try clear hb2); (try clear hk); (try clear hi)))
      go_loopg [9, 10] k (fun kq v9 v10 w' => ∃ (x9_1 : Int) (x10_1 : Int), v9 = .int .i64 x9_1 ∧ v10 = .int .i64 x10_1 ∧ Aside0 (spec_TruthsToChange.l0 kq l0 a2 x9_1 x10_1 a1_0 a1_1 a1_2 a1_3 a1_4 a1_5 a1_6 = some (r1, r2)) ∧ Aside0 (kq ≤ k) ∧ Aside0 (w'.heap[gb269]? = some (.cells #[.int .i64 a1_0, .int .i64 a1_1, .string a1_2, .int .i64 a1_3, .bool a1_4, .bool a1_5, .bool a1_6] 25 (0, 0))) ∧ Aside0 (Below w.heap.size w w'))
      case atStart => exact ⟨(4), (0), (by first | rfl | (simp; done) | (simp [*]; done)), (by first | rfl | (simp; done) | (simp [*]; done)), H', ⟨Nat.le_refl _⟩, ⟨by (with_reducible repeat (first | refine blk_drewN ?_ _ | refine blk_drew ?_ | refine blk_alloc ?_ _)); exact BK269.out⟩, ⟨by repeat (first | (with_reducible first | exact HB.out | apply below_alloc | apply pw_below_drewN | apply below_drew1 | refine below_set ?_ GE269.out) | exact HB.out)⟩⟩
      case round =>
        clear H'
        try clear c2
        try clear p2
        try clear c5
        try clear c7
        try clear c7b0
        try clear c7b1
        try clear c8
        try clear c9
        try clear hcz9_0
        try clear hcz9_1
        try clear hcz9_2
        try clear hcz9_3
        try clear hcz9_4
        try clear hcz9_5
        try clear hcz9_6
        try clear hfz9_0
        try clear hfz9_1
        try clear hfz9_2
        try clear hfz9_3
        try clear hfz9_4
        try clear hfz9_5
        try clear hfz9_6
        obtain ⟨x9_1, x10_1, rfl, rfl, HA, HK1, BK269, HB⟩ := hrel
        cases gk with
        | zero => exact absurd HA.out (by simp [spec_TruthsToChange.l0])
        | succ k1 =>
          have H := HA.out
          clear HA
          simp only [spec_TruthsToChange.l0] at H
          by_cases c12 : x10_1 < 8
          · rw [if_pos c12] at H
            have c12b0 : decide (x10_1 < 8) = true := decide_eq_true c12
            clear c12
            have HC13 := Aside0.mk H
            clear H
            have hcz14_0 : wr.cell? ⟨gb269, 0, none⟩ = some (.int .i64 a1_0) := (blk_cell BK269.out 0).trans rfl
            have hcz14_1 : wr.cell? ⟨gb269, 1, none⟩ = some (.int .i64 a1_1) := (blk_cell BK269.out 1).trans rfl
            have hcz14_2 : wr.cell? ⟨gb269, 2, none⟩ = some (.string a1_2) := (blk_cell BK269.out 2).trans rfl
            have hcz14_3 : wr.cell? ⟨gb269, 3, none⟩ = some (.int .i64 a1_3) := (blk_cell BK269.out 3).trans rfl
            have hcz14_4 : wr.cell? ⟨gb269, 4, none⟩ = some (.bool a1_4) := (blk_cell BK269.out 4).trans rfl
            have hcz14_5 : wr.cell? ⟨gb269, 5, none⟩ = some (.bool a1_5) := (blk_cell BK269.out 5).trans rfl
            have hcz14_6 : wr.cell? ⟨gb269, 6, none⟩ = some (.bool a1_6) := (blk_cell BK269.out 6).trans rfl
            have hfz14_0 := blk_frozen BK269.out 0
            have hfz14_1 := blk_frozen BK269.out 1
            have hfz14_2 := blk_frozen BK269.out 2
            have hfz14_3 := blk_frozen BK269.out 3
            have hfz14_4 := blk_frozen BK269.out 4
            have hfz14_5 := blk_frozen BK269.out 5
            have hfz14_6 := blk_frozen BK269.out 6
            go_upto_if 29 with (first | ((with_reducible refine gate_dst (N := 11) rfl ?_); refine box_event ?hg (N := 11) ?hd (cs := #[.int .i64 0, .int .i64 0, .string (⟨#[]⟩ : ByteArray), .int .i64 0, .bool false, .bool false, .bool false]) (t := 25) ?hr ?_; (case hd => rfl); (case hg => rfl); (case hr => first | (go_simp; done) | (go_simp; rfl)); intro gb272 hg w15 hbox hb; have n0_ := Aside0.mk (blk_below (g := gb269) (o := .cells #[.int .i64 a1_0, .int .i64 a1_1, .string a1_2, .int .i64 a1_3, .bool a1_4, .bool a1_5, .bool a1_6] 25 (0, 0)) (by (with_reducible repeat (first | refine blk_drewN ?_ _ | refine blk_drew ?_ | refine blk_alloc ?_ _)); exact BK269.out) hb); have n1_ := Aside0.mk (below_step (by repeat (first | (with_reducible first | exact HB.out | apply below_alloc | apply pw_below_drewN | apply below_drew1 | refine below_set ?_ GE269.out) | exact HB.out)) hb); have n2_ := Aside0.mk (hbox); have n3_ := Aside0.mk ((by rw [hg]; exact (below_size (by repeat (first | (with_reducible first | exact HB.out | apply below_alloc | apply pw_below_drewN | apply below_drew1 | refine below_set ?_ GE269.out) | exact HB.out))) : w.heap.size ≤ gb272)); have n4_ := Aside0.mk ((by rw [hg]; exact (below_size (by repeat (first | (with_reducible first | exact HB.out | apply below_alloc | apply pw_below_drewN | apply below_drew1 | refine below_set ?_ GE269.out) | exact HB.out))) : w.heap.size ≤ gb272)); have n5_ := Aside0.mk ((by rw [hg]; exact Nat.ne_of_lt (blk_lt (g := gb269) (o := .cells #[.int .i64 a1_0, .int .i64 a1_1, .string a1_2, .int .i64 a1_3, .bool a1_4, .bool a1_5, .bool a1_6] 25 (0, 0)) (by (with_reducible repeat (first | refine blk_drewN ?_ _ | refine blk_drew ?_ | refine blk_alloc ?_ _)); exact BK269.out)) : gb269 ≠ gb272)); have n6_ := Aside0.mk ((by rw [hg]; exact Nat.ne_of_gt (blk_lt (g := gb269) (o := .cells #[.int .i64 a1_0, .int .i64 a1_1, .string a1_2, .int .i64 a1_3, .bool a1_4, .bool a1_5, .bool a1_6] 25 (0, 0)) (by (with_reducible repeat (first | refine blk_drewN ?_ _ | refine blk_drew ?_ | refine blk_alloc ?_ _)); exact BK269.out)) : gb272 ≠ gb269)); clear BK269; clear HB; have BK269 := n0_; have HB := n1_; have BK272 := n2_; have GW272 := n3_; have GE272 := n4_; have NB269_272 := n5_; have NB272_269 := n6_; clear n0_ n1_ n2_ n3_ n4_ n5_ n6_; clear hb hbox hg; have hnb16 := NB272_269.out; have hnc16 := NB269_272.out; have hcz17_0 : w15.cell? ⟨gb272, 0, none⟩ = some (.int .i64 0) := (blk_cell BK272.out 0).trans rfl; have hcz17_1 : w15.cell? ⟨gb272, 1, none⟩ = some (.int .i64 0) := (blk_cell BK272.out 1).trans rfl; have hcz17_2 : w15.cell? ⟨gb272, 2, none⟩ = some (.string (⟨#[]⟩ : ByteArray)) := (blk_cell BK272.out 2).trans rfl; have hcz17_3 : w15.cell? ⟨gb272, 3, none⟩ = some (.int .i64 0) := (blk_cell BK272.out 3).trans rfl; have hcz17_4 : w15.cell? ⟨gb272, 4, none⟩ = some (.bool false) := (blk_cell BK272.out 4).trans rfl; have hcz17_5 : w15.cell? ⟨gb272, 5, none⟩ = some (.bool false) := (blk_cell BK272.out 5).trans rfl; have hcz17_6 : w15.cell? ⟨gb272, 6, none⟩ = some (.bool false) := (blk_cell BK272.out 6).trans rfl; have hfz17_0 := blk_frozen BK272.out 0; have hfz17_1 := blk_frozen BK272.out 1; have hfz17_2 := blk_frozen BK272.out 2; have hfz17_3 := blk_frozen BK272.out 3; have hfz17_4 := blk_frozen BK272.out 4; have hfz17_5 := blk_frozen BK272.out 5; have hfz17_6 := blk_frozen BK272.out 6))
            (try simp only [Act.put, List.setIfInBounds_toArray, List.set_cons_zero, List.set_cons_succ])
            go_cut [12] (fun v12 wc => ∃ (kq : Nat) (x12_12 : Int) (x273004_12 : Bool), v12 = .int .i64 x12_12 ∧ Aside0 (spec_TruthsToChange.j1 kq l0 a2 x9_1 x10_1 x12_12 a1_0 a1_1 a1_2 a1_3 a1_4 a1_5 a1_6 a1_0 a1_1 a1_2 a1_3 x273004_12 a1_5 a1_6 = some (r1, r2)) ∧ Aside0 (kq ≤ k1) ∧ Aside0 (wc.heap[gb269]? = some (.cells #[.int .i64 a1_0, .int .i64 a1_1, .string a1_2, .int .i64 a1_3, .bool a1_4, .bool a1_5, .bool a1_6] 25 (0, 0))) ∧ Aside0 (wc.heap[gb272]? = some (.cells #[.int .i64 a1_0, .int .i64 a1_1, .string a1_2, .int .i64 a1_3, .bool x273004_12, .bool a1_5, .bool a1_6] 25 (0, 0))) ∧ Aside0 (Below w.heap.size w wc))
            case first =>
              have H := HC13.out
              clear HC13
              by_cases c18 : (Int.tmod x10_1 2) = 1
              · rw [if_pos c18] at H
                have c18b0 : ((Int.tmod x10_1 2) == 1) = true := beq_iff_eq.mpr c18
                have c18b1 : ((Int.tmod x10_1 2) != 1) = false := bne_eq_false_iff_eq.mpr c18
                clear c18
                (first | rw [c18b0] | (simp only [i64_w, i32_w]; rw [c18b0]) | skip)
                have H' := Aside0.mk H
                clear H
                have hnb19 := NB272_269.out
                have hnc19 := NB269_272.out
                have hcz20_0 : w15.cell? ⟨gb272, 0, none⟩ = some (.int .i64 0) := (blk_cell BK272.out 0).trans rfl
                have hcz20_1 : w15.cell? ⟨gb272, 1, none⟩ = some (.int .i64 0) := (blk_cell BK272.out 1).trans rfl
                have hcz20_2 : w15.cell? ⟨gb272, 2, none⟩ = some (.string (⟨#[]⟩ : ByteArray)) := (blk_cell BK272.out 2).trans rfl
                have hcz20_3 : w15.cell? ⟨gb272, 3, none⟩ = some (.int .i64 0) := (blk_cell BK272.out 3).trans rfl
                have hcz20_4 : w15.cell? ⟨gb272, 4, none⟩ = some (.bool false) := (blk_cell BK272.out 4).trans rfl
                have hcz20_5 : w15.cell? ⟨gb272, 5, none⟩ = some (.bool false) := (blk_cell BK272.out 5).trans rfl
                have hcz20_6 : w15.cell? ⟨gb272, 6, none⟩ = some (.bool false) := (blk_cell BK272.out 6).trans rfl
                have hfz20_0 := blk_frozen BK272.out 0
                have hfz20_1 := blk_frozen BK272.out 1
                have hfz20_2 := blk_frozen BK272.out 2
                have hfz20_3 := blk_frozen BK272.out 3
                have hfz20_4 := blk_frozen BK272.out 4
                have hfz20_5 := blk_frozen BK272.out 5
                have hfz20_6 := blk_frozen BK272.out 6
                go_wp2
                go_meet
                case rel => exact ⟨_, (0 + 1), (!a1_4), (by first | rfl | (simp; done) | (simp [*]; done)), H', ⟨by have := HK1.out; first | omega | exact Nat.le_refl _⟩, ⟨by (with_reducible repeat (first | refine blk_drewN ?_ _ | refine blk_drew ?_ | refine blk_alloc ?_ _)); refine blk_far ?_ NB269_272.out _; (with_reducible repeat (first | refine blk_drewN ?_ _ | refine blk_drew ?_ | refine blk_alloc ?_ _)); refine blk_far ?_ NB269_272.out _; (with_reducible repeat (first | refine blk_drewN ?_ _ | refine blk_drew ?_ | refine blk_alloc ?_ _)); refine blk_far ?_ NB269_272.out _; (with_reducible repeat (first | refine blk_drewN ?_ _ | refine blk_drew ?_ | refine blk_alloc ?_ _)); refine blk_far ?_ NB269_272.out _; (with_reducible repeat (first | refine blk_drewN ?_ _ | refine blk_drew ?_ | refine blk_alloc ?_ _)); refine blk_far ?_ NB269_272.out _; (with_reducible repeat (first | refine blk_drewN ?_ _ | refine blk_drew ?_ | refine blk_alloc ?_ _)); refine blk_far ?_ NB269_272.out _; (with_reducible repeat (first | refine blk_drewN ?_ _ | refine blk_drew ?_ | refine blk_alloc ?_ _)); refine blk_far ?_ NB269_272.out _; (with_reducible repeat (first | refine blk_drewN ?_ _ | refine blk_drew ?_ | refine blk_alloc ?_ _)); refine blk_far ?_ NB269_272.out _; (with_reducible repeat (first | refine blk_drewN ?_ _ | refine blk_drew ?_ | refine blk_alloc ?_ _)); exact BK269.out⟩, ⟨by (with_reducible repeat (first | refine blk_drewN ?_ _ | refine blk_drew ?_ | refine blk_alloc ?_ _)); refine blk_put (cs := #[.int .i64 a1_0, .int .i64 a1_1, .string a1_2, .int .i64 a1_3, .bool a1_4, .bool a1_5, .bool a1_6]) ?_ 4 _ rfl; (with_reducible repeat (first | refine blk_drewN ?_ _ | refine blk_drew ?_ | refine blk_alloc ?_ _)); refine blk_put (cs := #[.int .i64 a1_0, .int .i64 a1_1, .string a1_2, .int .i64 a1_3, .bool a1_4, .bool a1_5, .bool false]) ?_ 6 _ rfl; (with_reducible repeat (first | refine blk_drewN ?_ _ | refine blk_drew ?_ | refine blk_alloc ?_ _)); refine blk_put (cs := #[.int .i64 a1_0, .int .i64 a1_1, .string a1_2, .int .i64 a1_3, .bool a1_4, .bool false, .bool false]) ?_ 5 _ rfl; (with_reducible repeat (first | refine blk_drewN ?_ _ | refine blk_drew ?_ | refine blk_alloc ?_ _)); refine blk_put (cs := #[.int .i64 a1_0, .int .i64 a1_1, .string a1_2, .int .i64 a1_3, .bool false, .bool false, .bool false]) ?_ 4 _ rfl; (with_reducible repeat (first | refine blk_drewN ?_ _ | refine blk_drew ?_ | refine blk_alloc ?_ _)); refine blk_put (cs := #[.int .i64 a1_0, .int .i64 a1_1, .string a1_2, .int .i64 0, .bool false, .bool false, .bool false]) ?_ 3 _ rfl; (with_reducible repeat (first | refine blk_drewN ?_ _ | refine blk_drew ?_ | refine blk_alloc ?_ _)); refine blk_put (cs := #[.int .i64 a1_0, .int .i64 a1_1, .string (⟨#[]⟩ : ByteArray), .int .i64 0, .bool false, .bool false, .bool false]) ?_ 2 _ rfl; (with_reducible repeat (first | refine blk_drewN ?_ _ | refine blk_drew ?_ | refine blk_alloc ?_ _)); refine blk_put (cs := #[.int .i64 a1_0, .int .i64 0, .string (⟨#[]⟩ : ByteArray), .int .i64 0, .bool false, .bool false, .bool false]) ?_ 1 _ rfl; (with_reducible repeat (first | refine blk_drewN ?_ _ | refine blk_drew ?_ | refine blk_alloc ?_ _)); refine blk_put (cs := #[.int .i64 0, .int .i64 0, .string (⟨#[]⟩ : ByteArray), .int .i64 0, .bool false, .bool false, .bool false]) ?_ 0 _ rfl; (with_reducible repeat (first | refine blk_drewN ?_ _ | refine blk_drew ?_ | refine blk_alloc ?_ _)); exact BK272.out⟩, ⟨by repeat (first | (with_reducible first | exact HB.out | apply below_alloc | apply pw_below_drewN | apply below_drew1 | refine below_set ?_ GE269.out | refine below_set ?_ GE272.out) | exact HB.out)⟩⟩
              · rw [if_neg c18] at H
                have c18b0 : ((Int.tmod x10_1 2) == 1) = false := beq_eq_false_iff_ne.mpr c18
                have c18b1 : ((Int.tmod x10_1 2) != 1) = true := bne_iff_ne.mpr c18
                (first | rw [c18b0] | (simp only [i64_w, i32_w]; rw [c18b0]) | skip)
                have H' := Aside0.mk H
                clear H
                go_wp2
                go_meet
                case rel => exact ⟨_, (0), (a1_4), (by first | rfl | (simp; done) | (simp [*]; done)), H', ⟨by have := HK1.out; first | omega | exact Nat.le_refl _⟩, ⟨by (with_reducible repeat (first | refine blk_drewN ?_ _ | refine blk_drew ?_ | refine blk_alloc ?_ _)); refine blk_far ?_ NB269_272.out _; (with_reducible repeat (first | refine blk_drewN ?_ _ | refine blk_drew ?_ | refine blk_alloc ?_ _)); refine blk_far ?_ NB269_272.out _; (with_reducible repeat (first | refine blk_drewN ?_ _ | refine blk_drew ?_ | refine blk_alloc ?_ _)); refine blk_far ?_ NB269_272.out _; (with_reducible repeat (first | refine blk_drewN ?_ _ | refine blk_drew ?_ | refine blk_alloc ?_ _)); refine blk_far ?_ NB269_272.out _; (with_reducible repeat (first | refine blk_drewN ?_ _ | refine blk_drew ?_ | refine blk_alloc ?_ _)); refine blk_far ?_ NB269_272.out _; (with_reducible repeat (first | refine blk_drewN ?_ _ | refine blk_drew ?_ | refine blk_alloc ?_ _)); refine blk_far ?_ NB269_272.out _; (with_reducible repeat (first | refine blk_drewN ?_ _ | refine blk_drew ?_ | refine blk_alloc ?_ _)); refine blk_far ?_ NB269_272.out _; (with_reducible repeat (first | refine blk_drewN ?_ _ | refine blk_drew ?_ | refine blk_alloc ?_ _)); exact BK269.out⟩, ⟨by (with_reducible repeat (first | refine blk_drewN ?_ _ | refine blk_drew ?_ | refine blk_alloc ?_ _)); refine blk_put (cs := #[.int .i64 a1_0, .int .i64 a1_1, .string a1_2, .int .i64 a1_3, .bool a1_4, .bool a1_5, .bool false]) ?_ 6 _ rfl; (with_reducible repeat (first | refine blk_drewN ?_ _ | refine blk_drew ?_ | refine blk_alloc ?_ _)); refine blk_put (cs := #[.int .i64 a1_0, .int .i64 a1_1, .string a1_2, .int .i64 a1_3, .bool a1_4, .bool false, .bool false]) ?_ 5 _ rfl; (with_reducible repeat (first | refine blk_drewN ?_ _ | refine blk_drew ?_ | refine blk_alloc ?_ _)); refine blk_put (cs := #[.int .i64 a1_0, .int .i64 a1_1, .string a1_2, .int .i64 a1_3, .bool false, .bool false, .bool false]) ?_ 4 _ rfl; (with_reducible repeat (first | refine blk_drewN ?_ _ | refine blk_drew ?_ | refine blk_alloc ?_ _)); refine blk_put (cs := #[.int .i64 a1_0, .int .i64 a1_1, .string a1_2, .int .i64 0, .bool false, .bool false, .bool false]) ?_ 3 _ rfl; (with_reducible repeat (first | refine blk_drewN ?_ _ | refine blk_drew ?_ | refine blk_alloc ?_ _)); refine blk_put (cs := #[.int .i64 a1_0, .int .i64 a1_1, .string (⟨#[]⟩ : ByteArray), .int .i64 0, .bool false, .bool false, .bool false]) ?_ 2 _ rfl; (with_reducible repeat (first | refine blk_drewN ?_ _ | refine blk_drew ?_ | refine blk_alloc ?_ _)); refine blk_put (cs := #[.int .i64 a1_0, .int .i64 0, .string (⟨#[]⟩ : ByteArray), .int .i64 0, .bool false, .bool false, .bool false]) ?_ 1 _ rfl; (with_reducible repeat (first | refine blk_drewN ?_ _ | refine blk_drew ?_ | refine blk_alloc ?_ _)); refine blk_put (cs := #[.int .i64 0, .int .i64 0, .string (⟨#[]⟩ : ByteArray), .int .i64 0, .bool false, .bool false, .bool false]) ?_ 0 _ rfl; (with_reducible repeat (first | refine blk_drewN ?_ _ | refine blk_drew ?_ | refine blk_alloc ?_ _)); exact BK272.out⟩, ⟨by repeat (first | (with_reducible first | exact HB.out | apply below_alloc | apply pw_below_drewN | apply below_drew1 | refine below_set ?_ GE269.out | refine below_set ?_ GE272.out) | exact HB.out)⟩⟩
            case rest =>
              clear HC13
              try clear c1
              try clear c2
              try clear p2
              try clear c5
              try clear c7
              try clear c7b0
              try clear c7b1
              try clear c8
              try clear c9
              try clear c12
              try clear c12b0
              try clear c16
              try clear c18
              try clear c18b0
              try clear c18b1
              try clear c19
              try clear hcz14_0
              try clear hcz14_1
              try clear hcz14_2
              try clear hcz14_3
              try clear hcz14_4
              try clear hcz14_5
              try clear hcz14_6
              try clear hcz17_0
              try clear hcz17_1
              try clear hcz17_2
              try clear hcz17_3
              try clear hcz17_4
              try clear hcz17_5
              try clear hcz17_6
              try clear hcz20_0
              try clear hcz20_1
              try clear hcz20_2
              try clear hcz20_3
              try clear hcz20_4
              try clear hcz20_5
              try clear hcz20_6
              try clear hcz9_0
              try clear hcz9_1
              try clear hcz9_2
              try clear hcz9_3
              try clear hcz9_4
              try clear hcz9_5
              try clear hcz9_6
              try clear hfz14_0
              try clear hfz14_1
              try clear hfz14_2
              try clear hfz14_3
              try clear hfz14_4
              try clear hfz14_5
              try clear hfz14_6
              try clear hfz17_0
              try clear hfz17_1
              try clear hfz17_2
              try clear hfz17_3
              try clear hfz17_4
              try clear hfz17_5
              try clear hfz17_6
              try clear hfz20_0
              try clear hfz20_1
              try clear hfz20_2
              try clear hfz20_3
              try clear hfz20_4
              try clear hfz20_5
              try clear hfz20_6
              try clear hfz9_0
              try clear hfz9_1
              try clear hfz9_2
              try clear hfz9_3
              try clear hfz9_4
              try clear hfz9_5
              try clear hfz9_6
              try clear p2
              obtain ⟨kq, x12_12, x273004_12, rfl, HA, HJ12, BK269, BK272, HB⟩ := hcut
              cases kq with
              | zero => exact absurd HA.out (by simp [spec_TruthsToChange.j1])
              | succ kj12 =>
                have H := HA.out
                clear HA
                simp only [spec_TruthsToChange.j1] at H
                have HC21 := Aside0.mk H
                clear H
                go_upto_if 39 with (fail)
                go_cut [12] (fun v12 wc => ∃ (kq : Nat) (x12_20 : Int) (x273005_20 : Bool), v12 = .int .i64 x12_20 ∧ Aside0 (spec_TruthsToChange.j2 kq l0 a2 x9_1 x10_1 x12_20 a1_0 a1_1 a1_2 a1_3 a1_4 a1_5 a1_6 a1_0 a1_1 a1_2 a1_3 x273004_12 x273005_20 a1_6 = some (r1, r2)) ∧ Aside0 (kq ≤ kj12) ∧ Aside0 (wc.heap[gb269]? = some (.cells #[.int .i64 a1_0, .int .i64 a1_1, .string a1_2, .int .i64 a1_3, .bool a1_4, .bool a1_5, .bool a1_6] 25 (0, 0))) ∧ Aside0 (wc.heap[gb272]? = some (.cells #[.int .i64 a1_0, .int .i64 a1_1, .string a1_2, .int .i64 a1_3, .bool x273004_12, .bool x273005_20, .bool a1_6] 25 (0, 0))) ∧ Aside0 (Below w.heap.size w wc))
                case first =>
                  have H := HC21.out
                  clear HC21
                  by_cases c22 : (Int.tmod (wrap64 (Int.tdiv x10_1 2)) 2) = 1
                  · rw [if_pos c22] at H
                    have c22b0 : ((Int.tmod (wrap64 (Int.tdiv x10_1 2)) 2) == 1) = true := beq_iff_eq.mpr c22
                    have c22b1 : ((Int.tmod (wrap64 (Int.tdiv x10_1 2)) 2) != 1) = false := bne_eq_false_iff_eq.mpr c22
                    clear c22
                    (first | rw [c22b0] | (simp only [i64_w, i32_w]; rw [c22b0]) | skip)
                    have H' := Aside0.mk H
                    clear H
                    have hnb23 := NB272_269.out
                    have hnc23 := NB269_272.out
                    have hcz24_0 : wc.cell? ⟨gb272, 0, none⟩ = some (.int .i64 a1_0) := (blk_cell BK272.out 0).trans rfl
                    have hcz24_1 : wc.cell? ⟨gb272, 1, none⟩ = some (.int .i64 a1_1) := (blk_cell BK272.out 1).trans rfl
                    have hcz24_2 : wc.cell? ⟨gb272, 2, none⟩ = some (.string a1_2) := (blk_cell BK272.out 2).trans rfl
                    have hcz24_3 : wc.cell? ⟨gb272, 3, none⟩ = some (.int .i64 a1_3) := (blk_cell BK272.out 3).trans rfl
                    have hcz24_4 : wc.cell? ⟨gb272, 4, none⟩ = some (.bool x273004_12) := (blk_cell BK272.out 4).trans rfl
                    have hcz24_5 : wc.cell? ⟨gb272, 5, none⟩ = some (.bool a1_5) := (blk_cell BK272.out 5).trans rfl
                    have hcz24_6 : wc.cell? ⟨gb272, 6, none⟩ = some (.bool a1_6) := (blk_cell BK272.out 6).trans rfl
                    have hfz24_0 := blk_frozen BK272.out 0
                    have hfz24_1 := blk_frozen BK272.out 1
                    have hfz24_2 := blk_frozen BK272.out 2
                    have hfz24_3 := blk_frozen BK272.out 3
                    have hfz24_4 := blk_frozen BK272.out 4
                    have hfz24_5 := blk_frozen BK272.out 5
                    have hfz24_6 := blk_frozen BK272.out 6
                    go_wp2
                    go_meet
                    case rel => exact ⟨_, (wrap64 (x12_12 + 1)), (!a1_5), (by first | rfl | (simp; done) | (simp [*]; done)), H', ⟨by have := HK1.out; have := HJ12.out; first | omega | exact Nat.le_refl _⟩, ⟨by (with_reducible repeat (first | refine blk_drewN ?_ _ | refine blk_drew ?_ | refine blk_alloc ?_ _)); refine blk_far ?_ NB269_272.out _; (with_reducible repeat (first | refine blk_drewN ?_ _ | refine blk_drew ?_ | refine blk_alloc ?_ _)); exact BK269.out⟩, ⟨by (with_reducible repeat (first | refine blk_drewN ?_ _ | refine blk_drew ?_ | refine blk_alloc ?_ _)); refine blk_put (cs := #[.int .i64 a1_0, .int .i64 a1_1, .string a1_2, .int .i64 a1_3, .bool x273004_12, .bool a1_5, .bool a1_6]) ?_ 5 _ rfl; (with_reducible repeat (first | refine blk_drewN ?_ _ | refine blk_drew ?_ | refine blk_alloc ?_ _)); exact BK272.out⟩, ⟨by repeat (first | (with_reducible first | exact HB.out | apply below_alloc | apply pw_below_drewN | apply below_drew1 | refine below_set ?_ GE269.out | refine below_set ?_ GE272.out) | exact HB.out)⟩⟩
                  · rw [if_neg c22] at H
                    have c22b0 : ((Int.tmod (wrap64 (Int.tdiv x10_1 2)) 2) == 1) = false := beq_eq_false_iff_ne.mpr c22
                    have c22b1 : ((Int.tmod (wrap64 (Int.tdiv x10_1 2)) 2) != 1) = true := bne_iff_ne.mpr c22
                    (first | rw [c22b0] | (simp only [i64_w, i32_w]; rw [c22b0]) | skip)
                    have H' := Aside0.mk H
                    clear H
                    go_wp2
                    go_meet
                    case rel => exact ⟨_, (x12_12), (a1_5), (by first | rfl | (simp; done) | (simp [*]; done)), H', ⟨by have := HK1.out; have := HJ12.out; first | omega | exact Nat.le_refl _⟩, ⟨by (with_reducible repeat (first | refine blk_drewN ?_ _ | refine blk_drew ?_ | refine blk_alloc ?_ _)); exact BK269.out⟩, ⟨by (with_reducible repeat (first | refine blk_drewN ?_ _ | refine blk_drew ?_ | refine blk_alloc ?_ _)); exact BK272.out⟩, ⟨by repeat (first | (with_reducible first | exact HB.out | apply below_alloc | apply pw_below_drewN | apply below_drew1 | refine below_set ?_ GE269.out | refine below_set ?_ GE272.out) | exact HB.out)⟩⟩
                case rest =>
                  clear HC21
                  try clear c1
                  try clear c2
                  try clear p2
                  try clear c5
                  try clear p6
                  try clear c7
                  try clear c7b0
                  try clear c7b1
                  try clear c8
                  try clear c9
                  try clear c12
                  try clear c12b0
                  try clear c16
                  try clear c18
                  try clear c18b0
                  try clear c18b1
                  try clear c19
                  try clear c22
                  try clear c22b0
                  try clear c22b1
                  try clear c23
                  try clear hcz14_0
                  try clear hcz14_1
                  try clear hcz14_2
                  try clear hcz14_3
                  try clear hcz14_4
                  try clear hcz14_5
                  try clear hcz14_6
                  try clear hcz17_0
                  try clear hcz17_1
                  try clear hcz17_2
                  try clear hcz17_3
                  try clear hcz17_4
                  try clear hcz17_5
                  try clear hcz17_6
                  try clear hcz20_0
                  try clear hcz20_1
                  try clear hcz20_2
                  try clear hcz20_3
                  try clear hcz20_4
                  try clear hcz20_5
                  try clear hcz20_6
                  try clear hcz24_0
                  try clear hcz24_1
                  try clear hcz24_2
                  try clear hcz24_3
                  try clear hcz24_4
                  try clear hcz24_5
                  try clear hcz24_6
                  try clear hcz9_0
                  try clear hcz9_1
                  try clear hcz9_2
                  try clear hcz9_3
                  try clear hcz9_4
                  try clear hcz9_5
                  try clear hcz9_6
                  try clear hfz14_0
                  try clear hfz14_1
                  try clear hfz14_2
                  try clear hfz14_3
                  try clear hfz14_4
                  try clear hfz14_5
                  try clear hfz14_6
                  try clear hfz17_0
                  try clear hfz17_1
                  try clear hfz17_2
                  try clear hfz17_3
                  try clear hfz17_4
                  try clear hfz17_5
                  try clear hfz17_6
                  try clear hfz20_0
                  try clear hfz20_1
                  try clear hfz20_2
                  try clear hfz20_3
                  try clear hfz20_4
                  try clear hfz20_5
                  try clear hfz20_6
                  try clear hfz24_0
                  try clear hfz24_1
                  try clear hfz24_2
                  try clear hfz24_3
                  try clear hfz24_4
                  try clear hfz24_5
                  try clear hfz24_6
                  try clear hfz9_0
                  try clear hfz9_1
                  try clear hfz9_2
                  try clear hfz9_3
                  try clear hfz9_4
                  try clear hfz9_5
                  try clear hfz9_6
                  try clear p2
                  obtain ⟨kq, x12_20, x273005_20, rfl, HA, HJ20, BK269, BK272, HB⟩ := hcut
                  cases kq with
                  | zero => exact absurd HA.out (by simp [spec_TruthsToChange.j2])
                  | succ kj20 =>
                    have H := HA.out
                    clear HA
                    simp only [spec_TruthsToChange.j2] at H
                    by_cases c25 : (wrap64 (Int.tdiv x10_1 4)) = 1
                    · rw [if_pos c25] at H
                      have c25b0 : ((wrap64 (Int.tdiv x10_1 4)) == 1) = true := beq_iff_eq.mpr c25
                      have c25b1 : ((wrap64 (Int.tdiv x10_1 4)) != 1) = false := bne_eq_false_iff_eq.mpr c25
                      clear c25
                      replace H := Option.bind_eq_some_iff.mp H
                      obtain ⟨t273, A260, H⟩ := H
                      replace H : (if t273 = a2 then (spec_TruthsToChange.l0 kj20 l0 a2 (mn x9_1 (wrap64 (x12_20 + 1))) (wrap64 (x10_1 + 1)) a1_0 a1_1 a1_2 a1_3 a1_4 a1_5 a1_6) else (spec_TruthsToChange.l0 kj20 l0 a2 x9_1 (wrap64 (x10_1 + 1)) a1_0 a1_1 a1_2 a1_3 a1_4 a1_5 a1_6)) = some (r1, r2) := H
                      have A26 := Aside0.mk A260
                      clear A260
                      by_cases c27 : t273 = a2
                      · rw [if_pos c27] at H
                        have c27b0 : (t273 == a2) = true := beq_iff_eq.mpr c27
                        have c27b1 : (t273 != a2) = false := bne_eq_false_iff_eq.mpr c27
                        clear c27
                        obtain ⟨ji28, hji28⟩ : ∃ j_ : Int, (mn x9_1 (wrap64 (x12_20 + 1))) = j_ := ⟨_, rfl⟩
                        replace H : (spec_TruthsToChange.l0 kj20 l0 a2 ji28 (wrap64 (x10_1 + 1)) a1_0 a1_1 a1_2 a1_3 a1_4 a1_5 a1_6) = some (r1, r2) := by first | (rw [hji28] at H; exact H) | (simp only [hji28] at H ⊢; exact H)
                        (try rw [hji28] at A26)
                        have hji28_ : (if (wrap64 (x12_20 + 1)) < x9_1 then (wrap64 (x12_20 + 1)) else x9_1) = ji28 := hji28
                        have H' := Aside0.mk H
                        clear H
                        have hnb29 := NB272_269.out
                        have hnc29 := NB269_272.out
                        have hcz30_0 : wc.cell? ⟨gb272, 0, none⟩ = some (.int .i64 a1_0) := (blk_cell BK272.out 0).trans rfl
                        have hcz30_1 : wc.cell? ⟨gb272, 1, none⟩ = some (.int .i64 a1_1) := (blk_cell BK272.out 1).trans rfl
                        have hcz30_2 : wc.cell? ⟨gb272, 2, none⟩ = some (.string a1_2) := (blk_cell BK272.out 2).trans rfl
                        have hcz30_3 : wc.cell? ⟨gb272, 3, none⟩ = some (.int .i64 a1_3) := (blk_cell BK272.out 3).trans rfl
                        have hcz30_4 : wc.cell? ⟨gb272, 4, none⟩ = some (.bool x273004_12) := (blk_cell BK272.out 4).trans rfl
                        have hcz30_5 : wc.cell? ⟨gb272, 5, none⟩ = some (.bool x273005_20) := (blk_cell BK272.out 5).trans rfl
                        have hcz30_6 : wc.cell? ⟨gb272, 6, none⟩ = some (.bool a1_6) := (blk_cell BK272.out 6).trans rfl
                        have hfz30_0 := blk_frozen BK272.out 0
                        have hfz30_1 := blk_frozen BK272.out 1
                        have hfz30_2 := blk_frozen BK272.out 2
                        have hfz30_3 := blk_frozen BK272.out 3
                        have hfz30_4 := blk_frozen BK272.out 4
                        have hfz30_5 := blk_frozen BK272.out 5
                        have hfz30_6 := blk_frozen BK272.out 6
                        go_wp2_with (first | ((with_reducible refine gate_callee (f := 84) rfl ?_); refine goesL_ (some 57) rfl rfl Try.func84 (by kernel_rfl) rfl #[.slice A0 l0.length c0, .agg #[.int .i64 a1_0, .int .i64 a1_1, .string a1_2, .int .i64 a1_3, .bool x273004_12, .bool x273005_20, .bool (!a1_6)]] rfl (by (try simp only [List.map_toArray, List.map_cons, List.map_nil]); first | done | rfl | (simp only [List.length_drop, List.length_take]; rfl)) ?_; (with_reducible refine (spec_l10Result.calls kj20 _ _ l0 a1_0 a1_1 a1_2 a1_3 x273004_12 x273005_20 (!a1_6) t273 _ ?side1 ?side2 A26.out).mono ?_); (case side1 => exact Kd.C_below HR0.out (by repeat (first | (with_reducible first | exact HB.out | apply below_alloc | apply pw_below_drewN | apply below_drew1 | refine below_set ?_ GE269.out | refine below_set ?_ GE272.out) | exact HB.out))); (case side2 => exact HC0.out); rintro e w31 ⟨rfl, hb⟩; refine ⟨_, rfl, ?_⟩; have n0_ := Aside0.mk (blk_below (g := gb269) (o := .cells #[.int .i64 a1_0, .int .i64 a1_1, .string a1_2, .int .i64 a1_3, .bool a1_4, .bool a1_5, .bool a1_6] 25 (0, 0)) (by (with_reducible repeat (first | refine blk_drewN ?_ _ | refine blk_drew ?_ | refine blk_alloc ?_ _)); refine blk_far ?_ NB269_272.out _; (with_reducible repeat (first | refine blk_drewN ?_ _ | refine blk_drew ?_ | refine blk_alloc ?_ _)); exact BK269.out) hb); have n1_ := Aside0.mk (blk_below (g := gb272) (o := .cells #[.int .i64 a1_0, .int .i64 a1_1, .string a1_2, .int .i64 a1_3, .bool x273004_12, .bool x273005_20, .bool (!a1_6)] 25 (0, 0)) (by (with_reducible repeat (first | refine blk_drewN ?_ _ | refine blk_drew ?_ | refine blk_alloc ?_ _)); refine blk_put (cs := #[.int .i64 a1_0, .int .i64 a1_1, .string a1_2, .int .i64 a1_3, .bool x273004_12, .bool x273005_20, .bool a1_6]) ?_ 6 _ rfl; (with_reducible repeat (first | refine blk_drewN ?_ _ | refine blk_drew ?_ | refine blk_alloc ?_ _)); exact BK272.out) hb); have n2_ := Aside0.mk (below_step (by repeat (first | (with_reducible first | exact HB.out | apply below_alloc | apply pw_below_drewN | apply below_drew1 | refine below_set ?_ GE269.out | refine below_set ?_ GE272.out) | exact HB.out)) hb); clear BK269; clear BK272; clear HB; have BK269 := n0_; have BK272 := n1_; have HB := n2_; clear n0_ n1_ n2_; (try clear hb); (try clear hb2); (try clear hk); (try clear hi)))
                        go_roundg kj20
                        case measure => have := HK1.out; have := HJ12.out; have := HJ20.out; omega
                        case rel => exact ⟨(ji28), (wrap64 (x10_1 + 1)), (by first | rfl | (simp; done) | (simp only [← hji28] <;> (first | rfl | simp)) | (simp [*]; done)), (by first | rfl | (simp; done) | (simp [*]; done)), H', ⟨by have := HK1.out; have := HJ12.out; have := HJ20.out; omega⟩, ⟨by (with_reducible repeat (first | refine blk_drewN ?_ _ | refine blk_drew ?_ | refine blk_alloc ?_ _)); exact BK269.out⟩, ⟨by repeat (first | (with_reducible first | exact HB.out | apply below_alloc | apply pw_below_drewN | apply below_drew1 | refine below_set ?_ GE269.out | refine below_set ?_ GE272.out) | exact HB.out)⟩⟩
                      · rw [if_neg c27] at H
                        have c27b0 : (t273 == a2) = false := beq_eq_false_iff_ne.mpr c27
                        have c27b1 : (t273 != a2) = true := bne_iff_ne.mpr c27
                        have H' := Aside0.mk H
                        clear H
                        have hnb32 := NB272_269.out
                        have hnc32 := NB269_272.out
                        have hcz33_0 : wc.cell? ⟨gb272, 0, none⟩ = some (.int .i64 a1_0) := (blk_cell BK272.out 0).trans rfl
                        have hcz33_1 : wc.cell? ⟨gb272, 1, none⟩ = some (.int .i64 a1_1) := (blk_cell BK272.out 1).trans rfl
                        have hcz33_2 : wc.cell? ⟨gb272, 2, none⟩ = some (.string a1_2) := (blk_cell BK272.out 2).trans rfl
                        have hcz33_3 : wc.cell? ⟨gb272, 3, none⟩ = some (.int .i64 a1_3) := (blk_cell BK272.out 3).trans rfl
                        have hcz33_4 : wc.cell? ⟨gb272, 4, none⟩ = some (.bool x273004_12) := (blk_cell BK272.out 4).trans rfl
                        have hcz33_5 : wc.cell? ⟨gb272, 5, none⟩ = some (.bool x273005_20) := (blk_cell BK272.out 5).trans rfl
                        have hcz33_6 : wc.cell? ⟨gb272, 6, none⟩ = some (.bool a1_6) := (blk_cell BK272.out 6).trans rfl
                        have hfz33_0 := blk_frozen BK272.out 0
                        have hfz33_1 := blk_frozen BK272.out 1
                        have hfz33_2 := blk_frozen BK272.out 2
                        have hfz33_3 := blk_frozen BK272.out 3
                        have hfz33_4 := blk_frozen BK272.out 4
                        have hfz33_5 := blk_frozen BK272.out 5
                        have hfz33_6 := blk_frozen BK272.out 6
                        go_wp2_with (first | ((with_reducible refine gate_callee (f := 84) rfl ?_); refine goesL_ (some 57) rfl rfl Try.func84 (by kernel_rfl) rfl #[.slice A0 l0.length c0, .agg #[.int .i64 a1_0, .int .i64 a1_1, .string a1_2, .int .i64 a1_3, .bool x273004_12, .bool x273005_20, .bool (!a1_6)]] rfl (by (try simp only [List.map_toArray, List.map_cons, List.map_nil]); first | done | rfl | (simp only [List.length_drop, List.length_take]; rfl)) ?_; (with_reducible refine (spec_l10Result.calls kj20 _ _ l0 a1_0 a1_1 a1_2 a1_3 x273004_12 x273005_20 (!a1_6) t273 _ ?side1 ?side2 A26.out).mono ?_); (case side1 => exact Kd.C_below HR0.out (by repeat (first | (with_reducible first | exact HB.out | apply below_alloc | apply pw_below_drewN | apply below_drew1 | refine below_set ?_ GE269.out | refine below_set ?_ GE272.out) | exact HB.out))); (case side2 => exact HC0.out); rintro e w34 ⟨rfl, hb⟩; refine ⟨_, rfl, ?_⟩; have n0_ := Aside0.mk (blk_below (g := gb269) (o := .cells #[.int .i64 a1_0, .int .i64 a1_1, .string a1_2, .int .i64 a1_3, .bool a1_4, .bool a1_5, .bool a1_6] 25 (0, 0)) (by (with_reducible repeat (first | refine blk_drewN ?_ _ | refine blk_drew ?_ | refine blk_alloc ?_ _)); refine blk_far ?_ NB269_272.out _; (with_reducible repeat (first | refine blk_drewN ?_ _ | refine blk_drew ?_ | refine blk_alloc ?_ _)); exact BK269.out) hb); have n1_ := Aside0.mk (blk_below (g := gb272) (o := .cells #[.int .i64 a1_0, .int .i64 a1_1, .string a1_2, .int .i64 a1_3, .bool x273004_12, .bool x273005_20, .bool (!a1_6)] 25 (0, 0)) (by (with_reducible repeat (first | refine blk_drewN ?_ _ | refine blk_drew ?_ | refine blk_alloc ?_ _)); refine blk_put (cs := #[.int .i64 a1_0, .int .i64 a1_1, .string a1_2, .int .i64 a1_3, .bool x273004_12, .bool x273005_20, .bool a1_6]) ?_ 6 _ rfl; (with_reducible repeat (first | refine blk_drewN ?_ _ | refine blk_drew ?_ | refine blk_alloc ?_ _)); exact BK272.out) hb); have n2_ := Aside0.mk (below_step (by repeat (first | (with_reducible first | exact HB.out | apply below_alloc | apply pw_below_drewN | apply below_drew1 | refine below_set ?_ GE269.out | refine below_set ?_ GE272.out) | exact HB.out)) hb); clear BK269; clear BK272; clear HB; have BK269 := n0_; have BK272 := n1_; have HB := n2_; clear n0_ n1_ n2_; (try clear hb); (try clear hb2); (try clear hk); (try clear hi)))
                        go_roundg kj20
                        case measure => have := HK1.out; have := HJ12.out; have := HJ20.out; omega
                        case rel => exact ⟨(x9_1), (wrap64 (x10_1 + 1)), (by first | rfl | (simp; done) | (simp [*]; done)), (by first | rfl | (simp; done) | (simp [*]; done)), H', ⟨by have := HK1.out; have := HJ12.out; have := HJ20.out; omega⟩, ⟨by (with_reducible repeat (first | refine blk_drewN ?_ _ | refine blk_drew ?_ | refine blk_alloc ?_ _)); exact BK269.out⟩, ⟨by repeat (first | (with_reducible first | exact HB.out | apply below_alloc | apply pw_below_drewN | apply below_drew1 | refine below_set ?_ GE269.out | refine below_set ?_ GE272.out) | exact HB.out)⟩⟩
                    · rw [if_neg c25] at H
                      have c25b0 : ((wrap64 (Int.tdiv x10_1 4)) == 1) = false := beq_eq_false_iff_ne.mpr c25
                      have c25b1 : ((wrap64 (Int.tdiv x10_1 4)) != 1) = true := bne_iff_ne.mpr c25
                      replace H := Option.bind_eq_some_iff.mp H
                      obtain ⟨t274, A350, H⟩ := H
                      replace H : (if t274 = a2 then (spec_TruthsToChange.l0 kj20 l0 a2 (mn x9_1 x12_20) (wrap64 (x10_1 + 1)) a1_0 a1_1 a1_2 a1_3 a1_4 a1_5 a1_6) else (spec_TruthsToChange.l0 kj20 l0 a2 x9_1 (wrap64 (x10_1 + 1)) a1_0 a1_1 a1_2 a1_3 a1_4 a1_5 a1_6)) = some (r1, r2) := H
                      have A35 := Aside0.mk A350
                      clear A350
                      by_cases c36 : t274 = a2
                      · rw [if_pos c36] at H
                        have c36b0 : (t274 == a2) = true := beq_iff_eq.mpr c36
                        have c36b1 : (t274 != a2) = false := bne_eq_false_iff_eq.mpr c36
                        clear c36
                        obtain ⟨ji37, hji37⟩ : ∃ j_ : Int, (mn x9_1 x12_20) = j_ := ⟨_, rfl⟩
                        replace H : (spec_TruthsToChange.l0 kj20 l0 a2 ji37 (wrap64 (x10_1 + 1)) a1_0 a1_1 a1_2 a1_3 a1_4 a1_5 a1_6) = some (r1, r2) := by first | (rw [hji37] at H; exact H) | (simp only [hji37] at H ⊢; exact H)
                        (try rw [hji37] at A35)
                        have hji37_ : (if x12_20 < x9_1 then x12_20 else x9_1) = ji37 := hji37
                        have H' := Aside0.mk H
                        clear H
                        have hnb38 := NB272_269.out
                        have hnc38 := NB269_272.out
                        have hcz39_0 : wc.cell? ⟨gb272, 0, none⟩ = some (.int .i64 a1_0) := (blk_cell BK272.out 0).trans rfl
                        have hcz39_1 : wc.cell? ⟨gb272, 1, none⟩ = some (.int .i64 a1_1) := (blk_cell BK272.out 1).trans rfl
                        have hcz39_2 : wc.cell? ⟨gb272, 2, none⟩ = some (.string a1_2) := (blk_cell BK272.out 2).trans rfl
                        have hcz39_3 : wc.cell? ⟨gb272, 3, none⟩ = some (.int .i64 a1_3) := (blk_cell BK272.out 3).trans rfl
                        have hcz39_4 : wc.cell? ⟨gb272, 4, none⟩ = some (.bool x273004_12) := (blk_cell BK272.out 4).trans rfl
                        have hcz39_5 : wc.cell? ⟨gb272, 5, none⟩ = some (.bool x273005_20) := (blk_cell BK272.out 5).trans rfl
                        have hcz39_6 : wc.cell? ⟨gb272, 6, none⟩ = some (.bool a1_6) := (blk_cell BK272.out 6).trans rfl
                        have hfz39_0 := blk_frozen BK272.out 0
                        have hfz39_1 := blk_frozen BK272.out 1
                        have hfz39_2 := blk_frozen BK272.out 2
                        have hfz39_3 := blk_frozen BK272.out 3
                        have hfz39_4 := blk_frozen BK272.out 4
                        have hfz39_5 := blk_frozen BK272.out 5
                        have hfz39_6 := blk_frozen BK272.out 6
                        go_wp2_with (first | ((with_reducible refine gate_callee (f := 84) rfl ?_); refine goesL_ (some 57) rfl rfl Try.func84 (by kernel_rfl) rfl #[.slice A0 l0.length c0, .agg #[.int .i64 a1_0, .int .i64 a1_1, .string a1_2, .int .i64 a1_3, .bool x273004_12, .bool x273005_20, .bool a1_6]] rfl (by (try simp only [List.map_toArray, List.map_cons, List.map_nil]); first | done | rfl | (simp only [List.length_drop, List.length_take]; rfl)) ?_; (with_reducible refine (spec_l10Result.calls kj20 _ _ l0 a1_0 a1_1 a1_2 a1_3 x273004_12 x273005_20 a1_6 t274 _ ?side1 ?side2 A35.out).mono ?_); (case side1 => repeat (first | exact (Kd.C_below HR0.out HB.out) | (with_reducible refine Kd.C_alloc ?_ _) | (with_reducible refine Kd.C_drewN ?_ _) | (with_reducible refine Kd.C_drew ?_))); (case side2 => exact HC0.out); rintro e w40 ⟨rfl, hb⟩; refine ⟨_, rfl, ?_⟩; have n0_ := Aside0.mk (blk_below (g := gb269) (o := .cells #[.int .i64 a1_0, .int .i64 a1_1, .string a1_2, .int .i64 a1_3, .bool a1_4, .bool a1_5, .bool a1_6] 25 (0, 0)) (by (with_reducible repeat (first | refine blk_drewN ?_ _ | refine blk_drew ?_ | refine blk_alloc ?_ _)); exact BK269.out) hb); have n1_ := Aside0.mk (blk_below (g := gb272) (o := .cells #[.int .i64 a1_0, .int .i64 a1_1, .string a1_2, .int .i64 a1_3, .bool x273004_12, .bool x273005_20, .bool a1_6] 25 (0, 0)) (by (with_reducible repeat (first | refine blk_drewN ?_ _ | refine blk_drew ?_ | refine blk_alloc ?_ _)); exact BK272.out) hb); have n2_ := Aside0.mk (below_step (by repeat (first | (with_reducible first | exact HB.out | apply below_alloc | apply pw_below_drewN | apply below_drew1 | refine below_set ?_ GE269.out | refine below_set ?_ GE272.out) | exact HB.out)) hb); clear BK269; clear BK272; clear HB; have BK269 := n0_; have BK272 := n1_; have HB := n2_; clear n0_ n1_ n2_; (try clear hb); (try clear hb2); (try clear hk); (try clear hi)))
                        go_roundg kj20
                        case measure => have := HK1.out; have := HJ12.out; have := HJ20.out; omega
                        case rel => exact ⟨(ji37), (wrap64 (x10_1 + 1)), (by first | rfl | (simp; done) | (simp only [← hji37] <;> (first | rfl | simp)) | (simp [*]; done)), (by first | rfl | (simp; done) | (simp [*]; done)), H', ⟨by have := HK1.out; have := HJ12.out; have := HJ20.out; omega⟩, ⟨by (with_reducible repeat (first | refine blk_drewN ?_ _ | refine blk_drew ?_ | refine blk_alloc ?_ _)); exact BK269.out⟩, ⟨by repeat (first | (with_reducible first | exact HB.out | apply below_alloc | apply pw_below_drewN | apply below_drew1 | refine below_set ?_ GE269.out | refine below_set ?_ GE272.out) | exact HB.out)⟩⟩
                      · rw [if_neg c36] at H
                        have c36b0 : (t274 == a2) = false := beq_eq_false_iff_ne.mpr c36
                        have c36b1 : (t274 != a2) = true := bne_iff_ne.mpr c36
                        have H' := Aside0.mk H
                        clear H
                        have hnb41 := NB272_269.out
                        have hnc41 := NB269_272.out
                        have hcz42_0 : wc.cell? ⟨gb272, 0, none⟩ = some (.int .i64 a1_0) := (blk_cell BK272.out 0).trans rfl
                        have hcz42_1 : wc.cell? ⟨gb272, 1, none⟩ = some (.int .i64 a1_1) := (blk_cell BK272.out 1).trans rfl
                        have hcz42_2 : wc.cell? ⟨gb272, 2, none⟩ = some (.string a1_2) := (blk_cell BK272.out 2).trans rfl
                        have hcz42_3 : wc.cell? ⟨gb272, 3, none⟩ = some (.int .i64 a1_3) := (blk_cell BK272.out 3).trans rfl
                        have hcz42_4 : wc.cell? ⟨gb272, 4, none⟩ = some (.bool x273004_12) := (blk_cell BK272.out 4).trans rfl
                        have hcz42_5 : wc.cell? ⟨gb272, 5, none⟩ = some (.bool x273005_20) := (blk_cell BK272.out 5).trans rfl
                        have hcz42_6 : wc.cell? ⟨gb272, 6, none⟩ = some (.bool a1_6) := (blk_cell BK272.out 6).trans rfl
                        have hfz42_0 := blk_frozen BK272.out 0
                        have hfz42_1 := blk_frozen BK272.out 1
                        have hfz42_2 := blk_frozen BK272.out 2
                        have hfz42_3 := blk_frozen BK272.out 3
                        have hfz42_4 := blk_frozen BK272.out 4
                        have hfz42_5 := blk_frozen BK272.out 5
                        have hfz42_6 := blk_frozen BK272.out 6
                        go_wp2_with (first | ((with_reducible refine gate_callee (f := 84) rfl ?_); refine goesL_ (some 57) rfl rfl Try.func84 (by kernel_rfl) rfl #[.slice A0 l0.length c0, .agg #[.int .i64 a1_0, .int .i64 a1_1, .string a1_2, .int .i64 a1_3, .bool x273004_12, .bool x273005_20, .bool a1_6]] rfl (by (try simp only [List.map_toArray, List.map_cons, List.map_nil]); first | done | rfl | (simp only [List.length_drop, List.length_take]; rfl)) ?_; (with_reducible refine (spec_l10Result.calls kj20 _ _ l0 a1_0 a1_1 a1_2 a1_3 x273004_12 x273005_20 a1_6 t274 _ ?side1 ?side2 A35.out).mono ?_); (case side1 => repeat (first | exact (Kd.C_below HR0.out HB.out) | (with_reducible refine Kd.C_alloc ?_ _) | (with_reducible refine Kd.C_drewN ?_ _) | (with_reducible refine Kd.C_drew ?_))); (case side2 => exact HC0.out); rintro e w43 ⟨rfl, hb⟩; refine ⟨_, rfl, ?_⟩; have n0_ := Aside0.mk (blk_below (g := gb269) (o := .cells #[.int .i64 a1_0, .int .i64 a1_1, .string a1_2, .int .i64 a1_3, .bool a1_4, .bool a1_5, .bool a1_6] 25 (0, 0)) (by (with_reducible repeat (first | refine blk_drewN ?_ _ | refine blk_drew ?_ | refine blk_alloc ?_ _)); exact BK269.out) hb); have n1_ := Aside0.mk (blk_below (g := gb272) (o := .cells #[.int .i64 a1_0, .int .i64 a1_1, .string a1_2, .int .i64 a1_3, .bool x273004_12, .bool x273005_20, .bool a1_6] 25 (0, 0)) (by (with_reducible repeat (first | refine blk_drewN ?_ _ | refine blk_drew ?_ | refine blk_alloc ?_ _)); exact BK272.out) hb); have n2_ := Aside0.mk (below_step (by repeat (first | (with_reducible first | exact HB.out | apply below_alloc | apply pw_below_drewN | apply below_drew1 | refine below_set ?_ GE269.out | refine below_set ?_ GE272.out) | exact HB.out)) hb); clear BK269; clear BK272; clear HB; have BK269 := n0_; have BK272 := n1_; have HB := n2_; clear n0_ n1_ n2_; (try clear hb); (try clear hb2); (try clear hk); (try clear hi)))
                        go_roundg kj20
                        case measure => have := HK1.out; have := HJ12.out; have := HJ20.out; omega
                        case rel => exact ⟨(x9_1), (wrap64 (x10_1 + 1)), (by first | rfl | (simp; done) | (simp [*]; done)), (by first | rfl | (simp; done) | (simp [*]; done)), H', ⟨by have := HK1.out; have := HJ12.out; have := HJ20.out; omega⟩, ⟨by (with_reducible repeat (first | refine blk_drewN ?_ _ | refine blk_drew ?_ | refine blk_alloc ?_ _)); exact BK269.out⟩, ⟨by repeat (first | (with_reducible first | exact HB.out | apply below_alloc | apply pw_below_drewN | apply below_drew1 | refine below_set ?_ GE269.out | refine below_set ?_ GE272.out) | exact HB.out)⟩⟩
          · rw [if_neg c12] at H
            have c12b0 : decide (x10_1 < 8) = false := decide_eq_false c12
            clear c12
            by_cases c44 : x9_1 = 4
            · rw [if_pos c44] at H
              have c44b0 : (x9_1 == 4) = true := beq_iff_eq.mpr c44
              have c44b1 : (x9_1 != 4) = false := bne_eq_false_iff_eq.mpr c44
              clear c44
              simp only [Option.some.injEq, Prod.mk.injEq] at H
              obtain ⟨rfl, rfl⟩ := H
              go_wp2
              go_ret2
              exact ⟨by first | rfl | (simp [errW_none, errW_some] <;> rfl) | (simp [*, errW_none, errW_some] <;> rfl), by repeat (first | (with_reducible first | exact HB.out | apply below_alloc | apply pw_below_drewN | apply below_drew1 | refine below_set ?_ GE269.out) | exact HB.out)⟩
            · rw [if_neg c44] at H
              have c44b0 : (x9_1 == 4) = false := beq_eq_false_iff_ne.mpr c44
              have c44b1 : (x9_1 != 4) = true := bne_iff_ne.mpr c44
              simp only [Option.some.injEq, Prod.mk.injEq] at H
              obtain ⟨rfl, rfl⟩ := H
              go_wp2
              go_ret2
              exact ⟨by first | rfl | (simp [errW_none, errW_some] <;> rfl) | (simp [*, errW_none, errW_some] <;> rfl), by repeat (first | (with_reducible first | exact HB.out | apply below_alloc | apply pw_below_drewN | apply below_drew1 | refine below_set ?_ GE269.out) | exact HB.out)⟩
    · rw [if_neg c7] at H
      have c7b0 : (t271 == 0) = false := beq_eq_false_iff_ne.mpr c7
      have c7b1 : (t271 != 0) = true := bne_iff_ne.mpr c7
      simp only [Option.some.injEq, Prod.mk.injEq] at H
      obtain ⟨rfl, rfl⟩ := H
      go_enter Try.func27, Try.ntmps27
      go_wp2_with (first | ((with_reducible refine gate_dst (N := 4) rfl ?_); refine box_event ?hg (N := 4) ?hd (cs := #[.int .i64 a1_0, .int .i64 a1_1, .string a1_2, .int .i64 a1_3, .bool a1_4, .bool a1_5, .bool a1_6]) (t := 25) ?hr ?_; (case hd => rfl); (case hg => rfl); (case hr => first | (go_simp; done) | (go_simp; rfl)); intro gb269 hg w45 hbox hb; have n0_ := Aside0.mk (below_step (by repeat (first | (with_reducible first | exact HB.out | apply below_alloc | apply pw_below_drewN | apply below_drew1) | exact HB.out)) hb); have n1_ := Aside0.mk (hbox); have n2_ := Aside0.mk ((by rw [hg]; exact (below_size (by repeat (first | (with_reducible first | exact HB.out | apply below_alloc | apply pw_below_drewN | apply below_drew1) | exact HB.out))) : w.heap.size ≤ gb269)); have n3_ := Aside0.mk ((by rw [hg]; exact (below_size (by repeat (first | (with_reducible first | exact HB.out | apply below_alloc | apply pw_below_drewN | apply below_drew1) | exact HB.out))) : w.heap.size ≤ gb269)); clear HB; have HB := n0_; have BK269 := n1_; have GW269 := n2_; have GE269 := n3_; clear n0_ n1_ n2_ n3_; clear hb hbox hg; have hcz46_0 : w45.cell? ⟨gb269, 0, none⟩ = some (.int .i64 a1_0) := (blk_cell BK269.out 0).trans rfl; have hcz46_1 : w45.cell? ⟨gb269, 1, none⟩ = some (.int .i64 a1_1) := (blk_cell BK269.out 1).trans rfl; have hcz46_2 : w45.cell? ⟨gb269, 2, none⟩ = some (.string a1_2) := (blk_cell BK269.out 2).trans rfl; have hcz46_3 : w45.cell? ⟨gb269, 3, none⟩ = some (.int .i64 a1_3) := (blk_cell BK269.out 3).trans rfl; have hcz46_4 : w45.cell? ⟨gb269, 4, none⟩ = some (.bool a1_4) := (blk_cell BK269.out 4).trans rfl; have hcz46_5 : w45.cell? ⟨gb269, 5, none⟩ = some (.bool a1_5) := (blk_cell BK269.out 5).trans rfl; have hcz46_6 : w45.cell? ⟨gb269, 6, none⟩ = some (.bool a1_6) := (blk_cell BK269.out 6).trans rfl; have hfz46_0 := blk_frozen BK269.out 0; have hfz46_1 := blk_frozen BK269.out 1; have hfz46_2 := blk_frozen BK269.out 2; have hfz46_3 := blk_frozen BK269.out 3; have hfz46_4 := blk_frozen BK269.out 4; have hfz46_5 := blk_frozen BK269.out 5; have hfz46_6 := blk_frozen BK269.out 6) | ((with_reducible refine gate_callee (f := 91) rfl ?_); refine goesL_ (some 14) rfl rfl Try.func91 (by kernel_rfl) rfl #[.agg #[.int .i64 a1_0, .int .i64 a1_1, .string a1_2, .int .i64 a1_3, .bool a1_4, .bool a1_5, .bool a1_6]] rfl (by (try simp only [List.map_toArray, List.map_cons, List.map_nil]); first | done | rfl | (simp only [List.length_drop, List.length_take]; rfl)) ?_; (with_reducible refine (spec_IsEvent.calls k a1_0 a1_1 a1_2 a1_3 a1_4 a1_5 a1_6 true _ A4.out).mono ?_); rintro e w47 ⟨rfl, hb⟩; refine ⟨_, rfl, ?_⟩; have n0_ := Aside0.mk (blk_below (g := gb269) (o := .cells #[.int .i64 a1_0, .int .i64 a1_1, .string a1_2, .int .i64 a1_3, .bool a1_4, .bool a1_5, .bool a1_6] 25 (0, 0)) (by (with_reducible repeat (first | refine blk_drewN ?_ _ | refine blk_drew ?_ | refine blk_alloc ?_ _)); exact BK269.out) hb); have n1_ := Aside0.mk (below_step (by repeat (first | (with_reducible first | exact HB.out | apply below_alloc | apply pw_below_drewN | apply below_drew1 | refine below_set ?_ GE269.out) | exact HB.out)) hb); clear BK269; clear HB; have BK269 := n0_; have HB := n1_; clear n0_ n1_; (try clear hb); (try clear hb2); (try clear hk); (try clear hi)) | ((with_reducible refine gate_callee (f := 83) rfl ?_); refine goesL_ (some 18) rfl rfl Try.func83 (by kernel_rfl) rfl #[.slice A0 l0.length c0, .int .i64 a2] rfl (by (try simp only [List.map_toArray, List.map_cons, List.map_nil]); first | done | rfl | (simp only [List.length_drop, List.length_take]; rfl)) ?_; (with_reducible refine (spec_l12Code.calls k _ _ l0 a2 t271 _ ?side1 ?side2 A6.out).mono ?_); (case side1 => repeat (first | exact (Kd.C_below HR0.out HB.out) | (with_reducible refine Kd.C_alloc ?_ _) | (with_reducible refine Kd.C_drewN ?_ _) | (with_reducible refine Kd.C_drew ?_))); (case side2 => exact HC0.out); rintro e w48 ⟨rfl, hb⟩; refine ⟨_, rfl, ?_⟩; have n0_ := Aside0.mk (blk_below (g := gb269) (o := .cells #[.int .i64 a1_0, .int .i64 a1_1, .string a1_2, .int .i64 a1_3, .bool a1_4, .bool a1_5, .bool a1_6] 25 (0, 0)) (by (with_reducible repeat (first | refine blk_drewN ?_ _ | refine blk_drew ?_ | refine blk_alloc ?_ _)); exact BK269.out) hb); have n1_ := Aside0.mk (below_step (by repeat (first | (with_reducible first | exact HB.out | apply below_alloc | apply pw_below_drewN | apply below_drew1 | refine below_set ?_ GE269.out) | exact HB.out)) hb); clear BK269; clear HB; have BK269 := n0_; have HB := n1_; clear n0_ n1_; (try clear hb); (try clear hb2); (try clear hk); (try clear hi)))
      go_ret2
      exact ⟨by first | rfl | (simp [errW_none, errW_some] <;> rfl) | (simp [*, errW_none, errW_some] <;> rfl), by repeat (first | (with_reducible first | exact HB.out | apply below_alloc | apply pw_below_drewN | apply below_drew1 | refine below_set ?_ GE269.out) | exact HB.out)⟩
  · replace c5 := Bool.eq_false_iff.mpr c5
    subst c5
    have H1 : (some (0, 1)) = some (r1, r2) := by rw [if_neg (show ¬ (false = true) by decide)] at H; exact H
    clear H
    have H := H1
    clear H1
    simp only [Option.some.injEq, Prod.mk.injEq] at H
    obtain ⟨rfl, rfl⟩ := H
    go_enter Try.func27, Try.ntmps27
    go_wp2_with (first | ((with_reducible refine gate_dst (N := 4) rfl ?_); refine box_event ?hg (N := 4) ?hd (cs := #[.int .i64 a1_0, .int .i64 a1_1, .string a1_2, .int .i64 a1_3, .bool a1_4, .bool a1_5, .bool a1_6]) (t := 25) ?hr ?_; (case hd => rfl); (case hg => rfl); (case hr => first | (go_simp; done) | (go_simp; rfl)); intro gb269 hg w49 hbox hb; have n0_ := Aside0.mk (below_step (by repeat (first | (with_reducible first | exact HB.out | apply below_alloc | apply pw_below_drewN | apply below_drew1) | exact HB.out)) hb); have n1_ := Aside0.mk (hbox); have n2_ := Aside0.mk ((by rw [hg]; exact (below_size (by repeat (first | (with_reducible first | exact HB.out | apply below_alloc | apply pw_below_drewN | apply below_drew1) | exact HB.out))) : w.heap.size ≤ gb269)); have n3_ := Aside0.mk ((by rw [hg]; exact (below_size (by repeat (first | (with_reducible first | exact HB.out | apply below_alloc | apply pw_below_drewN | apply below_drew1) | exact HB.out))) : w.heap.size ≤ gb269)); clear HB; have HB := n0_; have BK269 := n1_; have GW269 := n2_; have GE269 := n3_; clear n0_ n1_ n2_ n3_; clear hb hbox hg; have hcz50_0 : w49.cell? ⟨gb269, 0, none⟩ = some (.int .i64 a1_0) := (blk_cell BK269.out 0).trans rfl; have hcz50_1 : w49.cell? ⟨gb269, 1, none⟩ = some (.int .i64 a1_1) := (blk_cell BK269.out 1).trans rfl; have hcz50_2 : w49.cell? ⟨gb269, 2, none⟩ = some (.string a1_2) := (blk_cell BK269.out 2).trans rfl; have hcz50_3 : w49.cell? ⟨gb269, 3, none⟩ = some (.int .i64 a1_3) := (blk_cell BK269.out 3).trans rfl; have hcz50_4 : w49.cell? ⟨gb269, 4, none⟩ = some (.bool a1_4) := (blk_cell BK269.out 4).trans rfl; have hcz50_5 : w49.cell? ⟨gb269, 5, none⟩ = some (.bool a1_5) := (blk_cell BK269.out 5).trans rfl; have hcz50_6 : w49.cell? ⟨gb269, 6, none⟩ = some (.bool a1_6) := (blk_cell BK269.out 6).trans rfl; have hfz50_0 := blk_frozen BK269.out 0; have hfz50_1 := blk_frozen BK269.out 1; have hfz50_2 := blk_frozen BK269.out 2; have hfz50_3 := blk_frozen BK269.out 3; have hfz50_4 := blk_frozen BK269.out 4; have hfz50_5 := blk_frozen BK269.out 5; have hfz50_6 := blk_frozen BK269.out 6) | ((with_reducible refine gate_callee (f := 91) rfl ?_); refine goesL_ (some 14) rfl rfl Try.func91 (by kernel_rfl) rfl #[.agg #[.int .i64 a1_0, .int .i64 a1_1, .string a1_2, .int .i64 a1_3, .bool a1_4, .bool a1_5, .bool a1_6]] rfl (by (try simp only [List.map_toArray, List.map_cons, List.map_nil]); first | done | rfl | (simp only [List.length_drop, List.length_take]; rfl)) ?_; (with_reducible refine (spec_IsEvent.calls k a1_0 a1_1 a1_2 a1_3 a1_4 a1_5 a1_6 false _ A4.out).mono ?_); rintro e w51 ⟨rfl, hb⟩; refine ⟨_, rfl, ?_⟩; have n0_ := Aside0.mk (blk_below (g := gb269) (o := .cells #[.int .i64 a1_0, .int .i64 a1_1, .string a1_2, .int .i64 a1_3, .bool a1_4, .bool a1_5, .bool a1_6] 25 (0, 0)) (by (with_reducible repeat (first | refine blk_drewN ?_ _ | refine blk_drew ?_ | refine blk_alloc ?_ _)); exact BK269.out) hb); have n1_ := Aside0.mk (below_step (by repeat (first | (with_reducible first | exact HB.out | apply below_alloc | apply pw_below_drewN | apply below_drew1 | refine below_set ?_ GE269.out) | exact HB.out)) hb); clear BK269; clear HB; have BK269 := n0_; have HB := n1_; clear n0_ n1_; (try clear hb); (try clear hb2); (try clear hk); (try clear hi)))
    go_ret2
    exact ⟨by first | rfl | (simp [errW_none, errW_some] <;> rfl) | (simp [*, errW_none, errW_some] <;> rfl), by repeat (first | (with_reducible first | exact HB.out | apply below_alloc | apply pw_below_drewN | apply below_drew1 | refine below_set ?_ GE269.out) | exact HB.out)⟩

end Go.Proofs.Ytkjfpdjmomhbbaa.F
