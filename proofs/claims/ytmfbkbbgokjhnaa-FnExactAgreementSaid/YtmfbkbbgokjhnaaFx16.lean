-- Written by this session's program (wip/bin/hp.py) over the kit's print: a function's Lean form, and a proof that the call does what it says.
import Derived.Test.YtmfbkbbgokjhnaaFx0
import Derived.Test.YtmfbkbbgokjhnaaSq
import Derived.Test.YtmfbkbbgokjhnaaFx10
import Derived.Test.YtmfbkbbgokjhnaaFx12
import Derived.Test.YtmfbkbbgokjhnaaFx14
namespace Go.Proofs.Ytmfbkbbgokjhnaa.F
open Go.RowKit Go.Proofs.YtmfbkbbgokjhnaaW.PrintWords Go.Proofs.YtmfbkbbgokjhnaaW.PrintLast Go.Proofs.YtmfbkbbgokjhnaaW.PrintMore
attribute [local go_sem] max2_int min2_int max_two min_two max_three min_three max_four min_four   -- for this text's walks alone
set_option linter.unusedVariables false
set_option linter.unusedSimpArgs false

/-! ### spec_Agreement: function 35 -/
mutual
def spec_Agreement.j0 : Nat → List (S94) → List (S94) → List (S43) → Bool → Option (Int × Int)
 | 0, _, _, _, _ => none
 | k + 1, x0, x1, x2, x22 => if x22 = true then (some (0, 1)) else (spec_Agreement.l0 k x0 x1 x2 0 0)
def spec_Agreement.l0 : Nat → List (S94) → List (S94) → List (S43) → Int → Int → Option (Int × Int)
 | 0, _, _, _, _, _ => none
 | k + 1, x0, x1, x2, x8, x9 => if x9 < (x2.length : Int) then (if 0 ≤ x9 then ((spec_l10Result.f k x0 ((rd_T43 x2 x9).f0) ((rd_T43 x2 x9).f1) ((rd_T43 x2 x9).f2) ((rd_T43 x2 x9).f3) ((rd_T43 x2 x9).f4) ((rd_T43 x2 x9).f5) ((rd_T43 x2 x9).f6)).bind fun t209 => ((spec_l10Result.f k x1 ((rd_T43 x2 x9).f0) ((rd_T43 x2 x9).f1) ((rd_T43 x2 x9).f2) ((rd_T43 x2 x9).f3) ((rd_T43 x2 x9).f4) ((rd_T43 x2 x9).f5) ((rd_T43 x2 x9).f6)).bind fun t211 => (if t209 = t211 then (spec_Agreement.l0 k x0 x1 x2 (wrap64 (x8 + 1)) (wrap64 (x9 + 1))) else (spec_Agreement.l0 k x0 x1 x2 x8 (wrap64 (x9 + 1)))))) else (none)) else (some (x8, 0))
end
def spec_Agreement.f (k : Nat) (l0 : List (S94)) (l1 : List (S94)) (l2 : List (S43)) : Option (Int × Int) := (spec_IsRulebook.f k l0).bind fun t205 => (if t205 = true then ((spec_IsRulebook.f k l1).bind fun t206 => (if t206 = true then ((spec_IsLog.f k l2).bind fun t207 => (spec_Agreement.j0 k l0 l1 l2 (!t207))) else (spec_Agreement.j0 k l0 l1 l2 true))) else (spec_Agreement.j0 k l0 l1 l2 true))
theorem spec_Agreement.mono_l : ∀ k, (∀ y0 y1 y2 y3, LeO (spec_Agreement.j0 k y0 y1 y2 y3) (spec_Agreement.j0 (k + 1) y0 y1 y2 y3)) ∧ (∀ y0 y1 y2 y3 y4, LeO (spec_Agreement.l0 k y0 y1 y2 y3 y4) (spec_Agreement.l0 (k + 1) y0 y1 y2 y3 y4))
 | 0 => ⟨fun _ _ _ _ r h => by simp [spec_Agreement.j0] at h, fun _ _ _ _ _ r h => by simp [spec_Agreement.l0] at h⟩
 | k + 1 => by
  obtain ⟨ih0, ih1⟩ := spec_Agreement.mono_l k
  refine ⟨?_, ?_⟩
  · intro y0 y1 y2 y3
    unfold spec_Agreement.j0
    repeat' first
    | (with_reducible exact ih0 _ _ _ _)
    | (with_reducible exact ih1 _ _ _ _ _)
    | (with_reducible exact spec_IsLog.mono _ _)
    | (with_reducible exact spec_IsRulebook.mono _ _)
    | (with_reducible exact spec_l10Result.mono _ _ _ _ _ _ _ _ _)
    | (with_reducible exact LeO.refl _)
    | (with_reducible exact LeO.none _)
    | (with_reducible refine LeO.ite ?_ ?_)
    | (with_reducible refine LeO.bind ?_ (fun _ => ?_))
    | exact ih0 _ _ _ _
    | exact ih1 _ _ _ _ _
    | exact spec_IsLog.mono _ _
    | exact spec_IsRulebook.mono _ _
    | exact spec_l10Result.mono _ _ _ _ _ _ _ _ _
    | exact LeO.none _
    | refine LeO.ite ?_ ?_
    | refine LeO.bind ?_ (fun _ => ?_)
  · intro y0 y1 y2 y3 y4
    unfold spec_Agreement.l0
    repeat' first
    | (with_reducible exact ih0 _ _ _ _)
    | (with_reducible exact ih1 _ _ _ _ _)
    | (with_reducible exact spec_IsLog.mono _ _)
    | (with_reducible exact spec_IsRulebook.mono _ _)
    | (with_reducible exact spec_l10Result.mono _ _ _ _ _ _ _ _ _)
    | (with_reducible exact LeO.refl _)
    | (with_reducible exact LeO.none _)
    | (with_reducible refine LeO.ite ?_ ?_)
    | (with_reducible refine LeO.bind ?_ (fun _ => ?_))
    | exact ih0 _ _ _ _
    | exact ih1 _ _ _ _ _
    | exact spec_IsLog.mono _ _
    | exact spec_IsRulebook.mono _ _
    | exact spec_l10Result.mono _ _ _ _ _ _ _ _ _
    | exact LeO.none _
    | refine LeO.ite ?_ ?_
    | refine LeO.bind ?_ (fun _ => ?_)
theorem spec_Agreement.mono : ∀ a0 a1 a2 k, LeO (spec_Agreement.f k a0 a1 a2) (spec_Agreement.f (k + 1) a0 a1 a2) := by
 intro a0 a1 a2 k
 obtain ⟨ih0, ih1⟩ := spec_Agreement.mono_l k
 unfold spec_Agreement.f
 repeat' first
  | (with_reducible exact ih0 _ _ _ _)
  | (with_reducible exact ih1 _ _ _ _ _)
  | (with_reducible exact spec_IsLog.mono _ _)
  | (with_reducible exact spec_IsRulebook.mono _ _)
  | (with_reducible exact spec_l10Result.mono _ _ _ _ _ _ _ _ _)
  | (with_reducible exact LeO.refl _)
  | (with_reducible exact LeO.none _)
  | (with_reducible refine LeO.ite ?_ ?_)
  | (with_reducible refine LeO.bind ?_ (fun _ => ?_))
  | exact ih0 _ _ _ _
  | exact ih1 _ _ _ _ _
  | exact spec_IsLog.mono _ _
  | exact spec_IsRulebook.mono _ _
  | exact spec_l10Result.mono _ _ _ _ _ _ _ _ _
  | exact LeO.none _
  | refine LeO.ite ?_ ?_
  | refine LeO.bind ?_ (fun _ => ?_)
def spec_Agreement.T7 : Bool × List (List Nat × List Nat) := (true, [([], []), ([], []), ([], []), ([1, 2], [1, 2]), ([3], [3]), ([0, 4], [0, 4]), ([], []), ([], []), ([], []), ([7, 8], [7, 8]), ([9], [9]), ([6, 10, 5], [6, 10]), ([5, 11], [5, 11])])
def spec_Agreement.B7 : List Nat := [0, 0, 0, 6, 14, 31, 0, 0, 0, 384, 896, 2047, 4095]
theorem spec_Agreement.tab7 : rtab .any (opsOf Try.f35 7) = spec_Agreement.T7 := by kernel_rfl
theorem spec_Agreement.bits7 : waitsOk spec_Agreement.T7.2 spec_Agreement.B7 = true := by kernel_rfl
set_option maxHeartbeats 8000000 in
set_option maxRecDepth 100000 in
theorem spec_Agreement.calls (k : Nat) (A0 : Option Addr) (c0 : Nat) (l0 : List (S94)) (A1 : Option Addr) (c1 : Nat) (l1 : List (S94)) (A2 : Option Addr) (c2 : Nat) (l2 : List (S43)) (r1 : Int) (r2 : Int) (w : World) (hr0 : Kd.C k94 w A0 l0.length l0) (hc0 : l0.length ≤ c0) (hr1 : Kd.C k94 w A1 l1.length l1) (hc1 : l1.length ≤ c1) (hr2 : Kd.C k43 w A2 l2.length l2) (hc2 : l2.length ≤ c2) (h : spec_Agreement.f k l0 l1 l2 = some (r1, r2)) :
 Calls Try.prog 35 #[.slice A0 l0.length c0, .slice A1 l1.length c1, .slice A2 l2.length c2] w fun e w' => e = .returned (.tuple #[.int .i64 r1, .int .i64 r2]) ∧ Below w.heap.size w w' := by
 have hu43 := Try.underlying43
 have HR0 := Aside0.mk hr0
 have HC0 := Aside0.mk hc0
 clear hr0 hc0
 have HR1 := Aside0.mk hr1
 have HC1 := Aside0.mk hc1
 clear hr1 hc1
 have HR2 := Aside0.mk hr2
 have HC2 := Aside0.mk hc2
 clear hr2 hc2
 have HB := Aside0.mk (Below.refl w.heap.size w)
 have H : ((spec_IsRulebook.f k l0).bind fun t205 => (if t205 = true then ((spec_IsRulebook.f k l1).bind fun t206 => (if t206 = true then ((spec_IsLog.f k l2).bind fun t207 => (spec_Agreement.j0 k l0 l1 l2 (!t207))) else (spec_Agreement.j0 k l0 l1 l2 true))) else (spec_Agreement.j0 k l0 l1 l2 true))) = some (r1, r2) := h
 clear h
 have HC4 := Aside0.mk H
 clear H
 go_enter Try.func35, Try.ntmps35
 go_upto_region 1 with (fail)
 go_cut [22] (fun v22 wc => ∃ (kq : Nat) (x22_3 : Bool), v22 = .bool x22_3 ∧ Aside0 (spec_Agreement.j0 kq l0 l1 l2 x22_3 = some (r1, r2)) ∧ Aside0 (kq ≤ k) ∧ Aside0 (Below w.heap.size w wc))
 case first =>
  have H := HC4.out
  clear HC4
  replace H := Option.bind_eq_some_iff.mp H
  obtain ⟨t205, A50, H⟩ := H
  replace H : (if t205 = true then ((spec_IsRulebook.f k l1).bind fun t206 => (if t206 = true then ((spec_IsLog.f k l2).bind fun t207 => (spec_Agreement.j0 k l0 l1 l2 (!t207))) else (spec_Agreement.j0 k l0 l1 l2 true))) else (spec_Agreement.j0 k l0 l1 l2 true)) = some (r1, r2) := H
  have A5 := Aside0.mk A50
  clear A50
  by_cases c6 : t205 = true
  · subst c6
    have H1 : ((spec_IsRulebook.f k l1).bind fun t206 => (if t206 = true then ((spec_IsLog.f k l2).bind fun t207 => (spec_Agreement.j0 k l0 l1 l2 (!t207))) else (spec_Agreement.j0 k l0 l1 l2 true))) = some (r1, r2) := by rw [if_pos rfl] at H; exact H
    clear H
    have H := H1
    clear H1
    replace H := Option.bind_eq_some_iff.mp H
    obtain ⟨t206, A70, H⟩ := H
    replace H : (if t206 = true then ((spec_IsLog.f k l2).bind fun t207 => (spec_Agreement.j0 k l0 l1 l2 (!t207))) else (spec_Agreement.j0 k l0 l1 l2 true)) = some (r1, r2) := H
    have A7 := Aside0.mk A70
    clear A70
    by_cases c8 : t206 = true
    · subst c8
      have H1 : ((spec_IsLog.f k l2).bind fun t207 => (spec_Agreement.j0 k l0 l1 l2 (!t207))) = some (r1, r2) := by rw [if_pos rfl] at H; exact H
      clear H
      have H := H1
      clear H1
      replace H := Option.bind_eq_some_iff.mp H
      obtain ⟨t207, A90, H⟩ := H
      replace H : (spec_Agreement.j0 k l0 l1 l2 (!t207)) = some (r1, r2) := H
      have A9 := Aside0.mk A90
      clear A90
      have H' := Aside0.mk H
      clear H
      go_wp2_with (first | ((with_reducible refine gate_callee (f := 55) rfl ?_); refine gl_ 11 Try.func55 #[.slice A0 l0.length c0] ?_; (with_reducible refine (spec_IsRulebook.calls k _ _ l0 true _ ?side1 ?side2 A5.out).mono ?_); (case side1 => repeat (first | exact (Kd.C_below HR0.out HB.out) | (with_reducible refine Kd.C_alloc ?_ _) | (with_reducible refine Kd.C_drewN ?_ _) | (with_reducible refine Kd.C_drew ?_))); (case side2 => exact HC0.out); rintro e w10 ⟨rfl, hb⟩; refine ⟨_, rfl, ?_⟩; have n0_ := Aside0.mk (bs_ hb); clear HB; revert n0_; intro HB; (try clear hb); (try clear hb2); (try clear hk); (try clear hi)) | (go_at_call 55; (with_reducible refine (spec_IsRulebook.calls k _ _ l1 true _ ?side1 ?side2 A7.out).mono ?_); (case side1 => repeat (first | exact (Kd.C_below HR1.out HB.out) | (with_reducible refine Kd.C_alloc ?_ _) | (with_reducible refine Kd.C_drewN ?_ _) | (with_reducible refine Kd.C_drew ?_))); (case side2 => exact HC1.out); rintro e w11 ⟨rfl, hb⟩; have n0_ := Aside0.mk (bs_ hb); clear HB; revert n0_; intro HB; (try clear hb); (try clear hb2); (try clear hk); (try clear hi)) | (go_at_call 64; (with_reducible refine (spec_IsLog.calls k _ _ l2 t207 _ ?side1 ?side2 A9.out).mono ?_); (case side1 => repeat (first | exact (Kd.C_below HR2.out HB.out) | (with_reducible refine Kd.C_alloc ?_ _) | (with_reducible refine Kd.C_drewN ?_ _) | (with_reducible refine Kd.C_drew ?_))); (case side2 => exact HC2.out); rintro e w12 ⟨rfl, hb⟩; have n0_ := Aside0.mk (bs_ hb); clear HB; revert n0_; intro HB; (try clear hb); (try clear hb2); (try clear hk); (try clear hi)))
      go_meet
      case rel => exact ⟨_, (!t207), (by first | rfl | (simp; done) | (simp [*]; done)), H', ⟨by first | omega | exact Nat.le_refl _⟩, ⟨bb_⟩⟩
    · replace c8 := Bool.eq_false_iff.mpr c8
      subst c8
      have H1 : (spec_Agreement.j0 k l0 l1 l2 true) = some (r1, r2) := by rw [if_neg (show ¬ (false = true) by decide)] at H; exact H
      clear H
      have H := H1
      clear H1
      have H' := Aside0.mk H
      clear H
      go_wp2_with (first | ((with_reducible refine gate_callee (f := 55) rfl ?_); refine gl_ 11 Try.func55 #[.slice A0 l0.length c0] ?_; (with_reducible refine (spec_IsRulebook.calls k _ _ l0 true _ ?side1 ?side2 A5.out).mono ?_); (case side1 => repeat (first | exact (Kd.C_below HR0.out HB.out) | (with_reducible refine Kd.C_alloc ?_ _) | (with_reducible refine Kd.C_drewN ?_ _) | (with_reducible refine Kd.C_drew ?_))); (case side2 => exact HC0.out); rintro e w13 ⟨rfl, hb⟩; refine ⟨_, rfl, ?_⟩; have n0_ := Aside0.mk (bs_ hb); clear HB; revert n0_; intro HB; (try clear hb); (try clear hb2); (try clear hk); (try clear hi)) | (go_at_call 55; (with_reducible refine (spec_IsRulebook.calls k _ _ l1 false _ ?side1 ?side2 A7.out).mono ?_); (case side1 => repeat (first | exact (Kd.C_below HR1.out HB.out) | (with_reducible refine Kd.C_alloc ?_ _) | (with_reducible refine Kd.C_drewN ?_ _) | (with_reducible refine Kd.C_drew ?_))); (case side2 => exact HC1.out); rintro e w14 ⟨rfl, hb⟩; have n0_ := Aside0.mk (bs_ hb); clear HB; revert n0_; intro HB; (try clear hb); (try clear hb2); (try clear hk); (try clear hi)))
      go_meet
      case rel => exact ⟨_, (true), (by first | rfl | (simp; done) | (simp [*]; done)), H', ⟨by first | omega | exact Nat.le_refl _⟩, ⟨bb_⟩⟩
  · replace c6 := Bool.eq_false_iff.mpr c6
    subst c6
    have H1 : (spec_Agreement.j0 k l0 l1 l2 true) = some (r1, r2) := by rw [if_neg (show ¬ (false = true) by decide)] at H; exact H
    clear H
    have H := H1
    clear H1
    have H' := Aside0.mk H
    clear H
    go_wp2_with (first | ((with_reducible refine gate_callee (f := 55) rfl ?_); refine gl_ 11 Try.func55 #[.slice A0 l0.length c0] ?_; (with_reducible refine (spec_IsRulebook.calls k _ _ l0 false _ ?side1 ?side2 A5.out).mono ?_); (case side1 => repeat (first | exact (Kd.C_below HR0.out HB.out) | (with_reducible refine Kd.C_alloc ?_ _) | (with_reducible refine Kd.C_drewN ?_ _) | (with_reducible refine Kd.C_drew ?_))); (case side2 => exact HC0.out); rintro e w15 ⟨rfl, hb⟩; refine ⟨_, rfl, ?_⟩; have n0_ := Aside0.mk (bs_ hb); clear HB; revert n0_; intro HB; (try clear hb); (try clear hb2); (try clear hk); (try clear hi)))
    go_meet
    case rel => exact ⟨_, (true), (by first | rfl | (simp; done) | (simp [*]; done)), H', ⟨by first | omega | exact Nat.le_refl _⟩, ⟨bb_⟩⟩
 case rest =>
  clear HC4
  try clear c1
  try clear c2
  try clear p2
  try clear c3
  try clear c5
  try clear c6
  try clear c8
  obtain ⟨kq, x22_3, rfl, HA, HJ3, HB⟩ := hcut
  cases kq with
  | zero => exact absurd HA.out (by simp [spec_Agreement.j0])
  | succ kj3 =>
   have H := HA.out
   clear HA
   simp only [spec_Agreement.j0] at H
   by_cases c16 : x22_3 = true
   · subst c16
     have H1 : (some (0, 1)) = some (r1, r2) := by rw [if_pos rfl] at H; exact H
     clear H
     have H := H1
     clear H1
     simp only [Option.some.injEq, Prod.mk.injEq] at H
     obtain ⟨rfl, rfl⟩ := H
     go_wp2
     go_ret2
     exact ⟨by first | rfl | (simp [errW_none, errW_some] <;> rfl) | (simp [*, errW_none, errW_some] <;> rfl), bb_⟩
   · replace c16 := Bool.eq_false_iff.mpr c16
     subst c16
     have H1 : (spec_Agreement.l0 kj3 l0 l1 l2 0 0) = some (r1, r2) := by rw [if_neg (show ¬ (false = true) by decide)] at H; exact H
     clear H
     have H := H1
     clear H1
     have H' := Aside0.mk H
     clear H
     go_wp2
     go_loopg [8, 9] kj3 (fun kq v8 v9 w' => ∃ (x8_2 : Int) (x9_2 : Int), v8 = .int .i64 x8_2 ∧ v9 = .int .i64 x9_2 ∧ Aside0 (spec_Agreement.l0 kq l0 l1 l2 x8_2 x9_2 = some (r1, r2)) ∧ Aside0 (kq ≤ kj3) ∧ Aside0 (Below w.heap.size w w'))
     case atStart => exact ⟨(0), (0), (by first | rfl | (simp; done) | (simp [*]; done)), (by first | rfl | (simp; done) | (simp [*]; done)), H', ⟨Nat.le_refl _⟩, ⟨bb_⟩⟩
     case round =>
      clear H'
      try clear c1
      try clear c2
      try clear p2
      try clear c3
      try clear c5
      try clear c6
      try clear c8
      try clear c16
      try clear p2
      obtain ⟨x8_2, x9_2, rfl, rfl, HA, HK2, HB⟩ := hrel
      cases gk with
      | zero => exact absurd HA.out (by simp [spec_Agreement.l0])
      | succ k2 =>
       have H := HA.out
       clear HA
       simp only [spec_Agreement.l0] at H
       by_cases c17 : x9_2 < (l2.length : Int)
       · rw [if_pos c17] at H
         have c17b0 : decide (x9_2 < (l2.length : Int)) = true := decide_eq_true c17
         clear c17
         by_cases c18 : 0 ≤ x9_2
         · rw [if_pos c18] at H
           have c18b0 : decide (0 ≤ x9_2) = true := decide_eq_true c18
           clear c18
           replace H := Option.bind_eq_some_iff.mp H
           obtain ⟨t209, A190, H⟩ := H
           replace H : ((spec_l10Result.f k2 l1 ((rd_T43 l2 x9_2).f0) ((rd_T43 l2 x9_2).f1) ((rd_T43 l2 x9_2).f2) ((rd_T43 l2 x9_2).f3) ((rd_T43 l2 x9_2).f4) ((rd_T43 l2 x9_2).f5) ((rd_T43 l2 x9_2).f6)).bind fun t211 => (if t209 = t211 then (spec_Agreement.l0 k2 l0 l1 l2 (wrap64 (x8_2 + 1)) (wrap64 (x9_2 + 1))) else (spec_Agreement.l0 k2 l0 l1 l2 x8_2 (wrap64 (x9_2 + 1))))) = some (r1, r2) := H
           have A19 := Aside0.mk A190
           clear A190
           replace H := Option.bind_eq_some_iff.mp H
           obtain ⟨t211, A200, H⟩ := H
           replace H : (if t209 = t211 then (spec_Agreement.l0 k2 l0 l1 l2 (wrap64 (x8_2 + 1)) (wrap64 (x9_2 + 1))) else (spec_Agreement.l0 k2 l0 l1 l2 x8_2 (wrap64 (x9_2 + 1)))) = some (r1, r2) := H
           have A20 := Aside0.mk A200
           clear A200
           by_cases c21 : t209 = t211
           · rw [if_pos c21] at H
             have c21b0 : (t209 == t211) = true := beq_iff_eq.mpr c21
             have c21b1 : (t209 != t211) = false := bne_eq_false_iff_eq.mpr c21
             clear c21
             have H' := Aside0.mk H
             clear H
             try go_wp2
             have n0_ := Aside0.mk (below_drew1 HB.out)
             clear HB; revert n0_; intro HB
             have p208 : 0 ≤ (x9_2 : Int) := od_
             have q208 : x9_2 < (l2.length : Int) := od_
             obtain ⟨ad208, e208, hx208_0, hx208_1, hx208_2, hx208_3, hx208_4, hx208_5, hx208_6⟩ := at_T43 HR2.out x9_2 p208 q208
             have hw208_6 := hx208_6
             have hw208_5 := hx208_5
             have hw208_4 := hx208_4
             have hw208_3 := hx208_3
             have hw208_2 := hx208_2
             have hw208_1 := hx208_1
             have hw208_0 := hx208_0
             cases e208
             replace hx208_0 := cel HB hx208_0
             replace hx208_1 := cel HB hx208_1
             replace hx208_2 := cel HB hx208_2
             replace hx208_3 := cel HB hx208_3
             replace hx208_4 := cel HB hx208_4
             replace hx208_5 := cel HB hx208_5
             replace hx208_6 := cel HB hx208_6
             replace p208 := eq_true p208
             replace q208 := eq_true q208
             have p210 : 0 ≤ (x9_2 : Int) := od_
             have q210 : x9_2 < (l2.length : Int) := od_
             obtain ⟨ad210, e210, hx210_0, hx210_1, hx210_2, hx210_3, hx210_4, hx210_5, hx210_6⟩ := at_T43 HR2.out x9_2 p210 q210
             have hw210_6 := hx210_6
             have hw210_5 := hx210_5
             have hw210_4 := hx210_4
             have hw210_3 := hx210_3
             have hw210_2 := hx210_2
             have hw210_1 := hx210_1
             have hw210_0 := hx210_0
             obtain rfl : ad208 = ad210 := (by injection e210)
             replace hx210_0 := cel HB hx210_0
             replace hx210_1 := cel HB hx210_1
             replace hx210_2 := cel HB hx210_2
             replace hx210_3 := cel HB hx210_3
             replace hx210_4 := cel HB hx210_4
             replace hx210_5 := cel HB hx210_5
             replace hx210_6 := cel HB hx210_6
             replace p210 := eq_true p210
             replace q210 := eq_true q210
             refine start_ (n := 13) (S := fun w' => w'.cell? (ad208.add ((x9_2).toNat * 7)) = some (.int .i64 ((rd_T43 l2 x9_2).f0)) ∧ w'.cell? ⟨(ad208.add ((x9_2).toNat * 7)).block, (ad208.add ((x9_2).toNat * 7)).off + 1, none⟩ = some (.int .i64 ((rd_T43 l2 x9_2).f1)) ∧ w'.cell? ⟨(ad208.add ((x9_2).toNat * 7)).block, (ad208.add ((x9_2).toNat * 7)).off + 2, none⟩ = some (.string ((rd_T43 l2 x9_2).f2)) ∧ w'.cell? ⟨(ad208.add ((x9_2).toNat * 7)).block, (ad208.add ((x9_2).toNat * 7)).off + 3, none⟩ = some (.int .i64 ((rd_T43 l2 x9_2).f3)) ∧ w'.cell? ⟨(ad208.add ((x9_2).toNat * 7)).block, (ad208.add ((x9_2).toNat * 7)).off + 4, none⟩ = some (.bool ((rd_T43 l2 x9_2).f4)) ∧ w'.cell? ⟨(ad208.add ((x9_2).toNat * 7)).block, (ad208.add ((x9_2).toNat * 7)).off + 5, none⟩ = some (.bool ((rd_T43 l2 x9_2).f5)) ∧ w'.cell? ⟨(ad208.add ((x9_2).toNat * 7)).block, (ad208.add ((x9_2).toNat * 7)).off + 6, none⟩ = some (.bool ((rd_T43 l2 x9_2).f6)) ∧ w'.cell? (ad208.add ((x9_2).toNat * 7)) = some (.int .i64 ((rd_T43 l2 x9_2).f0)) ∧ w'.cell? ⟨(ad208.add ((x9_2).toNat * 7)).block, (ad208.add ((x9_2).toNat * 7)).off + 1, none⟩ = some (.int .i64 ((rd_T43 l2 x9_2).f1)) ∧ w'.cell? ⟨(ad208.add ((x9_2).toNat * 7)).block, (ad208.add ((x9_2).toNat * 7)).off + 2, none⟩ = some (.string ((rd_T43 l2 x9_2).f2)) ∧ w'.cell? ⟨(ad208.add ((x9_2).toNat * 7)).block, (ad208.add ((x9_2).toNat * 7)).off + 3, none⟩ = some (.int .i64 ((rd_T43 l2 x9_2).f3)) ∧ w'.cell? ⟨(ad208.add ((x9_2).toNat * 7)).block, (ad208.add ((x9_2).toNat * 7)).off + 4, none⟩ = some (.bool ((rd_T43 l2 x9_2).f4)) ∧ w'.cell? ⟨(ad208.add ((x9_2).toNat * 7)).block, (ad208.add ((x9_2).toNat * 7)).off + 5, none⟩ = some (.bool ((rd_T43 l2 x9_2).f5)) ∧ w'.cell? ⟨(ad208.add ((x9_2).toNat * 7)).block, (ad208.add ((x9_2).toNat * 7)).off + 6, none⟩ = some (.bool ((rd_T43 l2 x9_2).f6))) (ds := []) (fb 13 0) (by kernel_rfl) rfl rfl ⟨((HB.out.cell (World.block_lt_of_cell? w _ hw208_0)).trans hw208_0), ((HB.out.cell (World.block_lt_of_cell? w _ hw208_1)).trans hw208_1), ((HB.out.cell (World.block_lt_of_cell? w _ hw208_2)).trans hw208_2), ((HB.out.cell (World.block_lt_of_cell? w _ hw208_3)).trans hw208_3), ((HB.out.cell (World.block_lt_of_cell? w _ hw208_4)).trans hw208_4), ((HB.out.cell (World.block_lt_of_cell? w _ hw208_5)).trans hw208_5), ((HB.out.cell (World.block_lt_of_cell? w _ hw208_6)).trans hw208_6), ((HB.out.cell (World.block_lt_of_cell? w _ hw210_0)).trans hw210_0), ((HB.out.cell (World.block_lt_of_cell? w _ hw210_1)).trans hw210_1), ((HB.out.cell (World.block_lt_of_cell? w _ hw210_2)).trans hw210_2), ((HB.out.cell (World.block_lt_of_cell? w _ hw210_3)).trans hw210_3), ((HB.out.cell (World.block_lt_of_cell? w _ hw210_4)).trans hw210_4), ((HB.out.cell (World.block_lt_of_cell? w _ hw210_5)).trans hw210_5), ((HB.out.cell (World.block_lt_of_cell? w _ hw210_6)).trans hw210_6)⟩ (fun hHeld => ?_); refine with_tabW spec_Agreement.tab7 spec_Agreement.bits7 (fun HT_ HW_ => ?_)
             generalize wr.drew = w22 at HB hx208_0 hx208_1 hx208_2 hx208_3 hx208_4 hx208_5 hx208_6 hx210_0 hx210_1 hx210_2 hx210_3 hx210_4 hx210_5 hx210_6 hHeld ⊢
             refine sqP_ 0 29 (fb 13 1) (any_of HT_.out (by kernel_rfl)) ?_
             refine sqP_ 1 30 (fb 13 3) (any_of HT_.out (by kernel_rfl)) ?_
             refine sqP_ 2 31 (fb 13 7) (any_of HT_.out (by kernel_rfl)) ?_
             refine sqP_ 3 32 (fb 13 15) (any_of HT_.out (by kernel_rfl)) ?_
             refine sqP_ 6 35 (fb 13 79) (any_of HT_.out (by kernel_rfl)) ?_
             refine sqP_ 7 36 (fb 13 207) (any_of HT_.out (by kernel_rfl)) ?_
             refine sqP_ 8 37 (fb 13 463) (any_of HT_.out (by kernel_rfl)) ?_
             refine sqP_ 9 38 (fb 13 975) (any_of HT_.out (by kernel_rfl)) ?_
             refine sqT_ 4 33 (fb 13 991) (take_ofW HT_.out HW_.out (by kernel_rfl)) hHeld ?_
             refine sqT_ 10 39 (fb 13 2015) (take_ofW HT_.out HW_.out (by kernel_rfl)) hHeld ?_
             refine one_ (i := 5) (N := some 34) (fb 13 2047) rfl rfl (one_of HT_.out (by kernel_rfl)) (by decide) (fun K hK => ?_)
             refine goes_ Try.func71 (by kernel_rfl) rfl #[.slice A0 l0.length c0, .agg #[.int .i64 ((rd_T43 l2 x9_2).f0), .int .i64 ((rd_T43 l2 x9_2).f1), .string ((rd_T43 l2 x9_2).f2), .int .i64 ((rd_T43 l2 x9_2).f3), .bool ((rd_T43 l2 x9_2).f4), .bool ((rd_T43 l2 x9_2).f5), .bool ((rd_T43 l2 x9_2).f6)]] (by rfl) rfl rfl (by (try simp only [List.map_toArray, List.map_cons, List.map_nil]); first | done | rfl | (simp only [List.length_drop, List.length_take]; rfl)) ?_
             with_reducible refine (spec_l10Result.calls k2 _ _ l0 ((rd_T43 l2 x9_2).f0) ((rd_T43 l2 x9_2).f1) ((rd_T43 l2 x9_2).f2) ((rd_T43 l2 x9_2).f3) ((rd_T43 l2 x9_2).f4) ((rd_T43 l2 x9_2).f5) ((rd_T43 l2 x9_2).f6) t209 _ ?side1 ?side2 A19.out).mono ?_
             (case side1 => repeat (first | exact (Kd.C_below HR0.out HB.out) | (with_reducible refine Kd.C_alloc ?_ _) | (with_reducible refine Kd.C_drewN ?_ _) | (with_reducible refine Kd.C_drew ?_)))
             (case side2 => exact HC0.out)
             rintro e w23 ⟨rfl, hb⟩
             refine ⟨_, rfl, ?_⟩
             have n0_ := Aside0.mk (bs_ hb)
             clear HB; revert n0_; intro HB
             (try clear hb)
             (try clear hb2)
             (try clear hk)
             (try clear hi)
             refine hK.out _ _ ⟨((HB.out.cell (World.block_lt_of_cell? w _ hw208_0)).trans hw208_0), ((HB.out.cell (World.block_lt_of_cell? w _ hw208_1)).trans hw208_1), ((HB.out.cell (World.block_lt_of_cell? w _ hw208_2)).trans hw208_2), ((HB.out.cell (World.block_lt_of_cell? w _ hw208_3)).trans hw208_3), ((HB.out.cell (World.block_lt_of_cell? w _ hw208_4)).trans hw208_4), ((HB.out.cell (World.block_lt_of_cell? w _ hw208_5)).trans hw208_5), ((HB.out.cell (World.block_lt_of_cell? w _ hw208_6)).trans hw208_6), ((HB.out.cell (World.block_lt_of_cell? w _ hw210_0)).trans hw210_0), ((HB.out.cell (World.block_lt_of_cell? w _ hw210_1)).trans hw210_1), ((HB.out.cell (World.block_lt_of_cell? w _ hw210_2)).trans hw210_2), ((HB.out.cell (World.block_lt_of_cell? w _ hw210_3)).trans hw210_3), ((HB.out.cell (World.block_lt_of_cell? w _ hw210_4)).trans hw210_4), ((HB.out.cell (World.block_lt_of_cell? w _ hw210_5)).trans hw210_5), ((HB.out.cell (World.block_lt_of_cell? w _ hw210_6)).trans hw210_6)⟩ (fun hHeld => ?_)
             clear hK K
             refine sqN_ 34 ?_
             refine one_ (i := 11) (N := some 40) (fb 13 4095) rfl rfl (one_of HT_.out (by kernel_rfl)) (by decide) (fun K hK => ?_)
             refine goes_ Try.func71 (by kernel_rfl) rfl #[.slice A1 l1.length c1, .agg #[.int .i64 ((rd_T43 l2 x9_2).f0), .int .i64 ((rd_T43 l2 x9_2).f1), .string ((rd_T43 l2 x9_2).f2), .int .i64 ((rd_T43 l2 x9_2).f3), .bool ((rd_T43 l2 x9_2).f4), .bool ((rd_T43 l2 x9_2).f5), .bool ((rd_T43 l2 x9_2).f6)]] (by rfl) rfl rfl (by (try simp only [List.map_toArray, List.map_cons, List.map_nil]); first | done | rfl | (simp only [List.length_drop, List.length_take]; rfl)) ?_
             with_reducible refine (spec_l10Result.calls k2 _ _ l1 ((rd_T43 l2 x9_2).f0) ((rd_T43 l2 x9_2).f1) ((rd_T43 l2 x9_2).f2) ((rd_T43 l2 x9_2).f3) ((rd_T43 l2 x9_2).f4) ((rd_T43 l2 x9_2).f5) ((rd_T43 l2 x9_2).f6) t211 _ ?side1 ?side2 A20.out).mono ?_
             (case side1 => repeat (first | exact (Kd.C_below HR1.out HB.out) | (with_reducible refine Kd.C_alloc ?_ _) | (with_reducible refine Kd.C_drewN ?_ _) | (with_reducible refine Kd.C_drew ?_)))
             (case side2 => exact HC1.out)
             rintro e w24 ⟨rfl, hb⟩
             refine ⟨_, rfl, ?_⟩
             have n0_ := Aside0.mk (bs_ hb)
             clear HB; revert n0_; intro HB
             (try clear hb)
             (try clear hb2)
             (try clear hk)
             (try clear hi)
             refine hK.out _ _ ⟨((HB.out.cell (World.block_lt_of_cell? w _ hw208_0)).trans hw208_0), ((HB.out.cell (World.block_lt_of_cell? w _ hw208_1)).trans hw208_1), ((HB.out.cell (World.block_lt_of_cell? w _ hw208_2)).trans hw208_2), ((HB.out.cell (World.block_lt_of_cell? w _ hw208_3)).trans hw208_3), ((HB.out.cell (World.block_lt_of_cell? w _ hw208_4)).trans hw208_4), ((HB.out.cell (World.block_lt_of_cell? w _ hw208_5)).trans hw208_5), ((HB.out.cell (World.block_lt_of_cell? w _ hw208_6)).trans hw208_6), ((HB.out.cell (World.block_lt_of_cell? w _ hw210_0)).trans hw210_0), ((HB.out.cell (World.block_lt_of_cell? w _ hw210_1)).trans hw210_1), ((HB.out.cell (World.block_lt_of_cell? w _ hw210_2)).trans hw210_2), ((HB.out.cell (World.block_lt_of_cell? w _ hw210_3)).trans hw210_3), ((HB.out.cell (World.block_lt_of_cell? w _ hw210_4)).trans hw210_4), ((HB.out.cell (World.block_lt_of_cell? w _ hw210_5)).trans hw210_5), ((HB.out.cell (World.block_lt_of_cell? w _ hw210_6)).trans hw210_6)⟩ (fun hHeld => ?_)
             clear hK K
             refine sqN_ 40 ?_
             refine sqP_ 12 41 (fb 13 8191) (any_of HT_.out (by kernel_rfl)) ?_
             refine done_ (done_of HT_.out (by kernel_rfl)) ?_
             try go_wp2
             go_roundg k2
             case measure => have := HJ3.out; have := HK2.out; omega
             case rel => exact ⟨(wrap64 (x8_2 + 1)), (wrap64 (x9_2 + 1)), (by first | rfl | (simp; done) | (simp [*]; done)), (by first | rfl | (simp; done) | (simp [*]; done)), H', ⟨by have := HJ3.out; have := HK2.out; omega⟩, ⟨bb_⟩⟩
           · rw [if_neg c21] at H
             have c21b0 : (t209 == t211) = false := beq_eq_false_iff_ne.mpr c21
             have c21b1 : (t209 != t211) = true := bne_iff_ne.mpr c21
             have H' := Aside0.mk H
             clear H
             try go_wp2
             have n0_ := Aside0.mk (below_drew1 HB.out)
             clear HB; revert n0_; intro HB
             have p208 : 0 ≤ (x9_2 : Int) := od_
             have q208 : x9_2 < (l2.length : Int) := od_
             obtain ⟨ad208, e208, hx208_0, hx208_1, hx208_2, hx208_3, hx208_4, hx208_5, hx208_6⟩ := at_T43 HR2.out x9_2 p208 q208
             have hw208_6 := hx208_6
             have hw208_5 := hx208_5
             have hw208_4 := hx208_4
             have hw208_3 := hx208_3
             have hw208_2 := hx208_2
             have hw208_1 := hx208_1
             have hw208_0 := hx208_0
             cases e208
             replace hx208_0 := cel HB hx208_0
             replace hx208_1 := cel HB hx208_1
             replace hx208_2 := cel HB hx208_2
             replace hx208_3 := cel HB hx208_3
             replace hx208_4 := cel HB hx208_4
             replace hx208_5 := cel HB hx208_5
             replace hx208_6 := cel HB hx208_6
             replace p208 := eq_true p208
             replace q208 := eq_true q208
             have p210 : 0 ≤ (x9_2 : Int) := od_
             have q210 : x9_2 < (l2.length : Int) := od_
             obtain ⟨ad210, e210, hx210_0, hx210_1, hx210_2, hx210_3, hx210_4, hx210_5, hx210_6⟩ := at_T43 HR2.out x9_2 p210 q210
             have hw210_6 := hx210_6
             have hw210_5 := hx210_5
             have hw210_4 := hx210_4
             have hw210_3 := hx210_3
             have hw210_2 := hx210_2
             have hw210_1 := hx210_1
             have hw210_0 := hx210_0
             obtain rfl : ad208 = ad210 := (by injection e210)
             replace hx210_0 := cel HB hx210_0
             replace hx210_1 := cel HB hx210_1
             replace hx210_2 := cel HB hx210_2
             replace hx210_3 := cel HB hx210_3
             replace hx210_4 := cel HB hx210_4
             replace hx210_5 := cel HB hx210_5
             replace hx210_6 := cel HB hx210_6
             replace p210 := eq_true p210
             replace q210 := eq_true q210
             refine start_ (n := 13) (S := fun w' => w'.cell? (ad208.add ((x9_2).toNat * 7)) = some (.int .i64 ((rd_T43 l2 x9_2).f0)) ∧ w'.cell? ⟨(ad208.add ((x9_2).toNat * 7)).block, (ad208.add ((x9_2).toNat * 7)).off + 1, none⟩ = some (.int .i64 ((rd_T43 l2 x9_2).f1)) ∧ w'.cell? ⟨(ad208.add ((x9_2).toNat * 7)).block, (ad208.add ((x9_2).toNat * 7)).off + 2, none⟩ = some (.string ((rd_T43 l2 x9_2).f2)) ∧ w'.cell? ⟨(ad208.add ((x9_2).toNat * 7)).block, (ad208.add ((x9_2).toNat * 7)).off + 3, none⟩ = some (.int .i64 ((rd_T43 l2 x9_2).f3)) ∧ w'.cell? ⟨(ad208.add ((x9_2).toNat * 7)).block, (ad208.add ((x9_2).toNat * 7)).off + 4, none⟩ = some (.bool ((rd_T43 l2 x9_2).f4)) ∧ w'.cell? ⟨(ad208.add ((x9_2).toNat * 7)).block, (ad208.add ((x9_2).toNat * 7)).off + 5, none⟩ = some (.bool ((rd_T43 l2 x9_2).f5)) ∧ w'.cell? ⟨(ad208.add ((x9_2).toNat * 7)).block, (ad208.add ((x9_2).toNat * 7)).off + 6, none⟩ = some (.bool ((rd_T43 l2 x9_2).f6)) ∧ w'.cell? (ad208.add ((x9_2).toNat * 7)) = some (.int .i64 ((rd_T43 l2 x9_2).f0)) ∧ w'.cell? ⟨(ad208.add ((x9_2).toNat * 7)).block, (ad208.add ((x9_2).toNat * 7)).off + 1, none⟩ = some (.int .i64 ((rd_T43 l2 x9_2).f1)) ∧ w'.cell? ⟨(ad208.add ((x9_2).toNat * 7)).block, (ad208.add ((x9_2).toNat * 7)).off + 2, none⟩ = some (.string ((rd_T43 l2 x9_2).f2)) ∧ w'.cell? ⟨(ad208.add ((x9_2).toNat * 7)).block, (ad208.add ((x9_2).toNat * 7)).off + 3, none⟩ = some (.int .i64 ((rd_T43 l2 x9_2).f3)) ∧ w'.cell? ⟨(ad208.add ((x9_2).toNat * 7)).block, (ad208.add ((x9_2).toNat * 7)).off + 4, none⟩ = some (.bool ((rd_T43 l2 x9_2).f4)) ∧ w'.cell? ⟨(ad208.add ((x9_2).toNat * 7)).block, (ad208.add ((x9_2).toNat * 7)).off + 5, none⟩ = some (.bool ((rd_T43 l2 x9_2).f5)) ∧ w'.cell? ⟨(ad208.add ((x9_2).toNat * 7)).block, (ad208.add ((x9_2).toNat * 7)).off + 6, none⟩ = some (.bool ((rd_T43 l2 x9_2).f6))) (ds := []) (fb 13 0) (by kernel_rfl) rfl rfl ⟨((HB.out.cell (World.block_lt_of_cell? w _ hw208_0)).trans hw208_0), ((HB.out.cell (World.block_lt_of_cell? w _ hw208_1)).trans hw208_1), ((HB.out.cell (World.block_lt_of_cell? w _ hw208_2)).trans hw208_2), ((HB.out.cell (World.block_lt_of_cell? w _ hw208_3)).trans hw208_3), ((HB.out.cell (World.block_lt_of_cell? w _ hw208_4)).trans hw208_4), ((HB.out.cell (World.block_lt_of_cell? w _ hw208_5)).trans hw208_5), ((HB.out.cell (World.block_lt_of_cell? w _ hw208_6)).trans hw208_6), ((HB.out.cell (World.block_lt_of_cell? w _ hw210_0)).trans hw210_0), ((HB.out.cell (World.block_lt_of_cell? w _ hw210_1)).trans hw210_1), ((HB.out.cell (World.block_lt_of_cell? w _ hw210_2)).trans hw210_2), ((HB.out.cell (World.block_lt_of_cell? w _ hw210_3)).trans hw210_3), ((HB.out.cell (World.block_lt_of_cell? w _ hw210_4)).trans hw210_4), ((HB.out.cell (World.block_lt_of_cell? w _ hw210_5)).trans hw210_5), ((HB.out.cell (World.block_lt_of_cell? w _ hw210_6)).trans hw210_6)⟩ (fun hHeld => ?_); refine with_tabW spec_Agreement.tab7 spec_Agreement.bits7 (fun HT_ HW_ => ?_)
             generalize wr.drew = w25 at HB hx208_0 hx208_1 hx208_2 hx208_3 hx208_4 hx208_5 hx208_6 hx210_0 hx210_1 hx210_2 hx210_3 hx210_4 hx210_5 hx210_6 hHeld ⊢
             refine sqP_ 0 29 (fb 13 1) (any_of HT_.out (by kernel_rfl)) ?_
             refine sqP_ 1 30 (fb 13 3) (any_of HT_.out (by kernel_rfl)) ?_
             refine sqP_ 2 31 (fb 13 7) (any_of HT_.out (by kernel_rfl)) ?_
             refine sqP_ 3 32 (fb 13 15) (any_of HT_.out (by kernel_rfl)) ?_
             refine sqP_ 6 35 (fb 13 79) (any_of HT_.out (by kernel_rfl)) ?_
             refine sqP_ 7 36 (fb 13 207) (any_of HT_.out (by kernel_rfl)) ?_
             refine sqP_ 8 37 (fb 13 463) (any_of HT_.out (by kernel_rfl)) ?_
             refine sqP_ 9 38 (fb 13 975) (any_of HT_.out (by kernel_rfl)) ?_
             refine sqT_ 4 33 (fb 13 991) (take_ofW HT_.out HW_.out (by kernel_rfl)) hHeld ?_
             refine sqT_ 10 39 (fb 13 2015) (take_ofW HT_.out HW_.out (by kernel_rfl)) hHeld ?_
             refine one_ (i := 5) (N := some 34) (fb 13 2047) rfl rfl (one_of HT_.out (by kernel_rfl)) (by decide) (fun K hK => ?_)
             refine goes_ Try.func71 (by kernel_rfl) rfl #[.slice A0 l0.length c0, .agg #[.int .i64 ((rd_T43 l2 x9_2).f0), .int .i64 ((rd_T43 l2 x9_2).f1), .string ((rd_T43 l2 x9_2).f2), .int .i64 ((rd_T43 l2 x9_2).f3), .bool ((rd_T43 l2 x9_2).f4), .bool ((rd_T43 l2 x9_2).f5), .bool ((rd_T43 l2 x9_2).f6)]] (by rfl) rfl rfl (by (try simp only [List.map_toArray, List.map_cons, List.map_nil]); first | done | rfl | (simp only [List.length_drop, List.length_take]; rfl)) ?_
             with_reducible refine (spec_l10Result.calls k2 _ _ l0 ((rd_T43 l2 x9_2).f0) ((rd_T43 l2 x9_2).f1) ((rd_T43 l2 x9_2).f2) ((rd_T43 l2 x9_2).f3) ((rd_T43 l2 x9_2).f4) ((rd_T43 l2 x9_2).f5) ((rd_T43 l2 x9_2).f6) t209 _ ?side1 ?side2 A19.out).mono ?_
             (case side1 => repeat (first | exact (Kd.C_below HR0.out HB.out) | (with_reducible refine Kd.C_alloc ?_ _) | (with_reducible refine Kd.C_drewN ?_ _) | (with_reducible refine Kd.C_drew ?_)))
             (case side2 => exact HC0.out)
             rintro e w26 ⟨rfl, hb⟩
             refine ⟨_, rfl, ?_⟩
             have n0_ := Aside0.mk (bs_ hb)
             clear HB; revert n0_; intro HB
             (try clear hb)
             (try clear hb2)
             (try clear hk)
             (try clear hi)
             refine hK.out _ _ ⟨((HB.out.cell (World.block_lt_of_cell? w _ hw208_0)).trans hw208_0), ((HB.out.cell (World.block_lt_of_cell? w _ hw208_1)).trans hw208_1), ((HB.out.cell (World.block_lt_of_cell? w _ hw208_2)).trans hw208_2), ((HB.out.cell (World.block_lt_of_cell? w _ hw208_3)).trans hw208_3), ((HB.out.cell (World.block_lt_of_cell? w _ hw208_4)).trans hw208_4), ((HB.out.cell (World.block_lt_of_cell? w _ hw208_5)).trans hw208_5), ((HB.out.cell (World.block_lt_of_cell? w _ hw208_6)).trans hw208_6), ((HB.out.cell (World.block_lt_of_cell? w _ hw210_0)).trans hw210_0), ((HB.out.cell (World.block_lt_of_cell? w _ hw210_1)).trans hw210_1), ((HB.out.cell (World.block_lt_of_cell? w _ hw210_2)).trans hw210_2), ((HB.out.cell (World.block_lt_of_cell? w _ hw210_3)).trans hw210_3), ((HB.out.cell (World.block_lt_of_cell? w _ hw210_4)).trans hw210_4), ((HB.out.cell (World.block_lt_of_cell? w _ hw210_5)).trans hw210_5), ((HB.out.cell (World.block_lt_of_cell? w _ hw210_6)).trans hw210_6)⟩ (fun hHeld => ?_)
             clear hK K
             refine sqN_ 34 ?_
             refine one_ (i := 11) (N := some 40) (fb 13 4095) rfl rfl (one_of HT_.out (by kernel_rfl)) (by decide) (fun K hK => ?_)
             refine goes_ Try.func71 (by kernel_rfl) rfl #[.slice A1 l1.length c1, .agg #[.int .i64 ((rd_T43 l2 x9_2).f0), .int .i64 ((rd_T43 l2 x9_2).f1), .string ((rd_T43 l2 x9_2).f2), .int .i64 ((rd_T43 l2 x9_2).f3), .bool ((rd_T43 l2 x9_2).f4), .bool ((rd_T43 l2 x9_2).f5), .bool ((rd_T43 l2 x9_2).f6)]] (by rfl) rfl rfl (by (try simp only [List.map_toArray, List.map_cons, List.map_nil]); first | done | rfl | (simp only [List.length_drop, List.length_take]; rfl)) ?_
             with_reducible refine (spec_l10Result.calls k2 _ _ l1 ((rd_T43 l2 x9_2).f0) ((rd_T43 l2 x9_2).f1) ((rd_T43 l2 x9_2).f2) ((rd_T43 l2 x9_2).f3) ((rd_T43 l2 x9_2).f4) ((rd_T43 l2 x9_2).f5) ((rd_T43 l2 x9_2).f6) t211 _ ?side1 ?side2 A20.out).mono ?_
             (case side1 => repeat (first | exact (Kd.C_below HR1.out HB.out) | (with_reducible refine Kd.C_alloc ?_ _) | (with_reducible refine Kd.C_drewN ?_ _) | (with_reducible refine Kd.C_drew ?_)))
             (case side2 => exact HC1.out)
             rintro e w27 ⟨rfl, hb⟩
             refine ⟨_, rfl, ?_⟩
             have n0_ := Aside0.mk (bs_ hb)
             clear HB; revert n0_; intro HB
             (try clear hb)
             (try clear hb2)
             (try clear hk)
             (try clear hi)
             refine hK.out _ _ ⟨((HB.out.cell (World.block_lt_of_cell? w _ hw208_0)).trans hw208_0), ((HB.out.cell (World.block_lt_of_cell? w _ hw208_1)).trans hw208_1), ((HB.out.cell (World.block_lt_of_cell? w _ hw208_2)).trans hw208_2), ((HB.out.cell (World.block_lt_of_cell? w _ hw208_3)).trans hw208_3), ((HB.out.cell (World.block_lt_of_cell? w _ hw208_4)).trans hw208_4), ((HB.out.cell (World.block_lt_of_cell? w _ hw208_5)).trans hw208_5), ((HB.out.cell (World.block_lt_of_cell? w _ hw208_6)).trans hw208_6), ((HB.out.cell (World.block_lt_of_cell? w _ hw210_0)).trans hw210_0), ((HB.out.cell (World.block_lt_of_cell? w _ hw210_1)).trans hw210_1), ((HB.out.cell (World.block_lt_of_cell? w _ hw210_2)).trans hw210_2), ((HB.out.cell (World.block_lt_of_cell? w _ hw210_3)).trans hw210_3), ((HB.out.cell (World.block_lt_of_cell? w _ hw210_4)).trans hw210_4), ((HB.out.cell (World.block_lt_of_cell? w _ hw210_5)).trans hw210_5), ((HB.out.cell (World.block_lt_of_cell? w _ hw210_6)).trans hw210_6)⟩ (fun hHeld => ?_)
             clear hK K
             refine sqN_ 40 ?_
             refine sqP_ 12 41 (fb 13 8191) (any_of HT_.out (by kernel_rfl)) ?_
             refine done_ (done_of HT_.out (by kernel_rfl)) ?_
             try go_wp2
             go_roundg k2
             case measure => have := HJ3.out; have := HK2.out; omega
             case rel => exact ⟨(x8_2), (wrap64 (x9_2 + 1)), (by first | rfl | (simp; done) | (simp [*]; done)), (by first | rfl | (simp; done) | (simp [*]; done)), H', ⟨by have := HJ3.out; have := HK2.out; omega⟩, ⟨bb_⟩⟩
         · rw [if_neg c18] at H
           exact absurd H (by simp)
       · rw [if_neg c17] at H
         have c17b0 : decide (x9_2 < (l2.length : Int)) = false := decide_eq_false c17
         clear c17
         simp only [Option.some.injEq, Prod.mk.injEq] at H
         obtain ⟨rfl, rfl⟩ := H
         go_wp2
         go_ret2
         exact ⟨by first | rfl | (simp [errW_none, errW_some] <;> rfl) | (simp [*, errW_none, errW_some] <;> rfl), bb_⟩

end Go.Proofs.Ytmfbkbbgokjhnaa.F
namespace Go.Proofs.Ytmfbkbbgokjhnaa.F
open Go.RowKit Go.Proofs.YtmfbkbbgokjhnaaW.PrintWords Go.Proofs.YtmfbkbbgokjhnaaW.PrintLast Go.Proofs.YtmfbkbbgokjhnaaW.PrintMore
attribute [local go_sem] max2_int min2_int max_two min_two max_three min_three max_four min_four   -- for this text's walks alone
set_option linter.unusedVariables false
set_option linter.unusedSimpArgs false

/-! ### impl_Clause_123: function 123 -/
def val_T94 (x : S94) : Value := .agg #[.string x.f0, .int .i64 x.f1, .int .i64 x.f2, .int .i64 x.f3, .int .i64 x.f4, .int .i64 x.f5, .string x.f6]
theorem rd_at_T94 (l : List S94) (i : Nat) (h : i < l.length) : rd_T94 l (i : Int) = l[i] := by
 simp [rd_T94, List.getD_eq_getElem?_getD, h]
set_option maxHeartbeats 400000 in
theorem IndexFunc_T94.calls (g : Nat) (lb : Array Value) (p : S94 → Bool) (A0 : Option Addr) (c0 : Nat) (l0 : List S94) (w : World) (hr0 : Kd.C k94 w A0 l0.length l0) (hc0 : l0.length ≤ c0)
 (eg : ∀ args w, (callFunc g args).run Try.prog w = .ok (.enter g args) w) (hp : FnP Try.prog val_T94 g lb p l0 w) :
 Calls Try.prog 123 #[.slice A0 l0.length c0, .func (.func g) #[] lb] w fun e w' => e = .returned (.int .i64 (idxP p l0)) ∧ Below w.heap.size w w' := by
 have hu94 := Try.underlying94
 have hbig : l0.length ≤ 9223372036854775807 := hr0.2.1
 have HR0 := Aside0.mk hr0
 have HP := Aside0.mk hp
 clear hr0 hc0 hp
 go_enter Try.func123, Try.ntmps123
 go_wp2
 go_loopg [5, 8] l0.length (fun gg _ s8 wr => ∃ kk : Nat, kk ≤ l0.length ∧ l0.length - kk ≤ gg ∧ s8 = .int .i64 kk ∧ Aside0 (Below w.heap.size w wr) ∧ Aside0 (∀ j (hj : j < l0.length), j < kk → p l0[j] = false))
 case atStart => exact ⟨0, Nat.zero_le _, by omega, rfl, ⟨Below.refl _ w⟩, ⟨fun j hj h => absurd h (Nat.not_lt_zero _)⟩⟩
 case round =>
  obtain ⟨kk, hkk, hg, rfl, BW, A⟩ := hrel
  by_cases hlt : kk < l0.length
  · have hltz : (kk : Int) < (l0.length : Int) := by omega
    obtain ⟨ad, e_ad, hx0, hx1, hx2, hx3, hx4, hx5, hx6⟩ := at_T94 HR0.out (kk : Int) (by omega) (by omega)
    cases e_ad
    rw [rd_at_T94 l0 kk hlt, Int.toNat_natCast] at hx0 hx1 hx2 hx3 hx4 hx5 hx6
    replace hx0 := (BW.out.cell (World.block_lt_of_cell? w _ hx0)).trans hx0
    replace hx1 := (BW.out.cell (World.block_lt_of_cell? w _ hx1)).trans hx1
    replace hx2 := (BW.out.cell (World.block_lt_of_cell? w _ hx2)).trans hx2
    replace hx3 := (BW.out.cell (World.block_lt_of_cell? w _ hx3)).trans hx3
    replace hx4 := (BW.out.cell (World.block_lt_of_cell? w _ hx4)).trans hx4
    replace hx5 := (BW.out.cell (World.block_lt_of_cell? w _ hx5)).trans hx5
    replace hx6 := (BW.out.cell (World.block_lt_of_cell? w _ hx6)).trans hx6
    have hcall := HP.out wr l0[kk] (List.getElem_mem hlt) BW.out
    unfold val_T94 at hcall
    generalize hy : l0[kk] = y at hx0 hx1 hx2 hx3 hx4 hx5 hx6 hcall
    have B : Aside0 (l0[kk] = y) := ⟨hy⟩
    clear hy
    cases hq : p y with
    | true =>
     rw [hq] at hcall
     go_wp2_with (go_at_fn g; refine hcall.mono ?_; rintro e w' ⟨rfl, hb'⟩)
     go_ret
     refine ⟨?_, below_then BW.out BW.out.size hb'⟩
     rw [idxP_hit p l0 kk hlt (by rw [B.out]; exact hq) (fun j hj => A.out j _ hj)]
     rfl
    | false =>
     rw [hq] at hcall
     go_wp2_with (go_at_fn g; refine hcall.mono ?_; rintro e w' ⟨rfl, hb'⟩)
     go_roundg (l0.length - (kk + 1))
     case measure => omega
     case rel =>
      refine ⟨kk + 1, by omega, by omega, by go_num, ⟨below_then BW.out BW.out.size hb'⟩, ⟨fun j hj hjk => ?_⟩⟩
      by_cases e : j = kk
      · subst e
        rw [B.out]; exact hq
      · exact A.out j hj (by omega)
  · have hltz : ¬ (kk : Int) < (l0.length : Int) := by omega
    have : kk = l0.length := by omega
    go_wp2
    go_ret
    refine ⟨?_, BW.out⟩
    rw [idxP_miss p l0 (fun j hj => A.out j hj (by omega))]
    rfl

/-! ### impl_Clause_120: function 120 -/
theorem ContainsFunc_T94.calls (g : Nat) (lb : Array Value) (p : S94 → Bool) (A0 : Option Addr) (c0 : Nat) (l0 : List S94) (w : World) (hr0 : Kd.C k94 w A0 l0.length l0) (hc0 : l0.length ≤ c0)
 (eg : ∀ args w, (callFunc g args).run Try.prog w = .ok (.enter g args) w) (hp : FnP Try.prog val_T94 g lb p l0 w) :
 Calls Try.prog 120 #[.slice A0 l0.length c0, .func (.func g) #[] lb] w fun e w' => e = .returned (.bool (l0.any p)) ∧ Below w.heap.size w w' := by
 have HC := Aside0.mk (IndexFunc_T94.calls g lb p A0 c0 l0 w hr0 hc0 eg hp)
 clear hr0 hc0 hp
 rw [← idxP_any]
 go_enter Try.func120, Try.ntmps120
 go_wp2_with (go_at_call 123; refine HC.out.mono ?_; rintro e w' ⟨rfl, hb'⟩)
 go_ret
 exact ⟨rfl, hb'⟩

-- NOT PRINTED: function 121 (impl_Clause_1)

/-! ### impl_Clause_100: function 100 -/
theorem all_1_T94.calls (g : Nat) (lb : Array Value) (p : S94 → Bool) (B : Nat) (x : S94) (w : World) (hB : B < w.heap.size) (hc : w.cell? ⟨B, 0, none⟩ = some (.func (.func g) #[] lb))
 (eg : ∀ args w, (callFunc g args).run Try.prog w = .ok (.enter g args) w) (hp : ∀ W, Below w.heap.size w W → Calls Try.prog g (#[val_T94 x] ++ lb) W fun e w' => e = .returned (.bool (p x)) ∧ Below W.heap.size W w') :
 Calls Try.prog 121 #[val_T94 x, .pointer (some ⟨B, 0, none⟩)] w fun e w' => e = .returned (.bool (!p x)) ∧ Below w.heap.size w w' := by
 have hu94 := Try.underlying94
 have HP := Aside0.mk hp
 clear hp
 unfold val_T94 at HP ⊢
 go_enter Try.func121, Try.ntmps121
 go_wp2_with (go_at_fn g; refine (HP.out _ (below_alloc (Below.refl _ _) _)).mono ?_; rintro e w' ⟨rfl, hb'⟩)
 go_ret
 exact ⟨rfl, below_then (below_alloc (Below.refl _ _) _) (below_alloc (Below.refl _ _) _).size hb'⟩
theorem all_T94.calls (g : Nat) (lb : Array Value) (p : S94 → Bool) (A0 : Option Addr) (c0 : Nat) (l0 : List S94) (w : World) (hr0 : Kd.C k94 w A0 l0.length l0) (hc0 : l0.length ≤ c0)
 (eg : ∀ args w, (callFunc g args).run Try.prog w = .ok (.enter g args) w) (hp : FnP Try.prog val_T94 g lb p l0 w) :
 Calls Try.prog 100 #[.slice A0 l0.length c0, .func (.func g) #[] lb] w fun e w' => e = .returned (.bool (l0.all p)) ∧ Below w.heap.size w w' := by
 have hb0 : Below w.heap.size w (w.alloc (.cells #[.func (.func g) #[] lb] 127)) := below_alloc (Below.refl _ _) _
 have e1 : ∀ args w, (callFunc 121 args).run Try.prog w = .ok (.enter 121 args) w := enters_of Try.func121 (by kernel_rfl) rfl
 have HC := Aside0.mk (ContainsFunc_T94.calls 121 #[.pointer (some ⟨w.heap.size, 0, none⟩)] (fun x => !p x) A0 c0 l0 (w.alloc (.cells #[.func (.func g) #[] lb] 127)) (Kd.C_below hr0 hb0) hc0 e1 (by
  intro W x hx hW
  have hsz : w.heap.size < W.heap.size := by have := hW.size; simp at this; omega
  exact all_1_T94.calls g lb p w.heap.size x W hsz ((hW.cell (p := ⟨w.heap.size, 0, none⟩) (by simp)).trans (by simp)) eg (fun W' hW' => hp W' x hx (below_then (below_then hb0 hb0.size hW) (by omega) hW'))))
 clear hr0 hc0 hp
 rw [← any_not_all]
 go_enter Try.func100, Try.ntmps100
 go_wp2_with (go_at_call 120; refine HC.out.mono ?_; rintro e w' ⟨rfl, hb'⟩)
 go_ret
 exact ⟨rfl, below_then hb0 hb0.size hb'⟩

/-! ### impl_in: function 112 -/
def impl_in.f (a0 : Int) (a1 : Int) (a2 : Int) : Option (Bool) := if a0 ≥ a1 then (some (decide (a0 ≤ a2))) else (some false)
set_option maxHeartbeats 8000000 in
set_option maxRecDepth 100000 in
theorem impl_in.calls (a0 : Int) (a1 : Int) (a2 : Int) (r : Bool) (w : World) (h : impl_in.f a0 a1 a2 = some r) :
 Calls Try.prog 112 #[.int .i64 a0, .int .i64 a1, .int .i64 a2] w fun e w' => e = .returned (.bool r) ∧ Drawn0 w w' := by
 have H : (if a0 ≥ a1 then (some (decide (a0 ≤ a2))) else (some false)) = some r := h
 clear h
 by_cases c4 : a0 ≥ a1
 rw [if_pos c4] at H
 have c4b0 : decide (a1 ≤ a0) = true := decide_eq_true c4
 clear c4
 obtain rfl := Option.some.inj H
 rotate_left
 rw [if_neg c4] at H
 have c4b0 : decide (a1 ≤ a0) = false := decide_eq_false c4
 clear c4
 obtain rfl := Option.some.inj H
 rotate_left
 all_goals
  go_enter Try.func112, Try.ntmps112
  go_wp2
  go_ret
  exact ⟨by first | rfl | (simp; done) | (simp [*]; done), by repeat (first | exact Drawn0.refl _ | apply Drawn0.step)⟩

/-! ### impl_spelled: function 129 -/
def impl_spelled.l0 : Nat → ByteArray → Int → Int → Int → Int → Int → Int → Option (Bool)
 | 0, _, _, _, _, _, _, _ => none
 | k + 1, x0, x1, x2, x3, x4, x13, x14 => if x14 < x13 then (if 0 ≤ x14 then (if x14 < (x0.size : Int) then (if (bt x0 x14) < x3 then (some false) else (if (bt x0 x14) > x4 then (some false) else (impl_spelled.l0 k x0 x1 x2 x3 x4 x13 (wrap64 (x14 + 1))))) else (none)) else (none)) else (if (x0.size : Int) ≥ x1 then (some (decide ((x0.size : Int) ≤ x2))) else (some false))
def impl_spelled.f (k : Nat) (a0 : ByteArray) (a1 : Int) (a2 : Int) (a3 : Int) (a4 : Int) : Option (Bool) := impl_spelled.l0 k a0 a1 a2 a3 a4 (a0.size : Int) 0
theorem impl_spelled.mono_l : ∀ k, (∀ y0 y1 y2 y3 y4 y5 y6, LeO (impl_spelled.l0 k y0 y1 y2 y3 y4 y5 y6) (impl_spelled.l0 (k + 1) y0 y1 y2 y3 y4 y5 y6))
 | 0 => fun _ _ _ _ _ _ _ r h => by simp [impl_spelled.l0] at h
 | k + 1 => by
  have ih0 := impl_spelled.mono_l k
  · intro y0 y1 y2 y3 y4 y5 y6
    unfold impl_spelled.l0
    repeat' first
    | (with_reducible exact ih0 _ _ _ _ _ _ _)
    | (with_reducible exact LeO.refl _)
    | (with_reducible exact LeO.none _)
    | (with_reducible refine LeO.ite ?_ ?_)
    | (with_reducible refine LeO.bind ?_ (fun _ => ?_))
    | exact ih0 _ _ _ _ _ _ _
    | exact LeO.none _
    | refine LeO.ite ?_ ?_
    | refine LeO.bind ?_ (fun _ => ?_)
theorem impl_spelled.mono : ∀ a0 a1 a2 a3 a4 k, LeO (impl_spelled.f k a0 a1 a2 a3 a4) (impl_spelled.f (k + 1) a0 a1 a2 a3 a4) := by
 intro a0 a1 a2 a3 a4 k
 have ih0 := impl_spelled.mono_l k
 unfold impl_spelled.f
 repeat' first
  | (with_reducible exact ih0 _ _ _ _ _ _ _)
  | (with_reducible exact LeO.refl _)
  | (with_reducible exact LeO.none _)
  | (with_reducible refine LeO.ite ?_ ?_)
  | (with_reducible refine LeO.bind ?_ (fun _ => ?_))
  | exact ih0 _ _ _ _ _ _ _
  | exact LeO.none _
  | refine LeO.ite ?_ ?_
  | refine LeO.bind ?_ (fun _ => ?_)
set_option maxHeartbeats 8000000 in
set_option maxRecDepth 100000 in
theorem impl_spelled.calls (k : Nat) (a0 : ByteArray) (a1 : Int) (a2 : Int) (a3 : Int) (a4 : Int) (r : Bool) (w : World) (h : impl_spelled.f k a0 a1 a2 a3 a4 = some r) :
 Calls Try.prog 129 #[.string a0, .int .i64 a1, .int .i64 a2, .int .u8 a3, .int .u8 a4] w fun e w' => e = .returned (.bool r) ∧ Drawn0 w w' := by
 have H : (impl_spelled.l0 k a0 a1 a2 a3 a4 (a0.size : Int) 0) = some r := h
 clear h
 have H' := Aside0.mk H
 clear H
 go_enter Try.func129, Try.ntmps129
 go_wp2
 go_loopg [14] k (fun kq v14 w' => ∃ (x14_1 : Int), v14 = .int .i64 x14_1 ∧ Aside0 (impl_spelled.l0 kq a0 a1 a2 a3 a4 (a0.size : Int) x14_1 = some r) ∧ Aside0 (kq ≤ k) ∧ Drawn0 w w')
 case atStart => exact ⟨(0), (by first | rfl | (simp; done) | (simp [*]; done)), H', ⟨Nat.le_refl _⟩, by repeat (first | exact Drawn0.refl _ | apply Drawn0.step)⟩
 case round =>
  clear H'
  try clear c1
  try clear p2
  obtain ⟨x14_1, rfl, HA, HK1, ⟨m1, rfl⟩⟩ := hrel
  cases gk with
  | zero => exact absurd HA.out (by simp [impl_spelled.l0])
  | succ k1 =>
   have H := HA.out
   clear HA
   simp only [impl_spelled.l0] at H
   by_cases c6 : x14_1 < (a0.size : Int)
   · rw [if_pos c6] at H
     have c6b0 : decide (x14_1 < (a0.size : Int)) = true := decide_eq_true c6
     clear c6
     by_cases c7 : 0 ≤ x14_1
     · rw [if_pos c7] at H
       have c7b0 : decide (0 ≤ x14_1) = true := decide_eq_true c7
       clear c7
       by_cases c8 : x14_1 < (a0.size : Int)
       · rw [if_pos c8] at H
         have c8b0 : decide (x14_1 < (a0.size : Int)) = true := decide_eq_true c8
         clear c8
         by_cases c10 : (bt a0 x14_1) < a3
         · rw [if_pos c10] at H
           have c10b0 : decide ((bt a0 x14_1) < a3) = true := decide_eq_true c10
           clear c10
           obtain rfl := Option.some.inj H
           have p9 : 0 ≤ (x14_1 : Int) := od_
           have q9 : x14_1 < (a0.size : Int) := od_
           have hx9 := bt_at a0 x14_1
           replace p9 := eq_true p9
           replace q9 := eq_true q9
           go_wp2
           go_ret
           exact ⟨by first | rfl | (simp; done) | (simp [*]; done), by repeat (first | exact Drawn0.refl _ | apply Drawn0.step)⟩
         · rw [if_neg c10] at H
           have c10b0 : decide ((bt a0 x14_1) < a3) = false := decide_eq_false c10
           clear c10
           by_cases c12 : (bt a0 x14_1) > a4
           · rw [if_pos c12] at H
             have c12b0 : decide (a4 < (bt a0 x14_1)) = true := decide_eq_true c12
             clear c12
             obtain rfl := Option.some.inj H
             have p9 : 0 ≤ (x14_1 : Int) := od_
             have q9 : x14_1 < (a0.size : Int) := od_
             have hx9 := bt_at a0 x14_1
             replace p9 := eq_true p9
             replace q9 := eq_true q9
             have p11 : 0 ≤ (x14_1 : Int) := od_
             have q11 : x14_1 < (a0.size : Int) := od_
             have hx11 := bt_at a0 x14_1
             replace p11 := eq_true p11
             replace q11 := eq_true q11
             go_wp2
             go_ret
             exact ⟨by first | rfl | (simp; done) | (simp [*]; done), by repeat (first | exact Drawn0.refl _ | apply Drawn0.step)⟩
           · rw [if_neg c12] at H
             have c12b0 : decide (a4 < (bt a0 x14_1)) = false := decide_eq_false c12
             clear c12
             have H' := Aside0.mk H
             clear H
             have p9 : 0 ≤ (x14_1 : Int) := od_
             have q9 : x14_1 < (a0.size : Int) := od_
             have hx9 := bt_at a0 x14_1
             replace p9 := eq_true p9
             replace q9 := eq_true q9
             have p11 : 0 ≤ (x14_1 : Int) := od_
             have q11 : x14_1 < (a0.size : Int) := od_
             have hx11 := bt_at a0 x14_1
             replace p11 := eq_true p11
             replace q11 := eq_true q11
             go_wp2
             go_roundg k1
             case measure => have := HK1.out; omega
             case rel => exact ⟨(wrap64 (x14_1 + 1)), (by first | rfl | (simp; done) | (simp [*]; done)), H', ⟨by have := HK1.out; omega⟩, by repeat (first | exact Drawn0.refl _ | apply Drawn0.step)⟩
       · rw [if_neg c8] at H
         exact absurd H (by simp)
     · rw [if_neg c7] at H
       exact absurd H (by simp)
   · rw [if_neg c6] at H
     have c6b0 : decide (x14_1 < (a0.size : Int)) = false := decide_eq_false c6
     clear c6
     by_cases c13 : (a0.size : Int) ≥ a1
     · rw [if_pos c13] at H
       have c13b0 : decide (a1 ≤ (a0.size : Int)) = true := decide_eq_true c13
       clear c13
       obtain rfl := Option.some.inj H
       go_wp2
       go_ret
       exact ⟨by first | rfl | (simp; done) | (simp [*]; done), by repeat (first | exact Drawn0.refl _ | apply Drawn0.step)⟩
     · rw [if_neg c13] at H
       have c13b0 : decide (a1 ≤ (a0.size : Int)) = false := decide_eq_false c13
       clear c13
       obtain rfl := Option.some.inj H
       go_wp2
       go_ret
       exact ⟨by first | rfl | (simp; done) | (simp [*]; done), by repeat (first | exact Drawn0.refl _ | apply Drawn0.step)⟩

/-! ### impl_IsPartyCode: function 113 -/
def impl_IsPartyCode.f (k : Nat) (a0 : ByteArray) : Option (Bool) := (impl_spelled.f k a0 1 6 97 122).bind fun t212 => (some t212)
theorem impl_IsPartyCode.mono : ∀ a0 k, LeO (impl_IsPartyCode.f k a0) (impl_IsPartyCode.f (k + 1) a0) := by
 intro a0 k
 unfold impl_IsPartyCode.f
 repeat' first
  | (with_reducible exact impl_spelled.mono _ _ _ _ _ _)
  | (with_reducible exact LeO.refl _)
  | (with_reducible exact LeO.none _)
  | (with_reducible refine LeO.ite ?_ ?_)
  | (with_reducible refine LeO.bind ?_ (fun _ => ?_))
  | exact impl_spelled.mono _ _ _ _ _ _
  | exact LeO.none _
  | refine LeO.ite ?_ ?_
  | refine LeO.bind ?_ (fun _ => ?_)
set_option maxHeartbeats 8000000 in
set_option maxRecDepth 100000 in
theorem impl_IsPartyCode.calls (k : Nat) (a0 : ByteArray) (r : Bool) (w : World) (h : impl_IsPartyCode.f k a0 = some r) :
 Calls Try.prog 113 #[.string a0] w fun e w' => e = .returned (.bool r) ∧ Drawn0 w w' := by
 have H : ((impl_spelled.f k a0 1 6 97 122).bind fun t212 => (some t212)) = some r := h
 clear h
 replace H := Option.bind_eq_some_iff.mp H
 obtain ⟨t212, A20, H⟩ := H
 replace H : (some t212) = some r := H
 have A2 := Aside0.mk A20
 clear A20
 obtain rfl := Option.some.inj H
 go_enter Try.func113, Try.ntmps113
 go_wp2_with (first | ((with_reducible refine gate_callee (f := 129) rfl ?_); refine gl_ 4 Try.func129 #[.string a0, .int .i64 1, .int .i64 6, .int .u8 97, .int .u8 122] ?_; (with_reducible refine (impl_spelled.calls k a0 1 6 97 122 t212 _ A2.out).mono ?_); rintro e w' ⟨rfl, ⟨nd, rfl⟩⟩; refine ⟨_, rfl, ?_⟩))
 go_ret
 exact ⟨by first | rfl | (simp; done) | (simp [*]; done), by repeat (first | exact Drawn0.refl _ | apply Drawn0.step)⟩

/-! ### impl_isNeed: function 122 -/
def impl_isNeed.f (a0 : Int) : Option (Bool) := (impl_in.f a0 0 2).bind fun t213 => (some t213)
set_option maxHeartbeats 8000000 in
set_option maxRecDepth 100000 in
theorem impl_isNeed.calls (a0 : Int) (r : Bool) (w : World) (h : impl_isNeed.f a0 = some r) :
 Calls Try.prog 122 #[.int .i64 a0] w fun e w' => e = .returned (.bool r) ∧ Drawn0 w w' := by
 have H : ((impl_in.f a0 0 2).bind fun t213 => (some t213)) = some r := h
 clear h
 replace H := Option.bind_eq_some_iff.mp H
 obtain ⟨t213, A20, H⟩ := H
 replace H : (some t213) = some r := H
 have A2 := Aside0.mk A20
 clear A20
 obtain rfl := Option.some.inj H
 go_enter Try.func122, Try.ntmps122
 go_wp2_with (first | ((with_reducible refine gate_callee (f := 112) rfl ?_); refine gl_ 4 Try.func112 #[.int .i64 a0, .int .i64 0, .int .i64 2] ?_; (with_reducible refine (impl_in.calls a0 0 2 t213 _ A2.out).mono ?_); rintro e w' ⟨rfl, ⟨nd, rfl⟩⟩; refine ⟨_, rfl, ?_⟩))
 go_ret
 exact ⟨by first | rfl | (simp; done) | (simp [*]; done), by repeat (first | exact Drawn0.refl _ | apply Drawn0.step)⟩

end Go.Proofs.Ytmfbkbbgokjhnaa.F
