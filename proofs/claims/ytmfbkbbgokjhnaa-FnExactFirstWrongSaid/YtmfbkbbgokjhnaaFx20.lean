-- Written by this session's program (wip/bin/hp.py) over the kit's print: a function's Lean form, and a proof that the call does what it says.
import Derived.Test.YtmfbkbbgokjhnaaFx0
import Derived.Test.YtmfbkbbgokjhnaaSq
import Derived.Test.YtmfbkbbgokjhnaaFx15
import Derived.Test.YtmfbkbbgokjhnaaFx17
namespace Go.Proofs.Ytmfbkbbgokjhnaa.F
open Go.RowKit Go.Proofs.YtmfbkbbgokjhnaaW.PrintWords Go.Proofs.YtmfbkbbgokjhnaaW.PrintLast Go.Proofs.YtmfbkbbgokjhnaaW.PrintMore
attribute [local go_sem] max2_int min2_int max_two min_two max_three min_three max_four min_four   -- for this text's walks alone
set_option linter.unusedVariables false
set_option linter.unusedSimpArgs false

/-! ### impl_daysIn: function 136 -/
def impl_daysIn.j0 : Nat → Int → Bool → Option (Int)
 | 0, _, _ => none
 | k + 1, x1, x5 => if x5 = true then (some 29) else (if x1 = 2 then (some 28) else (if x1 = 4 then (some 30) else (if x1 = 6 then (some 30) else (if x1 = 9 then (some 30) else (if x1 = 11 then (some 30) else (some 31))))))
def impl_daysIn.f (k : Nat) (a0 : Int) (a1 : Int) : Option (Int) := if a1 = 2 then (impl_daysIn.j0 k a1 ((Int.tmod a0 4) == 0)) else (impl_daysIn.j0 k a1 false)
theorem impl_daysIn.mono_l : ∀ k, (∀ y0 y1, LeO (impl_daysIn.j0 k y0 y1) (impl_daysIn.j0 (k + 1) y0 y1))
 | 0 => fun _ _ r h => by simp [impl_daysIn.j0] at h
 | k + 1 => by
  have ih0 := impl_daysIn.mono_l k
  · intro y0 y1
    unfold impl_daysIn.j0
    repeat' first
    | (with_reducible exact ih0 _ _)
    | (with_reducible exact LeO.refl _)
    | (with_reducible exact LeO.none _)
    | (with_reducible refine LeO.ite ?_ ?_)
    | (with_reducible refine LeO.bind ?_ (fun _ => ?_))
    | exact ih0 _ _
    | exact LeO.none _
    | refine LeO.ite ?_ ?_
    | refine LeO.bind ?_ (fun _ => ?_)
theorem impl_daysIn.mono : ∀ a0 a1 k, LeO (impl_daysIn.f k a0 a1) (impl_daysIn.f (k + 1) a0 a1) := by
 intro a0 a1 k
 have ih0 := impl_daysIn.mono_l k
 unfold impl_daysIn.f
 repeat' first
  | (with_reducible exact ih0 _ _)
  | (with_reducible exact LeO.refl _)
  | (with_reducible exact LeO.none _)
  | (with_reducible refine LeO.ite ?_ ?_)
  | (with_reducible refine LeO.bind ?_ (fun _ => ?_))
  | exact ih0 _ _
  | exact LeO.none _
  | refine LeO.ite ?_ ?_
  | refine LeO.bind ?_ (fun _ => ?_)
set_option maxHeartbeats 8000000 in
set_option maxRecDepth 100000 in
theorem impl_daysIn.calls (k : Nat) (a0 : Int) (a1 : Int) (r : Int) (w : World) (h : impl_daysIn.f k a0 a1 = some r) :
 Calls Try.prog 136 #[.int .i64 a0, .int .i64 a1] w fun e w' => e = .returned (.int .i64 r) ∧ Drawn0 w w' := by
 have H : (if a1 = 2 then (impl_daysIn.j0 k a1 ((Int.tmod a0 4) == 0)) else (impl_daysIn.j0 k a1 false)) = some r := h
 clear h
 have HC3 := Aside0.mk H
 clear H
 go_enter Try.func136, Try.ntmps136
 go_upto_region 1 with (fail)
 go_cut [5] (fun v5 wc => ∃ (kq : Nat) (x5_2 : Bool), v5 = .bool x5_2 ∧ Aside0 (impl_daysIn.j0 kq a1 x5_2 = some r) ∧ Aside0 (kq ≤ k) ∧ Drawn0 w wc)
 case first =>
  have H := HC3.out
  clear HC3
  by_cases c4 : a1 = 2
  · rw [if_pos c4] at H
    have c4b0 : (a1 == 2) = true := beq_iff_eq.mpr c4
    have c4b1 : (a1 != 2) = false := bne_eq_false_iff_eq.mpr c4
    clear c4
    (first | rw [c4b0] | (simp only [i64_w, i32_w]; rw [c4b0]) | skip)
    have H' := Aside0.mk H
    clear H
    go_wp2
    go_meet
    case rel => exact ⟨_, (((Int.tmod a0 4) == 0)), (by first | rfl | (simp; done) | (simp [*]; done)), H', ⟨by first | omega | exact Nat.le_refl _⟩, by repeat (first | exact Drawn0.refl _ | apply Drawn0.step)⟩
  · rw [if_neg c4] at H
    have c4b0 : (a1 == 2) = false := beq_eq_false_iff_ne.mpr c4
    have c4b1 : (a1 != 2) = true := bne_iff_ne.mpr c4
    (first | rw [c4b0] | (simp only [i64_w, i32_w]; rw [c4b0]) | skip)
    have H' := Aside0.mk H
    clear H
    go_wp2
    go_meet
    case rel => exact ⟨_, (false), (by first | rfl | (simp; done) | (simp [*]; done)), H', ⟨by first | omega | exact Nat.le_refl _⟩, by repeat (first | exact Drawn0.refl _ | apply Drawn0.step)⟩
 case rest =>
  clear HC3
  try clear c1
  try clear p2
  try clear c4
  try clear c4b0
  try clear c4b1
  obtain ⟨kq, x5_2, rfl, HA, HJ2, ⟨mc2, rfl⟩⟩ := hcut
  cases kq with
  | zero => exact absurd HA.out (by simp [impl_daysIn.j0])
  | succ kj2 =>
   have H := HA.out
   clear HA
   simp only [impl_daysIn.j0] at H
   by_cases c5 : x5_2 = true
   · subst c5
     have H1 : (some 29) = some r := by rw [if_pos rfl] at H; exact H
     clear H
     have H := H1
     clear H1
     obtain rfl := Option.some.inj H
     go_wp2
     go_ret
     exact ⟨by first | rfl | (simp; done) | (simp [*]; done), by repeat (first | exact Drawn0.refl _ | apply Drawn0.step)⟩
   · replace c5 := Bool.eq_false_iff.mpr c5
     subst c5
     have H1 : (if a1 = 2 then (some 28) else (if a1 = 4 then (some 30) else (if a1 = 6 then (some 30) else (if a1 = 9 then (some 30) else (if a1 = 11 then (some 30) else (some 31)))))) = some r := by rw [if_neg (show ¬ (false = true) by decide)] at H; exact H
     clear H
     have H := H1
     clear H1
     by_cases c6 : a1 = 2
     · rw [if_pos c6] at H
       have c6b0 : (a1 == 2) = true := beq_iff_eq.mpr c6
       have c6b1 : (a1 != 2) = false := bne_eq_false_iff_eq.mpr c6
       clear c6
       obtain rfl := Option.some.inj H
       go_wp2
       go_ret
       exact ⟨by first | rfl | (simp; done) | (simp [*]; done), by repeat (first | exact Drawn0.refl _ | apply Drawn0.step)⟩
     · rw [if_neg c6] at H
       have c6b0 : (a1 == 2) = false := beq_eq_false_iff_ne.mpr c6
       have c6b1 : (a1 != 2) = true := bne_iff_ne.mpr c6
       by_cases c7 : a1 = 4
       · rw [if_pos c7] at H
         have c7b0 : (a1 == 4) = true := beq_iff_eq.mpr c7
         have c7b1 : (a1 != 4) = false := bne_eq_false_iff_eq.mpr c7
         clear c7
         obtain rfl := Option.some.inj H
         go_wp2
         go_ret
         exact ⟨by first | rfl | (simp; done) | (simp [*]; done), by repeat (first | exact Drawn0.refl _ | apply Drawn0.step)⟩
       · rw [if_neg c7] at H
         have c7b0 : (a1 == 4) = false := beq_eq_false_iff_ne.mpr c7
         have c7b1 : (a1 != 4) = true := bne_iff_ne.mpr c7
         by_cases c8 : a1 = 6
         · rw [if_pos c8] at H
           have c8b0 : (a1 == 6) = true := beq_iff_eq.mpr c8
           have c8b1 : (a1 != 6) = false := bne_eq_false_iff_eq.mpr c8
           clear c8
           obtain rfl := Option.some.inj H
           go_wp2
           go_ret
           exact ⟨by first | rfl | (simp; done) | (simp [*]; done), by repeat (first | exact Drawn0.refl _ | apply Drawn0.step)⟩
         · rw [if_neg c8] at H
           have c8b0 : (a1 == 6) = false := beq_eq_false_iff_ne.mpr c8
           have c8b1 : (a1 != 6) = true := bne_iff_ne.mpr c8
           by_cases c9 : a1 = 9
           · rw [if_pos c9] at H
             have c9b0 : (a1 == 9) = true := beq_iff_eq.mpr c9
             have c9b1 : (a1 != 9) = false := bne_eq_false_iff_eq.mpr c9
             clear c9
             obtain rfl := Option.some.inj H
             go_wp2
             go_ret
             exact ⟨by first | rfl | (simp; done) | (simp [*]; done), by repeat (first | exact Drawn0.refl _ | apply Drawn0.step)⟩
           · rw [if_neg c9] at H
             have c9b0 : (a1 == 9) = false := beq_eq_false_iff_ne.mpr c9
             have c9b1 : (a1 != 9) = true := bne_iff_ne.mpr c9
             by_cases c10 : a1 = 11
             · rw [if_pos c10] at H
               have c10b0 : (a1 == 11) = true := beq_iff_eq.mpr c10
               have c10b1 : (a1 != 11) = false := bne_eq_false_iff_eq.mpr c10
               clear c10
               obtain rfl := Option.some.inj H
               go_wp2
               go_ret
               exact ⟨by first | rfl | (simp; done) | (simp [*]; done), by repeat (first | exact Drawn0.refl _ | apply Drawn0.step)⟩
             · rw [if_neg c10] at H
               have c10b0 : (a1 == 11) = false := beq_eq_false_iff_ne.mpr c10
               have c10b1 : (a1 != 11) = true := bne_iff_ne.mpr c10
               obtain rfl := Option.some.inj H
               go_wp2
               go_ret
               exact ⟨by first | rfl | (simp; done) | (simp [*]; done), by repeat (first | exact Drawn0.refl _ | apply Drawn0.step)⟩

/-! ### impl_dayOf: function 132 -/
def impl_dayOf.l0 : Nat → Int → Int → Int → Int → Int → Option (Int)
 | 0, _, _, _, _, _ => none
 | k + 1, x4, x5, x228000, x228001, x228002 => if x5 < x228001 then ((impl_daysIn.f k x228000 x5).bind fun t228 => (impl_dayOf.l0 k (wrap64 (x4 + t228)) (wrap64 (x5 + 1)) x228000 x228001 x228002)) else (some x4)
def impl_dayOf.f (k : Nat) (a0_0 : Int) (a0_1 : Int) (a0_2 : Int) : Option (Int) := impl_dayOf.l0 k (wrap64 ((wrap64 ((wrap64 ((wrap64 (365 * (wrap64 (a0_0 - 1970)))) + (wrap64 (Int.tdiv (wrap64 ((wrap64 (a0_0 - 1970)) + 1)) 4)))) + a0_2)) - 1)) 1 a0_0 a0_1 a0_2
theorem impl_dayOf.mono_l : ∀ k, (∀ y0 y1 y2 y3 y4, LeO (impl_dayOf.l0 k y0 y1 y2 y3 y4) (impl_dayOf.l0 (k + 1) y0 y1 y2 y3 y4))
 | 0 => fun _ _ _ _ _ r h => by simp [impl_dayOf.l0] at h
 | k + 1 => by
  have ih0 := impl_dayOf.mono_l k
  · intro y0 y1 y2 y3 y4
    unfold impl_dayOf.l0
    repeat' first
    | (with_reducible exact ih0 _ _ _ _ _)
    | (with_reducible exact impl_daysIn.mono _ _ _)
    | (with_reducible exact LeO.refl _)
    | (with_reducible exact LeO.none _)
    | (with_reducible refine LeO.ite ?_ ?_)
    | (with_reducible refine LeO.bind ?_ (fun _ => ?_))
    | exact ih0 _ _ _ _ _
    | exact impl_daysIn.mono _ _ _
    | exact LeO.none _
    | refine LeO.ite ?_ ?_
    | refine LeO.bind ?_ (fun _ => ?_)
theorem impl_dayOf.mono : ∀ a0 a1 a2 k, LeO (impl_dayOf.f k a0 a1 a2) (impl_dayOf.f (k + 1) a0 a1 a2) := by
 intro a0 a1 a2 k
 have ih0 := impl_dayOf.mono_l k
 unfold impl_dayOf.f
 repeat' first
  | (with_reducible exact ih0 _ _ _ _ _)
  | (with_reducible exact impl_daysIn.mono _ _ _)
  | (with_reducible exact LeO.refl _)
  | (with_reducible exact LeO.none _)
  | (with_reducible refine LeO.ite ?_ ?_)
  | (with_reducible refine LeO.bind ?_ (fun _ => ?_))
  | exact ih0 _ _ _ _ _
  | exact impl_daysIn.mono _ _ _
  | exact LeO.none _
  | refine LeO.ite ?_ ?_
  | refine LeO.bind ?_ (fun _ => ?_)
set_option maxHeartbeats 8000000 in
set_option maxRecDepth 100000 in
theorem impl_dayOf.calls (k : Nat) (a0_0 : Int) (a0_1 : Int) (a0_2 : Int) (r : Int) (w : World) (h : impl_dayOf.f k a0_0 a0_1 a0_2 = some r) :
 Calls Try.prog 132 #[.agg #[.int .i64 a0_0, .int .i64 a0_1, .int .i64 a0_2]] w fun e w' => e = .returned (.int .i64 r) ∧ Below w.heap.size w w' := by
 have hu147 := Try.underlying147
 have HB := Aside0.mk (Below.refl w.heap.size w)
 have H : (impl_dayOf.l0 k (wrap64 ((wrap64 ((wrap64 ((wrap64 (365 * (wrap64 (a0_0 - 1970)))) + (wrap64 (Int.tdiv (wrap64 ((wrap64 (a0_0 - 1970)) + 1)) 4)))) + a0_2)) - 1)) 1 a0_0 a0_1 a0_2) = some r := h
 clear h
 have H' := Aside0.mk H
 clear H
 go_enter Try.func132, Try.ntmps132
 go_wp2_with (first | ((with_reducible refine gate_dst (N := 1) rfl ?_); refine bx_ 1 #[.int .i64 a0_0, .int .i64 a0_1, .int .i64 a0_2] 147 ?_; intro gb227 hg w2 hbox hb; have n0_ := Aside0.mk (bs_ hb); have n1_ := Aside0.mk (hbox); have n2_ := Aside0.mk ((by rw [hg]; exact (bz_) : w.heap.size ≤ gb227)); have n3_ := Aside0.mk ((by rw [hg]; exact (bz_) : w.heap.size ≤ gb227)); clear HB; revert n0_ n1_ n2_ n3_; intro HB BK227 GW227 GE227; clear hb hbox hg; have hcz3_0 := bk BK227 0; have hcz3_1 := bk BK227 1; have hcz3_2 := bk BK227 2; have hfz3_0 := blk_frozen BK227.out 0; have hfz3_1 := blk_frozen BK227.out 1; have hfz3_2 := blk_frozen BK227.out 2))
 go_loopg [4, 5] k (fun kq v4 v5 w' => ∃ (x4_1 : Int) (x5_1 : Int), v4 = .int .i64 x4_1 ∧ v5 = .int .i64 x5_1 ∧ Aside0 (impl_dayOf.l0 kq x4_1 x5_1 a0_0 a0_1 a0_2 = some r) ∧ Aside0 (kq ≤ k) ∧ Aside0 (w'.heap[gb227]? = some (.cells #[.int .i64 a0_0, .int .i64 a0_1, .int .i64 a0_2] 147 (0, 0))) ∧ Aside0 (Below w.heap.size w w'))
 case atStart => exact ⟨(wrap64 ((wrap64 ((wrap64 ((wrap64 (365 * (wrap64 (a0_0 - 1970)))) + (wrap64 (Int.tdiv (wrap64 ((wrap64 (a0_0 - 1970)) + 1)) 4)))) + a0_2)) - 1)), (1), (by first | rfl | (simp; done) | (simp [*]; done)), (by first | rfl | (simp; done) | (simp [*]; done)), H', ⟨Nat.le_refl _⟩, ⟨by (with_reducible repeat (first | refine blk_drewN ?_ _ | refine blk_drew ?_ | refine blk_alloc ?_ _)); exact BK227.out⟩, ⟨bb_⟩⟩
 case round =>
  clear H'
  try clear c1
  try clear p2
  try clear hcz3_0
  try clear hcz3_1
  try clear hcz3_2
  try clear hfz3_0
  try clear hfz3_1
  try clear hfz3_2
  obtain ⟨x4_1, x5_1, rfl, rfl, HA, HK1, BK227, HB⟩ := hrel
  cases gk with
  | zero => exact absurd HA.out (by simp [impl_dayOf.l0])
  | succ k1 =>
   have H := HA.out
   clear HA
   simp only [impl_dayOf.l0] at H
   by_cases c4 : x5_1 < a0_1
   · rw [if_pos c4] at H
     have c4b0 : decide (x5_1 < a0_1) = true := decide_eq_true c4
     clear c4
     replace H := Option.bind_eq_some_iff.mp H
     obtain ⟨t228, A50, H⟩ := H
     replace H : (impl_dayOf.l0 k1 (wrap64 (x4_1 + t228)) (wrap64 (x5_1 + 1)) a0_0 a0_1 a0_2) = some r := H
     have A5 := Aside0.mk A50
     clear A50
     have H' := Aside0.mk H
     clear H
     have hcz6_0 := bk BK227 0
     have hcz6_1 := bk BK227 1
     have hcz6_2 := bk BK227 2
     have hfz6_0 := blk_frozen BK227.out 0
     have hfz6_1 := blk_frozen BK227.out 1
     have hfz6_2 := blk_frozen BK227.out 2
     go_wp2_with (first | ((with_reducible refine gate_callee (f := 136) rfl ?_); refine gl_ 29 Try.func136 #[.int .i64 a0_0, .int .i64 x5_1] ?_; (with_reducible refine (impl_daysIn.calls k1 a0_0 x5_1 t228 _ A5.out).mono ?_); rintro e w' ⟨rfl, ⟨nd, rfl⟩⟩; refine ⟨_, rfl, ?_⟩))
     go_roundg k1
     case measure => have := HK1.out; omega
     case rel => exact ⟨(wrap64 (x4_1 + t228)), (wrap64 (x5_1 + 1)), (by first | rfl | (simp; done) | (simp [*]; done)), (by first | rfl | (simp; done) | (simp [*]; done)), H', ⟨by have := HK1.out; omega⟩, ⟨by (with_reducible repeat (first | refine blk_drewN ?_ _ | refine blk_drew ?_ | refine blk_alloc ?_ _)); exact BK227.out⟩, ⟨bb_⟩⟩
   · rw [if_neg c4] at H
     have c4b0 : decide (x5_1 < a0_1) = false := decide_eq_false c4
     clear c4
     obtain rfl := Option.some.inj H
     have hcz7_0 := bk BK227 0
     have hcz7_1 := bk BK227 1
     have hcz7_2 := bk BK227 2
     have hfz7_0 := blk_frozen BK227.out 0
     have hfz7_1 := blk_frozen BK227.out 1
     have hfz7_2 := blk_frozen BK227.out 2
     go_wp2
     go_ret
     exact ⟨by first | rfl | (simp [errW_none, errW_some] <;> rfl) | (simp [*, errW_none, errW_some] <;> rfl), bb_⟩

/-! ### impl_isDay: function 118 -/
def impl_isDay.f (k : Nat) (a0 : Int) : Option (Bool) := (impl_dayOf.f k 2069 12 31).bind fun t229 => ((impl_in.f a0 0 t229).bind fun t230 => (some t230))
theorem impl_isDay.mono : ∀ a0 k, LeO (impl_isDay.f k a0) (impl_isDay.f (k + 1) a0) := by
 intro a0 k
 unfold impl_isDay.f
 repeat' first
  | (with_reducible exact impl_dayOf.mono _ _ _ _)
  | (with_reducible exact LeO.refl _)
  | (with_reducible exact LeO.none _)
  | (with_reducible refine LeO.ite ?_ ?_)
  | (with_reducible refine LeO.bind ?_ (fun _ => ?_))
  | exact impl_dayOf.mono _ _ _ _
  | exact LeO.none _
  | refine LeO.ite ?_ ?_
  | refine LeO.bind ?_ (fun _ => ?_)
set_option maxHeartbeats 8000000 in
set_option maxRecDepth 100000 in
theorem impl_isDay.calls (k : Nat) (a0 : Int) (r : Bool) (w : World) (h : impl_isDay.f k a0 = some r) :
 Calls Try.prog 118 #[.int .i64 a0] w fun e w' => e = .returned (.bool r) ∧ Below w.heap.size w w' := by
 have hu147 := Try.underlying147
 have HB := Aside0.mk (Below.refl w.heap.size w)
 have H : ((impl_dayOf.f k 2069 12 31).bind fun t229 => ((impl_in.f a0 0 t229).bind fun t230 => (some t230))) = some r := h
 clear h
 replace H := Option.bind_eq_some_iff.mp H
 obtain ⟨t229, A20, H⟩ := H
 replace H : ((impl_in.f a0 0 t229).bind fun t230 => (some t230)) = some r := H
 have A2 := Aside0.mk A20
 clear A20
 replace H := Option.bind_eq_some_iff.mp H
 obtain ⟨t230, A30, H⟩ := H
 replace H : (some t230) = some r := H
 have A3 := Aside0.mk A30
 clear A30
 obtain rfl := Option.some.inj H
 go_enter Try.func118, Try.ntmps118
 go_wp2_with (first | ((with_reducible refine gate_callee (f := 132) rfl ?_); refine gl_ 5 Try.func132 #[.agg #[.int .i64 2069, .int .i64 12, .int .i64 31]] ?_; (with_reducible refine (impl_dayOf.calls k 2069 12 31 t229 _ A2.out).mono ?_); rintro e w4 ⟨rfl, hb⟩; refine ⟨_, rfl, ?_⟩; have n0_ := Aside0.mk (bs_ hb); clear HB; revert n0_; intro HB; (try clear hb); (try clear hb2); (try clear hk); (try clear hi)) | ((with_reducible refine gate_callee (f := 112) rfl ?_); refine gl_ 6 Try.func112 #[.int .i64 a0, .int .i64 0, .int .i64 t229] ?_; (with_reducible refine (impl_in.calls a0 0 t229 t230 _ A3.out).mono ?_); rintro e w' ⟨rfl, ⟨nd, rfl⟩⟩; refine ⟨_, rfl, ?_⟩))
 go_ret
 exact ⟨by first | rfl | (simp [errW_none, errW_some] <;> rfl) | (simp [*, errW_none, errW_some] <;> rfl), bb_⟩

/-! ### impl_isEventKind: function 119 -/
def impl_isEventKind.f (a0 : Int) : Option (Bool) := (impl_in.f a0 0 6).bind fun t231 => (some t231)
set_option maxHeartbeats 8000000 in
set_option maxRecDepth 100000 in
theorem impl_isEventKind.calls (a0 : Int) (r : Bool) (w : World) (h : impl_isEventKind.f a0 = some r) :
 Calls Try.prog 119 #[.int .i64 a0] w fun e w' => e = .returned (.bool r) ∧ Drawn0 w w' := by
 have H : ((impl_in.f a0 0 6).bind fun t231 => (some t231)) = some r := h
 clear h
 replace H := Option.bind_eq_some_iff.mp H
 obtain ⟨t231, A20, H⟩ := H
 replace H : (some t231) = some r := H
 have A2 := Aside0.mk A20
 clear A20
 obtain rfl := Option.some.inj H
 go_enter Try.func119, Try.ntmps119
 go_wp2_with (first | ((with_reducible refine gate_callee (f := 112) rfl ?_); refine gl_ 4 Try.func112 #[.int .i64 a0, .int .i64 0, .int .i64 6] ?_; (with_reducible refine (impl_in.calls a0 0 6 t231 _ A2.out).mono ?_); rintro e w' ⟨rfl, ⟨nd, rfl⟩⟩; refine ⟨_, rfl, ?_⟩))
 go_ret
 exact ⟨by first | rfl | (simp; done) | (simp [*]; done), by repeat (first | exact Drawn0.refl _ | apply Drawn0.step)⟩

end Go.Proofs.Ytmfbkbbgokjhnaa.F
namespace Go.Proofs.Ytmfbkbbgokjhnaa.F
open Go.RowKit Go.Proofs.YtmfbkbbgokjhnaaW.PrintWords Go.Proofs.YtmfbkbbgokjhnaaW.PrintLast Go.Proofs.YtmfbkbbgokjhnaaW.PrintMore
attribute [local go_sem] max2_int min2_int max_two min_two max_three min_three max_four min_four   -- for this text's walks alone
set_option linter.unusedVariables false
set_option linter.unusedSimpArgs false

/-! ### impl_IsEvent: function 98 -/
def impl_IsEvent.f (k : Nat) (a0_0 : Int) (a0_1 : Int) (a0_2 : ByteArray) (a0_3 : Int) (a0_4 : Bool) (a0_5 : Bool) (a0_6 : Bool) : Option (Bool) := (impl_isDay.f k a0_0).bind fun t233 => (if t233 = true then ((impl_isEventKind.f a0_1).bind fun t234 => (if t234 = true then ((impl_IsPartyCode.f k a0_2).bind fun t235 => (if t235 = true then ((impl_IsAmount.f a0_3).bind fun t236 => (some t236)) else (some false))) else (some false))) else (some false))
theorem impl_IsEvent.mono : ∀ a0 a1 a2 a3 a4 a5 a6 k, LeO (impl_IsEvent.f k a0 a1 a2 a3 a4 a5 a6) (impl_IsEvent.f (k + 1) a0 a1 a2 a3 a4 a5 a6) := by
 intro a0 a1 a2 a3 a4 a5 a6 k
 unfold impl_IsEvent.f
 repeat' first
  | (with_reducible exact impl_IsPartyCode.mono _ _)
  | (with_reducible exact impl_isDay.mono _ _)
  | (with_reducible exact LeO.refl _)
  | (with_reducible exact LeO.none _)
  | (with_reducible refine LeO.ite ?_ ?_)
  | (with_reducible refine LeO.bind ?_ (fun _ => ?_))
  | exact impl_IsPartyCode.mono _ _
  | exact impl_isDay.mono _ _
  | exact LeO.none _
  | refine LeO.ite ?_ ?_
  | refine LeO.bind ?_ (fun _ => ?_)
set_option maxHeartbeats 8000000 in
set_option maxRecDepth 100000 in
theorem impl_IsEvent.calls (k : Nat) (a0_0 : Int) (a0_1 : Int) (a0_2 : ByteArray) (a0_3 : Int) (a0_4 : Bool) (a0_5 : Bool) (a0_6 : Bool) (r : Bool) (w : World) (h : impl_IsEvent.f k a0_0 a0_1 a0_2 a0_3 a0_4 a0_5 a0_6 = some r) :
 Calls Try.prog 98 #[.agg #[.int .i64 a0_0, .int .i64 a0_1, .string a0_2, .int .i64 a0_3, .bool a0_4, .bool a0_5, .bool a0_6]] w fun e w' => e = .returned (.bool r) ∧ Below w.heap.size w w' := by
 have hu43 := Try.underlying43
 have HB := Aside0.mk (Below.refl w.heap.size w)
 have H : ((impl_isDay.f k a0_0).bind fun t233 => (if t233 = true then ((impl_isEventKind.f a0_1).bind fun t234 => (if t234 = true then ((impl_IsPartyCode.f k a0_2).bind fun t235 => (if t235 = true then ((impl_IsAmount.f a0_3).bind fun t236 => (some t236)) else (some false))) else (some false))) else (some false))) = some r := h
 clear h
 replace H := Option.bind_eq_some_iff.mp H
 obtain ⟨t233, A20, H⟩ := H
 replace H : (if t233 = true then ((impl_isEventKind.f a0_1).bind fun t234 => (if t234 = true then ((impl_IsPartyCode.f k a0_2).bind fun t235 => (if t235 = true then ((impl_IsAmount.f a0_3).bind fun t236 => (some t236)) else (some false))) else (some false))) else (some false)) = some r := H
 have A2 := Aside0.mk A20
 clear A20
 by_cases c3 : t233 = true
 subst c3
 have H1 : ((impl_isEventKind.f a0_1).bind fun t234 => (if t234 = true then ((impl_IsPartyCode.f k a0_2).bind fun t235 => (if t235 = true then ((impl_IsAmount.f a0_3).bind fun t236 => (some t236)) else (some false))) else (some false))) = some r := by rw [if_pos rfl] at H; exact H
 clear H
 have H := H1
 clear H1
 replace H := Option.bind_eq_some_iff.mp H
 obtain ⟨t234, A40, H⟩ := H
 replace H : (if t234 = true then ((impl_IsPartyCode.f k a0_2).bind fun t235 => (if t235 = true then ((impl_IsAmount.f a0_3).bind fun t236 => (some t236)) else (some false))) else (some false)) = some r := H
 have A4 := Aside0.mk A40
 clear A40
 by_cases c5 : t234 = true
 subst c5
 have H1 : ((impl_IsPartyCode.f k a0_2).bind fun t235 => (if t235 = true then ((impl_IsAmount.f a0_3).bind fun t236 => (some t236)) else (some false))) = some r := by rw [if_pos rfl] at H; exact H
 clear H
 have H := H1
 clear H1
 replace H := Option.bind_eq_some_iff.mp H
 obtain ⟨t235, A60, H⟩ := H
 replace H : (if t235 = true then ((impl_IsAmount.f a0_3).bind fun t236 => (some t236)) else (some false)) = some r := H
 have A6 := Aside0.mk A60
 clear A60
 by_cases c7 : t235 = true
 subst c7
 have H1 : ((impl_IsAmount.f a0_3).bind fun t236 => (some t236)) = some r := by rw [if_pos rfl] at H; exact H
 clear H
 have H := H1
 clear H1
 replace H := Option.bind_eq_some_iff.mp H
 obtain ⟨t236, A80, H⟩ := H
 replace H : (some t236) = some r := H
 have A8 := Aside0.mk A80
 clear A80
 obtain rfl := Option.some.inj H
 rotate_left
 replace c7 := Bool.eq_false_iff.mpr c7
 subst c7
 have H1 : (some false) = some r := by rw [if_neg (show ¬ (false = true) by decide)] at H; exact H
 clear H
 have H := H1
 clear H1
 obtain rfl := Option.some.inj H
 rotate_left
 replace c5 := Bool.eq_false_iff.mpr c5
 subst c5
 have H1 : (some false) = some r := by rw [if_neg (show ¬ (false = true) by decide)] at H; exact H
 clear H
 have H := H1
 clear H1
 obtain rfl := Option.some.inj H
 rotate_left
 replace c3 := Bool.eq_false_iff.mpr c3
 subst c3
 have H1 : (some false) = some r := by rw [if_neg (show ¬ (false = true) by decide)] at H; exact H
 clear H
 have H := H1
 clear H1
 obtain rfl := Option.some.inj H
 rotate_left
 all_goals
  go_enter Try.func98, Try.ntmps98
  go_wp2_with (first | ((with_reducible refine gate_dst (N := 1) rfl ?_); refine bx_ 1 #[.int .i64 a0_0, .int .i64 a0_1, .string a0_2, .int .i64 a0_3, .bool a0_4, .bool a0_5, .bool a0_6] 43 ?_; intro gb232 hg w9 hbox hb; have n0_ := Aside0.mk (bs_ hb); have n1_ := Aside0.mk (hbox); have n2_ := Aside0.mk ((by rw [hg]; exact (bz_) : w.heap.size ≤ gb232)); have n3_ := Aside0.mk ((by rw [hg]; exact (bz_) : w.heap.size ≤ gb232)); clear HB; revert n0_ n1_ n2_ n3_; intro HB BK232 GW232 GE232; clear hb hbox hg; have hcz10_0 := bk BK232 0; have hcz10_1 := bk BK232 1; have hcz10_2 := bk BK232 2; have hcz10_3 := bk BK232 3; have hcz10_4 := bk BK232 4; have hcz10_5 := bk BK232 5; have hcz10_6 := bk BK232 6; have hfz10_0 := blk_frozen BK232.out 0; have hfz10_1 := blk_frozen BK232.out 1; have hfz10_2 := blk_frozen BK232.out 2; have hfz10_3 := blk_frozen BK232.out 3; have hfz10_4 := blk_frozen BK232.out 4; have hfz10_5 := blk_frozen BK232.out 5; have hfz10_6 := blk_frozen BK232.out 6) | ((with_reducible refine gate_callee (f := 118) rfl ?_); refine gl_ 5 Try.func118 #[.int .i64 a0_0] ?_; (with_reducible refine (impl_isDay.calls k a0_0 _ _ A2.out).mono ?_); rintro e w11 ⟨rfl, hb⟩; refine ⟨_, rfl, ?_⟩; have n0_ := Aside0.mk (bkb BK232 hb); have n1_ := Aside0.mk (bs_ hb); clear BK232 HB; revert n0_ n1_; intro BK232 HB; (try clear hb); (try clear hb2); (try clear hk); (try clear hi); have hcz12_0 := bk BK232 0; have hcz12_1 := bk BK232 1; have hcz12_2 := bk BK232 2; have hcz12_3 := bk BK232 3; have hcz12_4 := bk BK232 4; have hcz12_5 := bk BK232 5; have hcz12_6 := bk BK232 6; have hfz12_0 := blk_frozen BK232.out 0; have hfz12_1 := blk_frozen BK232.out 1; have hfz12_2 := blk_frozen BK232.out 2; have hfz12_3 := blk_frozen BK232.out 3; have hfz12_4 := blk_frozen BK232.out 4; have hfz12_5 := blk_frozen BK232.out 5; have hfz12_6 := blk_frozen BK232.out 6) | (go_at_call 119; (with_reducible refine (impl_isEventKind.calls a0_1 _ _ A4.out).mono ?_); rintro e w' ⟨rfl, ⟨nd, rfl⟩⟩) | (go_at_call 113; (with_reducible refine (impl_IsPartyCode.calls k a0_2 _ _ A6.out).mono ?_); rintro e w' ⟨rfl, ⟨nd, rfl⟩⟩) | (go_at_call 84; (with_reducible refine (impl_IsAmount.calls a0_3 t236 _ A8.out).mono ?_); rintro e w' ⟨rfl, ⟨nd, rfl⟩⟩))
  go_ret
  exact ⟨by first | rfl | (simp [errW_none, errW_some] <;> rfl) | (simp [*, errW_none, errW_some] <;> rfl), bb_⟩

end Go.Proofs.Ytmfbkbbgokjhnaa.F
