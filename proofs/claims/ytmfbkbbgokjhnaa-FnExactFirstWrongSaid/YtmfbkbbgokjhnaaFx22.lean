-- Written by this session's program (wip/bin/hp.py) over the kit's print: a function's Lean form, and a proof that the call does what it says.
import Derived.Test.YtmfbkbbgokjhnaaFx0
import Derived.Test.YtmfbkbbgokjhnaaSq
import Derived.Test.YtmfbkbbgokjhnaaFx20
namespace Go.Proofs.Ytmfbkbbgokjhnaa.F
open Go.RowKit Go.Proofs.YtmfbkbbgokjhnaaW.PrintWords Go.Proofs.YtmfbkbbgokjhnaaW.PrintLast Go.Proofs.YtmfbkbbgokjhnaaW.PrintMore
attribute [local go_sem] max2_int min2_int max_two min_two max_three min_three max_four min_four   -- for this text's walks alone
set_option linter.unusedVariables false
set_option linter.unusedSimpArgs false

/-! ### impl_IsLog: function 67 -/
def impl_IsLog.l0 : Nat → List (S43) → List (S43) → Int → Int → Option (Bool)
 | 0, _, _, _, _ => none
 | k + 1, x0, x5, x6, x7 => if x7 < x6 then (if 0 ≤ x7 then (if x7 < (x5.length : Int) then ((impl_IsEvent.f k ((rd_T43 x5 x7).f0) ((rd_T43 x5 x7).f1) ((rd_T43 x5 x7).f2) ((rd_T43 x5 x7).f3) ((rd_T43 x5 x7).f4) ((rd_T43 x5 x7).f5) ((rd_T43 x5 x7).f6)).bind fun t239 => (if t239 = true then (if x7 > 0 then (if 0 ≤ (wrap64 (x7 - 1)) then (if (wrap64 (x7 - 1)) < (x0.length : Int) then (if ((rd_T43 x0 (wrap64 (x7 - 1))).f0) > ((rd_T43 x5 x7).f0) then (some false) else (impl_IsLog.l0 k x0 x5 x6 (wrap64 (x7 + 1)))) else (none)) else (none)) else (impl_IsLog.l0 k x0 x5 x6 (wrap64 (x7 + 1)))) else (some false))) else (none)) else (none)) else (some (decide ((x0.length : Int) ≤ 15)))
def impl_IsLog.f (k : Nat) (l0 : List (S43)) : Option (Bool) := impl_IsLog.l0 k l0 l0 (l0.length : Int) 0
theorem impl_IsLog.mono_l : ∀ k, (∀ y0 y1 y2 y3, LeO (impl_IsLog.l0 k y0 y1 y2 y3) (impl_IsLog.l0 (k + 1) y0 y1 y2 y3))
 | 0 => fun _ _ _ _ r h => by simp [impl_IsLog.l0] at h
 | k + 1 => by
  have ih0 := impl_IsLog.mono_l k
  · intro y0 y1 y2 y3
    unfold impl_IsLog.l0
    repeat' first
    | (with_reducible exact ih0 _ _ _ _)
    | (with_reducible exact impl_IsEvent.mono _ _ _ _ _ _ _ _)
    | (with_reducible exact LeO.refl _)
    | (with_reducible exact LeO.none _)
    | (with_reducible refine LeO.ite ?_ ?_)
    | (with_reducible refine LeO.bind ?_ (fun _ => ?_))
    | exact ih0 _ _ _ _
    | exact impl_IsEvent.mono _ _ _ _ _ _ _ _
    | exact LeO.none _
    | refine LeO.ite ?_ ?_
    | refine LeO.bind ?_ (fun _ => ?_)
theorem impl_IsLog.mono : ∀ a0 k, LeO (impl_IsLog.f k a0) (impl_IsLog.f (k + 1) a0) := by
 intro a0 k
 have ih0 := impl_IsLog.mono_l k
 unfold impl_IsLog.f
 repeat' first
  | (with_reducible exact ih0 _ _ _ _)
  | (with_reducible exact impl_IsEvent.mono _ _ _ _ _ _ _ _)
  | (with_reducible exact LeO.refl _)
  | (with_reducible exact LeO.none _)
  | (with_reducible refine LeO.ite ?_ ?_)
  | (with_reducible refine LeO.bind ?_ (fun _ => ?_))
  | exact ih0 _ _ _ _
  | exact impl_IsEvent.mono _ _ _ _ _ _ _ _
  | exact LeO.none _
  | refine LeO.ite ?_ ?_
  | refine LeO.bind ?_ (fun _ => ?_)
def impl_IsLog.T4 : Bool × List (List Nat × List Nat) := (true, [([], []), ([0], [0]), ([1], [1]), ([2, 1], [2]), ([3], [3]), ([4, 3], [3, 4]), ([5, 3, 3], [3, 5]), ([6], [6]), ([6], [6]), ([8, 6], [6, 8]), ([7, 9, 6], [6, 7, 9]), ([10, 6], [6, 10]), ([11, 6], [6, 11]), ([6], [6]), ([13, 6], [6, 13]), ([12, 14, 6], [6, 12, 14]), ([6, 15, 3], [3, 6, 15]), ([3, 16], [3, 16])])
def impl_IsLog.B4 : List Nat := [0, 1, 3, 7, 15, 31, 63, 127, 127, 383, 1023, 2047, 4095, 127, 8319, 32767, 65535, 131071]
theorem impl_IsLog.tab4 : rtab .any (opsOf Try.f67 4) = impl_IsLog.T4 := by kernel_rfl
theorem impl_IsLog.bits4 : waitsOk impl_IsLog.T4.2 impl_IsLog.B4 = true := by kernel_rfl
set_option maxHeartbeats 8000000 in
set_option maxRecDepth 100000 in
theorem impl_IsLog.calls (k : Nat) (A0 : Option Addr) (c0 : Nat) (l0 : List (S43)) (r : Bool) (w : World) (hr0 : Kd.C k43 w A0 l0.length l0) (hc0 : l0.length ≤ c0) (h : impl_IsLog.f k l0 = some r) :
 Calls Try.prog 67 #[.slice A0 l0.length c0] w fun e w' => e = .returned (.bool r) ∧ Below w.heap.size w w' := by
 have hu43 := Try.underlying43
 have HR0 := Aside0.mk hr0
 have HC0 := Aside0.mk hc0
 clear hr0 hc0
 have HB := Aside0.mk (Below.refl w.heap.size w)
 have H : (impl_IsLog.l0 k l0 l0 (l0.length : Int) 0) = some r := h
 clear h
 have H' := Aside0.mk H
 clear H
 go_enter Try.func67, Try.ntmps67
 go_wp2
 go_loopg [7] k (fun kq v7 w' => ∃ (x7_1 : Int), v7 = .int .i64 x7_1 ∧ Aside0 (impl_IsLog.l0 kq l0 l0 (l0.length : Int) x7_1 = some r) ∧ Aside0 (kq ≤ k) ∧ Aside0 (Below w.heap.size w w'))
 case atStart => exact ⟨(0), (by first | rfl | (simp; done) | (simp [*]; done)), H', ⟨Nat.le_refl _⟩, ⟨bb_⟩⟩
 case round =>
  clear H'
  obtain ⟨x7_1, rfl, HA, HK1, HB⟩ := hrel
  cases gk with
  | zero => exact absurd HA.out (by simp [impl_IsLog.l0])
  | succ k1 =>
   have H := HA.out
   clear HA
   simp only [impl_IsLog.l0] at H
   by_cases c2 : x7_1 < (l0.length : Int)
   · rw [if_pos c2] at H
     have c2b0 : decide (x7_1 < (l0.length : Int)) = true := decide_eq_true c2
     clear c2
     by_cases c3 : 0 ≤ x7_1
     · rw [if_pos c3] at H
       have c3b0 : decide (0 ≤ x7_1) = true := decide_eq_true c3
       clear c3
       by_cases c4 : x7_1 < (l0.length : Int)
       · rw [if_pos c4] at H
         have c4b0 : decide (x7_1 < (l0.length : Int)) = true := decide_eq_true c4
         clear c4
         replace H := Option.bind_eq_some_iff.mp H
         obtain ⟨t239, A50, H⟩ := H
         replace H : (if t239 = true then (if x7_1 > 0 then (if 0 ≤ (wrap64 (x7_1 - 1)) then (if (wrap64 (x7_1 - 1)) < (l0.length : Int) then (if ((rd_T43 l0 (wrap64 (x7_1 - 1))).f0) > ((rd_T43 l0 x7_1).f0) then (some false) else (impl_IsLog.l0 k1 l0 l0 (l0.length : Int) (wrap64 (x7_1 + 1)))) else (none)) else (none)) else (impl_IsLog.l0 k1 l0 l0 (l0.length : Int) (wrap64 (x7_1 + 1)))) else (some false)) = some r := H
         have A5 := Aside0.mk A50
         clear A50
         by_cases c6 : t239 = true
         · subst c6
           have H1 : (if x7_1 > 0 then (if 0 ≤ (wrap64 (x7_1 - 1)) then (if (wrap64 (x7_1 - 1)) < (l0.length : Int) then (if ((rd_T43 l0 (wrap64 (x7_1 - 1))).f0) > ((rd_T43 l0 x7_1).f0) then (some false) else (impl_IsLog.l0 k1 l0 l0 (l0.length : Int) (wrap64 (x7_1 + 1)))) else (none)) else (none)) else (impl_IsLog.l0 k1 l0 l0 (l0.length : Int) (wrap64 (x7_1 + 1)))) = some r := by rw [if_pos rfl] at H; exact H
           clear H
           have H := H1
           clear H1
           by_cases c7 : x7_1 > 0
           · rw [if_pos c7] at H
             have c7b0 : decide (0 < x7_1) = true := decide_eq_true c7
             clear c7
             obtain ⟨ji8, hji8⟩ : ∃ j_ : Int, (wrap64 (x7_1 - 1)) = j_ := ⟨_, rfl⟩
             replace H : (if 0 ≤ (ji8) then (if (ji8) < (l0.length : Int) then (if ((rd_T43 l0 (ji8)).f0) > ((rd_T43 l0 x7_1).f0) then (some false) else (impl_IsLog.l0 k1 l0 l0 (l0.length : Int) (wrap64 (x7_1 + 1)))) else (none)) else (none)) = some r := by first | (rw [hji8] at H; exact H) | (simp only [hji8] at H ⊢; exact H)
             (try rw [hji8] at A5)
             have hji8w : (IntKind.i64.wrap (x7_1 - 1)) = ji8 := (i64_w _).trans hji8
             by_cases c9 : 0 ≤ (ji8)
             · rw [if_pos c9] at H
               have c9b0 : decide (0 ≤ (ji8)) = true := decide_eq_true c9
               clear c9
               by_cases c10 : (ji8) < (l0.length : Int)
               · rw [if_pos c10] at H
                 have c10b0 : decide ((ji8) < (l0.length : Int)) = true := decide_eq_true c10
                 clear c10
                 by_cases c11 : ((rd_T43 l0 (ji8)).f0) > ((rd_T43 l0 x7_1).f0)
                 · rw [if_pos c11] at H
                   have c11b0 : decide (((rd_T43 l0 x7_1).f0) < ((rd_T43 l0 (ji8)).f0)) = true := decide_eq_true c11
                   clear c11
                   obtain rfl := Option.some.inj H
                   have p237 : 0 ≤ (x7_1 : Int) := od_
                   have q237 : x7_1 < (l0.length : Int) := od_
                   obtain ⟨ad237, e237, hx237_0, hx237_1, hx237_2, hx237_3, hx237_4, hx237_5, hx237_6⟩ := at_T43 HR0.out x7_1 p237 q237
                   cases e237
                   replace hx237_0 := cel HB hx237_0
                   replace hx237_1 := cel HB hx237_1
                   replace hx237_2 := cel HB hx237_2
                   replace hx237_3 := cel HB hx237_3
                   replace hx237_4 := cel HB hx237_4
                   replace hx237_5 := cel HB hx237_5
                   replace hx237_6 := cel HB hx237_6
                   replace p237 := eq_true p237
                   replace q237 := eq_true q237
                   try go_wp2_with (first | ((with_reducible refine gate_dst (N := 4) rfl ?_); refine bx_ 4 #[.int .i64 0, .int .i64 0, .string (⟨#[]⟩ : ByteArray), .int .i64 0, .bool false, .bool false, .bool false] 43 ?_; intro gb238 hg w12 hbox hb; have n0_ := Aside0.mk (bs_ hb); have n1_ := Aside0.mk (hbox); have n2_ := Aside0.mk ((by rw [hg]; exact (bz_) : w.heap.size ≤ gb238)); have n3_ := Aside0.mk ((by rw [hg]; exact (bz_) : w.heap.size ≤ gb238)); clear HB; revert n0_ n1_ n2_ n3_; intro HB BK238 GW238 GE238; clear hb hbox hg; have hcz13_0 := bk BK238 0; have hcz13_1 := bk BK238 1; have hcz13_2 := bk BK238 2; have hcz13_3 := bk BK238 3; have hcz13_4 := bk BK238 4; have hcz13_5 := bk BK238 5; have hcz13_6 := bk BK238 6; have hfz13_0 := blk_frozen BK238.out 0; have hfz13_1 := blk_frozen BK238.out 1; have hfz13_2 := blk_frozen BK238.out 2; have hfz13_3 := blk_frozen BK238.out 3; have hfz13_4 := blk_frozen BK238.out 4; have hfz13_5 := blk_frozen BK238.out 5; have hfz13_6 := blk_frozen BK238.out 6))
                   have n0_ : Aside0 ((((((((w12.setCell ⟨gb238, 0, none⟩ (.int .i64 ((rd_T43 l0 x7_1).f0))).setCell ⟨gb238, 1, none⟩ (.int .i64 ((rd_T43 l0 x7_1).f1))).setCell ⟨gb238, 2, none⟩ (.string ((rd_T43 l0 x7_1).f2))).setCell ⟨gb238, 3, none⟩ (.int .i64 ((rd_T43 l0 x7_1).f3))).setCell ⟨gb238, 4, none⟩ (.bool ((rd_T43 l0 x7_1).f4))).setCell ⟨gb238, 5, none⟩ (.bool ((rd_T43 l0 x7_1).f5))).setCell ⟨gb238, 6, none⟩ (.bool ((rd_T43 l0 x7_1).f6))).heap[gb238]? = some (.cells #[.int .i64 ((rd_T43 l0 x7_1).f0), .int .i64 ((rd_T43 l0 x7_1).f1), .string ((rd_T43 l0 x7_1).f2), .int .i64 ((rd_T43 l0 x7_1).f3), .bool ((rd_T43 l0 x7_1).f4), .bool ((rd_T43 l0 x7_1).f5), .bool ((rd_T43 l0 x7_1).f6)] 43 (0, 0))) := ⟨by (with_reducible repeat (first | refine blk_drewN ?_ _ | refine blk_drew ?_ | refine blk_alloc ?_ _)); refine blk_put (cs := #[.int .i64 ((rd_T43 l0 x7_1).f0), .int .i64 ((rd_T43 l0 x7_1).f1), .string ((rd_T43 l0 x7_1).f2), .int .i64 ((rd_T43 l0 x7_1).f3), .bool ((rd_T43 l0 x7_1).f4), .bool ((rd_T43 l0 x7_1).f5), .bool false]) ?_ 6 _ rfl; (with_reducible repeat (first | refine blk_drewN ?_ _ | refine blk_drew ?_ | refine blk_alloc ?_ _)); refine blk_put (cs := #[.int .i64 ((rd_T43 l0 x7_1).f0), .int .i64 ((rd_T43 l0 x7_1).f1), .string ((rd_T43 l0 x7_1).f2), .int .i64 ((rd_T43 l0 x7_1).f3), .bool ((rd_T43 l0 x7_1).f4), .bool false, .bool false]) ?_ 5 _ rfl; (with_reducible repeat (first | refine blk_drewN ?_ _ | refine blk_drew ?_ | refine blk_alloc ?_ _)); refine blk_put (cs := #[.int .i64 ((rd_T43 l0 x7_1).f0), .int .i64 ((rd_T43 l0 x7_1).f1), .string ((rd_T43 l0 x7_1).f2), .int .i64 ((rd_T43 l0 x7_1).f3), .bool false, .bool false, .bool false]) ?_ 4 _ rfl; (with_reducible repeat (first | refine blk_drewN ?_ _ | refine blk_drew ?_ | refine blk_alloc ?_ _)); refine blk_put (cs := #[.int .i64 ((rd_T43 l0 x7_1).f0), .int .i64 ((rd_T43 l0 x7_1).f1), .string ((rd_T43 l0 x7_1).f2), .int .i64 0, .bool false, .bool false, .bool false]) ?_ 3 _ rfl; (with_reducible repeat (first | refine blk_drewN ?_ _ | refine blk_drew ?_ | refine blk_alloc ?_ _)); refine blk_put (cs := #[.int .i64 ((rd_T43 l0 x7_1).f0), .int .i64 ((rd_T43 l0 x7_1).f1), .string (⟨#[]⟩ : ByteArray), .int .i64 0, .bool false, .bool false, .bool false]) ?_ 2 _ rfl; (with_reducible repeat (first | refine blk_drewN ?_ _ | refine blk_drew ?_ | refine blk_alloc ?_ _)); refine blk_put (cs := #[.int .i64 ((rd_T43 l0 x7_1).f0), .int .i64 0, .string (⟨#[]⟩ : ByteArray), .int .i64 0, .bool false, .bool false, .bool false]) ?_ 1 _ rfl; (with_reducible repeat (first | refine blk_drewN ?_ _ | refine blk_drew ?_ | refine blk_alloc ?_ _)); refine blk_put (cs := #[.int .i64 0, .int .i64 0, .string (⟨#[]⟩ : ByteArray), .int .i64 0, .bool false, .bool false, .bool false]) ?_ 0 _ rfl; (with_reducible repeat (first | refine blk_drewN ?_ _ | refine blk_drew ?_ | refine blk_alloc ?_ _)); exact BK238.out⟩
                   have n1_ : Aside0 (Below w.heap.size w (((((((w12.setCell ⟨gb238, 0, none⟩ (.int .i64 ((rd_T43 l0 x7_1).f0))).setCell ⟨gb238, 1, none⟩ (.int .i64 ((rd_T43 l0 x7_1).f1))).setCell ⟨gb238, 2, none⟩ (.string ((rd_T43 l0 x7_1).f2))).setCell ⟨gb238, 3, none⟩ (.int .i64 ((rd_T43 l0 x7_1).f3))).setCell ⟨gb238, 4, none⟩ (.bool ((rd_T43 l0 x7_1).f4))).setCell ⟨gb238, 5, none⟩ (.bool ((rd_T43 l0 x7_1).f5))).setCell ⟨gb238, 6, none⟩ (.bool ((rd_T43 l0 x7_1).f6)))) := ⟨bb_⟩
                   (try clear BK238)
                   (try clear HB)
                   generalize (((((((w12.setCell ⟨gb238, 0, none⟩ (.int .i64 ((rd_T43 l0 x7_1).f0))).setCell ⟨gb238, 1, none⟩ (.int .i64 ((rd_T43 l0 x7_1).f1))).setCell ⟨gb238, 2, none⟩ (.string ((rd_T43 l0 x7_1).f2))).setCell ⟨gb238, 3, none⟩ (.int .i64 ((rd_T43 l0 x7_1).f3))).setCell ⟨gb238, 4, none⟩ (.bool ((rd_T43 l0 x7_1).f4))).setCell ⟨gb238, 5, none⟩ (.bool ((rd_T43 l0 x7_1).f5))).setCell ⟨gb238, 6, none⟩ (.bool ((rd_T43 l0 x7_1).f6))) = w14 at n0_ n1_ ⊢
                   have BK238 := n0_
                   have HB := n1_
                   clear n0_ n1_
                   have n0_ := Aside0.mk (blk_drew BK238.out)
                   have n1_ := Aside0.mk (below_drew1 HB.out)
                   clear BK238 HB; revert n0_ n1_; intro BK238 HB
                   have p240 : 0 ≤ ((ji8) : Int) := od_
                   have q240 : (ji8) < (l0.length : Int) := od_
                   obtain ⟨ad240, e240, hx240_0, hx240_1, hx240_2, hx240_3, hx240_4, hx240_5, hx240_6⟩ := at_T43 HR0.out (ji8) p240 q240
                   have hw240_6 := hx240_6
                   have hw240_5 := hx240_5
                   have hw240_4 := hx240_4
                   have hw240_3 := hx240_3
                   have hw240_2 := hx240_2
                   have hw240_1 := hx240_1
                   have hw240_0 := hx240_0
                   obtain rfl : ad237 = ad240 := (by injection e240)
                   replace hx240_0 := cel HB hx240_0
                   replace hx240_1 := cel HB hx240_1
                   replace hx240_2 := cel HB hx240_2
                   replace hx240_3 := cel HB hx240_3
                   replace hx240_4 := cel HB hx240_4
                   replace hx240_5 := cel HB hx240_5
                   replace hx240_6 := cel HB hx240_6
                   replace p240 := eq_true p240
                   replace q240 := eq_true q240
                   refine start_ (n := 18) (S := fun w' => w'.cell? ⟨gb238, 0, none⟩ = some (.int .i64 ((rd_T43 l0 x7_1).f0)) ∧ w'.cell? ⟨gb238, 1, none⟩ = some (.int .i64 ((rd_T43 l0 x7_1).f1)) ∧ w'.cell? ⟨gb238, 2, none⟩ = some (.string ((rd_T43 l0 x7_1).f2)) ∧ w'.cell? ⟨gb238, 3, none⟩ = some (.int .i64 ((rd_T43 l0 x7_1).f3)) ∧ w'.cell? ⟨gb238, 4, none⟩ = some (.bool ((rd_T43 l0 x7_1).f4)) ∧ w'.cell? ⟨gb238, 5, none⟩ = some (.bool ((rd_T43 l0 x7_1).f5)) ∧ w'.cell? ⟨gb238, 6, none⟩ = some (.bool ((rd_T43 l0 x7_1).f6)) ∧ w'.cell? (ad237.add (((ji8)).toNat * 7)) = some (.int .i64 ((rd_T43 l0 (ji8)).f0)) ∧ w'.cell? ⟨(ad237.add (((ji8)).toNat * 7)).block, (ad237.add (((ji8)).toNat * 7)).off + 1, none⟩ = some (.int .i64 ((rd_T43 l0 (ji8)).f1)) ∧ w'.cell? ⟨(ad237.add (((ji8)).toNat * 7)).block, (ad237.add (((ji8)).toNat * 7)).off + 2, none⟩ = some (.string ((rd_T43 l0 (ji8)).f2)) ∧ w'.cell? ⟨(ad237.add (((ji8)).toNat * 7)).block, (ad237.add (((ji8)).toNat * 7)).off + 3, none⟩ = some (.int .i64 ((rd_T43 l0 (ji8)).f3)) ∧ w'.cell? ⟨(ad237.add (((ji8)).toNat * 7)).block, (ad237.add (((ji8)).toNat * 7)).off + 4, none⟩ = some (.bool ((rd_T43 l0 (ji8)).f4)) ∧ w'.cell? ⟨(ad237.add (((ji8)).toNat * 7)).block, (ad237.add (((ji8)).toNat * 7)).off + 5, none⟩ = some (.bool ((rd_T43 l0 (ji8)).f5)) ∧ w'.cell? ⟨(ad237.add (((ji8)).toNat * 7)).block, (ad237.add (((ji8)).toNat * 7)).off + 6, none⟩ = some (.bool ((rd_T43 l0 (ji8)).f6))) (ds := []) (fb 18 0) (by kernel_rfl) rfl rfl ⟨(blk_cell BK238.out 0).trans rfl, (blk_cell BK238.out 1).trans rfl, (blk_cell BK238.out 2).trans rfl, (blk_cell BK238.out 3).trans rfl, (blk_cell BK238.out 4).trans rfl, (blk_cell BK238.out 5).trans rfl, (blk_cell BK238.out 6).trans rfl, ((HB.out.cell (World.block_lt_of_cell? w _ hw240_0)).trans hw240_0), ((HB.out.cell (World.block_lt_of_cell? w _ hw240_1)).trans hw240_1), ((HB.out.cell (World.block_lt_of_cell? w _ hw240_2)).trans hw240_2), ((HB.out.cell (World.block_lt_of_cell? w _ hw240_3)).trans hw240_3), ((HB.out.cell (World.block_lt_of_cell? w _ hw240_4)).trans hw240_4), ((HB.out.cell (World.block_lt_of_cell? w _ hw240_5)).trans hw240_5), ((HB.out.cell (World.block_lt_of_cell? w _ hw240_6)).trans hw240_6)⟩ (fun hHeld => ?_); refine with_tabW impl_IsLog.tab4 impl_IsLog.bits4 (fun HT_ HW_ => ?_)
                   generalize w14.drew = w15 at BK238 HB hx240_0 hx240_1 hx240_2 hx240_3 hx240_4 hx240_5 hx240_6 hHeld ⊢
                   refine sqT_ 0 12 (fb 18 1) (take_ofW HT_.out HW_.out (by kernel_rfl)) hHeld ?_
                   refine one_ (i := 1) (N := some 13) (fb 18 3) rfl rfl (one_of HT_.out (by kernel_rfl)) (by decide) (fun K hK => ?_)
                   refine goes_ Try.func98 (by kernel_rfl) rfl #[.agg #[.int .i64 ((rd_T43 l0 x7_1).f0), .int .i64 ((rd_T43 l0 x7_1).f1), .string ((rd_T43 l0 x7_1).f2), .int .i64 ((rd_T43 l0 x7_1).f3), .bool ((rd_T43 l0 x7_1).f4), .bool ((rd_T43 l0 x7_1).f5), .bool ((rd_T43 l0 x7_1).f6)]] (by rfl) rfl rfl (by (try simp only [List.map_toArray, List.map_cons, List.map_nil]); first | done | rfl | (simp only [List.length_drop, List.length_take]; rfl)) ?_
                   with_reducible refine (impl_IsEvent.calls k1 ((rd_T43 l0 x7_1).f0) ((rd_T43 l0 x7_1).f1) ((rd_T43 l0 x7_1).f2) ((rd_T43 l0 x7_1).f3) ((rd_T43 l0 x7_1).f4) ((rd_T43 l0 x7_1).f5) ((rd_T43 l0 x7_1).f6) true _ A5.out).mono ?_
                   rintro e w16 ⟨rfl, hb⟩
                   refine ⟨_, rfl, ?_⟩
                   have n0_ := Aside0.mk (bkb BK238 hb)
                   have n1_ := Aside0.mk (bs_ hb)
                   clear BK238 HB; revert n0_ n1_; intro BK238 HB
                   (try clear hb)
                   (try clear hb2)
                   (try clear hk)
                   (try clear hi)
                   refine hK.out _ _ ⟨(blk_cell BK238.out 0).trans rfl, (blk_cell BK238.out 1).trans rfl, (blk_cell BK238.out 2).trans rfl, (blk_cell BK238.out 3).trans rfl, (blk_cell BK238.out 4).trans rfl, (blk_cell BK238.out 5).trans rfl, (blk_cell BK238.out 6).trans rfl, ((HB.out.cell (World.block_lt_of_cell? w _ hw240_0)).trans hw240_0), ((HB.out.cell (World.block_lt_of_cell? w _ hw240_1)).trans hw240_1), ((HB.out.cell (World.block_lt_of_cell? w _ hw240_2)).trans hw240_2), ((HB.out.cell (World.block_lt_of_cell? w _ hw240_3)).trans hw240_3), ((HB.out.cell (World.block_lt_of_cell? w _ hw240_4)).trans hw240_4), ((HB.out.cell (World.block_lt_of_cell? w _ hw240_5)).trans hw240_5), ((HB.out.cell (World.block_lt_of_cell? w _ hw240_6)).trans hw240_6)⟩ (fun hHeld => ?_)
                   clear hK K
                   refine sqN_ 13 ?_
                   refine sqP_ 2 14 (fb 18 7) (any_of HT_.out (by kernel_rfl)) ?_
                   refine sqP_ 3 15 (fb 18 15) (any_of HT_.out (by kernel_rfl)) ?_
                   refine sqP_ 4 16 (fb 18 31) (any_of HT_.out (by kernel_rfl)) ?_
                   refine sqP_ 5 17 (fb 18 63) (any_of HT_.out (by kernel_rfl)) ?_
                   refine sqP_ 6 18 (fb 18 127) (any_of HT_.out (by kernel_rfl)) ?_
                   refine sqP_ 7 19 (fb 18 255) (any_of HT_.out (by kernel_rfl)) ?_
                   refine sqP_ 8 20 (fb 18 511) (any_of HT_.out (by kernel_rfl)) ?_
                   refine sqP_ 9 21 (fb 18 1023) (any_of HT_.out (by kernel_rfl)) ?_
                   refine sqP_ 10 22 (fb 18 2047) (any_of HT_.out (by kernel_rfl)) ?_
                   refine sqP_ 11 23 (fb 18 4095) (any_of HT_.out (by kernel_rfl)) ?_
                   refine sqP_ 13 25 (fb 18 12287) (any_of HT_.out (by kernel_rfl)) ?_
                   refine sqT_ 12 24 (fb 18 16383) (take_ofW HT_.out HW_.out (by kernel_rfl)) hHeld ?_
                   refine sqT_ 14 26 (fb 18 32767) (take_ofW HT_.out HW_.out (by kernel_rfl)) hHeld ?_
                   refine sqP_ 15 27 (fb 18 65535) (any_of HT_.out (by kernel_rfl)) ?_
                   refine sqP_ 16 28 (fb 18 131071) (any_of HT_.out (by kernel_rfl)) ?_
                   refine sqP_ 17 29 (fb 18 262143) (any_of HT_.out (by kernel_rfl)) ?_
                   refine done_ (done_of HT_.out (by kernel_rfl)) ?_
                   try go_wp2
                   go_ret
                   exact ⟨by first | rfl | (simp [errW_none, errW_some] <;> rfl) | (simp only [← hji8]; first | rfl | (simp [errW_none, errW_some] <;> rfl)) | (simp [*, errW_none, errW_some] <;> rfl), bb_⟩
                 · rw [if_neg c11] at H
                   have c11b0 : decide (((rd_T43 l0 x7_1).f0) < ((rd_T43 l0 (ji8)).f0)) = false := decide_eq_false c11
                   clear c11
                   have H' := Aside0.mk H
                   clear H
                   have p237 : 0 ≤ (x7_1 : Int) := od_
                   have q237 : x7_1 < (l0.length : Int) := od_
                   obtain ⟨ad237, e237, hx237_0, hx237_1, hx237_2, hx237_3, hx237_4, hx237_5, hx237_6⟩ := at_T43 HR0.out x7_1 p237 q237
                   cases e237
                   replace hx237_0 := cel HB hx237_0
                   replace hx237_1 := cel HB hx237_1
                   replace hx237_2 := cel HB hx237_2
                   replace hx237_3 := cel HB hx237_3
                   replace hx237_4 := cel HB hx237_4
                   replace hx237_5 := cel HB hx237_5
                   replace hx237_6 := cel HB hx237_6
                   replace p237 := eq_true p237
                   replace q237 := eq_true q237
                   try go_wp2_with (first | ((with_reducible refine gate_dst (N := 4) rfl ?_); refine bx_ 4 #[.int .i64 0, .int .i64 0, .string (⟨#[]⟩ : ByteArray), .int .i64 0, .bool false, .bool false, .bool false] 43 ?_; intro gb238 hg w17 hbox hb; have n0_ := Aside0.mk (bs_ hb); have n1_ := Aside0.mk (hbox); have n2_ := Aside0.mk ((by rw [hg]; exact (bz_) : w.heap.size ≤ gb238)); have n3_ := Aside0.mk ((by rw [hg]; exact (bz_) : w.heap.size ≤ gb238)); clear HB; revert n0_ n1_ n2_ n3_; intro HB BK238 GW238 GE238; clear hb hbox hg; have hcz18_0 := bk BK238 0; have hcz18_1 := bk BK238 1; have hcz18_2 := bk BK238 2; have hcz18_3 := bk BK238 3; have hcz18_4 := bk BK238 4; have hcz18_5 := bk BK238 5; have hcz18_6 := bk BK238 6; have hfz18_0 := blk_frozen BK238.out 0; have hfz18_1 := blk_frozen BK238.out 1; have hfz18_2 := blk_frozen BK238.out 2; have hfz18_3 := blk_frozen BK238.out 3; have hfz18_4 := blk_frozen BK238.out 4; have hfz18_5 := blk_frozen BK238.out 5; have hfz18_6 := blk_frozen BK238.out 6))
                   have n0_ : Aside0 ((((((((w17.setCell ⟨gb238, 0, none⟩ (.int .i64 ((rd_T43 l0 x7_1).f0))).setCell ⟨gb238, 1, none⟩ (.int .i64 ((rd_T43 l0 x7_1).f1))).setCell ⟨gb238, 2, none⟩ (.string ((rd_T43 l0 x7_1).f2))).setCell ⟨gb238, 3, none⟩ (.int .i64 ((rd_T43 l0 x7_1).f3))).setCell ⟨gb238, 4, none⟩ (.bool ((rd_T43 l0 x7_1).f4))).setCell ⟨gb238, 5, none⟩ (.bool ((rd_T43 l0 x7_1).f5))).setCell ⟨gb238, 6, none⟩ (.bool ((rd_T43 l0 x7_1).f6))).heap[gb238]? = some (.cells #[.int .i64 ((rd_T43 l0 x7_1).f0), .int .i64 ((rd_T43 l0 x7_1).f1), .string ((rd_T43 l0 x7_1).f2), .int .i64 ((rd_T43 l0 x7_1).f3), .bool ((rd_T43 l0 x7_1).f4), .bool ((rd_T43 l0 x7_1).f5), .bool ((rd_T43 l0 x7_1).f6)] 43 (0, 0))) := ⟨by (with_reducible repeat (first | refine blk_drewN ?_ _ | refine blk_drew ?_ | refine blk_alloc ?_ _)); refine blk_put (cs := #[.int .i64 ((rd_T43 l0 x7_1).f0), .int .i64 ((rd_T43 l0 x7_1).f1), .string ((rd_T43 l0 x7_1).f2), .int .i64 ((rd_T43 l0 x7_1).f3), .bool ((rd_T43 l0 x7_1).f4), .bool ((rd_T43 l0 x7_1).f5), .bool false]) ?_ 6 _ rfl; (with_reducible repeat (first | refine blk_drewN ?_ _ | refine blk_drew ?_ | refine blk_alloc ?_ _)); refine blk_put (cs := #[.int .i64 ((rd_T43 l0 x7_1).f0), .int .i64 ((rd_T43 l0 x7_1).f1), .string ((rd_T43 l0 x7_1).f2), .int .i64 ((rd_T43 l0 x7_1).f3), .bool ((rd_T43 l0 x7_1).f4), .bool false, .bool false]) ?_ 5 _ rfl; (with_reducible repeat (first | refine blk_drewN ?_ _ | refine blk_drew ?_ | refine blk_alloc ?_ _)); refine blk_put (cs := #[.int .i64 ((rd_T43 l0 x7_1).f0), .int .i64 ((rd_T43 l0 x7_1).f1), .string ((rd_T43 l0 x7_1).f2), .int .i64 ((rd_T43 l0 x7_1).f3), .bool false, .bool false, .bool false]) ?_ 4 _ rfl; (with_reducible repeat (first | refine blk_drewN ?_ _ | refine blk_drew ?_ | refine blk_alloc ?_ _)); refine blk_put (cs := #[.int .i64 ((rd_T43 l0 x7_1).f0), .int .i64 ((rd_T43 l0 x7_1).f1), .string ((rd_T43 l0 x7_1).f2), .int .i64 0, .bool false, .bool false, .bool false]) ?_ 3 _ rfl; (with_reducible repeat (first | refine blk_drewN ?_ _ | refine blk_drew ?_ | refine blk_alloc ?_ _)); refine blk_put (cs := #[.int .i64 ((rd_T43 l0 x7_1).f0), .int .i64 ((rd_T43 l0 x7_1).f1), .string (⟨#[]⟩ : ByteArray), .int .i64 0, .bool false, .bool false, .bool false]) ?_ 2 _ rfl; (with_reducible repeat (first | refine blk_drewN ?_ _ | refine blk_drew ?_ | refine blk_alloc ?_ _)); refine blk_put (cs := #[.int .i64 ((rd_T43 l0 x7_1).f0), .int .i64 0, .string (⟨#[]⟩ : ByteArray), .int .i64 0, .bool false, .bool false, .bool false]) ?_ 1 _ rfl; (with_reducible repeat (first | refine blk_drewN ?_ _ | refine blk_drew ?_ | refine blk_alloc ?_ _)); refine blk_put (cs := #[.int .i64 0, .int .i64 0, .string (⟨#[]⟩ : ByteArray), .int .i64 0, .bool false, .bool false, .bool false]) ?_ 0 _ rfl; (with_reducible repeat (first | refine blk_drewN ?_ _ | refine blk_drew ?_ | refine blk_alloc ?_ _)); exact BK238.out⟩
                   have n1_ : Aside0 (Below w.heap.size w (((((((w17.setCell ⟨gb238, 0, none⟩ (.int .i64 ((rd_T43 l0 x7_1).f0))).setCell ⟨gb238, 1, none⟩ (.int .i64 ((rd_T43 l0 x7_1).f1))).setCell ⟨gb238, 2, none⟩ (.string ((rd_T43 l0 x7_1).f2))).setCell ⟨gb238, 3, none⟩ (.int .i64 ((rd_T43 l0 x7_1).f3))).setCell ⟨gb238, 4, none⟩ (.bool ((rd_T43 l0 x7_1).f4))).setCell ⟨gb238, 5, none⟩ (.bool ((rd_T43 l0 x7_1).f5))).setCell ⟨gb238, 6, none⟩ (.bool ((rd_T43 l0 x7_1).f6)))) := ⟨bb_⟩
                   (try clear BK238)
                   (try clear HB)
                   generalize (((((((w17.setCell ⟨gb238, 0, none⟩ (.int .i64 ((rd_T43 l0 x7_1).f0))).setCell ⟨gb238, 1, none⟩ (.int .i64 ((rd_T43 l0 x7_1).f1))).setCell ⟨gb238, 2, none⟩ (.string ((rd_T43 l0 x7_1).f2))).setCell ⟨gb238, 3, none⟩ (.int .i64 ((rd_T43 l0 x7_1).f3))).setCell ⟨gb238, 4, none⟩ (.bool ((rd_T43 l0 x7_1).f4))).setCell ⟨gb238, 5, none⟩ (.bool ((rd_T43 l0 x7_1).f5))).setCell ⟨gb238, 6, none⟩ (.bool ((rd_T43 l0 x7_1).f6))) = w19 at n0_ n1_ ⊢
                   have BK238 := n0_
                   have HB := n1_
                   clear n0_ n1_
                   have n0_ := Aside0.mk (blk_drew BK238.out)
                   have n1_ := Aside0.mk (below_drew1 HB.out)
                   clear BK238 HB; revert n0_ n1_; intro BK238 HB
                   have p240 : 0 ≤ ((ji8) : Int) := od_
                   have q240 : (ji8) < (l0.length : Int) := od_
                   obtain ⟨ad240, e240, hx240_0, hx240_1, hx240_2, hx240_3, hx240_4, hx240_5, hx240_6⟩ := at_T43 HR0.out (ji8) p240 q240
                   have hw240_6 := hx240_6
                   have hw240_5 := hx240_5
                   have hw240_4 := hx240_4
                   have hw240_3 := hx240_3
                   have hw240_2 := hx240_2
                   have hw240_1 := hx240_1
                   have hw240_0 := hx240_0
                   obtain rfl : ad237 = ad240 := (by injection e240)
                   replace hx240_0 := cel HB hx240_0
                   replace hx240_1 := cel HB hx240_1
                   replace hx240_2 := cel HB hx240_2
                   replace hx240_3 := cel HB hx240_3
                   replace hx240_4 := cel HB hx240_4
                   replace hx240_5 := cel HB hx240_5
                   replace hx240_6 := cel HB hx240_6
                   replace p240 := eq_true p240
                   replace q240 := eq_true q240
                   refine start_ (n := 18) (S := fun w' => w'.cell? ⟨gb238, 0, none⟩ = some (.int .i64 ((rd_T43 l0 x7_1).f0)) ∧ w'.cell? ⟨gb238, 1, none⟩ = some (.int .i64 ((rd_T43 l0 x7_1).f1)) ∧ w'.cell? ⟨gb238, 2, none⟩ = some (.string ((rd_T43 l0 x7_1).f2)) ∧ w'.cell? ⟨gb238, 3, none⟩ = some (.int .i64 ((rd_T43 l0 x7_1).f3)) ∧ w'.cell? ⟨gb238, 4, none⟩ = some (.bool ((rd_T43 l0 x7_1).f4)) ∧ w'.cell? ⟨gb238, 5, none⟩ = some (.bool ((rd_T43 l0 x7_1).f5)) ∧ w'.cell? ⟨gb238, 6, none⟩ = some (.bool ((rd_T43 l0 x7_1).f6)) ∧ w'.cell? (ad237.add (((ji8)).toNat * 7)) = some (.int .i64 ((rd_T43 l0 (ji8)).f0)) ∧ w'.cell? ⟨(ad237.add (((ji8)).toNat * 7)).block, (ad237.add (((ji8)).toNat * 7)).off + 1, none⟩ = some (.int .i64 ((rd_T43 l0 (ji8)).f1)) ∧ w'.cell? ⟨(ad237.add (((ji8)).toNat * 7)).block, (ad237.add (((ji8)).toNat * 7)).off + 2, none⟩ = some (.string ((rd_T43 l0 (ji8)).f2)) ∧ w'.cell? ⟨(ad237.add (((ji8)).toNat * 7)).block, (ad237.add (((ji8)).toNat * 7)).off + 3, none⟩ = some (.int .i64 ((rd_T43 l0 (ji8)).f3)) ∧ w'.cell? ⟨(ad237.add (((ji8)).toNat * 7)).block, (ad237.add (((ji8)).toNat * 7)).off + 4, none⟩ = some (.bool ((rd_T43 l0 (ji8)).f4)) ∧ w'.cell? ⟨(ad237.add (((ji8)).toNat * 7)).block, (ad237.add (((ji8)).toNat * 7)).off + 5, none⟩ = some (.bool ((rd_T43 l0 (ji8)).f5)) ∧ w'.cell? ⟨(ad237.add (((ji8)).toNat * 7)).block, (ad237.add (((ji8)).toNat * 7)).off + 6, none⟩ = some (.bool ((rd_T43 l0 (ji8)).f6))) (ds := []) (fb 18 0) (by kernel_rfl) rfl rfl ⟨(blk_cell BK238.out 0).trans rfl, (blk_cell BK238.out 1).trans rfl, (blk_cell BK238.out 2).trans rfl, (blk_cell BK238.out 3).trans rfl, (blk_cell BK238.out 4).trans rfl, (blk_cell BK238.out 5).trans rfl, (blk_cell BK238.out 6).trans rfl, ((HB.out.cell (World.block_lt_of_cell? w _ hw240_0)).trans hw240_0), ((HB.out.cell (World.block_lt_of_cell? w _ hw240_1)).trans hw240_1), ((HB.out.cell (World.block_lt_of_cell? w _ hw240_2)).trans hw240_2), ((HB.out.cell (World.block_lt_of_cell? w _ hw240_3)).trans hw240_3), ((HB.out.cell (World.block_lt_of_cell? w _ hw240_4)).trans hw240_4), ((HB.out.cell (World.block_lt_of_cell? w _ hw240_5)).trans hw240_5), ((HB.out.cell (World.block_lt_of_cell? w _ hw240_6)).trans hw240_6)⟩ (fun hHeld => ?_); refine with_tabW impl_IsLog.tab4 impl_IsLog.bits4 (fun HT_ HW_ => ?_)
                   generalize w19.drew = w20 at BK238 HB hx240_0 hx240_1 hx240_2 hx240_3 hx240_4 hx240_5 hx240_6 hHeld ⊢
                   refine sqT_ 0 12 (fb 18 1) (take_ofW HT_.out HW_.out (by kernel_rfl)) hHeld ?_
                   refine one_ (i := 1) (N := some 13) (fb 18 3) rfl rfl (one_of HT_.out (by kernel_rfl)) (by decide) (fun K hK => ?_)
                   refine goes_ Try.func98 (by kernel_rfl) rfl #[.agg #[.int .i64 ((rd_T43 l0 x7_1).f0), .int .i64 ((rd_T43 l0 x7_1).f1), .string ((rd_T43 l0 x7_1).f2), .int .i64 ((rd_T43 l0 x7_1).f3), .bool ((rd_T43 l0 x7_1).f4), .bool ((rd_T43 l0 x7_1).f5), .bool ((rd_T43 l0 x7_1).f6)]] (by rfl) rfl rfl (by (try simp only [List.map_toArray, List.map_cons, List.map_nil]); first | done | rfl | (simp only [List.length_drop, List.length_take]; rfl)) ?_
                   with_reducible refine (impl_IsEvent.calls k1 ((rd_T43 l0 x7_1).f0) ((rd_T43 l0 x7_1).f1) ((rd_T43 l0 x7_1).f2) ((rd_T43 l0 x7_1).f3) ((rd_T43 l0 x7_1).f4) ((rd_T43 l0 x7_1).f5) ((rd_T43 l0 x7_1).f6) true _ A5.out).mono ?_
                   rintro e w21 ⟨rfl, hb⟩
                   refine ⟨_, rfl, ?_⟩
                   have n0_ := Aside0.mk (bkb BK238 hb)
                   have n1_ := Aside0.mk (bs_ hb)
                   clear BK238 HB; revert n0_ n1_; intro BK238 HB
                   (try clear hb)
                   (try clear hb2)
                   (try clear hk)
                   (try clear hi)
                   refine hK.out _ _ ⟨(blk_cell BK238.out 0).trans rfl, (blk_cell BK238.out 1).trans rfl, (blk_cell BK238.out 2).trans rfl, (blk_cell BK238.out 3).trans rfl, (blk_cell BK238.out 4).trans rfl, (blk_cell BK238.out 5).trans rfl, (blk_cell BK238.out 6).trans rfl, ((HB.out.cell (World.block_lt_of_cell? w _ hw240_0)).trans hw240_0), ((HB.out.cell (World.block_lt_of_cell? w _ hw240_1)).trans hw240_1), ((HB.out.cell (World.block_lt_of_cell? w _ hw240_2)).trans hw240_2), ((HB.out.cell (World.block_lt_of_cell? w _ hw240_3)).trans hw240_3), ((HB.out.cell (World.block_lt_of_cell? w _ hw240_4)).trans hw240_4), ((HB.out.cell (World.block_lt_of_cell? w _ hw240_5)).trans hw240_5), ((HB.out.cell (World.block_lt_of_cell? w _ hw240_6)).trans hw240_6)⟩ (fun hHeld => ?_)
                   clear hK K
                   refine sqN_ 13 ?_
                   refine sqP_ 2 14 (fb 18 7) (any_of HT_.out (by kernel_rfl)) ?_
                   refine sqP_ 3 15 (fb 18 15) (any_of HT_.out (by kernel_rfl)) ?_
                   refine sqP_ 4 16 (fb 18 31) (any_of HT_.out (by kernel_rfl)) ?_
                   refine sqP_ 5 17 (fb 18 63) (any_of HT_.out (by kernel_rfl)) ?_
                   refine sqP_ 6 18 (fb 18 127) (any_of HT_.out (by kernel_rfl)) ?_
                   refine sqP_ 7 19 (fb 18 255) (any_of HT_.out (by kernel_rfl)) ?_
                   refine sqP_ 8 20 (fb 18 511) (any_of HT_.out (by kernel_rfl)) ?_
                   refine sqP_ 9 21 (fb 18 1023) (any_of HT_.out (by kernel_rfl)) ?_
                   refine sqP_ 10 22 (fb 18 2047) (any_of HT_.out (by kernel_rfl)) ?_
                   refine sqP_ 11 23 (fb 18 4095) (any_of HT_.out (by kernel_rfl)) ?_
                   refine sqP_ 13 25 (fb 18 12287) (any_of HT_.out (by kernel_rfl)) ?_
                   refine sqT_ 12 24 (fb 18 16383) (take_ofW HT_.out HW_.out (by kernel_rfl)) hHeld ?_
                   refine sqT_ 14 26 (fb 18 32767) (take_ofW HT_.out HW_.out (by kernel_rfl)) hHeld ?_
                   refine sqP_ 15 27 (fb 18 65535) (any_of HT_.out (by kernel_rfl)) ?_
                   refine sqP_ 16 28 (fb 18 131071) (any_of HT_.out (by kernel_rfl)) ?_
                   refine sqP_ 17 29 (fb 18 262143) (any_of HT_.out (by kernel_rfl)) ?_
                   refine done_ (done_of HT_.out (by kernel_rfl)) ?_
                   try go_wp2
                   go_roundg k1
                   case measure => have := HK1.out; omega
                   case rel => exact ⟨(wrap64 (x7_1 + 1)), (by first | rfl | (simp; done) | (simp [*]; done)), H', ⟨by have := HK1.out; omega⟩, ⟨bb_⟩⟩
               · rw [if_neg c10] at H
                 exact absurd H (by simp)
             · rw [if_neg c9] at H
               exact absurd H (by simp)
           · rw [if_neg c7] at H
             have c7b0 : decide (0 < x7_1) = false := decide_eq_false c7
             clear c7
             have H' := Aside0.mk H
             clear H
             have p237 : 0 ≤ (x7_1 : Int) := od_
             have q237 : x7_1 < (l0.length : Int) := od_
             obtain ⟨ad237, e237, hx237_0, hx237_1, hx237_2, hx237_3, hx237_4, hx237_5, hx237_6⟩ := at_T43 HR0.out x7_1 p237 q237
             cases e237
             replace hx237_0 := cel HB hx237_0
             replace hx237_1 := cel HB hx237_1
             replace hx237_2 := cel HB hx237_2
             replace hx237_3 := cel HB hx237_3
             replace hx237_4 := cel HB hx237_4
             replace hx237_5 := cel HB hx237_5
             replace hx237_6 := cel HB hx237_6
             replace p237 := eq_true p237
             replace q237 := eq_true q237
             try go_wp2_with (first | ((with_reducible refine gate_dst (N := 4) rfl ?_); refine bx_ 4 #[.int .i64 0, .int .i64 0, .string (⟨#[]⟩ : ByteArray), .int .i64 0, .bool false, .bool false, .bool false] 43 ?_; intro gb238 hg w22 hbox hb; have n0_ := Aside0.mk (bs_ hb); have n1_ := Aside0.mk (hbox); have n2_ := Aside0.mk ((by rw [hg]; exact (bz_) : w.heap.size ≤ gb238)); have n3_ := Aside0.mk ((by rw [hg]; exact (bz_) : w.heap.size ≤ gb238)); clear HB; revert n0_ n1_ n2_ n3_; intro HB BK238 GW238 GE238; clear hb hbox hg; have hcz23_0 := bk BK238 0; have hcz23_1 := bk BK238 1; have hcz23_2 := bk BK238 2; have hcz23_3 := bk BK238 3; have hcz23_4 := bk BK238 4; have hcz23_5 := bk BK238 5; have hcz23_6 := bk BK238 6; have hfz23_0 := blk_frozen BK238.out 0; have hfz23_1 := blk_frozen BK238.out 1; have hfz23_2 := blk_frozen BK238.out 2; have hfz23_3 := blk_frozen BK238.out 3; have hfz23_4 := blk_frozen BK238.out 4; have hfz23_5 := blk_frozen BK238.out 5; have hfz23_6 := blk_frozen BK238.out 6))
             have n0_ : Aside0 ((((((((w22.setCell ⟨gb238, 0, none⟩ (.int .i64 ((rd_T43 l0 x7_1).f0))).setCell ⟨gb238, 1, none⟩ (.int .i64 ((rd_T43 l0 x7_1).f1))).setCell ⟨gb238, 2, none⟩ (.string ((rd_T43 l0 x7_1).f2))).setCell ⟨gb238, 3, none⟩ (.int .i64 ((rd_T43 l0 x7_1).f3))).setCell ⟨gb238, 4, none⟩ (.bool ((rd_T43 l0 x7_1).f4))).setCell ⟨gb238, 5, none⟩ (.bool ((rd_T43 l0 x7_1).f5))).setCell ⟨gb238, 6, none⟩ (.bool ((rd_T43 l0 x7_1).f6))).heap[gb238]? = some (.cells #[.int .i64 ((rd_T43 l0 x7_1).f0), .int .i64 ((rd_T43 l0 x7_1).f1), .string ((rd_T43 l0 x7_1).f2), .int .i64 ((rd_T43 l0 x7_1).f3), .bool ((rd_T43 l0 x7_1).f4), .bool ((rd_T43 l0 x7_1).f5), .bool ((rd_T43 l0 x7_1).f6)] 43 (0, 0))) := ⟨by (with_reducible repeat (first | refine blk_drewN ?_ _ | refine blk_drew ?_ | refine blk_alloc ?_ _)); refine blk_put (cs := #[.int .i64 ((rd_T43 l0 x7_1).f0), .int .i64 ((rd_T43 l0 x7_1).f1), .string ((rd_T43 l0 x7_1).f2), .int .i64 ((rd_T43 l0 x7_1).f3), .bool ((rd_T43 l0 x7_1).f4), .bool ((rd_T43 l0 x7_1).f5), .bool false]) ?_ 6 _ rfl; (with_reducible repeat (first | refine blk_drewN ?_ _ | refine blk_drew ?_ | refine blk_alloc ?_ _)); refine blk_put (cs := #[.int .i64 ((rd_T43 l0 x7_1).f0), .int .i64 ((rd_T43 l0 x7_1).f1), .string ((rd_T43 l0 x7_1).f2), .int .i64 ((rd_T43 l0 x7_1).f3), .bool ((rd_T43 l0 x7_1).f4), .bool false, .bool false]) ?_ 5 _ rfl; (with_reducible repeat (first | refine blk_drewN ?_ _ | refine blk_drew ?_ | refine blk_alloc ?_ _)); refine blk_put (cs := #[.int .i64 ((rd_T43 l0 x7_1).f0), .int .i64 ((rd_T43 l0 x7_1).f1), .string ((rd_T43 l0 x7_1).f2), .int .i64 ((rd_T43 l0 x7_1).f3), .bool false, .bool false, .bool false]) ?_ 4 _ rfl; (with_reducible repeat (first | refine blk_drewN ?_ _ | refine blk_drew ?_ | refine blk_alloc ?_ _)); refine blk_put (cs := #[.int .i64 ((rd_T43 l0 x7_1).f0), .int .i64 ((rd_T43 l0 x7_1).f1), .string ((rd_T43 l0 x7_1).f2), .int .i64 0, .bool false, .bool false, .bool false]) ?_ 3 _ rfl; (with_reducible repeat (first | refine blk_drewN ?_ _ | refine blk_drew ?_ | refine blk_alloc ?_ _)); refine blk_put (cs := #[.int .i64 ((rd_T43 l0 x7_1).f0), .int .i64 ((rd_T43 l0 x7_1).f1), .string (⟨#[]⟩ : ByteArray), .int .i64 0, .bool false, .bool false, .bool false]) ?_ 2 _ rfl; (with_reducible repeat (first | refine blk_drewN ?_ _ | refine blk_drew ?_ | refine blk_alloc ?_ _)); refine blk_put (cs := #[.int .i64 ((rd_T43 l0 x7_1).f0), .int .i64 0, .string (⟨#[]⟩ : ByteArray), .int .i64 0, .bool false, .bool false, .bool false]) ?_ 1 _ rfl; (with_reducible repeat (first | refine blk_drewN ?_ _ | refine blk_drew ?_ | refine blk_alloc ?_ _)); refine blk_put (cs := #[.int .i64 0, .int .i64 0, .string (⟨#[]⟩ : ByteArray), .int .i64 0, .bool false, .bool false, .bool false]) ?_ 0 _ rfl; (with_reducible repeat (first | refine blk_drewN ?_ _ | refine blk_drew ?_ | refine blk_alloc ?_ _)); exact BK238.out⟩
             have n1_ : Aside0 (Below w.heap.size w (((((((w22.setCell ⟨gb238, 0, none⟩ (.int .i64 ((rd_T43 l0 x7_1).f0))).setCell ⟨gb238, 1, none⟩ (.int .i64 ((rd_T43 l0 x7_1).f1))).setCell ⟨gb238, 2, none⟩ (.string ((rd_T43 l0 x7_1).f2))).setCell ⟨gb238, 3, none⟩ (.int .i64 ((rd_T43 l0 x7_1).f3))).setCell ⟨gb238, 4, none⟩ (.bool ((rd_T43 l0 x7_1).f4))).setCell ⟨gb238, 5, none⟩ (.bool ((rd_T43 l0 x7_1).f5))).setCell ⟨gb238, 6, none⟩ (.bool ((rd_T43 l0 x7_1).f6)))) := ⟨bb_⟩
             (try clear BK238)
             (try clear HB)
             generalize (((((((w22.setCell ⟨gb238, 0, none⟩ (.int .i64 ((rd_T43 l0 x7_1).f0))).setCell ⟨gb238, 1, none⟩ (.int .i64 ((rd_T43 l0 x7_1).f1))).setCell ⟨gb238, 2, none⟩ (.string ((rd_T43 l0 x7_1).f2))).setCell ⟨gb238, 3, none⟩ (.int .i64 ((rd_T43 l0 x7_1).f3))).setCell ⟨gb238, 4, none⟩ (.bool ((rd_T43 l0 x7_1).f4))).setCell ⟨gb238, 5, none⟩ (.bool ((rd_T43 l0 x7_1).f5))).setCell ⟨gb238, 6, none⟩ (.bool ((rd_T43 l0 x7_1).f6))) = w24 at n0_ n1_ ⊢
             have BK238 := n0_
             have HB := n1_
             clear n0_ n1_
             have n0_ := Aside0.mk (blk_drew BK238.out)
             have n1_ := Aside0.mk (below_drew1 HB.out)
             clear BK238 HB; revert n0_ n1_; intro BK238 HB
             refine start_ (n := 18) (S := fun w' => w'.cell? ⟨gb238, 0, none⟩ = some (.int .i64 ((rd_T43 l0 x7_1).f0)) ∧ w'.cell? ⟨gb238, 1, none⟩ = some (.int .i64 ((rd_T43 l0 x7_1).f1)) ∧ w'.cell? ⟨gb238, 2, none⟩ = some (.string ((rd_T43 l0 x7_1).f2)) ∧ w'.cell? ⟨gb238, 3, none⟩ = some (.int .i64 ((rd_T43 l0 x7_1).f3)) ∧ w'.cell? ⟨gb238, 4, none⟩ = some (.bool ((rd_T43 l0 x7_1).f4)) ∧ w'.cell? ⟨gb238, 5, none⟩ = some (.bool ((rd_T43 l0 x7_1).f5)) ∧ w'.cell? ⟨gb238, 6, none⟩ = some (.bool ((rd_T43 l0 x7_1).f6))) (ds := []) (fb 18 0) (by kernel_rfl) rfl rfl ⟨(blk_cell BK238.out 0).trans rfl, (blk_cell BK238.out 1).trans rfl, (blk_cell BK238.out 2).trans rfl, (blk_cell BK238.out 3).trans rfl, (blk_cell BK238.out 4).trans rfl, (blk_cell BK238.out 5).trans rfl, (blk_cell BK238.out 6).trans rfl⟩ (fun hHeld => ?_); refine with_tabW impl_IsLog.tab4 impl_IsLog.bits4 (fun HT_ HW_ => ?_)
             generalize w24.drew = w25 at BK238 HB hHeld ⊢
             refine sqT_ 0 12 (fb 18 1) (take_ofW HT_.out HW_.out (by kernel_rfl)) hHeld ?_
             refine one_ (i := 1) (N := some 13) (fb 18 3) rfl rfl (one_of HT_.out (by kernel_rfl)) (by decide) (fun K hK => ?_)
             refine goes_ Try.func98 (by kernel_rfl) rfl #[.agg #[.int .i64 ((rd_T43 l0 x7_1).f0), .int .i64 ((rd_T43 l0 x7_1).f1), .string ((rd_T43 l0 x7_1).f2), .int .i64 ((rd_T43 l0 x7_1).f3), .bool ((rd_T43 l0 x7_1).f4), .bool ((rd_T43 l0 x7_1).f5), .bool ((rd_T43 l0 x7_1).f6)]] (by rfl) rfl rfl (by (try simp only [List.map_toArray, List.map_cons, List.map_nil]); first | done | rfl | (simp only [List.length_drop, List.length_take]; rfl)) ?_
             with_reducible refine (impl_IsEvent.calls k1 ((rd_T43 l0 x7_1).f0) ((rd_T43 l0 x7_1).f1) ((rd_T43 l0 x7_1).f2) ((rd_T43 l0 x7_1).f3) ((rd_T43 l0 x7_1).f4) ((rd_T43 l0 x7_1).f5) ((rd_T43 l0 x7_1).f6) true _ A5.out).mono ?_
             rintro e w26 ⟨rfl, hb⟩
             refine ⟨_, rfl, ?_⟩
             have n0_ := Aside0.mk (bkb BK238 hb)
             have n1_ := Aside0.mk (bs_ hb)
             clear BK238 HB; revert n0_ n1_; intro BK238 HB
             (try clear hb)
             (try clear hb2)
             (try clear hk)
             (try clear hi)
             refine hK.out _ _ ⟨(blk_cell BK238.out 0).trans rfl, (blk_cell BK238.out 1).trans rfl, (blk_cell BK238.out 2).trans rfl, (blk_cell BK238.out 3).trans rfl, (blk_cell BK238.out 4).trans rfl, (blk_cell BK238.out 5).trans rfl, (blk_cell BK238.out 6).trans rfl⟩ (fun hHeld => ?_)
             clear hK K
             refine sqN_ 13 ?_
             refine sqP_ 2 14 (fb 18 7) (any_of HT_.out (by kernel_rfl)) ?_
             refine sqP_ 3 15 (fb 18 15) (any_of HT_.out (by kernel_rfl)) ?_
             refine sqP_ 4 16 (fb 18 31) (any_of HT_.out (by kernel_rfl)) ?_
             refine sqP_ 5 17 (fb 18 63) (any_of HT_.out (by kernel_rfl)) ?_
             refine sqP_ 6 18 (fb 18 127) (any_of HT_.out (by kernel_rfl)) ?_
             refine sqO_ 7 19 (fb 18 255) (any_of HT_.out (by kernel_rfl)) ?_
             refine sqO_ 8 20 (fb 18 511) (any_of HT_.out (by kernel_rfl)) ?_
             refine sqO_ 9 21 (fb 18 1023) (any_of HT_.out (by kernel_rfl)) ?_
             refine sqO_ 10 22 (fb 18 2047) (any_of HT_.out (by kernel_rfl)) ?_
             refine sqO_ 11 23 (fb 18 4095) (any_of HT_.out (by kernel_rfl)) ?_
             refine sqO_ 12 24 (fb 18 8191) (any_of HT_.out (by kernel_rfl)) ?_
             refine sqO_ 13 25 (fb 18 16383) (any_of HT_.out (by kernel_rfl)) ?_
             refine sqO_ 14 26 (fb 18 32767) (any_of HT_.out (by kernel_rfl)) ?_
             refine sqO_ 15 27 (fb 18 65535) (any_of HT_.out (by kernel_rfl)) ?_
             refine sqP_ 16 28 (fb 18 131071) (any_of HT_.out (by kernel_rfl)) ?_
             refine sqP_ 17 29 (fb 18 262143) (any_of HT_.out (by kernel_rfl)) ?_
             refine done_ (done_of HT_.out (by kernel_rfl)) ?_
             try go_wp2
             go_roundg k1
             case measure => have := HK1.out; omega
             case rel => exact ⟨(wrap64 (x7_1 + 1)), (by first | rfl | (simp; done) | (simp [*]; done)), H', ⟨by have := HK1.out; omega⟩, ⟨bb_⟩⟩
         · replace c6 := Bool.eq_false_iff.mpr c6
           subst c6
           have H1 : (some false) = some r := by rw [if_neg (show ¬ (false = true) by decide)] at H; exact H
           clear H
           have H := H1
           clear H1
           obtain rfl := Option.some.inj H
           have p237 : 0 ≤ (x7_1 : Int) := od_
           have q237 : x7_1 < (l0.length : Int) := od_
           obtain ⟨ad237, e237, hx237_0, hx237_1, hx237_2, hx237_3, hx237_4, hx237_5, hx237_6⟩ := at_T43 HR0.out x7_1 p237 q237
           cases e237
           replace hx237_0 := cel HB hx237_0
           replace hx237_1 := cel HB hx237_1
           replace hx237_2 := cel HB hx237_2
           replace hx237_3 := cel HB hx237_3
           replace hx237_4 := cel HB hx237_4
           replace hx237_5 := cel HB hx237_5
           replace hx237_6 := cel HB hx237_6
           replace p237 := eq_true p237
           replace q237 := eq_true q237
           try go_wp2_with (first | ((with_reducible refine gate_dst (N := 4) rfl ?_); refine bx_ 4 #[.int .i64 0, .int .i64 0, .string (⟨#[]⟩ : ByteArray), .int .i64 0, .bool false, .bool false, .bool false] 43 ?_; intro gb238 hg w27 hbox hb; have n0_ := Aside0.mk (bs_ hb); have n1_ := Aside0.mk (hbox); have n2_ := Aside0.mk ((by rw [hg]; exact (bz_) : w.heap.size ≤ gb238)); have n3_ := Aside0.mk ((by rw [hg]; exact (bz_) : w.heap.size ≤ gb238)); clear HB; revert n0_ n1_ n2_ n3_; intro HB BK238 GW238 GE238; clear hb hbox hg; have hcz28_0 := bk BK238 0; have hcz28_1 := bk BK238 1; have hcz28_2 := bk BK238 2; have hcz28_3 := bk BK238 3; have hcz28_4 := bk BK238 4; have hcz28_5 := bk BK238 5; have hcz28_6 := bk BK238 6; have hfz28_0 := blk_frozen BK238.out 0; have hfz28_1 := blk_frozen BK238.out 1; have hfz28_2 := blk_frozen BK238.out 2; have hfz28_3 := blk_frozen BK238.out 3; have hfz28_4 := blk_frozen BK238.out 4; have hfz28_5 := blk_frozen BK238.out 5; have hfz28_6 := blk_frozen BK238.out 6))
           have n0_ : Aside0 ((((((((w27.setCell ⟨gb238, 0, none⟩ (.int .i64 ((rd_T43 l0 x7_1).f0))).setCell ⟨gb238, 1, none⟩ (.int .i64 ((rd_T43 l0 x7_1).f1))).setCell ⟨gb238, 2, none⟩ (.string ((rd_T43 l0 x7_1).f2))).setCell ⟨gb238, 3, none⟩ (.int .i64 ((rd_T43 l0 x7_1).f3))).setCell ⟨gb238, 4, none⟩ (.bool ((rd_T43 l0 x7_1).f4))).setCell ⟨gb238, 5, none⟩ (.bool ((rd_T43 l0 x7_1).f5))).setCell ⟨gb238, 6, none⟩ (.bool ((rd_T43 l0 x7_1).f6))).heap[gb238]? = some (.cells #[.int .i64 ((rd_T43 l0 x7_1).f0), .int .i64 ((rd_T43 l0 x7_1).f1), .string ((rd_T43 l0 x7_1).f2), .int .i64 ((rd_T43 l0 x7_1).f3), .bool ((rd_T43 l0 x7_1).f4), .bool ((rd_T43 l0 x7_1).f5), .bool ((rd_T43 l0 x7_1).f6)] 43 (0, 0))) := ⟨by (with_reducible repeat (first | refine blk_drewN ?_ _ | refine blk_drew ?_ | refine blk_alloc ?_ _)); refine blk_put (cs := #[.int .i64 ((rd_T43 l0 x7_1).f0), .int .i64 ((rd_T43 l0 x7_1).f1), .string ((rd_T43 l0 x7_1).f2), .int .i64 ((rd_T43 l0 x7_1).f3), .bool ((rd_T43 l0 x7_1).f4), .bool ((rd_T43 l0 x7_1).f5), .bool false]) ?_ 6 _ rfl; (with_reducible repeat (first | refine blk_drewN ?_ _ | refine blk_drew ?_ | refine blk_alloc ?_ _)); refine blk_put (cs := #[.int .i64 ((rd_T43 l0 x7_1).f0), .int .i64 ((rd_T43 l0 x7_1).f1), .string ((rd_T43 l0 x7_1).f2), .int .i64 ((rd_T43 l0 x7_1).f3), .bool ((rd_T43 l0 x7_1).f4), .bool false, .bool false]) ?_ 5 _ rfl; (with_reducible repeat (first | refine blk_drewN ?_ _ | refine blk_drew ?_ | refine blk_alloc ?_ _)); refine blk_put (cs := #[.int .i64 ((rd_T43 l0 x7_1).f0), .int .i64 ((rd_T43 l0 x7_1).f1), .string ((rd_T43 l0 x7_1).f2), .int .i64 ((rd_T43 l0 x7_1).f3), .bool false, .bool false, .bool false]) ?_ 4 _ rfl; (with_reducible repeat (first | refine blk_drewN ?_ _ | refine blk_drew ?_ | refine blk_alloc ?_ _)); refine blk_put (cs := #[.int .i64 ((rd_T43 l0 x7_1).f0), .int .i64 ((rd_T43 l0 x7_1).f1), .string ((rd_T43 l0 x7_1).f2), .int .i64 0, .bool false, .bool false, .bool false]) ?_ 3 _ rfl; (with_reducible repeat (first | refine blk_drewN ?_ _ | refine blk_drew ?_ | refine blk_alloc ?_ _)); refine blk_put (cs := #[.int .i64 ((rd_T43 l0 x7_1).f0), .int .i64 ((rd_T43 l0 x7_1).f1), .string (⟨#[]⟩ : ByteArray), .int .i64 0, .bool false, .bool false, .bool false]) ?_ 2 _ rfl; (with_reducible repeat (first | refine blk_drewN ?_ _ | refine blk_drew ?_ | refine blk_alloc ?_ _)); refine blk_put (cs := #[.int .i64 ((rd_T43 l0 x7_1).f0), .int .i64 0, .string (⟨#[]⟩ : ByteArray), .int .i64 0, .bool false, .bool false, .bool false]) ?_ 1 _ rfl; (with_reducible repeat (first | refine blk_drewN ?_ _ | refine blk_drew ?_ | refine blk_alloc ?_ _)); refine blk_put (cs := #[.int .i64 0, .int .i64 0, .string (⟨#[]⟩ : ByteArray), .int .i64 0, .bool false, .bool false, .bool false]) ?_ 0 _ rfl; (with_reducible repeat (first | refine blk_drewN ?_ _ | refine blk_drew ?_ | refine blk_alloc ?_ _)); exact BK238.out⟩
           have n1_ : Aside0 (Below w.heap.size w (((((((w27.setCell ⟨gb238, 0, none⟩ (.int .i64 ((rd_T43 l0 x7_1).f0))).setCell ⟨gb238, 1, none⟩ (.int .i64 ((rd_T43 l0 x7_1).f1))).setCell ⟨gb238, 2, none⟩ (.string ((rd_T43 l0 x7_1).f2))).setCell ⟨gb238, 3, none⟩ (.int .i64 ((rd_T43 l0 x7_1).f3))).setCell ⟨gb238, 4, none⟩ (.bool ((rd_T43 l0 x7_1).f4))).setCell ⟨gb238, 5, none⟩ (.bool ((rd_T43 l0 x7_1).f5))).setCell ⟨gb238, 6, none⟩ (.bool ((rd_T43 l0 x7_1).f6)))) := ⟨bb_⟩
           (try clear BK238)
           (try clear HB)
           generalize (((((((w27.setCell ⟨gb238, 0, none⟩ (.int .i64 ((rd_T43 l0 x7_1).f0))).setCell ⟨gb238, 1, none⟩ (.int .i64 ((rd_T43 l0 x7_1).f1))).setCell ⟨gb238, 2, none⟩ (.string ((rd_T43 l0 x7_1).f2))).setCell ⟨gb238, 3, none⟩ (.int .i64 ((rd_T43 l0 x7_1).f3))).setCell ⟨gb238, 4, none⟩ (.bool ((rd_T43 l0 x7_1).f4))).setCell ⟨gb238, 5, none⟩ (.bool ((rd_T43 l0 x7_1).f5))).setCell ⟨gb238, 6, none⟩ (.bool ((rd_T43 l0 x7_1).f6))) = w29 at n0_ n1_ ⊢
           have BK238 := n0_
           have HB := n1_
           clear n0_ n1_
           have n0_ := Aside0.mk (blk_drew BK238.out)
           have n1_ := Aside0.mk (below_drew1 HB.out)
           clear BK238 HB; revert n0_ n1_; intro BK238 HB
           refine start_ (n := 18) (S := fun w' => w'.cell? ⟨gb238, 0, none⟩ = some (.int .i64 ((rd_T43 l0 x7_1).f0)) ∧ w'.cell? ⟨gb238, 1, none⟩ = some (.int .i64 ((rd_T43 l0 x7_1).f1)) ∧ w'.cell? ⟨gb238, 2, none⟩ = some (.string ((rd_T43 l0 x7_1).f2)) ∧ w'.cell? ⟨gb238, 3, none⟩ = some (.int .i64 ((rd_T43 l0 x7_1).f3)) ∧ w'.cell? ⟨gb238, 4, none⟩ = some (.bool ((rd_T43 l0 x7_1).f4)) ∧ w'.cell? ⟨gb238, 5, none⟩ = some (.bool ((rd_T43 l0 x7_1).f5)) ∧ w'.cell? ⟨gb238, 6, none⟩ = some (.bool ((rd_T43 l0 x7_1).f6))) (ds := []) (fb 18 0) (by kernel_rfl) rfl rfl ⟨(blk_cell BK238.out 0).trans rfl, (blk_cell BK238.out 1).trans rfl, (blk_cell BK238.out 2).trans rfl, (blk_cell BK238.out 3).trans rfl, (blk_cell BK238.out 4).trans rfl, (blk_cell BK238.out 5).trans rfl, (blk_cell BK238.out 6).trans rfl⟩ (fun hHeld => ?_); refine with_tabW impl_IsLog.tab4 impl_IsLog.bits4 (fun HT_ HW_ => ?_)
           generalize w29.drew = w30 at BK238 HB hHeld ⊢
           refine sqT_ 0 12 (fb 18 1) (take_ofW HT_.out HW_.out (by kernel_rfl)) hHeld ?_
           refine one_ (i := 1) (N := some 13) (fb 18 3) rfl rfl (one_of HT_.out (by kernel_rfl)) (by decide) (fun K hK => ?_)
           refine goes_ Try.func98 (by kernel_rfl) rfl #[.agg #[.int .i64 ((rd_T43 l0 x7_1).f0), .int .i64 ((rd_T43 l0 x7_1).f1), .string ((rd_T43 l0 x7_1).f2), .int .i64 ((rd_T43 l0 x7_1).f3), .bool ((rd_T43 l0 x7_1).f4), .bool ((rd_T43 l0 x7_1).f5), .bool ((rd_T43 l0 x7_1).f6)]] (by rfl) rfl rfl (by (try simp only [List.map_toArray, List.map_cons, List.map_nil]); first | done | rfl | (simp only [List.length_drop, List.length_take]; rfl)) ?_
           with_reducible refine (impl_IsEvent.calls k1 ((rd_T43 l0 x7_1).f0) ((rd_T43 l0 x7_1).f1) ((rd_T43 l0 x7_1).f2) ((rd_T43 l0 x7_1).f3) ((rd_T43 l0 x7_1).f4) ((rd_T43 l0 x7_1).f5) ((rd_T43 l0 x7_1).f6) false _ A5.out).mono ?_
           rintro e w31 ⟨rfl, hb⟩
           refine ⟨_, rfl, ?_⟩
           have n0_ := Aside0.mk (bkb BK238 hb)
           have n1_ := Aside0.mk (bs_ hb)
           clear BK238 HB; revert n0_ n1_; intro BK238 HB
           (try clear hb)
           (try clear hb2)
           (try clear hk)
           (try clear hi)
           refine hK.out _ _ ⟨(blk_cell BK238.out 0).trans rfl, (blk_cell BK238.out 1).trans rfl, (blk_cell BK238.out 2).trans rfl, (blk_cell BK238.out 3).trans rfl, (blk_cell BK238.out 4).trans rfl, (blk_cell BK238.out 5).trans rfl, (blk_cell BK238.out 6).trans rfl⟩ (fun hHeld => ?_)
           clear hK K
           refine sqN_ 13 ?_
           refine sqP_ 2 14 (fb 18 7) (any_of HT_.out (by kernel_rfl)) ?_
           refine sqP_ 3 15 (fb 18 15) (any_of HT_.out (by kernel_rfl)) ?_
           refine sqO_ 4 16 (fb 18 31) (any_of HT_.out (by kernel_rfl)) ?_
           refine sqO_ 5 17 (fb 18 63) (any_of HT_.out (by kernel_rfl)) ?_
           refine sqO_ 6 18 (fb 18 127) (any_of HT_.out (by kernel_rfl)) ?_
           refine sqO_ 7 19 (fb 18 255) (any_of HT_.out (by kernel_rfl)) ?_
           refine sqO_ 8 20 (fb 18 511) (any_of HT_.out (by kernel_rfl)) ?_
           refine sqO_ 9 21 (fb 18 1023) (any_of HT_.out (by kernel_rfl)) ?_
           refine sqO_ 10 22 (fb 18 2047) (any_of HT_.out (by kernel_rfl)) ?_
           refine sqO_ 11 23 (fb 18 4095) (any_of HT_.out (by kernel_rfl)) ?_
           refine sqO_ 12 24 (fb 18 8191) (any_of HT_.out (by kernel_rfl)) ?_
           refine sqO_ 13 25 (fb 18 16383) (any_of HT_.out (by kernel_rfl)) ?_
           refine sqO_ 14 26 (fb 18 32767) (any_of HT_.out (by kernel_rfl)) ?_
           refine sqO_ 15 27 (fb 18 65535) (any_of HT_.out (by kernel_rfl)) ?_
           refine sqO_ 16 28 (fb 18 131071) (any_of HT_.out (by kernel_rfl)) ?_
           refine sqP_ 17 29 (fb 18 262143) (any_of HT_.out (by kernel_rfl)) ?_
           refine done_ (done_of HT_.out (by kernel_rfl)) ?_
           try go_wp2
           go_ret
           exact ⟨by first | rfl | (simp [errW_none, errW_some] <;> rfl) | (simp [*, errW_none, errW_some] <;> rfl), bb_⟩
       · rw [if_neg c4] at H
         exact absurd H (by simp)
     · rw [if_neg c3] at H
       exact absurd H (by simp)
   · rw [if_neg c2] at H
     have c2b0 : decide (x7_1 < (l0.length : Int)) = false := decide_eq_false c2
     clear c2
     obtain rfl := Option.some.inj H
     go_wp2
     go_ret
     exact ⟨by first | rfl | (simp [errW_none, errW_some] <;> rfl) | (simp [*, errW_none, errW_some] <;> rfl), bb_⟩

end Go.Proofs.Ytmfbkbbgokjhnaa.F
