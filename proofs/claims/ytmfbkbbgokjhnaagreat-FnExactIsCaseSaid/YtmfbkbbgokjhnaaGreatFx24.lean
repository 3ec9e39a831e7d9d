-- Written by this session's program (wip/bin/hp.py) over the kit's print: a function's Lean form, and a proof that the call does what it says.
import Derived.Test.YtmfbkbbgokjhnaaGreatFx0
import Derived.Test.YtmfbkbbgokjhnaaGreatSq
import Derived.Test.YtmfbkbbgokjhnaaGreatFx21
import Derived.Test.YtmfbkbbgokjhnaaGreatFx18
namespace Go.Proofs.YtmfbkbbgokjhnaaGreat.F
open Go.RowKit Go.Proofs.YtmfbkbbgokjhnaaGreatW.PrintWords Go.Proofs.YtmfbkbbgokjhnaaGreatW.PrintLast Go.Proofs.YtmfbkbbgokjhnaaGreatW.PrintMore
attribute [local go_sem] max2_int min2_int max_two min_two max_three min_three max_four min_four   -- for this text's walks alone
set_option linter.unusedVariables false
set_option linter.unusedSimpArgs false

/-! ### impl_IsLog: function 48 -/
def impl_IsLog.l0 : Nat → List (S65) → List (S65) → Int → Int → Option (Bool)
 | 0, _, _, _, _ => none
 | k + 1, x0, x5, x6, x7 => if x7 < x6 then (if 0 ≤ x7 then (if x7 < (x5.length : Int) then ((impl_IsEvent.f k ((rd_T65 x5 x7).f0) ((rd_T65 x5 x7).f1) ((rd_T65 x5 x7).f2) ((rd_T65 x5 x7).f3) ((rd_T65 x5 x7).f4) ((rd_T65 x5 x7).f5) ((rd_T65 x5 x7).f6)).bind fun t267 => (if t267 = true then (if x7 > 0 then (if 0 ≤ (wrap64 (x7 - 1)) then (if (wrap64 (x7 - 1)) < (x0.length : Int) then (if ((rd_T65 x0 (wrap64 (x7 - 1))).f0) > ((rd_T65 x5 x7).f0) then (some false) else (impl_IsLog.l0 k x0 x5 x6 (wrap64 (x7 + 1)))) else (none)) else (none)) else (impl_IsLog.l0 k x0 x5 x6 (wrap64 (x7 + 1)))) else (some false))) else (none)) else (none)) else (some (decide ((x0.length : Int) ≤ 15)))
def impl_IsLog.f (k : Nat) (l0 : List (S65)) : Option (Bool) := impl_IsLog.l0 k l0 l0 (l0.length : Int) 0
theorem impl_IsLog.mono_l : ∀ k, (∀ y0 y1 y2 y3, LeO (impl_IsLog.l0 k y0 y1 y2 y3) (impl_IsLog.l0 (k + 1) y0 y1 y2 y3))
 | 0 => fun _ _ _ _ r h => by simp [impl_IsLog.l0] at h
 | k + 1 => by
  have ih0 := impl_IsLog.mono_l k
  · intro y0 y1 y2 y3
    unfold impl_IsLog.l0
    repeat' first
    | (with_reducible exact ih0 _ _ _ _)
    | (with_reducible exact impl_IsEvent.mono _ _ _ _ _ _ _ _)
    | (with_reducible exact LeO.refl _)
    | (with_reducible exact LeO.none _)
    | (with_reducible refine LeO.ite ?_ ?_)
    | (with_reducible refine LeO.bind ?_ (fun _ => ?_))
    | exact ih0 _ _ _ _
    | exact impl_IsEvent.mono _ _ _ _ _ _ _ _
    | exact LeO.none _
    | refine LeO.ite ?_ ?_
    | refine LeO.bind ?_ (fun _ => ?_)
theorem impl_IsLog.mono : ∀ a0 k, LeO (impl_IsLog.f k a0) (impl_IsLog.f (k + 1) a0) := by
 intro a0 k
 have ih0 := impl_IsLog.mono_l k
 unfold impl_IsLog.f
 repeat' first
  | (with_reducible exact ih0 _ _ _ _)
  | (with_reducible exact impl_IsEvent.mono _ _ _ _ _ _ _ _)
  | (with_reducible exact LeO.refl _)
  | (with_reducible exact LeO.none _)
  | (with_reducible refine LeO.ite ?_ ?_)
  | (with_reducible refine LeO.bind ?_ (fun _ => ?_))
  | exact ih0 _ _ _ _
  | exact impl_IsEvent.mono _ _ _ _ _ _ _ _
  | exact LeO.none _
  | refine LeO.ite ?_ ?_
  | refine LeO.bind ?_ (fun _ => ?_)
def impl_IsLog.T4 : Bool × List (List Nat × List Nat) := (true, [([], []), ([0], [0]), ([1], [1]), ([2, 1], [2]), ([3], [3]), ([4, 3], [3, 4]), ([5, 3, 3], [3, 5]), ([6], [6]), ([6], [6]), ([8, 6], [6, 8]), ([7, 9, 6], [6, 7, 9]), ([10, 6], [6, 10]), ([11, 6], [6, 11]), ([6], [6]), ([13, 6], [6, 13]), ([12, 14, 6], [6, 12, 14]), ([6, 15, 3], [3, 6, 15]), ([3, 16], [3, 16])])
def impl_IsLog.B4 : List Nat := [0, 1, 3, 7, 15, 31, 63, 127, 127, 383, 1023, 2047, 4095, 127, 8319, 32767, 65535, 131071]
theorem impl_IsLog.tab4 : rtab .any (opsOf Tryz.f48 4) = impl_IsLog.T4 := by kernel_rfl
theorem impl_IsLog.bits4 : waitsOk impl_IsLog.T4.2 impl_IsLog.B4 = true := by kernel_rfl
set_option maxHeartbeats 8000000 in
set_option maxRecDepth 100000 in
theorem impl_IsLog.calls (k : Nat) (A0 : Option Addr) (c0 : Nat) (l0 : List (S65)) (r : Bool) (w : World) (hr0 : Kd.C k65 w A0 l0.length l0) (hc0 : l0.length ≤ c0) (h : impl_IsLog.f k l0 = some r) :
 Calls Tryz.prog 48 #[.slice A0 l0.length c0] w fun e w' => e = .returned (.bool r) ∧ Below w.heap.size w w' := by
 have hu65 := Tryz.underlying65
 have HR0 := Aside0.mk hr0
 have HC0 := Aside0.mk hc0
 clear hr0 hc0
 have HB := Aside0.mk (Below.refl w.heap.size w)
 have H : (impl_IsLog.l0 k l0 l0 (l0.length : Int) 0) = some r := h
 clear h
 have H' := Aside0.mk H
 clear H
 go_enter Tryz.func48, Tryz.ntmps48
 go_wp2
 go_loopg [7] k (fun kq v7 w' => ∃ (x7_1 : Int), v7 = .int .i64 x7_1 ∧ Aside0 (impl_IsLog.l0 kq l0 l0 (l0.length : Int) x7_1 = some r) ∧ Aside0 (kq ≤ k) ∧ Aside0 (Below w.heap.size w w'))
 case atStart => exact ⟨(0), (by first | rfl | (simp; done) | (simp [*]; done)), H', ⟨Nat.le_refl _⟩, ⟨bb_⟩⟩
 case round =>
  clear H'
  obtain ⟨x7_1, rfl, HA, HK1, HB⟩ := hrel
  cases gk with
  | zero => exact absurd HA.out (by simp [impl_IsLog.l0])
  | succ k1 =>
   have H := HA.out
   clear HA
   simp only [impl_IsLog.l0] at H
   by_cases c2 : x7_1 < (l0.length : Int)
   · rw [if_pos c2] at H
     have c2b0 : decide (x7_1 < (l0.length : Int)) = true := decide_eq_true c2
     clear c2
     by_cases c3 : 0 ≤ x7_1
     · rw [if_pos c3] at H
       have c3b0 : decide (0 ≤ x7_1) = true := decide_eq_true c3
       clear c3
       by_cases c4 : x7_1 < (l0.length : Int)
       · rw [if_pos c4] at H
         have c4b0 : decide (x7_1 < (l0.length : Int)) = true := decide_eq_true c4
         clear c4
         replace H := Option.bind_eq_some_iff.mp H
         obtain ⟨t267, A50, H⟩ := H
         replace H : (if t267 = true then (if x7_1 > 0 then (if 0 ≤ (wrap64 (x7_1 - 1)) then (if (wrap64 (x7_1 - 1)) < (l0.length : Int) then (if ((rd_T65 l0 (wrap64 (x7_1 - 1))).f0) > ((rd_T65 l0 x7_1).f0) then (some false) else (impl_IsLog.l0 k1 l0 l0 (l0.length : Int) (wrap64 (x7_1 + 1)))) else (none)) else (none)) else (impl_IsLog.l0 k1 l0 l0 (l0.length : Int) (wrap64 (x7_1 + 1)))) else (some false)) = some r := H
         have A5 := Aside0.mk A50
         clear A50
         by_cases c6 : t267 = true
         · subst c6
           have H1 : (if x7_1 > 0 then (if 0 ≤ (wrap64 (x7_1 - 1)) then (if (wrap64 (x7_1 - 1)) < (l0.length : Int) then (if ((rd_T65 l0 (wrap64 (x7_1 - 1))).f0) > ((rd_T65 l0 x7_1).f0) then (some false) else (impl_IsLog.l0 k1 l0 l0 (l0.length : Int) (wrap64 (x7_1 + 1)))) else (none)) else (none)) else (impl_IsLog.l0 k1 l0 l0 (l0.length : Int) (wrap64 (x7_1 + 1)))) = some r := by rw [if_pos rfl] at H; exact H
           clear H
           have H := H1
           clear H1
           by_cases c7 : x7_1 > 0
           · rw [if_pos c7] at H
             have c7b0 : decide (0 < x7_1) = true := decide_eq_true c7
             clear c7
             obtain ⟨ji8, hji8⟩ : ∃ j_ : Int, (wrap64 (x7_1 - 1)) = j_ := ⟨_, rfl⟩
             replace H : (if 0 ≤ (ji8) then (if (ji8) < (l0.length : Int) then (if ((rd_T65 l0 (ji8)).f0) > ((rd_T65 l0 x7_1).f0) then (some false) else (impl_IsLog.l0 k1 l0 l0 (l0.length : Int) (wrap64 (x7_1 + 1)))) else (none)) else (none)) = some r := by first | (rw [hji8] at H; exact H) | (simp only [hji8] at H ⊢; exact H)
             (try rw [hji8] at A5)
             have hji8w : (IntKind.i64.wrap (x7_1 - 1)) = ji8 := (i64_w _).trans hji8
             by_cases c9 : 0 ≤ (ji8)
             · rw [if_pos c9] at H
               have c9b0 : decide (0 ≤ (ji8)) = true := decide_eq_true c9
               clear c9
               by_cases c10 : (ji8) < (l0.length : Int)
               · rw [if_pos c10] at H
                 have c10b0 : decide ((ji8) < (l0.length : Int)) = true := decide_eq_true c10
                 clear c10
                 by_cases c11 : ((rd_T65 l0 (ji8)).f0) > ((rd_T65 l0 x7_1).f0)
                 · rw [if_pos c11] at H
                   have c11b0 : decide (((rd_T65 l0 x7_1).f0) < ((rd_T65 l0 (ji8)).f0)) = true := decide_eq_true c11
                   clear c11
                   obtain rfl := Option.some.inj H
                   have p265 : 0 ≤ (x7_1 : Int) := of_decide_eq_true (by first | (with_reducible assumption) | assumption)
                   have q265 : x7_1 < (l0.length : Int) := of_decide_eq_true (by first | (with_reducible assumption) | assumption)
                   obtain ⟨ad265, e265, hx265_0, hx265_1, hx265_2, hx265_3, hx265_4, hx265_5, hx265_6⟩ := at_T65 HR0.out x7_1 p265 q265
                   cases e265
                   replace hx265_0 := cel HB hx265_0
                   replace hx265_1 := cel HB hx265_1
                   replace hx265_2 := cel HB hx265_2
                   replace hx265_3 := cel HB hx265_3
                   replace hx265_4 := cel HB hx265_4
                   replace hx265_5 := cel HB hx265_5
                   replace hx265_6 := cel HB hx265_6
                   replace p265 := eq_true p265
                   replace q265 := eq_true q265
                   try go_wp2_with (first | ((with_reducible refine gate_dst (N := 4) rfl ?_); refine box_event ?hg (N := 4) ?hd (cs := #[.int .i64 0, .int .i64 0, .string (⟨#[]⟩ : ByteArray), .int .i64 0, .bool false, .bool false, .bool false]) (t := 65) ?hr ?_; (case hd => rfl); (case hg => rfl); (case hr => first | (go_simp; done) | (go_simp; rfl)); intro gb266 hg w12 hbox hb; have n0_ := Aside0.mk (bs_ hb); have n1_ := Aside0.mk (hbox); have n2_ := Aside0.mk ((by rw [hg]; exact (bz_) : w.heap.size ≤ gb266)); have n3_ := Aside0.mk ((by rw [hg]; exact (bz_) : w.heap.size ≤ gb266)); clear HB; have HB := n0_; have BK266 := n1_; have GW266 := n2_; have GE266 := n3_; clear n0_ n1_ n2_ n3_; clear hb hbox hg; have hcz13_0 := bk BK266 0; have hcz13_1 := bk BK266 1; have hcz13_2 := bk BK266 2; have hcz13_3 := bk BK266 3; have hcz13_4 := bk BK266 4; have hcz13_5 := bk BK266 5; have hcz13_6 := bk BK266 6; have hfz13_0 := blk_frozen BK266.out 0; have hfz13_1 := blk_frozen BK266.out 1; have hfz13_2 := blk_frozen BK266.out 2; have hfz13_3 := blk_frozen BK266.out 3; have hfz13_4 := blk_frozen BK266.out 4; have hfz13_5 := blk_frozen BK266.out 5; have hfz13_6 := blk_frozen BK266.out 6))
                   have n0_ : Aside0 ((((((((w12.setCell ⟨gb266, 0, none⟩ (.int .i64 ((rd_T65 l0 x7_1).f0))).setCell ⟨gb266, 1, none⟩ (.int .i64 ((rd_T65 l0 x7_1).f1))).setCell ⟨gb266, 2, none⟩ (.string ((rd_T65 l0 x7_1).f2))).setCell ⟨gb266, 3, none⟩ (.int .i64 ((rd_T65 l0 x7_1).f3))).setCell ⟨gb266, 4, none⟩ (.bool ((rd_T65 l0 x7_1).f4))).setCell ⟨gb266, 5, none⟩ (.bool ((rd_T65 l0 x7_1).f5))).setCell ⟨gb266, 6, none⟩ (.bool ((rd_T65 l0 x7_1).f6))).heap[gb266]? = some (.cells #[.int .i64 ((rd_T65 l0 x7_1).f0), .int .i64 ((rd_T65 l0 x7_1).f1), .string ((rd_T65 l0 x7_1).f2), .int .i64 ((rd_T65 l0 x7_1).f3), .bool ((rd_T65 l0 x7_1).f4), .bool ((rd_T65 l0 x7_1).f5), .bool ((rd_T65 l0 x7_1).f6)] 65 (0, 0))) := ⟨by (with_reducible repeat (first | refine blk_drewN ?_ _ | refine blk_drew ?_ | refine blk_alloc ?_ _)); refine blk_put (cs := #[.int .i64 ((rd_T65 l0 x7_1).f0), .int .i64 ((rd_T65 l0 x7_1).f1), .string ((rd_T65 l0 x7_1).f2), .int .i64 ((rd_T65 l0 x7_1).f3), .bool ((rd_T65 l0 x7_1).f4), .bool ((rd_T65 l0 x7_1).f5), .bool false]) ?_ 6 _ rfl; (with_reducible repeat (first | refine blk_drewN ?_ _ | refine blk_drew ?_ | refine blk_alloc ?_ _)); refine blk_put (cs := #[.int .i64 ((rd_T65 l0 x7_1).f0), .int .i64 ((rd_T65 l0 x7_1).f1), .string ((rd_T65 l0 x7_1).f2), .int .i64 ((rd_T65 l0 x7_1).f3), .bool ((rd_T65 l0 x7_1).f4), .bool false, .bool false]) ?_ 5 _ rfl; (with_reducible repeat (first | refine blk_drewN ?_ _ | refine blk_drew ?_ | refine blk_alloc ?_ _)); refine blk_put (cs := #[.int .i64 ((rd_T65 l0 x7_1).f0), .int .i64 ((rd_T65 l0 x7_1).f1), .string ((rd_T65 l0 x7_1).f2), .int .i64 ((rd_T65 l0 x7_1).f3), .bool false, .bool false, .bool false]) ?_ 4 _ rfl; (with_reducible repeat (first | refine blk_drewN ?_ _ | refine blk_drew ?_ | refine blk_alloc ?_ _)); refine blk_put (cs := #[.int .i64 ((rd_T65 l0 x7_1).f0), .int .i64 ((rd_T65 l0 x7_1).f1), .string ((rd_T65 l0 x7_1).f2), .int .i64 0, .bool false, .bool false, .bool false]) ?_ 3 _ rfl; (with_reducible repeat (first | refine blk_drewN ?_ _ | refine blk_drew ?_ | refine blk_alloc ?_ _)); refine blk_put (cs := #[.int .i64 ((rd_T65 l0 x7_1).f0), .int .i64 ((rd_T65 l0 x7_1).f1), .string (⟨#[]⟩ : ByteArray), .int .i64 0, .bool false, .bool false, .bool false]) ?_ 2 _ rfl; (with_reducible repeat (first | refine blk_drewN ?_ _ | refine blk_drew ?_ | refine blk_alloc ?_ _)); refine blk_put (cs := #[.int .i64 ((rd_T65 l0 x7_1).f0), .int .i64 0, .string (⟨#[]⟩ : ByteArray), .int .i64 0, .bool false, .bool false, .bool false]) ?_ 1 _ rfl; (with_reducible repeat (first | refine blk_drewN ?_ _ | refine blk_drew ?_ | refine blk_alloc ?_ _)); refine blk_put (cs := #[.int .i64 0, .int .i64 0, .string (⟨#[]⟩ : ByteArray), .int .i64 0, .bool false, .bool false, .bool false]) ?_ 0 _ rfl; (with_reducible repeat (first | refine blk_drewN ?_ _ | refine blk_drew ?_ | refine blk_alloc ?_ _)); exact BK266.out⟩
                   have n1_ : Aside0 (Below w.heap.size w (((((((w12.setCell ⟨gb266, 0, none⟩ (.int .i64 ((rd_T65 l0 x7_1).f0))).setCell ⟨gb266, 1, none⟩ (.int .i64 ((rd_T65 l0 x7_1).f1))).setCell ⟨gb266, 2, none⟩ (.string ((rd_T65 l0 x7_1).f2))).setCell ⟨gb266, 3, none⟩ (.int .i64 ((rd_T65 l0 x7_1).f3))).setCell ⟨gb266, 4, none⟩ (.bool ((rd_T65 l0 x7_1).f4))).setCell ⟨gb266, 5, none⟩ (.bool ((rd_T65 l0 x7_1).f5))).setCell ⟨gb266, 6, none⟩ (.bool ((rd_T65 l0 x7_1).f6)))) := ⟨bb_⟩
                   (try clear BK266)
                   (try clear HB)
                   generalize (((((((w12.setCell ⟨gb266, 0, none⟩ (.int .i64 ((rd_T65 l0 x7_1).f0))).setCell ⟨gb266, 1, none⟩ (.int .i64 ((rd_T65 l0 x7_1).f1))).setCell ⟨gb266, 2, none⟩ (.string ((rd_T65 l0 x7_1).f2))).setCell ⟨gb266, 3, none⟩ (.int .i64 ((rd_T65 l0 x7_1).f3))).setCell ⟨gb266, 4, none⟩ (.bool ((rd_T65 l0 x7_1).f4))).setCell ⟨gb266, 5, none⟩ (.bool ((rd_T65 l0 x7_1).f5))).setCell ⟨gb266, 6, none⟩ (.bool ((rd_T65 l0 x7_1).f6))) = w14 at n0_ n1_ ⊢
                   have BK266 := n0_
                   have HB := n1_
                   clear n0_ n1_
                   have n0_ := Aside0.mk (blk_drew BK266.out)
                   have n1_ := Aside0.mk (below_drew1 HB.out)
                   clear BK266
                   clear HB
                   have BK266 := n0_
                   have HB := n1_
                   clear n0_ n1_
                   have p268 : 0 ≤ ((ji8) : Int) := of_decide_eq_true (by first | (with_reducible assumption) | assumption)
                   have q268 : (ji8) < (l0.length : Int) := of_decide_eq_true (by first | (with_reducible assumption) | assumption)
                   obtain ⟨ad268, e268, hx268_0, hx268_1, hx268_2, hx268_3, hx268_4, hx268_5, hx268_6⟩ := at_T65 HR0.out (ji8) p268 q268
                   have hw268_6 := hx268_6
                   have hw268_5 := hx268_5
                   have hw268_4 := hx268_4
                   have hw268_3 := hx268_3
                   have hw268_2 := hx268_2
                   have hw268_1 := hx268_1
                   have hw268_0 := hx268_0
                   obtain rfl : ad265 = ad268 := (by injection e268)
                   replace hx268_0 := cel HB hx268_0
                   replace hx268_1 := cel HB hx268_1
                   replace hx268_2 := cel HB hx268_2
                   replace hx268_3 := cel HB hx268_3
                   replace hx268_4 := cel HB hx268_4
                   replace hx268_5 := cel HB hx268_5
                   replace hx268_6 := cel HB hx268_6
                   replace p268 := eq_true p268
                   replace q268 := eq_true q268
                   refine start_ (n := 18) (S := fun w' => w'.cell? ⟨gb266, 0, none⟩ = some (.int .i64 ((rd_T65 l0 x7_1).f0)) ∧ w'.cell? ⟨gb266, 1, none⟩ = some (.int .i64 ((rd_T65 l0 x7_1).f1)) ∧ w'.cell? ⟨gb266, 2, none⟩ = some (.string ((rd_T65 l0 x7_1).f2)) ∧ w'.cell? ⟨gb266, 3, none⟩ = some (.int .i64 ((rd_T65 l0 x7_1).f3)) ∧ w'.cell? ⟨gb266, 4, none⟩ = some (.bool ((rd_T65 l0 x7_1).f4)) ∧ w'.cell? ⟨gb266, 5, none⟩ = some (.bool ((rd_T65 l0 x7_1).f5)) ∧ w'.cell? ⟨gb266, 6, none⟩ = some (.bool ((rd_T65 l0 x7_1).f6)) ∧ w'.cell? (ad265.add (((ji8)).toNat * 7)) = some (.int .i64 ((rd_T65 l0 (ji8)).f0)) ∧ w'.cell? ⟨(ad265.add (((ji8)).toNat * 7)).block, (ad265.add (((ji8)).toNat * 7)).off + 1, none⟩ = some (.int .i64 ((rd_T65 l0 (ji8)).f1)) ∧ w'.cell? ⟨(ad265.add (((ji8)).toNat * 7)).block, (ad265.add (((ji8)).toNat * 7)).off + 2, none⟩ = some (.string ((rd_T65 l0 (ji8)).f2)) ∧ w'.cell? ⟨(ad265.add (((ji8)).toNat * 7)).block, (ad265.add (((ji8)).toNat * 7)).off + 3, none⟩ = some (.int .i64 ((rd_T65 l0 (ji8)).f3)) ∧ w'.cell? ⟨(ad265.add (((ji8)).toNat * 7)).block, (ad265.add (((ji8)).toNat * 7)).off + 4, none⟩ = some (.bool ((rd_T65 l0 (ji8)).f4)) ∧ w'.cell? ⟨(ad265.add (((ji8)).toNat * 7)).block, (ad265.add (((ji8)).toNat * 7)).off + 5, none⟩ = some (.bool ((rd_T65 l0 (ji8)).f5)) ∧ w'.cell? ⟨(ad265.add (((ji8)).toNat * 7)).block, (ad265.add (((ji8)).toNat * 7)).off + 6, none⟩ = some (.bool ((rd_T65 l0 (ji8)).f6))) (ds := []) (fb 18 0) (by kernel_rfl) rfl rfl ⟨(blk_cell BK266.out 0).trans rfl, (blk_cell BK266.out 1).trans rfl, (blk_cell BK266.out 2).trans rfl, (blk_cell BK266.out 3).trans rfl, (blk_cell BK266.out 4).trans rfl, (blk_cell BK266.out 5).trans rfl, (blk_cell BK266.out 6).trans rfl, ((HB.out.cell (World.block_lt_of_cell? w _ hw268_0)).trans hw268_0), ((HB.out.cell (World.block_lt_of_cell? w _ hw268_1)).trans hw268_1), ((HB.out.cell (World.block_lt_of_cell? w _ hw268_2)).trans hw268_2), ((HB.out.cell (World.block_lt_of_cell? w _ hw268_3)).trans hw268_3), ((HB.out.cell (World.block_lt_of_cell? w _ hw268_4)).trans hw268_4), ((HB.out.cell (World.block_lt_of_cell? w _ hw268_5)).trans hw268_5), ((HB.out.cell (World.block_lt_of_cell? w _ hw268_6)).trans hw268_6)⟩ (fun hHeld => ?_); refine with_tabW impl_IsLog.tab4 impl_IsLog.bits4 (fun HT_ HW_ => ?_)
                   generalize w14.drew = w15 at BK266 HB hx268_0 hx268_1 hx268_2 hx268_3 hx268_4 hx268_5 hx268_6 hHeld ⊢
                   refine sqT_ 0 12 (fb 18 1) (take_ofW HT_.out HW_.out (by kernel_rfl)) hHeld ?_
                   refine one_ (i := 1) (N := some 13) (fb 18 3) rfl rfl (one_of HT_.out (by kernel_rfl)) (by decide) (fun K hK => ?_)
                   refine goes_ Tryz.func98 (by kernel_rfl) rfl #[.agg #[.int .i64 ((rd_T65 l0 x7_1).f0), .int .i64 ((rd_T65 l0 x7_1).f1), .string ((rd_T65 l0 x7_1).f2), .int .i64 ((rd_T65 l0 x7_1).f3), .bool ((rd_T65 l0 x7_1).f4), .bool ((rd_T65 l0 x7_1).f5), .bool ((rd_T65 l0 x7_1).f6)]] (by rfl) rfl rfl (by (try simp only [List.map_toArray, List.map_cons, List.map_nil]); first | done | rfl | (simp only [List.length_drop, List.length_take]; rfl)) ?_
                   with_reducible refine (impl_IsEvent.calls k1 ((rd_T65 l0 x7_1).f0) ((rd_T65 l0 x7_1).f1) ((rd_T65 l0 x7_1).f2) ((rd_T65 l0 x7_1).f3) ((rd_T65 l0 x7_1).f4) ((rd_T65 l0 x7_1).f5) ((rd_T65 l0 x7_1).f6) true _ A5.out).mono ?_
                   rintro e w16 ⟨rfl, hb⟩
                   refine ⟨_, rfl, ?_⟩
                   have n0_ := Aside0.mk (blk_below (g := gb266) (o := .cells #[.int .i64 ((rd_T65 l0 x7_1).f0), .int .i64 ((rd_T65 l0 x7_1).f1), .string ((rd_T65 l0 x7_1).f2), .int .i64 ((rd_T65 l0 x7_1).f3), .bool ((rd_T65 l0 x7_1).f4), .bool ((rd_T65 l0 x7_1).f5), .bool ((rd_T65 l0 x7_1).f6)] 65 (0, 0)) (by (with_reducible repeat (first | refine blk_drewN ?_ _ | refine blk_drew ?_ | refine blk_alloc ?_ _)); exact BK266.out) hb)
                   have n1_ := Aside0.mk (bs_ hb)
                   clear BK266
                   clear HB
                   have BK266 := n0_
                   have HB := n1_
                   clear n0_ n1_
                   (try clear hb)
                   (try clear hb2)
                   (try clear hk)
                   (try clear hi)
                   refine hK.out _ _ ⟨(blk_cell BK266.out 0).trans rfl, (blk_cell BK266.out 1).trans rfl, (blk_cell BK266.out 2).trans rfl, (blk_cell BK266.out 3).trans rfl, (blk_cell BK266.out 4).trans rfl, (blk_cell BK266.out 5).trans rfl, (blk_cell BK266.out 6).trans rfl, ((HB.out.cell (World.block_lt_of_cell? w _ hw268_0)).trans hw268_0), ((HB.out.cell (World.block_lt_of_cell? w _ hw268_1)).trans hw268_1), ((HB.out.cell (World.block_lt_of_cell? w _ hw268_2)).trans hw268_2), ((HB.out.cell (World.block_lt_of_cell? w _ hw268_3)).trans hw268_3), ((HB.out.cell (World.block_lt_of_cell? w _ hw268_4)).trans hw268_4), ((HB.out.cell (World.block_lt_of_cell? w _ hw268_5)).trans hw268_5), ((HB.out.cell (World.block_lt_of_cell? w _ hw268_6)).trans hw268_6)⟩ (fun hHeld => ?_)
                   clear hK K
                   refine sqN_ 13 ?_
                   refine sqP_ 2 14 (fb 18 7) (any_of HT_.out (by kernel_rfl)) ?_
                   refine sqP_ 3 15 (fb 18 15) (any_of HT_.out (by kernel_rfl)) ?_
                   refine sqP_ 4 16 (fb 18 31) (any_of HT_.out (by kernel_rfl)) ?_
                   refine sqP_ 5 17 (fb 18 63) (any_of HT_.out (by kernel_rfl)) ?_
                   refine sqP_ 6 18 (fb 18 127) (any_of HT_.out (by kernel_rfl)) ?_
                   refine sqP_ 7 19 (fb 18 255) (any_of HT_.out (by kernel_rfl)) ?_
                   refine sqP_ 8 20 (fb 18 511) (any_of HT_.out (by kernel_rfl)) ?_
                   refine sqP_ 9 21 (fb 18 1023) (any_of HT_.out (by kernel_rfl)) ?_
                   refine sqP_ 10 22 (fb 18 2047) (any_of HT_.out (by kernel_rfl)) ?_
                   refine sqP_ 11 23 (fb 18 4095) (any_of HT_.out (by kernel_rfl)) ?_
                   refine sqP_ 13 25 (fb 18 12287) (any_of HT_.out (by kernel_rfl)) ?_
                   refine sqT_ 12 24 (fb 18 16383) (take_ofW HT_.out HW_.out (by kernel_rfl)) hHeld ?_
                   refine sqT_ 14 26 (fb 18 32767) (take_ofW HT_.out HW_.out (by kernel_rfl)) hHeld ?_
                   refine sqP_ 15 27 (fb 18 65535) (any_of HT_.out (by kernel_rfl)) ?_
                   refine sqP_ 16 28 (fb 18 131071) (any_of HT_.out (by kernel_rfl)) ?_
                   refine sqP_ 17 29 (fb 18 262143) (any_of HT_.out (by kernel_rfl)) ?_
                   refine done_ (done_of HT_.out (by kernel_rfl)) ?_
                   try go_wp2
                   go_ret
                   exact ⟨by first | rfl | (simp [errW_none, errW_some] <;> rfl) | (simp only [← hji8]; first | rfl | (simp [errW_none, errW_some] <;> rfl)) | (simp [*, errW_none, errW_some] <;> rfl), bb_⟩
                 · rw [if_neg c11] at H
                   have c11b0 : decide (((rd_T65 l0 x7_1).f0) < ((rd_T65 l0 (ji8)).f0)) = false := decide_eq_false c11
                   clear c11
                   have H' := Aside0.mk H
                   clear H
                   have p265 : 0 ≤ (x7_1 : Int) := of_decide_eq_true (by first | (with_reducible assumption) | assumption)
                   have q265 : x7_1 < (l0.length : Int) := of_decide_eq_true (by first | (with_reducible assumption) | assumption)
                   obtain ⟨ad265, e265, hx265_0, hx265_1, hx265_2, hx265_3, hx265_4, hx265_5, hx265_6⟩ := at_T65 HR0.out x7_1 p265 q265
                   cases e265
                   replace hx265_0 := cel HB hx265_0
                   replace hx265_1 := cel HB hx265_1
                   replace hx265_2 := cel HB hx265_2
                   replace hx265_3 := cel HB hx265_3
                   replace hx265_4 := cel HB hx265_4
                   replace hx265_5 := cel HB hx265_5
                   replace hx265_6 := cel HB hx265_6
                   replace p265 := eq_true p265
                   replace q265 := eq_true q265
                   try go_wp2_with (first | ((with_reducible refine gate_dst (N := 4) rfl ?_); refine box_event ?hg (N := 4) ?hd (cs := #[.int .i64 0, .int .i64 0, .string (⟨#[]⟩ : ByteArray), .int .i64 0, .bool false, .bool false, .bool false]) (t := 65) ?hr ?_; (case hd => rfl); (case hg => rfl); (case hr => first | (go_simp; done) | (go_simp; rfl)); intro gb266 hg w17 hbox hb; have n0_ := Aside0.mk (bs_ hb); have n1_ := Aside0.mk (hbox); have n2_ := Aside0.mk ((by rw [hg]; exact (bz_) : w.heap.size ≤ gb266)); have n3_ := Aside0.mk ((by rw [hg]; exact (bz_) : w.heap.size ≤ gb266)); clear HB; have HB := n0_; have BK266 := n1_; have GW266 := n2_; have GE266 := n3_; clear n0_ n1_ n2_ n3_; clear hb hbox hg; have hcz18_0 := bk BK266 0; have hcz18_1 := bk BK266 1; have hcz18_2 := bk BK266 2; have hcz18_3 := bk BK266 3; have hcz18_4 := bk BK266 4; have hcz18_5 := bk BK266 5; have hcz18_6 := bk BK266 6; have hfz18_0 := blk_frozen BK266.out 0; have hfz18_1 := blk_frozen BK266.out 1; have hfz18_2 := blk_frozen BK266.out 2; have hfz18_3 := blk_frozen BK266.out 3; have hfz18_4 := blk_frozen BK266.out 4; have hfz18_5 := blk_frozen BK266.out 5; have hfz18_6 := blk_frozen BK266.out 6))
                   have n0_ : Aside0 ((((((((w17.setCell ⟨gb266, 0, none⟩ (.int .i64 ((rd_T65 l0 x7_1).f0))).setCell ⟨gb266, 1, none⟩ (.int .i64 ((rd_T65 l0 x7_1).f1))).setCell ⟨gb266, 2, none⟩ (.string ((rd_T65 l0 x7_1).f2))).setCell ⟨gb266, 3, none⟩ (.int .i64 ((rd_T65 l0 x7_1).f3))).setCell ⟨gb266, 4, none⟩ (.bool ((rd_T65 l0 x7_1).f4))).setCell ⟨gb266, 5, none⟩ (.bool ((rd_T65 l0 x7_1).f5))).setCell ⟨gb266, 6, none⟩ (.bool ((rd_T65 l0 x7_1).f6))).heap[gb266]? = some (.cells #[.int .i64 ((rd_T65 l0 x7_1).f0), .int .i64 ((rd_T65 l0 x7_1).f1), .string ((rd_T65 l0 x7_1).f2), .int .i64 ((rd_T65 l0 x7_1).f3), .bool ((rd_T65 l0 x7_1).f4), .bool ((rd_T65 l0 x7_1).f5), .bool ((rd_T65 l0 x7_1).f6)] 65 (0, 0))) := ⟨by (with_reducible repeat (first | refine blk_drewN ?_ _ | refine blk_drew ?_ | refine blk_alloc ?_ _)); refine blk_put (cs := #[.int .i64 ((rd_T65 l0 x7_1).f0), .int .i64 ((rd_T65 l0 x7_1).f1), .string ((rd_T65 l0 x7_1).f2), .int .i64 ((rd_T65 l0 x7_1).f3), .bool ((rd_T65 l0 x7_1).f4), .bool ((rd_T65 l0 x7_1).f5), .bool false]) ?_ 6 _ rfl; (with_reducible repeat (first | refine blk_drewN ?_ _ | refine blk_drew ?_ | refine blk_alloc ?_ _)); refine blk_put (cs := #[.int .i64 ((rd_T65 l0 x7_1).f0), .int .i64 ((rd_T65 l0 x7_1).f1), .string ((rd_T65 l0 x7_1).f2), .int .i64 ((rd_T65 l0 x7_1).f3), .bool ((rd_T65 l0 x7_1).f4), .bool false, .bool false]) ?_ 5 _ rfl; (with_reducible repeat (first | refine blk_drewN ?_ _ | refine blk_drew ?_ | refine blk_alloc ?_ _)); refine blk_put (cs := #[.int .i64 ((rd_T65 l0 x7_1).f0), .int .i64 ((rd_T65 l0 x7_1).f1), .string ((rd_T65 l0 x7_1).f2), .int .i64 ((rd_T65 l0 x7_1).f3), .bool false, .bool false, .bool false]) ?_ 4 _ rfl; (with_reducible repeat (first | refine blk_drewN ?_ _ | refine blk_drew ?_ | refine blk_alloc ?_ _)); refine blk_put (cs := #[.int .i64 ((rd_T65 l0 x7_1).f0), .int .i64 ((rd_T65 l0 x7_1).f1), .string ((rd_T65 l0 x7_1).f2), .int .i64 0, .bool false, .bool false, .bool false]) ?_ 3 _ rfl; (with_reducible repeat (first | refine blk_drewN ?_ _ | refine blk_drew ?_ | refine blk_alloc ?_ _)); refine blk_put (cs := #[.int .i64 ((rd_T65 l0 x7_1).f0), .int .i64 ((rd_T65 l0 x7_1).f1), .string (⟨#[]⟩ : ByteArray), .int .i64 0, .bool false, .bool false, .bool false]) ?_ 2 _ rfl; (with_reducible repeat (first | refine blk_drewN ?_ _ | refine blk_drew ?_ | refine blk_alloc ?_ _)); refine blk_put (cs := #[.int .i64 ((rd_T65 l0 x7_1).f0), .int .i64 0, .string (⟨#[]⟩ : ByteArray), .int .i64 0, .bool false, .bool false, .bool false]) ?_ 1 _ rfl; (with_reducible repeat (first | refine blk_drewN ?_ _ | refine blk_drew ?_ | refine blk_alloc ?_ _)); refine blk_put (cs := #[.int .i64 0, .int .i64 0, .string (⟨#[]⟩ : ByteArray), .int .i64 0, .bool false, .bool false, .bool false]) ?_ 0 _ rfl; (with_reducible repeat (first | refine blk_drewN ?_ _ | refine blk_drew ?_ | refine blk_alloc ?_ _)); exact BK266.out⟩
                   have n1_ : Aside0 (Below w.heap.size w (((((((w17.setCell ⟨gb266, 0, none⟩ (.int .i64 ((rd_T65 l0 x7_1).f0))).setCell ⟨gb266, 1, none⟩ (.int .i64 ((rd_T65 l0 x7_1).f1))).setCell ⟨gb266, 2, none⟩ (.string ((rd_T65 l0 x7_1).f2))).setCell ⟨gb266, 3, none⟩ (.int .i64 ((rd_T65 l0 x7_1).f3))).setCell ⟨gb266, 4, none⟩ (.bool ((rd_T65 l0 x7_1).f4))).setCell ⟨gb266, 5, none⟩ (.bool ((rd_T65 l0 x7_1).f5))).setCell ⟨gb266, 6, none⟩ (.bool ((rd_T65 l0 x7_1).f6)))) := ⟨bb_⟩
                   (try clear BK266)
                   (try clear HB)
                   generalize (((((((w17.setCell ⟨gb266, 0, none⟩ (.int .i64 ((rd_T65 l0 x7_1).f0))).setCell ⟨gb266, 1, none⟩ (.int .i64 ((rd_T65 l0 x7_1).f1))).setCell ⟨gb266, 2, none⟩ (.string ((rd_T65 l0 x7_1).f2))).setCell ⟨gb266, 3, none⟩ (.int .i64 ((rd_T65 l0 x7_1).f3))).setCell ⟨gb266, 4, none⟩ (.bool ((rd_T65 l0 x7_1).f4))).setCell ⟨gb266, 5, none⟩ (.bool ((rd_T65 l0 x7_1).f5))).setCell ⟨gb266, 6, none⟩ (.bool ((rd_T65 l0 x7_1).f6))) = w19 at n0_ n1_ ⊢
                   have BK266 := n0_
                   have HB := n1_
                   clear n0_ n1_
                   have n0_ := Aside0.mk (blk_drew BK266.out)
                   have n1_ := Aside0.mk (below_drew1 HB.out)
                   clear BK266
                   clear HB
                   have BK266 := n0_
                   have HB := n1_
                   clear n0_ n1_
                   have p268 : 0 ≤ ((ji8) : Int) := of_decide_eq_true (by first | (with_reducible assumption) | assumption)
                   have q268 : (ji8) < (l0.length : Int) := of_decide_eq_true (by first | (with_reducible assumption) | assumption)
                   obtain ⟨ad268, e268, hx268_0, hx268_1, hx268_2, hx268_3, hx268_4, hx268_5, hx268_6⟩ := at_T65 HR0.out (ji8) p268 q268
                   have hw268_6 := hx268_6
                   have hw268_5 := hx268_5
                   have hw268_4 := hx268_4
                   have hw268_3 := hx268_3
                   have hw268_2 := hx268_2
                   have hw268_1 := hx268_1
                   have hw268_0 := hx268_0
                   obtain rfl : ad265 = ad268 := (by injection e268)
                   replace hx268_0 := cel HB hx268_0
                   replace hx268_1 := cel HB hx268_1
                   replace hx268_2 := cel HB hx268_2
                   replace hx268_3 := cel HB hx268_3
                   replace hx268_4 := cel HB hx268_4
                   replace hx268_5 := cel HB hx268_5
                   replace hx268_6 := cel HB hx268_6
                   replace p268 := eq_true p268
                   replace q268 := eq_true q268
                   refine start_ (n := 18) (S := fun w' => w'.cell? ⟨gb266, 0, none⟩ = some (.int .i64 ((rd_T65 l0 x7_1).f0)) ∧ w'.cell? ⟨gb266, 1, none⟩ = some (.int .i64 ((rd_T65 l0 x7_1).f1)) ∧ w'.cell? ⟨gb266, 2, none⟩ = some (.string ((rd_T65 l0 x7_1).f2)) ∧ w'.cell? ⟨gb266, 3, none⟩ = some (.int .i64 ((rd_T65 l0 x7_1).f3)) ∧ w'.cell? ⟨gb266, 4, none⟩ = some (.bool ((rd_T65 l0 x7_1).f4)) ∧ w'.cell? ⟨gb266, 5, none⟩ = some (.bool ((rd_T65 l0 x7_1).f5)) ∧ w'.cell? ⟨gb266, 6, none⟩ = some (.bool ((rd_T65 l0 x7_1).f6)) ∧ w'.cell? (ad265.add (((ji8)).toNat * 7)) = some (.int .i64 ((rd_T65 l0 (ji8)).f0)) ∧ w'.cell? ⟨(ad265.add (((ji8)).toNat * 7)).block, (ad265.add (((ji8)).toNat * 7)).off + 1, none⟩ = some (.int .i64 ((rd_T65 l0 (ji8)).f1)) ∧ w'.cell? ⟨(ad265.add (((ji8)).toNat * 7)).block, (ad265.add (((ji8)).toNat * 7)).off + 2, none⟩ = some (.string ((rd_T65 l0 (ji8)).f2)) ∧ w'.cell? ⟨(ad265.add (((ji8)).toNat * 7)).block, (ad265.add (((ji8)).toNat * 7)).off + 3, none⟩ = some (.int .i64 ((rd_T65 l0 (ji8)).f3)) ∧ w'.cell? ⟨(ad265.add (((ji8)).toNat * 7)).block, (ad265.add (((ji8)).toNat * 7)).off + 4, none⟩ = some (.bool ((rd_T65 l0 (ji8)).f4)) ∧ w'.cell? ⟨(ad265.add (((ji8)).toNat * 7)).block, (ad265.add (((ji8)).toNat * 7)).off + 5, none⟩ = some (.bool ((rd_T65 l0 (ji8)).f5)) ∧ w'.cell? ⟨(ad265.add (((ji8)).toNat * 7)).block, (ad265.add (((ji8)).toNat * 7)).off + 6, none⟩ = some (.bool ((rd_T65 l0 (ji8)).f6))) (ds := []) (fb 18 0) (by kernel_rfl) rfl rfl ⟨(blk_cell BK266.out 0).trans rfl, (blk_cell BK266.out 1).trans rfl, (blk_cell BK266.out 2).trans rfl, (blk_cell BK266.out 3).trans rfl, (blk_cell BK266.out 4).trans rfl, (blk_cell BK266.out 5).trans rfl, (blk_cell BK266.out 6).trans rfl, ((HB.out.cell (World.block_lt_of_cell? w _ hw268_0)).trans hw268_0), ((HB.out.cell (World.block_lt_of_cell? w _ hw268_1)).trans hw268_1), ((HB.out.cell (World.block_lt_of_cell? w _ hw268_2)).trans hw268_2), ((HB.out.cell (World.block_lt_of_cell? w _ hw268_3)).trans hw268_3), ((HB.out.cell (World.block_lt_of_cell? w _ hw268_4)).trans hw268_4), ((HB.out.cell (World.block_lt_of_cell? w _ hw268_5)).trans hw268_5), ((HB.out.cell (World.block_lt_of_cell? w _ hw268_6)).trans hw268_6)⟩ (fun hHeld => ?_); refine with_tabW impl_IsLog.tab4 impl_IsLog.bits4 (fun HT_ HW_ => ?_)
                   generalize w19.drew = w20 at BK266 HB hx268_0 hx268_1 hx268_2 hx268_3 hx268_4 hx268_5 hx268_6 hHeld ⊢
                   refine sqT_ 0 12 (fb 18 1) (take_ofW HT_.out HW_.out (by kernel_rfl)) hHeld ?_
                   refine one_ (i := 1) (N := some 13) (fb 18 3) rfl rfl (one_of HT_.out (by kernel_rfl)) (by decide) (fun K hK => ?_)
                   refine goes_ Tryz.func98 (by kernel_rfl) rfl #[.agg #[.int .i64 ((rd_T65 l0 x7_1).f0), .int .i64 ((rd_T65 l0 x7_1).f1), .string ((rd_T65 l0 x7_1).f2), .int .i64 ((rd_T65 l0 x7_1).f3), .bool ((rd_T65 l0 x7_1).f4), .bool ((rd_T65 l0 x7_1).f5), .bool ((rd_T65 l0 x7_1).f6)]] (by rfl) rfl rfl (by (try simp only [List.map_toArray, List.map_cons, List.map_nil]); first | done | rfl | (simp only [List.length_drop, List.length_take]; rfl)) ?_
                   with_reducible refine (impl_IsEvent.calls k1 ((rd_T65 l0 x7_1).f0) ((rd_T65 l0 x7_1).f1) ((rd_T65 l0 x7_1).f2) ((rd_T65 l0 x7_1).f3) ((rd_T65 l0 x7_1).f4) ((rd_T65 l0 x7_1).f5) ((rd_T65 l0 x7_1).f6) true _ A5.out).mono ?_
                   rintro e w21 ⟨rfl, hb⟩
                   refine ⟨_, rfl, ?_⟩
                   have n0_ := Aside0.mk (blk_below (g := gb266) (o := .cells #[.int .i64 ((rd_T65 l0 x7_1).f0), .int .i64 ((rd_T65 l0 x7_1).f1), .string ((rd_T65 l0 x7_1).f2), .int .i64 ((rd_T65 l0 x7_1).f3), .bool ((rd_T65 l0 x7_1).f4), .bool ((rd_T65 l0 x7_1).f5), .bool ((rd_T65 l0 x7_1).f6)] 65 (0, 0)) (by (with_reducible repeat (first | refine blk_drewN ?_ _ | refine blk_drew ?_ | refine blk_alloc ?_ _)); exact BK266.out) hb)
                   have n1_ := Aside0.mk (bs_ hb)
                   clear BK266
                   clear HB
                   have BK266 := n0_
                   have HB := n1_
                   clear n0_ n1_
                   (try clear hb)
                   (try clear hb2)
                   (try clear hk)
                   (try clear hi)
                   refine hK.out _ _ ⟨(blk_cell BK266.out 0).trans rfl, (blk_cell BK266.out 1).trans rfl, (blk_cell BK266.out 2).trans rfl, (blk_cell BK266.out 3).trans rfl, (blk_cell BK266.out 4).trans rfl, (blk_cell BK266.out 5).trans rfl, (blk_cell BK266.out 6).trans rfl, ((HB.out.cell (World.block_lt_of_cell? w _ hw268_0)).trans hw268_0), ((HB.out.cell (World.block_lt_of_cell? w _ hw268_1)).trans hw268_1), ((HB.out.cell (World.block_lt_of_cell? w _ hw268_2)).trans hw268_2), ((HB.out.cell (World.block_lt_of_cell? w _ hw268_3)).trans hw268_3), ((HB.out.cell (World.block_lt_of_cell? w _ hw268_4)).trans hw268_4), ((HB.out.cell (World.block_lt_of_cell? w _ hw268_5)).trans hw268_5), ((HB.out.cell (World.block_lt_of_cell? w _ hw268_6)).trans hw268_6)⟩ (fun hHeld => ?_)
                   clear hK K
                   refine sqN_ 13 ?_
                   refine sqP_ 2 14 (fb 18 7) (any_of HT_.out (by kernel_rfl)) ?_
                   refine sqP_ 3 15 (fb 18 15) (any_of HT_.out (by kernel_rfl)) ?_
                   refine sqP_ 4 16 (fb 18 31) (any_of HT_.out (by kernel_rfl)) ?_
                   refine sqP_ 5 17 (fb 18 63) (any_of HT_.out (by kernel_rfl)) ?_
                   refine sqP_ 6 18 (fb 18 127) (any_of HT_.out (by kernel_rfl)) ?_
                   refine sqP_ 7 19 (fb 18 255) (any_of HT_.out (by kernel_rfl)) ?_
                   refine sqP_ 8 20 (fb 18 511) (any_of HT_.out (by kernel_rfl)) ?_
                   refine sqP_ 9 21 (fb 18 1023) (any_of HT_.out (by kernel_rfl)) ?_
                   refine sqP_ 10 22 (fb 18 2047) (any_of HT_.out (by kernel_rfl)) ?_
                   refine sqP_ 11 23 (fb 18 4095) (any_of HT_.out (by kernel_rfl)) ?_
                   refine sqP_ 13 25 (fb 18 12287) (any_of HT_.out (by kernel_rfl)) ?_
                   refine sqT_ 12 24 (fb 18 16383) (take_ofW HT_.out HW_.out (by kernel_rfl)) hHeld ?_
                   refine sqT_ 14 26 (fb 18 32767) (take_ofW HT_.out HW_.out (by kernel_rfl)) hHeld ?_
                   refine sqP_ 15 27 (fb 18 65535) (any_of HT_.out (by kernel_rfl)) ?_
                   refine sqP_ 16 28 (fb 18 131071) (any_of HT_.out (by kernel_rfl)) ?_
                   refine sqP_ 17 29 (fb 18 262143) (any_of HT_.out (by kernel_rfl)) ?_
                   refine done_ (done_of HT_.out (by kernel_rfl)) ?_
                   try go_wp2
                   go_roundg k1
                   case measure => have := HK1.out; omega
                   case rel => exact ⟨(wrap64 (x7_1 + 1)), (by first | rfl | (simp; done) | (simp [*]; done)), H', ⟨by have := HK1.out; omega⟩, ⟨bb_⟩⟩
               · rw [if_neg c10] at H
                 exact absurd H (by simp)
             · rw [if_neg c9] at H
               exact absurd H (by simp)
           · rw [if_neg c7] at H
             have c7b0 : decide (0 < x7_1) = false := decide_eq_false c7
             clear c7
             have H' := Aside0.mk H
             clear H
             have p265 : 0 ≤ (x7_1 : Int) := of_decide_eq_true (by first | (with_reducible assumption) | assumption)
             have q265 : x7_1 < (l0.length : Int) := of_decide_eq_true (by first | (with_reducible assumption) | assumption)
             obtain ⟨ad265, e265, hx265_0, hx265_1, hx265_2, hx265_3, hx265_4, hx265_5, hx265_6⟩ := at_T65 HR0.out x7_1 p265 q265
             cases e265
             replace hx265_0 := cel HB hx265_0
             replace hx265_1 := cel HB hx265_1
             replace hx265_2 := cel HB hx265_2
             replace hx265_3 := cel HB hx265_3
             replace hx265_4 := cel HB hx265_4
             replace hx265_5 := cel HB hx265_5
             replace hx265_6 := cel HB hx265_6
             replace p265 := eq_true p265
             replace q265 := eq_true q265
             try go_wp2_with (first | ((with_reducible refine gate_dst (N := 4) rfl ?_); refine box_event ?hg (N := 4) ?hd (cs := #[.int .i64 0, .int .i64 0, .string (⟨#[]⟩ : ByteArray), .int .i64 0, .bool false, .bool false, .bool false]) (t := 65) ?hr ?_; (case hd => rfl); (case hg => rfl); (case hr => first | (go_simp; done) | (go_simp; rfl)); intro gb266 hg w22 hbox hb; have n0_ := Aside0.mk (bs_ hb); have n1_ := Aside0.mk (hbox); have n2_ := Aside0.mk ((by rw [hg]; exact (bz_) : w.heap.size ≤ gb266)); have n3_ := Aside0.mk ((by rw [hg]; exact (bz_) : w.heap.size ≤ gb266)); clear HB; have HB := n0_; have BK266 := n1_; have GW266 := n2_; have GE266 := n3_; clear n0_ n1_ n2_ n3_; clear hb hbox hg; have hcz23_0 := bk BK266 0; have hcz23_1 := bk BK266 1; have hcz23_2 := bk BK266 2; have hcz23_3 := bk BK266 3; have hcz23_4 := bk BK266 4; have hcz23_5 := bk BK266 5; have hcz23_6 := bk BK266 6; have hfz23_0 := blk_frozen BK266.out 0; have hfz23_1 := blk_frozen BK266.out 1; have hfz23_2 := blk_frozen BK266.out 2; have hfz23_3 := blk_frozen BK266.out 3; have hfz23_4 := blk_frozen BK266.out 4; have hfz23_5 := blk_frozen BK266.out 5; have hfz23_6 := blk_frozen BK266.out 6))
             have n0_ : Aside0 ((((((((w22.setCell ⟨gb266, 0, none⟩ (.int .i64 ((rd_T65 l0 x7_1).f0))).setCell ⟨gb266, 1, none⟩ (.int .i64 ((rd_T65 l0 x7_1).f1))).setCell ⟨gb266, 2, none⟩ (.string ((rd_T65 l0 x7_1).f2))).setCell ⟨gb266, 3, none⟩ (.int .i64 ((rd_T65 l0 x7_1).f3))).setCell ⟨gb266, 4, none⟩ (.bool ((rd_T65 l0 x7_1).f4))).setCell ⟨gb266, 5, none⟩ (.bool ((rd_T65 l0 x7_1).f5))).setCell ⟨gb266, 6, none⟩ (.bool ((rd_T65 l0 x7_1).f6))).heap[gb266]? = some (.cells #[.int .i64 ((rd_T65 l0 x7_1).f0), .int .i64 ((rd_T65 l0 x7_1).f1), .string ((rd_T65 l0 x7_1).f2), .int .i64 ((rd_T65 l0 x7_1).f3), .bool ((rd_T65 l0 x7_1).f4), .bool ((rd_T65 l0 x7_1).f5), .bool ((rd_T65 l0 x7_1).f6)] 65 (0, 0))) := ⟨by (with_reducible repeat (first | refine blk_drewN ?_ _ | refine blk_drew ?_ | refine blk_alloc ?_ _)); refine blk_put (cs := #[.int .i64 ((rd_T65 l0 x7_1).f0), .int .i64 ((rd_T65 l0 x7_1).f1), .string ((rd_T65 l0 x7_1).f2), .int .i64 ((rd_T65 l0 x7_1).f3), .bool ((rd_T65 l0 x7_1).f4), .bool ((rd_T65 l0 x7_1).f5), .bool false]) ?_ 6 _ rfl; (with_reducible repeat (first | refine blk_drewN ?_ _ | refine blk_drew ?_ | refine blk_alloc ?_ _)); refine blk_put (cs := #[.int .i64 ((rd_T65 l0 x7_1).f0), .int .i64 ((rd_T65 l0 x7_1).f1), .string ((rd_T65 l0 x7_1).f2), .int .i64 ((rd_T65 l0 x7_1).f3), .bool ((rd_T65 l0 x7_1).f4), .bool false, .bool false]) ?_ 5 _ rfl; (with_reducible repeat (first | refine blk_drewN ?_ _ | refine blk_drew ?_ | refine blk_alloc ?_ _)); refine blk_put (cs := #[.int .i64 ((rd_T65 l0 x7_1).f0), .int .i64 ((rd_T65 l0 x7_1).f1), .string ((rd_T65 l0 x7_1).f2), .int .i64 ((rd_T65 l0 x7_1).f3), .bool false, .bool false, .bool false]) ?_ 4 _ rfl; (with_reducible repeat (first | refine blk_drewN ?_ _ | refine blk_drew ?_ | refine blk_alloc ?_ _)); refine blk_put (cs := #[.int .i64 ((rd_T65 l0 x7_1).f0), .int .i64 ((rd_T65 l0 x7_1).f1), .string ((rd_T65 l0 x7_1).f2), .int .i64 0, .bool false, .bool false, .bool false]) ?_ 3 _ rfl; (with_reducible repeat (first | refine blk_drewN ?_ _ | refine blk_drew ?_ | refine blk_alloc ?_ _)); refine blk_put (cs := #[.int .i64 ((rd_T65 l0 x7_1).f0), .int .i64 ((rd_T65 l0 x7_1).f1), .string (⟨#[]⟩ : ByteArray), .int .i64 0, .bool false, .bool false, .bool false]) ?_ 2 _ rfl; (with_reducible repeat (first | refine blk_drewN ?_ _ | refine blk_drew ?_ | refine blk_alloc ?_ _)); refine blk_put (cs := #[.int .i64 ((rd_T65 l0 x7_1).f0), .int .i64 0, .string (⟨#[]⟩ : ByteArray), .int .i64 0, .bool false, .bool false, .bool false]) ?_ 1 _ rfl; (with_reducible repeat (first | refine blk_drewN ?_ _ | refine blk_drew ?_ | refine blk_alloc ?_ _)); refine blk_put (cs := #[.int .i64 0, .int .i64 0, .string (⟨#[]⟩ : ByteArray), .int .i64 0, .bool false, .bool false, .bool false]) ?_ 0 _ rfl; (with_reducible repeat (first | refine blk_drewN ?_ _ | refine blk_drew ?_ | refine blk_alloc ?_ _)); exact BK266.out⟩
             have n1_ : Aside0 (Below w.heap.size w (((((((w22.setCell ⟨gb266, 0, none⟩ (.int .i64 ((rd_T65 l0 x7_1).f0))).setCell ⟨gb266, 1, none⟩ (.int .i64 ((rd_T65 l0 x7_1).f1))).setCell ⟨gb266, 2, none⟩ (.string ((rd_T65 l0 x7_1).f2))).setCell ⟨gb266, 3, none⟩ (.int .i64 ((rd_T65 l0 x7_1).f3))).setCell ⟨gb266, 4, none⟩ (.bool ((rd_T65 l0 x7_1).f4))).setCell ⟨gb266, 5, none⟩ (.bool ((rd_T65 l0 x7_1).f5))).setCell ⟨gb266, 6, none⟩ (.bool ((rd_T65 l0 x7_1).f6)))) := ⟨bb_⟩
             (try clear BK266)
             (try clear HB)
             generalize (((((((w22.setCell ⟨gb266, 0, none⟩ (.int .i64 ((rd_T65 l0 x7_1).f0))).setCell ⟨gb266, 1, none⟩ (.int .i64 ((rd_T65 l0 x7_1).f1))).setCell ⟨gb266, 2, none⟩ (.string ((rd_T65 l0 x7_1).f2))).setCell ⟨gb266, 3, none⟩ (.int .i64 ((rd_T65 l0 x7_1).f3))).setCell ⟨gb266, 4, none⟩ (.bool ((rd_T65 l0 x7_1).f4))).setCell ⟨gb266, 5, none⟩ (.bool ((rd_T65 l0 x7_1).f5))).setCell ⟨gb266, 6, none⟩ (.bool ((rd_T65 l0 x7_1).f6))) = w24 at n0_ n1_ ⊢
             have BK266 := n0_
             have HB := n1_
             clear n0_ n1_
             have n0_ := Aside0.mk (blk_drew BK266.out)
             have n1_ := Aside0.mk (below_drew1 HB.out)
             clear BK266
             clear HB
             have BK266 := n0_
             have HB := n1_
             clear n0_ n1_
             refine start_ (n := 18) (S := fun w' => w'.cell? ⟨gb266, 0, none⟩ = some (.int .i64 ((rd_T65 l0 x7_1).f0)) ∧ w'.cell? ⟨gb266, 1, none⟩ = some (.int .i64 ((rd_T65 l0 x7_1).f1)) ∧ w'.cell? ⟨gb266, 2, none⟩ = some (.string ((rd_T65 l0 x7_1).f2)) ∧ w'.cell? ⟨gb266, 3, none⟩ = some (.int .i64 ((rd_T65 l0 x7_1).f3)) ∧ w'.cell? ⟨gb266, 4, none⟩ = some (.bool ((rd_T65 l0 x7_1).f4)) ∧ w'.cell? ⟨gb266, 5, none⟩ = some (.bool ((rd_T65 l0 x7_1).f5)) ∧ w'.cell? ⟨gb266, 6, none⟩ = some (.bool ((rd_T65 l0 x7_1).f6))) (ds := []) (fb 18 0) (by kernel_rfl) rfl rfl ⟨(blk_cell BK266.out 0).trans rfl, (blk_cell BK266.out 1).trans rfl, (blk_cell BK266.out 2).trans rfl, (blk_cell BK266.out 3).trans rfl, (blk_cell BK266.out 4).trans rfl, (blk_cell BK266.out 5).trans rfl, (blk_cell BK266.out 6).trans rfl⟩ (fun hHeld => ?_); refine with_tabW impl_IsLog.tab4 impl_IsLog.bits4 (fun HT_ HW_ => ?_)
             generalize w24.drew = w25 at BK266 HB hHeld ⊢
             refine sqT_ 0 12 (fb 18 1) (take_ofW HT_.out HW_.out (by kernel_rfl)) hHeld ?_
             refine one_ (i := 1) (N := some 13) (fb 18 3) rfl rfl (one_of HT_.out (by kernel_rfl)) (by decide) (fun K hK => ?_)
             refine goes_ Tryz.func98 (by kernel_rfl) rfl #[.agg #[.int .i64 ((rd_T65 l0 x7_1).f0), .int .i64 ((rd_T65 l0 x7_1).f1), .string ((rd_T65 l0 x7_1).f2), .int .i64 ((rd_T65 l0 x7_1).f3), .bool ((rd_T65 l0 x7_1).f4), .bool ((rd_T65 l0 x7_1).f5), .bool ((rd_T65 l0 x7_1).f6)]] (by rfl) rfl rfl (by (try simp only [List.map_toArray, List.map_cons, List.map_nil]); first | done | rfl | (simp only [List.length_drop, List.length_take]; rfl)) ?_
             with_reducible refine (impl_IsEvent.calls k1 ((rd_T65 l0 x7_1).f0) ((rd_T65 l0 x7_1).f1) ((rd_T65 l0 x7_1).f2) ((rd_T65 l0 x7_1).f3) ((rd_T65 l0 x7_1).f4) ((rd_T65 l0 x7_1).f5) ((rd_T65 l0 x7_1).f6) true _ A5.out).mono ?_
             rintro e w26 ⟨rfl, hb⟩
             refine ⟨_, rfl, ?_⟩
             have n0_ := Aside0.mk (blk_below (g := gb266) (o := .cells #[.int .i64 ((rd_T65 l0 x7_1).f0), .int .i64 ((rd_T65 l0 x7_1).f1), .string ((rd_T65 l0 x7_1).f2), .int .i64 ((rd_T65 l0 x7_1).f3), .bool ((rd_T65 l0 x7_1).f4), .bool ((rd_T65 l0 x7_1).f5), .bool ((rd_T65 l0 x7_1).f6)] 65 (0, 0)) (by (with_reducible repeat (first | refine blk_drewN ?_ _ | refine blk_drew ?_ | refine blk_alloc ?_ _)); exact BK266.out) hb)
             have n1_ := Aside0.mk (bs_ hb)
             clear BK266
             clear HB
             have BK266 := n0_
             have HB := n1_
             clear n0_ n1_
             (try clear hb)
             (try clear hb2)
             (try clear hk)
             (try clear hi)
             refine hK.out _ _ ⟨(blk_cell BK266.out 0).trans rfl, (blk_cell BK266.out 1).trans rfl, (blk_cell BK266.out 2).trans rfl, (blk_cell BK266.out 3).trans rfl, (blk_cell BK266.out 4).trans rfl, (blk_cell BK266.out 5).trans rfl, (blk_cell BK266.out 6).trans rfl⟩ (fun hHeld => ?_)
             clear hK K
             refine sqN_ 13 ?_
             refine sqP_ 2 14 (fb 18 7) (any_of HT_.out (by kernel_rfl)) ?_
             refine sqP_ 3 15 (fb 18 15) (any_of HT_.out (by kernel_rfl)) ?_
             refine sqP_ 4 16 (fb 18 31) (any_of HT_.out (by kernel_rfl)) ?_
             refine sqP_ 5 17 (fb 18 63) (any_of HT_.out (by kernel_rfl)) ?_
             refine sqP_ 6 18 (fb 18 127) (any_of HT_.out (by kernel_rfl)) ?_
             refine sqO_ 7 19 (fb 18 255) (any_of HT_.out (by kernel_rfl)) ?_
             refine sqO_ 8 20 (fb 18 511) (any_of HT_.out (by kernel_rfl)) ?_
             refine sqO_ 9 21 (fb 18 1023) (any_of HT_.out (by kernel_rfl)) ?_
             refine sqO_ 10 22 (fb 18 2047) (any_of HT_.out (by kernel_rfl)) ?_
             refine sqO_ 11 23 (fb 18 4095) (any_of HT_.out (by kernel_rfl)) ?_
             refine sqO_ 12 24 (fb 18 8191) (any_of HT_.out (by kernel_rfl)) ?_
             refine sqO_ 13 25 (fb 18 16383) (any_of HT_.out (by kernel_rfl)) ?_
             refine sqO_ 14 26 (fb 18 32767) (any_of HT_.out (by kernel_rfl)) ?_
             refine sqO_ 15 27 (fb 18 65535) (any_of HT_.out (by kernel_rfl)) ?_
             refine sqP_ 16 28 (fb 18 131071) (any_of HT_.out (by kernel_rfl)) ?_
             refine sqP_ 17 29 (fb 18 262143) (any_of HT_.out (by kernel_rfl)) ?_
             refine done_ (done_of HT_.out (by kernel_rfl)) ?_
             try go_wp2
             go_roundg k1
             case measure => have := HK1.out; omega
             case rel => exact ⟨(wrap64 (x7_1 + 1)), (by first | rfl | (simp; done) | (simp [*]; done)), H', ⟨by have := HK1.out; omega⟩, ⟨bb_⟩⟩
         · replace c6 := Bool.eq_false_iff.mpr c6
           subst c6
           have H1 : (some false) = some r := by rw [if_neg (show ¬ (false = true) by decide)] at H; exact H
           clear H
           have H := H1
           clear H1
           obtain rfl := Option.some.inj H
           have p265 : 0 ≤ (x7_1 : Int) := of_decide_eq_true (by first | (with_reducible assumption) | assumption)
           have q265 : x7_1 < (l0.length : Int) := of_decide_eq_true (by first | (with_reducible assumption) | assumption)
           obtain ⟨ad265, e265, hx265_0, hx265_1, hx265_2, hx265_3, hx265_4, hx265_5, hx265_6⟩ := at_T65 HR0.out x7_1 p265 q265
           cases e265
           replace hx265_0 := cel HB hx265_0
           replace hx265_1 := cel HB hx265_1
           replace hx265_2 := cel HB hx265_2
           replace hx265_3 := cel HB hx265_3
           replace hx265_4 := cel HB hx265_4
           replace hx265_5 := cel HB hx265_5
           replace hx265_6 := cel HB hx265_6
           replace p265 := eq_true p265
           replace q265 := eq_true q265
           try go_wp2_with (first | ((with_reducible refine gate_dst (N := 4) rfl ?_); refine box_event ?hg (N := 4) ?hd (cs := #[.int .i64 0, .int .i64 0, .string (⟨#[]⟩ : ByteArray), .int .i64 0, .bool false, .bool false, .bool false]) (t := 65) ?hr ?_; (case hd => rfl); (case hg => rfl); (case hr => first | (go_simp; done) | (go_simp; rfl)); intro gb266 hg w27 hbox hb; have n0_ := Aside0.mk (bs_ hb); have n1_ := Aside0.mk (hbox); have n2_ := Aside0.mk ((by rw [hg]; exact (bz_) : w.heap.size ≤ gb266)); have n3_ := Aside0.mk ((by rw [hg]; exact (bz_) : w.heap.size ≤ gb266)); clear HB; have HB := n0_; have BK266 := n1_; have GW266 := n2_; have GE266 := n3_; clear n0_ n1_ n2_ n3_; clear hb hbox hg; have hcz28_0 := bk BK266 0; have hcz28_1 := bk BK266 1; have hcz28_2 := bk BK266 2; have hcz28_3 := bk BK266 3; have hcz28_4 := bk BK266 4; have hcz28_5 := bk BK266 5; have hcz28_6 := bk BK266 6; have hfz28_0 := blk_frozen BK266.out 0; have hfz28_1 := blk_frozen BK266.out 1; have hfz28_2 := blk_frozen BK266.out 2; have hfz28_3 := blk_frozen BK266.out 3; have hfz28_4 := blk_frozen BK266.out 4; have hfz28_5 := blk_frozen BK266.out 5; have hfz28_6 := blk_frozen BK266.out 6))
           have n0_ : Aside0 ((((((((w27.setCell ⟨gb266, 0, none⟩ (.int .i64 ((rd_T65 l0 x7_1).f0))).setCell ⟨gb266, 1, none⟩ (.int .i64 ((rd_T65 l0 x7_1).f1))).setCell ⟨gb266, 2, none⟩ (.string ((rd_T65 l0 x7_1).f2))).setCell ⟨gb266, 3, none⟩ (.int .i64 ((rd_T65 l0 x7_1).f3))).setCell ⟨gb266, 4, none⟩ (.bool ((rd_T65 l0 x7_1).f4))).setCell ⟨gb266, 5, none⟩ (.bool ((rd_T65 l0 x7_1).f5))).setCell ⟨gb266, 6, none⟩ (.bool ((rd_T65 l0 x7_1).f6))).heap[gb266]? = some (.cells #[.int .i64 ((rd_T65 l0 x7_1).f0), .int .i64 ((rd_T65 l0 x7_1).f1), .string ((rd_T65 l0 x7_1).f2), .int .i64 ((rd_T65 l0 x7_1).f3), .bool ((rd_T65 l0 x7_1).f4), .bool ((rd_T65 l0 x7_1).f5), .bool ((rd_T65 l0 x7_1).f6)] 65 (0, 0))) := ⟨by (with_reducible repeat (first | refine blk_drewN ?_ _ | refine blk_drew ?_ | refine blk_alloc ?_ _)); refine blk_put (cs := #[.int .i64 ((rd_T65 l0 x7_1).f0), .int .i64 ((rd_T65 l0 x7_1).f1), .string ((rd_T65 l0 x7_1).f2), .int .i64 ((rd_T65 l0 x7_1).f3), .bool ((rd_T65 l0 x7_1).f4), .bool ((rd_T65 l0 x7_1).f5), .bool false]) ?_ 6 _ rfl; (with_reducible repeat (first | refine blk_drewN ?_ _ | refine blk_drew ?_ | refine blk_alloc ?_ _)); refine blk_put (cs := #[.int .i64 ((rd_T65 l0 x7_1).f0), .int .i64 ((rd_T65 l0 x7_1).f1), .string ((rd_T65 l0 x7_1).f2), .int .i64 ((rd_T65 l0 x7_1).f3), .bool ((rd_T65 l0 x7_1).f4), .bool false, .bool false]) ?_ 5 _ rfl; (with_reducible repeat (first | refine blk_drewN ?_ _ | refine blk_drew ?_ | refine blk_alloc ?_ _)); refine blk_put (cs := #[.int .i64 ((rd_T65 l0 x7_1).f0), .int .i64 ((rd_T65 l0 x7_1).f1), .string ((rd_T65 l0 x7_1).f2), .int .i64 ((rd_T65 l0 x7_1).f3), .bool false, .bool false, .bool false]) ?_ 4 _ rfl; (with_reducible repeat (first | refine blk_drewN ?_ _ | refine blk_drew ?_ | refine blk_alloc ?_ _)); refine blk_put (cs := #[.int .i64 ((rd_T65 l0 x7_1).f0), .int .i64 ((rd_T65 l0 x7_1).f1), .string ((rd_T65 l0 x7_1).f2), .int .i64 0, .bool false, .bool false, .bool false]) ?_ 3 _ rfl; (with_reducible repeat (first | refine blk_drewN ?_ _ | refine blk_drew ?_ | refine blk_alloc ?_ _)); refine blk_put (cs := #[.int .i64 ((rd_T65 l0 x7_1).f0), .int .i64 ((rd_T65 l0 x7_1).f1), .string (⟨#[]⟩ : ByteArray), .int .i64 0, .bool false, .bool false, .bool false]) ?_ 2 _ rfl; (with_reducible repeat (first | refine blk_drewN ?_ _ | refine blk_drew ?_ | refine blk_alloc ?_ _)); refine blk_put (cs := #[.int .i64 ((rd_T65 l0 x7_1).f0), .int .i64 0, .string (⟨#[]⟩ : ByteArray), .int .i64 0, .bool false, .bool false, .bool false]) ?_ 1 _ rfl; (with_reducible repeat (first | refine blk_drewN ?_ _ | refine blk_drew ?_ | refine blk_alloc ?_ _)); refine blk_put (cs := #[.int .i64 0, .int .i64 0, .string (⟨#[]⟩ : ByteArray), .int .i64 0, .bool false, .bool false, .bool false]) ?_ 0 _ rfl; (with_reducible repeat (first | refine blk_drewN ?_ _ | refine blk_drew ?_ | refine blk_alloc ?_ _)); exact BK266.out⟩
           have n1_ : Aside0 (Below w.heap.size w (((((((w27.setCell ⟨gb266, 0, none⟩ (.int .i64 ((rd_T65 l0 x7_1).f0))).setCell ⟨gb266, 1, none⟩ (.int .i64 ((rd_T65 l0 x7_1).f1))).setCell ⟨gb266, 2, none⟩ (.string ((rd_T65 l0 x7_1).f2))).setCell ⟨gb266, 3, none⟩ (.int .i64 ((rd_T65 l0 x7_1).f3))).setCell ⟨gb266, 4, none⟩ (.bool ((rd_T65 l0 x7_1).f4))).setCell ⟨gb266, 5, none⟩ (.bool ((rd_T65 l0 x7_1).f5))).setCell ⟨gb266, 6, none⟩ (.bool ((rd_T65 l0 x7_1).f6)))) := ⟨bb_⟩
           (try clear BK266)
           (try clear HB)
           generalize (((((((w27.setCell ⟨gb266, 0, none⟩ (.int .i64 ((rd_T65 l0 x7_1).f0))).setCell ⟨gb266, 1, none⟩ (.int .i64 ((rd_T65 l0 x7_1).f1))).setCell ⟨gb266, 2, none⟩ (.string ((rd_T65 l0 x7_1).f2))).setCell ⟨gb266, 3, none⟩ (.int .i64 ((rd_T65 l0 x7_1).f3))).setCell ⟨gb266, 4, none⟩ (.bool ((rd_T65 l0 x7_1).f4))).setCell ⟨gb266, 5, none⟩ (.bool ((rd_T65 l0 x7_1).f5))).setCell ⟨gb266, 6, none⟩ (.bool ((rd_T65 l0 x7_1).f6))) = w29 at n0_ n1_ ⊢
           have BK266 := n0_
           have HB := n1_
           clear n0_ n1_
           have n0_ := Aside0.mk (blk_drew BK266.out)
           have n1_ := Aside0.mk (below_drew1 HB.out)
           clear BK266
           clear HB
           have BK266 := n0_
           have HB := n1_
           clear n0_ n1_
           refine start_ (n := 18) (S := fun w' => w'.cell? ⟨gb266, 0, none⟩ = some (.int .i64 ((rd_T65 l0 x7_1).f0)) ∧ w'.cell? ⟨gb266, 1, none⟩ = some (.int .i64 ((rd_T65 l0 x7_1).f1)) ∧ w'.cell? ⟨gb266, 2, none⟩ = some (.string ((rd_T65 l0 x7_1).f2)) ∧ w'.cell? ⟨gb266, 3, none⟩ = some (.int .i64 ((rd_T65 l0 x7_1).f3)) ∧ w'.cell? ⟨gb266, 4, none⟩ = some (.bool ((rd_T65 l0 x7_1).f4)) ∧ w'.cell? ⟨gb266, 5, none⟩ = some (.bool ((rd_T65 l0 x7_1).f5)) ∧ w'.cell? ⟨gb266, 6, none⟩ = some (.bool ((rd_T65 l0 x7_1).f6))) (ds := []) (fb 18 0) (by kernel_rfl) rfl rfl ⟨(blk_cell BK266.out 0).trans rfl, (blk_cell BK266.out 1).trans rfl, (blk_cell BK266.out 2).trans rfl, (blk_cell BK266.out 3).trans rfl, (blk_cell BK266.out 4).trans rfl, (blk_cell BK266.out 5).trans rfl, (blk_cell BK266.out 6).trans rfl⟩ (fun hHeld => ?_); refine with_tabW impl_IsLog.tab4 impl_IsLog.bits4 (fun HT_ HW_ => ?_)
           generalize w29.drew = w30 at BK266 HB hHeld ⊢
           refine sqT_ 0 12 (fb 18 1) (take_ofW HT_.out HW_.out (by kernel_rfl)) hHeld ?_
           refine one_ (i := 1) (N := some 13) (fb 18 3) rfl rfl (one_of HT_.out (by kernel_rfl)) (by decide) (fun K hK => ?_)
           refine goes_ Tryz.func98 (by kernel_rfl) rfl #[.agg #[.int .i64 ((rd_T65 l0 x7_1).f0), .int .i64 ((rd_T65 l0 x7_1).f1), .string ((rd_T65 l0 x7_1).f2), .int .i64 ((rd_T65 l0 x7_1).f3), .bool ((rd_T65 l0 x7_1).f4), .bool ((rd_T65 l0 x7_1).f5), .bool ((rd_T65 l0 x7_1).f6)]] (by rfl) rfl rfl (by (try simp only [List.map_toArray, List.map_cons, List.map_nil]); first | done | rfl | (simp only [List.length_drop, List.length_take]; rfl)) ?_
           with_reducible refine (impl_IsEvent.calls k1 ((rd_T65 l0 x7_1).f0) ((rd_T65 l0 x7_1).f1) ((rd_T65 l0 x7_1).f2) ((rd_T65 l0 x7_1).f3) ((rd_T65 l0 x7_1).f4) ((rd_T65 l0 x7_1).f5) ((rd_T65 l0 x7_1).f6) false _ A5.out).mono ?_
           rintro e w31 ⟨rfl, hb⟩
           refine ⟨_, rfl, ?_⟩
           have n0_ := Aside0.mk (blk_below (g := gb266) (o := .cells #[.int .i64 ((rd_T65 l0 x7_1).f0), .int .i64 ((rd_T65 l0 x7_1).f1), .string ((rd_T65 l0 x7_1).f2), .int .i64 ((rd_T65 l0 x7_1).f3), .bool ((rd_T65 l0 x7_1).f4), .bool ((rd_T65 l0 x7_1).f5), .bool ((rd_T65 l0 x7_1).f6)] 65 (0, 0)) (by (with_reducible repeat (first | refine blk_drewN ?_ _ | refine blk_drew ?_ | refine blk_alloc ?_ _)); exact BK266.out) hb)
           have n1_ := Aside0.mk (bs_ hb)
           clear BK266
           clear HB
           have BK266 := n0_
           have HB := n1_
           clear n0_ n1_
           (try clear hb)
           (try clear hb2)
           (try clear hk)
           (try clear hi)
           refine hK.out _ _ ⟨(blk_cell BK266.out 0).trans rfl, (blk_cell BK266.out 1).trans rfl, (blk_cell BK266.out 2).trans rfl, (blk_cell BK266.out 3).trans rfl, (blk_cell BK266.out 4).trans rfl, (blk_cell BK266.out 5).trans rfl, (blk_cell BK266.out 6).trans rfl⟩ (fun hHeld => ?_)
           clear hK K
           refine sqN_ 13 ?_
           refine sqP_ 2 14 (fb 18 7) (any_of HT_.out (by kernel_rfl)) ?_
           refine sqP_ 3 15 (fb 18 15) (any_of HT_.out (by kernel_rfl)) ?_
           refine sqO_ 4 16 (fb 18 31) (any_of HT_.out (by kernel_rfl)) ?_
           refine sqO_ 5 17 (fb 18 63) (any_of HT_.out (by kernel_rfl)) ?_
           refine sqO_ 6 18 (fb 18 127) (any_of HT_.out (by kernel_rfl)) ?_
           refine sqO_ 7 19 (fb 18 255) (any_of HT_.out (by kernel_rfl)) ?_
           refine sqO_ 8 20 (fb 18 511) (any_of HT_.out (by kernel_rfl)) ?_
           refine sqO_ 9 21 (fb 18 1023) (any_of HT_.out (by kernel_rfl)) ?_
           refine sqO_ 10 22 (fb 18 2047) (any_of HT_.out (by kernel_rfl)) ?_
           refine sqO_ 11 23 (fb 18 4095) (any_of HT_.out (by kernel_rfl)) ?_
           refine sqO_ 12 24 (fb 18 8191) (any_of HT_.out (by kernel_rfl)) ?_
           refine sqO_ 13 25 (fb 18 16383) (any_of HT_.out (by kernel_rfl)) ?_
           refine sqO_ 14 26 (fb 18 32767) (any_of HT_.out (by kernel_rfl)) ?_
           refine sqO_ 15 27 (fb 18 65535) (any_of HT_.out (by kernel_rfl)) ?_
           refine sqO_ 16 28 (fb 18 131071) (any_of HT_.out (by kernel_rfl)) ?_
           refine sqP_ 17 29 (fb 18 262143) (any_of HT_.out (by kernel_rfl)) ?_
           refine done_ (done_of HT_.out (by kernel_rfl)) ?_
           try go_wp2
           go_ret
           exact ⟨by first | rfl | (simp [errW_none, errW_some] <;> rfl) | (simp [*, errW_none, errW_some] <;> rfl), bb_⟩
       · rw [if_neg c4] at H
         exact absurd H (by simp)
     · rw [if_neg c3] at H
       exact absurd H (by simp)
   · rw [if_neg c2] at H
     have c2b0 : decide (x7_1 < (l0.length : Int)) = false := decide_eq_false c2
     clear c2
     obtain rfl := Option.some.inj H
     go_wp2
     go_ret
     exact ⟨by first | rfl | (simp [errW_none, errW_some] <;> rfl) | (simp [*, errW_none, errW_some] <;> rfl), bb_⟩

end Go.Proofs.YtmfbkbbgokjhnaaGreat.F
namespace Go.Proofs.YtmfbkbbgokjhnaaGreat.F
open Go.RowKit Go.Proofs.YtmfbkbbgokjhnaaGreatW.PrintWords Go.Proofs.YtmfbkbbgokjhnaaGreatW.PrintLast Go.Proofs.YtmfbkbbgokjhnaaGreatW.PrintMore
attribute [local go_sem] max2_int min2_int max_two min_two max_three min_three max_four min_four   -- for this text's walks alone
set_option linter.unusedVariables false
set_option linter.unusedSimpArgs false

/-! ### impl_Clause_144: function 144 -/
def val_T105 (x : S105) : Value := .agg #[.string x.f0, .int .i64 x.f1, .int .i64 x.f2, .int .i64 x.f3, .int .i64 x.f4, .int .i64 x.f5, .string x.f6]
theorem rd_at_T105 (l : List S105) (i : Nat) (h : i < l.length) : rd_T105 l (i : Int) = l[i] := by
 simp [rd_T105, List.getD_eq_getElem?_getD, h]
set_option maxHeartbeats 400000 in
theorem IndexFunc_T105.calls (g : Nat) (lb : Array Value) (p : S105 → Bool) (A0 : Option Addr) (c0 : Nat) (l0 : List S105) (w : World) (hr0 : Kd.C k105 w A0 l0.length l0) (hc0 : l0.length ≤ c0)
 (eg : ∀ args w, (callFunc g args).run Tryz.prog w = .ok (.enter g args) w) (hp : FnP Tryz.prog val_T105 g lb p l0 w) :
 Calls Tryz.prog 144 #[.slice A0 l0.length c0, .func (.func g) #[] lb] w fun e w' => e = .returned (.int .i64 (idxP p l0)) ∧ Below w.heap.size w w' := by
 have hu105 := Tryz.underlying105
 have hbig : l0.length ≤ 9223372036854775807 := hr0.2.1
 have HR0 := Aside0.mk hr0
 have HP := Aside0.mk hp
 clear hr0 hc0 hp
 go_enter Tryz.func144, Tryz.ntmps144
 go_wp2
 go_loopg [5, 8] l0.length (fun gg _ s8 wr => ∃ kk : Nat, kk ≤ l0.length ∧ l0.length - kk ≤ gg ∧ s8 = .int .i64 kk ∧ Aside0 (Below w.heap.size w wr) ∧ Aside0 (∀ j (hj : j < l0.length), j < kk → p l0[j] = false))
 case atStart => exact ⟨0, Nat.zero_le _, by omega, rfl, ⟨Below.refl _ w⟩, ⟨fun j hj h => absurd h (Nat.not_lt_zero _)⟩⟩
 case round =>
  obtain ⟨kk, hkk, hg, rfl, BW, A⟩ := hrel
  by_cases hlt : kk < l0.length
  · have hltz : (kk : Int) < (l0.length : Int) := by omega
    obtain ⟨ad, e_ad, hx0, hx1, hx2, hx3, hx4, hx5, hx6⟩ := at_T105 HR0.out (kk : Int) (by omega) (by omega)
    cases e_ad
    rw [rd_at_T105 l0 kk hlt, Int.toNat_natCast] at hx0 hx1 hx2 hx3 hx4 hx5 hx6
    replace hx0 := (BW.out.cell (World.block_lt_of_cell? w _ hx0)).trans hx0
    replace hx1 := (BW.out.cell (World.block_lt_of_cell? w _ hx1)).trans hx1
    replace hx2 := (BW.out.cell (World.block_lt_of_cell? w _ hx2)).trans hx2
    replace hx3 := (BW.out.cell (World.block_lt_of_cell? w _ hx3)).trans hx3
    replace hx4 := (BW.out.cell (World.block_lt_of_cell? w _ hx4)).trans hx4
    replace hx5 := (BW.out.cell (World.block_lt_of_cell? w _ hx5)).trans hx5
    replace hx6 := (BW.out.cell (World.block_lt_of_cell? w _ hx6)).trans hx6
    have hcall := HP.out wr l0[kk] (List.getElem_mem hlt) BW.out
    unfold val_T105 at hcall
    generalize hy : l0[kk] = y at hx0 hx1 hx2 hx3 hx4 hx5 hx6 hcall
    have B : Aside0 (l0[kk] = y) := ⟨hy⟩
    clear hy
    cases hq : p y with
    | true =>
     rw [hq] at hcall
     go_wp2_with (go_at_fn g; refine hcall.mono ?_; rintro e w' ⟨rfl, hb'⟩)
     go_ret
     refine ⟨?_, below_then BW.out BW.out.size hb'⟩
     rw [idxP_hit p l0 kk hlt (by rw [B.out]; exact hq) (fun j hj => A.out j _ hj)]
     rfl
    | false =>
     rw [hq] at hcall
     go_wp2_with (go_at_fn g; refine hcall.mono ?_; rintro e w' ⟨rfl, hb'⟩)
     go_roundg (l0.length - (kk + 1))
     case measure => omega
     case rel =>
      refine ⟨kk + 1, by omega, by omega, by go_num, ⟨below_then BW.out BW.out.size hb'⟩, ⟨fun j hj hjk => ?_⟩⟩
      by_cases e : j = kk
      · subst e
        rw [B.out]; exact hq
      · exact A.out j hj (by omega)
  · have hltz : ¬ (kk : Int) < (l0.length : Int) := by omega
    have : kk = l0.length := by omega
    go_wp2
    go_ret
    refine ⟨?_, BW.out⟩
    rw [idxP_miss p l0 (fun j hj => A.out j hj (by omega))]
    rfl

/-! ### impl_Clause_141: function 141 -/
theorem ContainsFunc_T105.calls (g : Nat) (lb : Array Value) (p : S105 → Bool) (A0 : Option Addr) (c0 : Nat) (l0 : List S105) (w : World) (hr0 : Kd.C k105 w A0 l0.length l0) (hc0 : l0.length ≤ c0)
 (eg : ∀ args w, (callFunc g args).run Tryz.prog w = .ok (.enter g args) w) (hp : FnP Tryz.prog val_T105 g lb p l0 w) :
 Calls Tryz.prog 141 #[.slice A0 l0.length c0, .func (.func g) #[] lb] w fun e w' => e = .returned (.bool (l0.any p)) ∧ Below w.heap.size w w' := by
 have HC := Aside0.mk (IndexFunc_T105.calls g lb p A0 c0 l0 w hr0 hc0 eg hp)
 clear hr0 hc0 hp
 rw [← idxP_any]
 go_enter Tryz.func141, Tryz.ntmps141
 go_wp2_with (go_at_call 144; refine HC.out.mono ?_; rintro e w' ⟨rfl, hb'⟩)
 go_ret
 exact ⟨rfl, hb'⟩

-- NOT PRINTED: function 142 (impl_Clause_1)

/-! ### impl_Clause_99: function 99 -/
theorem all_1_T105.calls (g : Nat) (lb : Array Value) (p : S105 → Bool) (B : Nat) (x : S105) (w : World) (hB : B < w.heap.size) (hc : w.cell? ⟨B, 0, none⟩ = some (.func (.func g) #[] lb))
 (eg : ∀ args w, (callFunc g args).run Tryz.prog w = .ok (.enter g args) w) (hp : ∀ W, Below w.heap.size w W → Calls Tryz.prog g (#[val_T105 x] ++ lb) W fun e w' => e = .returned (.bool (p x)) ∧ Below W.heap.size W w') :
 Calls Tryz.prog 142 #[val_T105 x, .pointer (some ⟨B, 0, none⟩)] w fun e w' => e = .returned (.bool (!p x)) ∧ Below w.heap.size w w' := by
 have hu105 := Tryz.underlying105
 have HP := Aside0.mk hp
 clear hp
 unfold val_T105 at HP ⊢
 go_enter Tryz.func142, Tryz.ntmps142
 go_wp2_with (go_at_fn g; refine (HP.out _ (below_alloc (Below.refl _ _) _)).mono ?_; rintro e w' ⟨rfl, hb'⟩)
 go_ret
 exact ⟨rfl, below_then (below_alloc (Below.refl _ _) _) (below_alloc (Below.refl _ _) _).size hb'⟩
theorem all_T105.calls (g : Nat) (lb : Array Value) (p : S105 → Bool) (A0 : Option Addr) (c0 : Nat) (l0 : List S105) (w : World) (hr0 : Kd.C k105 w A0 l0.length l0) (hc0 : l0.length ≤ c0)
 (eg : ∀ args w, (callFunc g args).run Tryz.prog w = .ok (.enter g args) w) (hp : FnP Tryz.prog val_T105 g lb p l0 w) :
 Calls Tryz.prog 99 #[.slice A0 l0.length c0, .func (.func g) #[] lb] w fun e w' => e = .returned (.bool (l0.all p)) ∧ Below w.heap.size w w' := by
 have hb0 : Below w.heap.size w (w.alloc (.cells #[.func (.func g) #[] lb] 106)) := below_alloc (Below.refl _ _) _
 have e1 : ∀ args w, (callFunc 142 args).run Tryz.prog w = .ok (.enter 142 args) w := enters_of Tryz.func142 (by kernel_rfl) rfl
 have HC := Aside0.mk (ContainsFunc_T105.calls 142 #[.pointer (some ⟨w.heap.size, 0, none⟩)] (fun x => !p x) A0 c0 l0 (w.alloc (.cells #[.func (.func g) #[] lb] 106)) (Kd.C_below hr0 hb0) hc0 e1 (by
  intro W x hx hW
  have hsz : w.heap.size < W.heap.size := by have := hW.size; simp at this; omega
  exact all_1_T105.calls g lb p w.heap.size x W hsz ((hW.cell (p := ⟨w.heap.size, 0, none⟩) (by simp)).trans (by simp)) eg (fun W' hW' => hp W' x hx (below_then (below_then hb0 hb0.size hW) (by omega) hW'))))
 clear hr0 hc0 hp
 rw [← any_not_all]
 go_enter Tryz.func99, Tryz.ntmps99
 go_wp2_with (go_at_call 141; refine HC.out.mono ?_; rintro e w' ⟨rfl, hb'⟩)
 go_ret
 exact ⟨rfl, below_then hb0 hb0.size hb'⟩

/-! ### impl_isNeed: function 143 -/
def impl_isNeed.f (a0 : Int) : Option (Bool) := (impl_in.f a0 0 2).bind fun t269 => (some t269)
set_option maxHeartbeats 8000000 in
set_option maxRecDepth 100000 in
theorem impl_isNeed.calls (a0 : Int) (r : Bool) (w : World) (h : impl_isNeed.f a0 = some r) :
 Calls Tryz.prog 143 #[.int .i64 a0] w fun e w' => e = .returned (.bool r) ∧ Drawn0 w w' := by
 have H : ((impl_in.f a0 0 2).bind fun t269 => (some t269)) = some r := h
 clear h
 replace H := Option.bind_eq_some_iff.mp H
 obtain ⟨t269, A20, H⟩ := H
 replace H : (some t269) = some r := H
 have A2 := Aside0.mk A20
 clear A20
 obtain rfl := Option.some.inj H
 go_enter Tryz.func143, Tryz.ntmps143
 go_wp2_with (first | ((with_reducible refine gate_callee (f := 110) rfl ?_); refine goesL_ (some 4) rfl rfl Tryz.func110 (by kernel_rfl) rfl #[.int .i64 a0, .int .i64 0, .int .i64 2] rfl (by (try simp only [List.map_toArray, List.map_cons, List.map_nil]); first | done | rfl | (simp only [List.length_drop, List.length_take]; rfl)) ?_; (with_reducible refine (impl_in.calls a0 0 2 t269 _ A2.out).mono ?_); rintro e w' ⟨rfl, ⟨nd, rfl⟩⟩; refine ⟨_, rfl, ?_⟩))
 go_ret
 exact ⟨by first | rfl | (simp; done) | (simp [*]; done), by repeat (first | exact Drawn0.refl _ | apply Drawn0.step)⟩

end Go.Proofs.YtmfbkbbgokjhnaaGreat.F
