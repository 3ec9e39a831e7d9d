-- Written by this session's program (wip/bin/hp.py) over the kit's print: a function's Lean form, and a proof that the call does what it says.
import Derived.Test.YtmfbkbbgokjhnaaGreatFx0
import Derived.Test.YtmfbkbbgokjhnaaGreatSq
import Derived.Test.YtmfbkbbgokjhnaaGreatFx4
import Derived.Test.YtmfbkbbgokjhnaaGreatFx11
namespace Go.Proofs.YtmfbkbbgokjhnaaGreat.F
open Go.RowKit Go.Proofs.YtmfbkbbgokjhnaaGreatW.PrintWords Go.Proofs.YtmfbkbbgokjhnaaGreatW.PrintLast Go.Proofs.YtmfbkbbgokjhnaaGreatW.PrintMore
attribute [local go_sem] max2_int min2_int max_two min_two max_three min_three max_four min_four   -- for this text's walks alone
set_option linter.unusedVariables false
set_option linter.unusedSimpArgs false

/-! ### spec_IsSchedule: function 38 -/
def spec_IsSchedule.l0 : Nat → List (S111) → Int → Option (Bool)
 | 0, _, _ => none
 | k + 1, x0, x3 => if x3 < (x0.length : Int) then (if 0 ≤ x3 then ((spec_l02Is.f ((rd_T111 x0 x3).f0)).bind fun t155 => (if t155 = true then ((spec_l04Points.f ((rd_T111 x0 x3).f1)).bind fun t157 => (if t157 = true then (if x3 > 0 then (if 0 ≤ (wrap64 (x3 - 1)) then (if (wrap64 (x3 - 1)) < (x0.length : Int) then (if ((rd_T111 x0 x3).f0) ≤ ((rd_T111 x0 (wrap64 (x3 - 1))).f0) then (some false) else (spec_IsSchedule.l0 k x0 (wrap64 (x3 + 1)))) else (none)) else (none)) else (spec_IsSchedule.l0 k x0 (wrap64 (x3 + 1)))) else (some false))) else (some false))) else (none)) else ((spec_l01In.f (x0.length : Int) 1 12).bind fun t153 => (some t153))
def spec_IsSchedule.f (k : Nat) (l0 : List (S111)) : Option (Bool) := spec_IsSchedule.l0 k l0 0
theorem spec_IsSchedule.mono_l : ∀ k, (∀ y0 y1, LeO (spec_IsSchedule.l0 k y0 y1) (spec_IsSchedule.l0 (k + 1) y0 y1))
 | 0 => fun _ _ r h => by simp [spec_IsSchedule.l0] at h
 | k + 1 => by
  have ih0 := spec_IsSchedule.mono_l k
  · intro y0 y1
    unfold spec_IsSchedule.l0
    repeat' first
    | (with_reducible exact ih0 _ _)
    | (with_reducible exact LeO.refl _)
    | (with_reducible exact LeO.none _)
    | (with_reducible refine LeO.ite ?_ ?_)
    | (with_reducible refine LeO.bind ?_ (fun _ => ?_))
    | exact ih0 _ _
    | exact LeO.none _
    | refine LeO.ite ?_ ?_
    | refine LeO.bind ?_ (fun _ => ?_)
theorem spec_IsSchedule.mono : ∀ a0 k, LeO (spec_IsSchedule.f k a0) (spec_IsSchedule.f (k + 1) a0) := by
 intro a0 k
 have ih0 := spec_IsSchedule.mono_l k
 unfold spec_IsSchedule.f
 repeat' first
  | (with_reducible exact ih0 _ _)
  | (with_reducible exact LeO.refl _)
  | (with_reducible exact LeO.none _)
  | (with_reducible refine LeO.ite ?_ ?_)
  | (with_reducible refine LeO.bind ?_ (fun _ => ?_))
  | exact ih0 _ _
  | exact LeO.none _
  | refine LeO.ite ?_ ?_
  | refine LeO.bind ?_ (fun _ => ?_)
def spec_IsSchedule.T4 : Bool × List (List Nat × List Nat) := (true, [([], []), ([], []), ([0, 1], [0, 1]), ([2], [2]), ([3], [3]), ([4], [4]), ([5], [5]), ([6, 5], [6]), ([7], [7]), ([7], [7]), ([8, 9, 7], [7, 8, 9]), ([10, 7], [7, 10]), ([11, 7], [7, 11]), ([12, 7, 7], [7, 12]), ([13, 7], [7, 13]), ([7, 14], [7, 14]), ([15, 13], [15]), ([16], [16]), ([17, 16], [16, 17]), ([18, 16, 16], [16, 18]), ([19], [19]), ([19], [19]), ([20, 21, 19], [19, 20, 21]), ([22, 19], [19, 22]), ([23, 19], [19, 23]), ([19], [19]), ([19], [19]), ([26, 19], [19, 26]), ([25, 27, 19], [19, 25, 27]), ([28, 19], [19, 28]), ([29, 19], [19, 29]), ([24, 30, 19], [19, 24, 30]), ([19, 31, 16], [16, 19, 31]), ([16, 32], [16, 32])])
def spec_IsSchedule.B4 : List Nat := [0, 0, 3, 7, 15, 31, 63, 127, 255, 255, 1023, 2047, 4095, 8191, 16383, 32767, 65535, 131071, 262143, 524287, 1048575, 1048575, 4194303, 8388607, 16777215, 1048575, 1048575, 68157439, 235929599, 504365055, 1041235967, 2147483647, 4294967295, 8589934591]
theorem spec_IsSchedule.tab4 : rtab .any (opsOf Tryz.f38 4) = spec_IsSchedule.T4 := by kernel_rfl
theorem spec_IsSchedule.bits4 : waitsOk spec_IsSchedule.T4.2 spec_IsSchedule.B4 = true := by kernel_rfl
set_option maxHeartbeats 8000000 in
set_option maxRecDepth 100000 in
theorem spec_IsSchedule.calls (k : Nat) (A0 : Option Addr) (c0 : Nat) (l0 : List (S111)) (r : Bool) (w : World) (hr0 : Kd.C k111 w A0 l0.length l0) (hc0 : l0.length ≤ c0) (h : spec_IsSchedule.f k l0 = some r) :
 Calls Tryz.prog 38 #[.slice A0 l0.length c0] w fun e w' => e = .returned (.bool r) ∧ Below w.heap.size w w' := by
 have HR0 := Aside0.mk hr0
 have HC0 := Aside0.mk hc0
 clear hr0 hc0
 have HB := Aside0.mk (Below.refl w.heap.size w)
 have H : (spec_IsSchedule.l0 k l0 0) = some r := h
 clear h
 have H' := Aside0.mk H
 clear H
 go_enter Tryz.func38, Tryz.ntmps38
 go_wp2
 go_loopg [3] k (fun kq v3 w' => ∃ (x3_1 : Int), v3 = .int .i64 x3_1 ∧ Aside0 (spec_IsSchedule.l0 kq l0 x3_1 = some r) ∧ Aside0 (kq ≤ k) ∧ Aside0 (Below w.heap.size w w'))
 case atStart => exact ⟨(0), (by first | rfl | (simp; done) | (simp [*]; done)), H', ⟨Nat.le_refl _⟩, ⟨bb_⟩⟩
 case round =>
  clear H'
  obtain ⟨x3_1, rfl, HA, HK1, HB⟩ := hrel
  cases gk with
  | zero => exact absurd HA.out (by simp [spec_IsSchedule.l0])
  | succ k1 =>
   have H := HA.out
   clear HA
   simp only [spec_IsSchedule.l0] at H
   by_cases c2 : x3_1 < (l0.length : Int)
   · rw [if_pos c2] at H
     have c2b0 : decide (x3_1 < (l0.length : Int)) = true := decide_eq_true c2
     clear c2
     by_cases c3 : 0 ≤ x3_1
     · rw [if_pos c3] at H
       have c3b0 : decide (0 ≤ x3_1) = true := decide_eq_true c3
       clear c3
       replace H := Option.bind_eq_some_iff.mp H
       obtain ⟨t155, A40, H⟩ := H
       replace H : (if t155 = true then ((spec_l04Points.f ((rd_T111 l0 x3_1).f1)).bind fun t157 => (if t157 = true then (if x3_1 > 0 then (if 0 ≤ (wrap64 (x3_1 - 1)) then (if (wrap64 (x3_1 - 1)) < (l0.length : Int) then (if ((rd_T111 l0 x3_1).f0) ≤ ((rd_T111 l0 (wrap64 (x3_1 - 1))).f0) then (some false) else (spec_IsSchedule.l0 k1 l0 (wrap64 (x3_1 + 1)))) else (none)) else (none)) else (spec_IsSchedule.l0 k1 l0 (wrap64 (x3_1 + 1)))) else (some false))) else (some false)) = some r := H
       have A4 := Aside0.mk A40
       clear A40
       by_cases c5 : t155 = true
       · subst c5
         have H1 : ((spec_l04Points.f ((rd_T111 l0 x3_1).f1)).bind fun t157 => (if t157 = true then (if x3_1 > 0 then (if 0 ≤ (wrap64 (x3_1 - 1)) then (if (wrap64 (x3_1 - 1)) < (l0.length : Int) then (if ((rd_T111 l0 x3_1).f0) ≤ ((rd_T111 l0 (wrap64 (x3_1 - 1))).f0) then (some false) else (spec_IsSchedule.l0 k1 l0 (wrap64 (x3_1 + 1)))) else (none)) else (none)) else (spec_IsSchedule.l0 k1 l0 (wrap64 (x3_1 + 1)))) else (some false))) = some r := by rw [if_pos rfl] at H; exact H
         clear H
         have H := H1
         clear H1
         replace H := Option.bind_eq_some_iff.mp H
         obtain ⟨t157, A60, H⟩ := H
         replace H : (if t157 = true then (if x3_1 > 0 then (if 0 ≤ (wrap64 (x3_1 - 1)) then (if (wrap64 (x3_1 - 1)) < (l0.length : Int) then (if ((rd_T111 l0 x3_1).f0) ≤ ((rd_T111 l0 (wrap64 (x3_1 - 1))).f0) then (some false) else (spec_IsSchedule.l0 k1 l0 (wrap64 (x3_1 + 1)))) else (none)) else (none)) else (spec_IsSchedule.l0 k1 l0 (wrap64 (x3_1 + 1)))) else (some false)) = some r := H
         have A6 := Aside0.mk A60
         clear A60
         by_cases c7 : t157 = true
         · subst c7
           have H1 : (if x3_1 > 0 then (if 0 ≤ (wrap64 (x3_1 - 1)) then (if (wrap64 (x3_1 - 1)) < (l0.length : Int) then (if ((rd_T111 l0 x3_1).f0) ≤ ((rd_T111 l0 (wrap64 (x3_1 - 1))).f0) then (some false) else (spec_IsSchedule.l0 k1 l0 (wrap64 (x3_1 + 1)))) else (none)) else (none)) else (spec_IsSchedule.l0 k1 l0 (wrap64 (x3_1 + 1)))) = some r := by rw [if_pos rfl] at H; exact H
           clear H
           have H := H1
           clear H1
           by_cases c8 : x3_1 > 0
           · rw [if_pos c8] at H
             have c8b0 : decide (0 < x3_1) = true := decide_eq_true c8
             clear c8
             obtain ⟨ji9, hji9⟩ : ∃ j_ : Int, (wrap64 (x3_1 - 1)) = j_ := ⟨_, rfl⟩
             replace H : (if 0 ≤ (ji9) then (if (ji9) < (l0.length : Int) then (if ((rd_T111 l0 x3_1).f0) ≤ ((rd_T111 l0 (ji9)).f0) then (some false) else (spec_IsSchedule.l0 k1 l0 (wrap64 (x3_1 + 1)))) else (none)) else (none)) = some r := by first | (rw [hji9] at H; exact H) | (simp only [hji9] at H ⊢; exact H)
             (try rw [hji9] at A4)
             (try rw [hji9] at A6)
             have hji9w : (IntKind.i64.wrap (x3_1 - 1)) = ji9 := (i64_w _).trans hji9
             by_cases c10 : 0 ≤ (ji9)
             · rw [if_pos c10] at H
               have c10b0 : decide (0 ≤ (ji9)) = true := decide_eq_true c10
               clear c10
               by_cases c11 : (ji9) < (l0.length : Int)
               · rw [if_pos c11] at H
                 have c11b0 : decide ((ji9) < (l0.length : Int)) = true := decide_eq_true c11
                 clear c11
                 by_cases c12 : ((rd_T111 l0 x3_1).f0) ≤ ((rd_T111 l0 (ji9)).f0)
                 · rw [if_pos c12] at H
                   have c12b0 : decide (((rd_T111 l0 x3_1).f0) ≤ ((rd_T111 l0 (ji9)).f0)) = true := decide_eq_true c12
                   clear c12
                   obtain rfl := Option.some.inj H
                   try go_wp2
                   have n0_ := Aside0.mk (below_drew1 HB.out)
                   clear HB
                   have HB := n0_
                   clear n0_
                   have p154 : 0 ≤ (x3_1 : Int) := of_decide_eq_true (by first | (with_reducible assumption) | assumption)
                   have q154 : x3_1 < (l0.length : Int) := of_decide_eq_true (by first | (with_reducible assumption) | assumption)
                   obtain ⟨ad154, e154, hx154_0, hx154_1⟩ := at_T111 HR0.out x3_1 p154 q154
                   have hw154_1 := hx154_1
                   have hw154_0 := hx154_0
                   cases e154
                   replace hx154_0 := cel HB hx154_0
                   replace hx154_1 := cel HB hx154_1
                   replace p154 := eq_true p154
                   replace q154 := eq_true q154
                   have p156 : 0 ≤ (x3_1 : Int) := of_decide_eq_true (by first | (with_reducible assumption) | assumption)
                   have q156 : x3_1 < (l0.length : Int) := of_decide_eq_true (by first | (with_reducible assumption) | assumption)
                   obtain ⟨ad156, e156, hx156_0, hx156_1⟩ := at_T111 HR0.out x3_1 p156 q156
                   have hw156_1 := hx156_1
                   have hw156_0 := hx156_0
                   obtain rfl : ad154 = ad156 := (by injection e156)
                   replace hx156_0 := cel HB hx156_0
                   replace hx156_1 := cel HB hx156_1
                   replace p156 := eq_true p156
                   replace q156 := eq_true q156
                   have p158 : 0 ≤ (x3_1 : Int) := of_decide_eq_true (by first | (with_reducible assumption) | assumption)
                   have q158 : x3_1 < (l0.length : Int) := of_decide_eq_true (by first | (with_reducible assumption) | assumption)
                   obtain ⟨ad158, e158, hx158_0, hx158_1⟩ := at_T111 HR0.out x3_1 p158 q158
                   have hw158_1 := hx158_1
                   have hw158_0 := hx158_0
                   obtain rfl : ad154 = ad158 := (by injection e158)
                   replace hx158_0 := cel HB hx158_0
                   replace hx158_1 := cel HB hx158_1
                   replace p158 := eq_true p158
                   replace q158 := eq_true q158
                   have p159 : 0 ≤ ((ji9) : Int) := of_decide_eq_true (by first | (with_reducible assumption) | assumption)
                   have q159 : (ji9) < (l0.length : Int) := of_decide_eq_true (by first | (with_reducible assumption) | assumption)
                   obtain ⟨ad159, e159, hx159_0, hx159_1⟩ := at_T111 HR0.out (ji9) p159 q159
                   have hw159_1 := hx159_1
                   have hw159_0 := hx159_0
                   obtain rfl : ad154 = ad159 := (by injection e159)
                   replace hx159_0 := cel HB hx159_0
                   replace hx159_1 := cel HB hx159_1
                   replace p159 := eq_true p159
                   replace q159 := eq_true q159
                   refine start_ (n := 34) (S := fun w' => w'.cell? (ad154.add ((x3_1).toNat * 2)) = some (.int .i64 ((rd_T111 l0 x3_1).f0)) ∧ w'.cell? ⟨(ad154.add ((x3_1).toNat * 2)).block, (ad154.add ((x3_1).toNat * 2)).off + 1, none⟩ = some (.int .i64 ((rd_T111 l0 x3_1).f1)) ∧ w'.cell? (ad154.add ((x3_1).toNat * 2)) = some (.int .i64 ((rd_T111 l0 x3_1).f0)) ∧ w'.cell? ⟨(ad154.add ((x3_1).toNat * 2)).block, (ad154.add ((x3_1).toNat * 2)).off + 1, none⟩ = some (.int .i64 ((rd_T111 l0 x3_1).f1)) ∧ w'.cell? (ad154.add ((x3_1).toNat * 2)) = some (.int .i64 ((rd_T111 l0 x3_1).f0)) ∧ w'.cell? ⟨(ad154.add ((x3_1).toNat * 2)).block, (ad154.add ((x3_1).toNat * 2)).off + 1, none⟩ = some (.int .i64 ((rd_T111 l0 x3_1).f1)) ∧ w'.cell? (ad154.add (((ji9)).toNat * 2)) = some (.int .i64 ((rd_T111 l0 (ji9)).f0)) ∧ w'.cell? ⟨(ad154.add (((ji9)).toNat * 2)).block, (ad154.add (((ji9)).toNat * 2)).off + 1, none⟩ = some (.int .i64 ((rd_T111 l0 (ji9)).f1))) (ds := []) (fb 34 0) (by kernel_rfl) rfl rfl ⟨((HB.out.cell (World.block_lt_of_cell? w _ hw154_0)).trans hw154_0), ((HB.out.cell (World.block_lt_of_cell? w _ hw154_1)).trans hw154_1), ((HB.out.cell (World.block_lt_of_cell? w _ hw156_0)).trans hw156_0), ((HB.out.cell (World.block_lt_of_cell? w _ hw156_1)).trans hw156_1), ((HB.out.cell (World.block_lt_of_cell? w _ hw158_0)).trans hw158_0), ((HB.out.cell (World.block_lt_of_cell? w _ hw158_1)).trans hw158_1), ((HB.out.cell (World.block_lt_of_cell? w _ hw159_0)).trans hw159_0), ((HB.out.cell (World.block_lt_of_cell? w _ hw159_1)).trans hw159_1)⟩ (fun hHeld => ?_); refine with_tabW spec_IsSchedule.tab4 spec_IsSchedule.bits4 (fun HT_ HW_ => ?_)
                   generalize wr.drew = w13 at HB hx154_0 hx154_1 hx156_0 hx156_1 hx158_0 hx158_1 hx159_0 hx159_1 hHeld ⊢
                   refine sqP_ 0 10 (fb 34 1) (any_of HT_.out (by kernel_rfl)) ?_
                   refine sqP_ 1 11 (fb 34 3) (any_of HT_.out (by kernel_rfl)) ?_
                   refine sqP_ 2 12 (fb 34 7) (any_of HT_.out (by kernel_rfl)) ?_
                   refine sqP_ 3 13 (fb 34 15) (any_of HT_.out (by kernel_rfl)) ?_
                   refine sqT_ 4 14 (fb 34 31) (take_ofW HT_.out HW_.out (by kernel_rfl)) hHeld ?_
                   refine one_ (i := 5) (N := some 15) (fb 34 63) rfl rfl (one_of HT_.out (by kernel_rfl)) (by decide) (fun K hK => ?_)
                   refine goes_ Tryz.func41 (by kernel_rfl) rfl #[.int .i64 ((rd_T111 l0 x3_1).f0)] (by rfl) rfl rfl (by (try simp only [List.map_toArray, List.map_cons, List.map_nil]); first | done | rfl | (simp only [List.length_drop, List.length_take]; rfl)) ?_
                   with_reducible refine (spec_l02Is.calls ((rd_T111 l0 x3_1).f0) true _ A4.out).mono ?_
                   rintro e w' ⟨rfl, ⟨nd, rfl⟩⟩
                   refine ⟨_, rfl, ?_⟩
                   refine hK.out _ _ ⟨((HB.out.cell (World.block_lt_of_cell? w _ hw154_0)).trans hw154_0), ((HB.out.cell (World.block_lt_of_cell? w _ hw154_1)).trans hw154_1), ((HB.out.cell (World.block_lt_of_cell? w _ hw156_0)).trans hw156_0), ((HB.out.cell (World.block_lt_of_cell? w _ hw156_1)).trans hw156_1), ((HB.out.cell (World.block_lt_of_cell? w _ hw158_0)).trans hw158_0), ((HB.out.cell (World.block_lt_of_cell? w _ hw158_1)).trans hw158_1), ((HB.out.cell (World.block_lt_of_cell? w _ hw159_0)).trans hw159_0), ((HB.out.cell (World.block_lt_of_cell? w _ hw159_1)).trans hw159_1)⟩ (fun hHeld => ?_)
                   clear hK K
                   refine sqN_ 15 ?_
                   refine sqP_ 6 16 (fb 34 127) (any_of HT_.out (by kernel_rfl)) ?_
                   refine sqP_ 7 17 (fb 34 255) (any_of HT_.out (by kernel_rfl)) ?_
                   refine sqP_ 8 18 (fb 34 511) (any_of HT_.out (by kernel_rfl)) ?_
                   refine sqP_ 9 19 (fb 34 1023) (any_of HT_.out (by kernel_rfl)) ?_
                   refine sqP_ 10 20 (fb 34 2047) (any_of HT_.out (by kernel_rfl)) ?_
                   refine sqP_ 11 21 (fb 34 4095) (any_of HT_.out (by kernel_rfl)) ?_
                   refine sqT_ 12 22 (fb 34 8191) (take_ofW HT_.out HW_.out (by kernel_rfl)) hHeld ?_
                   refine one_ (i := 13) (N := some 23) (fb 34 16383) rfl rfl (one_of HT_.out (by kernel_rfl)) (by decide) (fun K hK => ?_)
                   refine goes_ Tryz.func40 (by kernel_rfl) rfl #[.int .i64 ((rd_T111 l0 x3_1).f1)] (by rfl) rfl rfl (by (try simp only [List.map_toArray, List.map_cons, List.map_nil]); first | done | rfl | (simp only [List.length_drop, List.length_take]; rfl)) ?_
                   with_reducible refine (spec_l04Points.calls ((rd_T111 l0 x3_1).f1) true _ A6.out).mono ?_
                   rintro e w' ⟨rfl, ⟨nd, rfl⟩⟩
                   refine ⟨_, rfl, ?_⟩
                   refine hK.out _ _ ⟨((HB.out.cell (World.block_lt_of_cell? w _ hw154_0)).trans hw154_0), ((HB.out.cell (World.block_lt_of_cell? w _ hw154_1)).trans hw154_1), ((HB.out.cell (World.block_lt_of_cell? w _ hw156_0)).trans hw156_0), ((HB.out.cell (World.block_lt_of_cell? w _ hw156_1)).trans hw156_1), ((HB.out.cell (World.block_lt_of_cell? w _ hw158_0)).trans hw158_0), ((HB.out.cell (World.block_lt_of_cell? w _ hw158_1)).trans hw158_1), ((HB.out.cell (World.block_lt_of_cell? w _ hw159_0)).trans hw159_0), ((HB.out.cell (World.block_lt_of_cell? w _ hw159_1)).trans hw159_1)⟩ (fun hHeld => ?_)
                   clear hK K
                   refine sqN_ 23 ?_
                   refine sqP_ 14 24 (fb 34 32767) (any_of HT_.out (by kernel_rfl)) ?_
                   refine sqP_ 15 25 (fb 34 65535) (any_of HT_.out (by kernel_rfl)) ?_
                   refine sqP_ 16 26 (fb 34 131071) (any_of HT_.out (by kernel_rfl)) ?_
                   refine sqP_ 17 27 (fb 34 262143) (any_of HT_.out (by kernel_rfl)) ?_
                   refine sqP_ 18 28 (fb 34 524287) (any_of HT_.out (by kernel_rfl)) ?_
                   refine sqP_ 19 29 (fb 34 1048575) (any_of HT_.out (by kernel_rfl)) ?_
                   refine sqP_ 20 30 (fb 34 2097151) (any_of HT_.out (by kernel_rfl)) ?_
                   refine sqP_ 21 31 (fb 34 4194303) (any_of HT_.out (by kernel_rfl)) ?_
                   refine sqP_ 22 32 (fb 34 8388607) (any_of HT_.out (by kernel_rfl)) ?_
                   refine sqP_ 23 33 (fb 34 16777215) (any_of HT_.out (by kernel_rfl)) ?_
                   refine sqP_ 25 35 (fb 34 50331647) (any_of HT_.out (by kernel_rfl)) ?_
                   refine sqP_ 26 36 (fb 34 117440511) (any_of HT_.out (by kernel_rfl)) ?_
                   refine sqP_ 27 37 (fb 34 251658239) (any_of HT_.out (by kernel_rfl)) ?_
                   refine sqP_ 28 38 (fb 34 520093695) (any_of HT_.out (by kernel_rfl)) ?_
                   refine sqP_ 29 39 (fb 34 1056964607) (any_of HT_.out (by kernel_rfl)) ?_
                   refine sqT_ 24 34 (fb 34 1073741823) (take_ofW HT_.out HW_.out (by kernel_rfl)) hHeld ?_
                   refine sqT_ 30 40 (fb 34 2147483647) (take_ofW HT_.out HW_.out (by kernel_rfl)) hHeld ?_
                   refine sqP_ 31 41 (fb 34 4294967295) (any_of HT_.out (by kernel_rfl)) ?_
                   refine sqP_ 32 42 (fb 34 8589934591) (any_of HT_.out (by kernel_rfl)) ?_
                   refine sqP_ 33 43 (fb 34 17179869183) (any_of HT_.out (by kernel_rfl)) ?_
                   refine done_ (done_of HT_.out (by kernel_rfl)) ?_
                   try go_wp2
                   go_ret
                   exact ⟨by first | rfl | (simp [errW_none, errW_some] <;> rfl) | (simp only [← hji9]; first | rfl | (simp [errW_none, errW_some] <;> rfl)) | (simp [*, errW_none, errW_some] <;> rfl), bb_⟩
                 · rw [if_neg c12] at H
                   have c12b0 : decide (((rd_T111 l0 x3_1).f0) ≤ ((rd_T111 l0 (ji9)).f0)) = false := decide_eq_false c12
                   clear c12
                   have H' := Aside0.mk H
                   clear H
                   try go_wp2
                   have n0_ := Aside0.mk (below_drew1 HB.out)
                   clear HB
                   have HB := n0_
                   clear n0_
                   have p154 : 0 ≤ (x3_1 : Int) := of_decide_eq_true (by first | (with_reducible assumption) | assumption)
                   have q154 : x3_1 < (l0.length : Int) := of_decide_eq_true (by first | (with_reducible assumption) | assumption)
                   obtain ⟨ad154, e154, hx154_0, hx154_1⟩ := at_T111 HR0.out x3_1 p154 q154
                   have hw154_1 := hx154_1
                   have hw154_0 := hx154_0
                   cases e154
                   replace hx154_0 := cel HB hx154_0
                   replace hx154_1 := cel HB hx154_1
                   replace p154 := eq_true p154
                   replace q154 := eq_true q154
                   have p156 : 0 ≤ (x3_1 : Int) := of_decide_eq_true (by first | (with_reducible assumption) | assumption)
                   have q156 : x3_1 < (l0.length : Int) := of_decide_eq_true (by first | (with_reducible assumption) | assumption)
                   obtain ⟨ad156, e156, hx156_0, hx156_1⟩ := at_T111 HR0.out x3_1 p156 q156
                   have hw156_1 := hx156_1
                   have hw156_0 := hx156_0
                   obtain rfl : ad154 = ad156 := (by injection e156)
                   replace hx156_0 := cel HB hx156_0
                   replace hx156_1 := cel HB hx156_1
                   replace p156 := eq_true p156
                   replace q156 := eq_true q156
                   have p158 : 0 ≤ (x3_1 : Int) := of_decide_eq_true (by first | (with_reducible assumption) | assumption)
                   have q158 : x3_1 < (l0.length : Int) := of_decide_eq_true (by first | (with_reducible assumption) | assumption)
                   obtain ⟨ad158, e158, hx158_0, hx158_1⟩ := at_T111 HR0.out x3_1 p158 q158
                   have hw158_1 := hx158_1
                   have hw158_0 := hx158_0
                   obtain rfl : ad154 = ad158 := (by injection e158)
                   replace hx158_0 := cel HB hx158_0
                   replace hx158_1 := cel HB hx158_1
                   replace p158 := eq_true p158
                   replace q158 := eq_true q158
                   have p159 : 0 ≤ ((ji9) : Int) := of_decide_eq_true (by first | (with_reducible assumption) | assumption)
                   have q159 : (ji9) < (l0.length : Int) := of_decide_eq_true (by first | (with_reducible assumption) | assumption)
                   obtain ⟨ad159, e159, hx159_0, hx159_1⟩ := at_T111 HR0.out (ji9) p159 q159
                   have hw159_1 := hx159_1
                   have hw159_0 := hx159_0
                   obtain rfl : ad154 = ad159 := (by injection e159)
                   replace hx159_0 := cel HB hx159_0
                   replace hx159_1 := cel HB hx159_1
                   replace p159 := eq_true p159
                   replace q159 := eq_true q159
                   refine start_ (n := 34) (S := fun w' => w'.cell? (ad154.add ((x3_1).toNat * 2)) = some (.int .i64 ((rd_T111 l0 x3_1).f0)) ∧ w'.cell? ⟨(ad154.add ((x3_1).toNat * 2)).block, (ad154.add ((x3_1).toNat * 2)).off + 1, none⟩ = some (.int .i64 ((rd_T111 l0 x3_1).f1)) ∧ w'.cell? (ad154.add ((x3_1).toNat * 2)) = some (.int .i64 ((rd_T111 l0 x3_1).f0)) ∧ w'.cell? ⟨(ad154.add ((x3_1).toNat * 2)).block, (ad154.add ((x3_1).toNat * 2)).off + 1, none⟩ = some (.int .i64 ((rd_T111 l0 x3_1).f1)) ∧ w'.cell? (ad154.add ((x3_1).toNat * 2)) = some (.int .i64 ((rd_T111 l0 x3_1).f0)) ∧ w'.cell? ⟨(ad154.add ((x3_1).toNat * 2)).block, (ad154.add ((x3_1).toNat * 2)).off + 1, none⟩ = some (.int .i64 ((rd_T111 l0 x3_1).f1)) ∧ w'.cell? (ad154.add (((ji9)).toNat * 2)) = some (.int .i64 ((rd_T111 l0 (ji9)).f0)) ∧ w'.cell? ⟨(ad154.add (((ji9)).toNat * 2)).block, (ad154.add (((ji9)).toNat * 2)).off + 1, none⟩ = some (.int .i64 ((rd_T111 l0 (ji9)).f1))) (ds := []) (fb 34 0) (by kernel_rfl) rfl rfl ⟨((HB.out.cell (World.block_lt_of_cell? w _ hw154_0)).trans hw154_0), ((HB.out.cell (World.block_lt_of_cell? w _ hw154_1)).trans hw154_1), ((HB.out.cell (World.block_lt_of_cell? w _ hw156_0)).trans hw156_0), ((HB.out.cell (World.block_lt_of_cell? w _ hw156_1)).trans hw156_1), ((HB.out.cell (World.block_lt_of_cell? w _ hw158_0)).trans hw158_0), ((HB.out.cell (World.block_lt_of_cell? w _ hw158_1)).trans hw158_1), ((HB.out.cell (World.block_lt_of_cell? w _ hw159_0)).trans hw159_0), ((HB.out.cell (World.block_lt_of_cell? w _ hw159_1)).trans hw159_1)⟩ (fun hHeld => ?_); refine with_tabW spec_IsSchedule.tab4 spec_IsSchedule.bits4 (fun HT_ HW_ => ?_)
                   generalize wr.drew = w14 at HB hx154_0 hx154_1 hx156_0 hx156_1 hx158_0 hx158_1 hx159_0 hx159_1 hHeld ⊢
                   refine sqP_ 0 10 (fb 34 1) (any_of HT_.out (by kernel_rfl)) ?_
                   refine sqP_ 1 11 (fb 34 3) (any_of HT_.out (by kernel_rfl)) ?_
                   refine sqP_ 2 12 (fb 34 7) (any_of HT_.out (by kernel_rfl)) ?_
                   refine sqP_ 3 13 (fb 34 15) (any_of HT_.out (by kernel_rfl)) ?_
                   refine sqT_ 4 14 (fb 34 31) (take_ofW HT_.out HW_.out (by kernel_rfl)) hHeld ?_
                   refine one_ (i := 5) (N := some 15) (fb 34 63) rfl rfl (one_of HT_.out (by kernel_rfl)) (by decide) (fun K hK => ?_)
                   refine goes_ Tryz.func41 (by kernel_rfl) rfl #[.int .i64 ((rd_T111 l0 x3_1).f0)] (by rfl) rfl rfl (by (try simp only [List.map_toArray, List.map_cons, List.map_nil]); first | done | rfl | (simp only [List.length_drop, List.length_take]; rfl)) ?_
                   with_reducible refine (spec_l02Is.calls ((rd_T111 l0 x3_1).f0) true _ A4.out).mono ?_
                   rintro e w' ⟨rfl, ⟨nd, rfl⟩⟩
                   refine ⟨_, rfl, ?_⟩
                   refine hK.out _ _ ⟨((HB.out.cell (World.block_lt_of_cell? w _ hw154_0)).trans hw154_0), ((HB.out.cell (World.block_lt_of_cell? w _ hw154_1)).trans hw154_1), ((HB.out.cell (World.block_lt_of_cell? w _ hw156_0)).trans hw156_0), ((HB.out.cell (World.block_lt_of_cell? w _ hw156_1)).trans hw156_1), ((HB.out.cell (World.block_lt_of_cell? w _ hw158_0)).trans hw158_0), ((HB.out.cell (World.block_lt_of_cell? w _ hw158_1)).trans hw158_1), ((HB.out.cell (World.block_lt_of_cell? w _ hw159_0)).trans hw159_0), ((HB.out.cell (World.block_lt_of_cell? w _ hw159_1)).trans hw159_1)⟩ (fun hHeld => ?_)
                   clear hK K
                   refine sqN_ 15 ?_
                   refine sqP_ 6 16 (fb 34 127) (any_of HT_.out (by kernel_rfl)) ?_
                   refine sqP_ 7 17 (fb 34 255) (any_of HT_.out (by kernel_rfl)) ?_
                   refine sqP_ 8 18 (fb 34 511) (any_of HT_.out (by kernel_rfl)) ?_
                   refine sqP_ 9 19 (fb 34 1023) (any_of HT_.out (by kernel_rfl)) ?_
                   refine sqP_ 10 20 (fb 34 2047) (any_of HT_.out (by kernel_rfl)) ?_
                   refine sqP_ 11 21 (fb 34 4095) (any_of HT_.out (by kernel_rfl)) ?_
                   refine sqT_ 12 22 (fb 34 8191) (take_ofW HT_.out HW_.out (by kernel_rfl)) hHeld ?_
                   refine one_ (i := 13) (N := some 23) (fb 34 16383) rfl rfl (one_of HT_.out (by kernel_rfl)) (by decide) (fun K hK => ?_)
                   refine goes_ Tryz.func40 (by kernel_rfl) rfl #[.int .i64 ((rd_T111 l0 x3_1).f1)] (by rfl) rfl rfl (by (try simp only [List.map_toArray, List.map_cons, List.map_nil]); first | done | rfl | (simp only [List.length_drop, List.length_take]; rfl)) ?_
                   with_reducible refine (spec_l04Points.calls ((rd_T111 l0 x3_1).f1) true _ A6.out).mono ?_
                   rintro e w' ⟨rfl, ⟨nd, rfl⟩⟩
                   refine ⟨_, rfl, ?_⟩
                   refine hK.out _ _ ⟨((HB.out.cell (World.block_lt_of_cell? w _ hw154_0)).trans hw154_0), ((HB.out.cell (World.block_lt_of_cell? w _ hw154_1)).trans hw154_1), ((HB.out.cell (World.block_lt_of_cell? w _ hw156_0)).trans hw156_0), ((HB.out.cell (World.block_lt_of_cell? w _ hw156_1)).trans hw156_1), ((HB.out.cell (World.block_lt_of_cell? w _ hw158_0)).trans hw158_0), ((HB.out.cell (World.block_lt_of_cell? w _ hw158_1)).trans hw158_1), ((HB.out.cell (World.block_lt_of_cell? w _ hw159_0)).trans hw159_0), ((HB.out.cell (World.block_lt_of_cell? w _ hw159_1)).trans hw159_1)⟩ (fun hHeld => ?_)
                   clear hK K
                   refine sqN_ 23 ?_
                   refine sqP_ 14 24 (fb 34 32767) (any_of HT_.out (by kernel_rfl)) ?_
                   refine sqP_ 15 25 (fb 34 65535) (any_of HT_.out (by kernel_rfl)) ?_
                   refine sqP_ 16 26 (fb 34 131071) (any_of HT_.out (by kernel_rfl)) ?_
                   refine sqP_ 17 27 (fb 34 262143) (any_of HT_.out (by kernel_rfl)) ?_
                   refine sqP_ 18 28 (fb 34 524287) (any_of HT_.out (by kernel_rfl)) ?_
                   refine sqP_ 19 29 (fb 34 1048575) (any_of HT_.out (by kernel_rfl)) ?_
                   refine sqP_ 20 30 (fb 34 2097151) (any_of HT_.out (by kernel_rfl)) ?_
                   refine sqP_ 21 31 (fb 34 4194303) (any_of HT_.out (by kernel_rfl)) ?_
                   refine sqP_ 22 32 (fb 34 8388607) (any_of HT_.out (by kernel_rfl)) ?_
                   refine sqP_ 23 33 (fb 34 16777215) (any_of HT_.out (by kernel_rfl)) ?_
                   refine sqP_ 25 35 (fb 34 50331647) (any_of HT_.out (by kernel_rfl)) ?_
                   refine sqP_ 26 36 (fb 34 117440511) (any_of HT_.out (by kernel_rfl)) ?_
                   refine sqP_ 27 37 (fb 34 251658239) (any_of HT_.out (by kernel_rfl)) ?_
                   refine sqP_ 28 38 (fb 34 520093695) (any_of HT_.out (by kernel_rfl)) ?_
                   refine sqP_ 29 39 (fb 34 1056964607) (any_of HT_.out (by kernel_rfl)) ?_
                   refine sqT_ 24 34 (fb 34 1073741823) (take_ofW HT_.out HW_.out (by kernel_rfl)) hHeld ?_
                   refine sqT_ 30 40 (fb 34 2147483647) (take_ofW HT_.out HW_.out (by kernel_rfl)) hHeld ?_
                   refine sqP_ 31 41 (fb 34 4294967295) (any_of HT_.out (by kernel_rfl)) ?_
                   refine sqP_ 32 42 (fb 34 8589934591) (any_of HT_.out (by kernel_rfl)) ?_
                   refine sqP_ 33 43 (fb 34 17179869183) (any_of HT_.out (by kernel_rfl)) ?_
                   refine done_ (done_of HT_.out (by kernel_rfl)) ?_
                   try go_wp2
                   go_roundg k1
                   case measure => have := HK1.out; omega
                   case rel => exact ⟨(wrap64 (x3_1 + 1)), (by first | rfl | (simp; done) | (simp [*]; done)), H', ⟨by have := HK1.out; omega⟩, ⟨bb_⟩⟩
               · rw [if_neg c11] at H
                 exact absurd H (by simp)
             · rw [if_neg c10] at H
               exact absurd H (by simp)
           · rw [if_neg c8] at H
             have c8b0 : decide (0 < x3_1) = false := decide_eq_false c8
             clear c8
             have H' := Aside0.mk H
             clear H
             try go_wp2
             have n0_ := Aside0.mk (below_drew1 HB.out)
             clear HB
             have HB := n0_
             clear n0_
             have p154 : 0 ≤ (x3_1 : Int) := of_decide_eq_true (by first | (with_reducible assumption) | assumption)
             have q154 : x3_1 < (l0.length : Int) := of_decide_eq_true (by first | (with_reducible assumption) | assumption)
             obtain ⟨ad154, e154, hx154_0, hx154_1⟩ := at_T111 HR0.out x3_1 p154 q154
             have hw154_1 := hx154_1
             have hw154_0 := hx154_0
             cases e154
             replace hx154_0 := cel HB hx154_0
             replace hx154_1 := cel HB hx154_1
             replace p154 := eq_true p154
             replace q154 := eq_true q154
             have p156 : 0 ≤ (x3_1 : Int) := of_decide_eq_true (by first | (with_reducible assumption) | assumption)
             have q156 : x3_1 < (l0.length : Int) := of_decide_eq_true (by first | (with_reducible assumption) | assumption)
             obtain ⟨ad156, e156, hx156_0, hx156_1⟩ := at_T111 HR0.out x3_1 p156 q156
             have hw156_1 := hx156_1
             have hw156_0 := hx156_0
             obtain rfl : ad154 = ad156 := (by injection e156)
             replace hx156_0 := cel HB hx156_0
             replace hx156_1 := cel HB hx156_1
             replace p156 := eq_true p156
             replace q156 := eq_true q156
             refine start_ (n := 34) (S := fun w' => w'.cell? (ad154.add ((x3_1).toNat * 2)) = some (.int .i64 ((rd_T111 l0 x3_1).f0)) ∧ w'.cell? ⟨(ad154.add ((x3_1).toNat * 2)).block, (ad154.add ((x3_1).toNat * 2)).off + 1, none⟩ = some (.int .i64 ((rd_T111 l0 x3_1).f1)) ∧ w'.cell? (ad154.add ((x3_1).toNat * 2)) = some (.int .i64 ((rd_T111 l0 x3_1).f0)) ∧ w'.cell? ⟨(ad154.add ((x3_1).toNat * 2)).block, (ad154.add ((x3_1).toNat * 2)).off + 1, none⟩ = some (.int .i64 ((rd_T111 l0 x3_1).f1))) (ds := []) (fb 34 0) (by kernel_rfl) rfl rfl ⟨((HB.out.cell (World.block_lt_of_cell? w _ hw154_0)).trans hw154_0), ((HB.out.cell (World.block_lt_of_cell? w _ hw154_1)).trans hw154_1), ((HB.out.cell (World.block_lt_of_cell? w _ hw156_0)).trans hw156_0), ((HB.out.cell (World.block_lt_of_cell? w _ hw156_1)).trans hw156_1)⟩ (fun hHeld => ?_); refine with_tabW spec_IsSchedule.tab4 spec_IsSchedule.bits4 (fun HT_ HW_ => ?_)
             generalize wr.drew = w15 at HB hx154_0 hx154_1 hx156_0 hx156_1 hHeld ⊢
             refine sqP_ 0 10 (fb 34 1) (any_of HT_.out (by kernel_rfl)) ?_
             refine sqP_ 1 11 (fb 34 3) (any_of HT_.out (by kernel_rfl)) ?_
             refine sqP_ 2 12 (fb 34 7) (any_of HT_.out (by kernel_rfl)) ?_
             refine sqP_ 3 13 (fb 34 15) (any_of HT_.out (by kernel_rfl)) ?_
             refine sqT_ 4 14 (fb 34 31) (take_ofW HT_.out HW_.out (by kernel_rfl)) hHeld ?_
             refine one_ (i := 5) (N := some 15) (fb 34 63) rfl rfl (one_of HT_.out (by kernel_rfl)) (by decide) (fun K hK => ?_)
             refine goes_ Tryz.func41 (by kernel_rfl) rfl #[.int .i64 ((rd_T111 l0 x3_1).f0)] (by rfl) rfl rfl (by (try simp only [List.map_toArray, List.map_cons, List.map_nil]); first | done | rfl | (simp only [List.length_drop, List.length_take]; rfl)) ?_
             with_reducible refine (spec_l02Is.calls ((rd_T111 l0 x3_1).f0) true _ A4.out).mono ?_
             rintro e w' ⟨rfl, ⟨nd, rfl⟩⟩
             refine ⟨_, rfl, ?_⟩
             refine hK.out _ _ ⟨((HB.out.cell (World.block_lt_of_cell? w _ hw154_0)).trans hw154_0), ((HB.out.cell (World.block_lt_of_cell? w _ hw154_1)).trans hw154_1), ((HB.out.cell (World.block_lt_of_cell? w _ hw156_0)).trans hw156_0), ((HB.out.cell (World.block_lt_of_cell? w _ hw156_1)).trans hw156_1)⟩ (fun hHeld => ?_)
             clear hK K
             refine sqN_ 15 ?_
             refine sqP_ 6 16 (fb 34 127) (any_of HT_.out (by kernel_rfl)) ?_
             refine sqP_ 7 17 (fb 34 255) (any_of HT_.out (by kernel_rfl)) ?_
             refine sqP_ 8 18 (fb 34 511) (any_of HT_.out (by kernel_rfl)) ?_
             refine sqP_ 9 19 (fb 34 1023) (any_of HT_.out (by kernel_rfl)) ?_
             refine sqP_ 10 20 (fb 34 2047) (any_of HT_.out (by kernel_rfl)) ?_
             refine sqP_ 11 21 (fb 34 4095) (any_of HT_.out (by kernel_rfl)) ?_
             refine sqT_ 12 22 (fb 34 8191) (take_ofW HT_.out HW_.out (by kernel_rfl)) hHeld ?_
             refine one_ (i := 13) (N := some 23) (fb 34 16383) rfl rfl (one_of HT_.out (by kernel_rfl)) (by decide) (fun K hK => ?_)
             refine goes_ Tryz.func40 (by kernel_rfl) rfl #[.int .i64 ((rd_T111 l0 x3_1).f1)] (by rfl) rfl rfl (by (try simp only [List.map_toArray, List.map_cons, List.map_nil]); first | done | rfl | (simp only [List.length_drop, List.length_take]; rfl)) ?_
             with_reducible refine (spec_l04Points.calls ((rd_T111 l0 x3_1).f1) true _ A6.out).mono ?_
             rintro e w' ⟨rfl, ⟨nd, rfl⟩⟩
             refine ⟨_, rfl, ?_⟩
             refine hK.out _ _ ⟨((HB.out.cell (World.block_lt_of_cell? w _ hw154_0)).trans hw154_0), ((HB.out.cell (World.block_lt_of_cell? w _ hw154_1)).trans hw154_1), ((HB.out.cell (World.block_lt_of_cell? w _ hw156_0)).trans hw156_0), ((HB.out.cell (World.block_lt_of_cell? w _ hw156_1)).trans hw156_1)⟩ (fun hHeld => ?_)
             clear hK K
             refine sqN_ 23 ?_
             refine sqP_ 14 24 (fb 34 32767) (any_of HT_.out (by kernel_rfl)) ?_
             refine sqP_ 15 25 (fb 34 65535) (any_of HT_.out (by kernel_rfl)) ?_
             refine sqP_ 16 26 (fb 34 131071) (any_of HT_.out (by kernel_rfl)) ?_
             refine sqP_ 17 27 (fb 34 262143) (any_of HT_.out (by kernel_rfl)) ?_
             refine sqP_ 18 28 (fb 34 524287) (any_of HT_.out (by kernel_rfl)) ?_
             refine sqP_ 19 29 (fb 34 1048575) (any_of HT_.out (by kernel_rfl)) ?_
             refine sqO_ 20 30 (fb 34 2097151) (any_of HT_.out (by kernel_rfl)) ?_
             refine sqO_ 21 31 (fb 34 4194303) (any_of HT_.out (by kernel_rfl)) ?_
             refine sqO_ 22 32 (fb 34 8388607) (any_of HT_.out (by kernel_rfl)) ?_
             refine sqO_ 23 33 (fb 34 16777215) (any_of HT_.out (by kernel_rfl)) ?_
             refine sqO_ 24 34 (fb 34 33554431) (any_of HT_.out (by kernel_rfl)) ?_
             refine sqO_ 25 35 (fb 34 67108863) (any_of HT_.out (by kernel_rfl)) ?_
             refine sqO_ 26 36 (fb 34 134217727) (any_of HT_.out (by kernel_rfl)) ?_
             refine sqO_ 27 37 (fb 34 268435455) (any_of HT_.out (by kernel_rfl)) ?_
             refine sqO_ 28 38 (fb 34 536870911) (any_of HT_.out (by kernel_rfl)) ?_
             refine sqO_ 29 39 (fb 34 1073741823) (any_of HT_.out (by kernel_rfl)) ?_
             refine sqO_ 30 40 (fb 34 2147483647) (any_of HT_.out (by kernel_rfl)) ?_
             refine sqO_ 31 41 (fb 34 4294967295) (any_of HT_.out (by kernel_rfl)) ?_
             refine sqP_ 32 42 (fb 34 8589934591) (any_of HT_.out (by kernel_rfl)) ?_
             refine sqP_ 33 43 (fb 34 17179869183) (any_of HT_.out (by kernel_rfl)) ?_
             refine done_ (done_of HT_.out (by kernel_rfl)) ?_
             try go_wp2
             go_roundg k1
             case measure => have := HK1.out; omega
             case rel => exact ⟨(wrap64 (x3_1 + 1)), (by first | rfl | (simp; done) | (simp [*]; done)), H', ⟨by have := HK1.out; omega⟩, ⟨bb_⟩⟩
         · replace c7 := Bool.eq_false_iff.mpr c7
           subst c7
           have H1 : (some false) = some r := by rw [if_neg (show ¬ (false = true) by decide)] at H; exact H
           clear H
           have H := H1
           clear H1
           obtain rfl := Option.some.inj H
           try go_wp2
           have n0_ := Aside0.mk (below_drew1 HB.out)
           clear HB
           have HB := n0_
           clear n0_
           have p154 : 0 ≤ (x3_1 : Int) := of_decide_eq_true (by first | (with_reducible assumption) | assumption)
           have q154 : x3_1 < (l0.length : Int) := of_decide_eq_true (by first | (with_reducible assumption) | assumption)
           obtain ⟨ad154, e154, hx154_0, hx154_1⟩ := at_T111 HR0.out x3_1 p154 q154
           have hw154_1 := hx154_1
           have hw154_0 := hx154_0
           cases e154
           replace hx154_0 := cel HB hx154_0
           replace hx154_1 := cel HB hx154_1
           replace p154 := eq_true p154
           replace q154 := eq_true q154
           have p156 : 0 ≤ (x3_1 : Int) := of_decide_eq_true (by first | (with_reducible assumption) | assumption)
           have q156 : x3_1 < (l0.length : Int) := of_decide_eq_true (by first | (with_reducible assumption) | assumption)
           obtain ⟨ad156, e156, hx156_0, hx156_1⟩ := at_T111 HR0.out x3_1 p156 q156
           have hw156_1 := hx156_1
           have hw156_0 := hx156_0
           obtain rfl : ad154 = ad156 := (by injection e156)
           replace hx156_0 := cel HB hx156_0
           replace hx156_1 := cel HB hx156_1
           replace p156 := eq_true p156
           replace q156 := eq_true q156
           refine start_ (n := 34) (S := fun w' => w'.cell? (ad154.add ((x3_1).toNat * 2)) = some (.int .i64 ((rd_T111 l0 x3_1).f0)) ∧ w'.cell? ⟨(ad154.add ((x3_1).toNat * 2)).block, (ad154.add ((x3_1).toNat * 2)).off + 1, none⟩ = some (.int .i64 ((rd_T111 l0 x3_1).f1)) ∧ w'.cell? (ad154.add ((x3_1).toNat * 2)) = some (.int .i64 ((rd_T111 l0 x3_1).f0)) ∧ w'.cell? ⟨(ad154.add ((x3_1).toNat * 2)).block, (ad154.add ((x3_1).toNat * 2)).off + 1, none⟩ = some (.int .i64 ((rd_T111 l0 x3_1).f1))) (ds := []) (fb 34 0) (by kernel_rfl) rfl rfl ⟨((HB.out.cell (World.block_lt_of_cell? w _ hw154_0)).trans hw154_0), ((HB.out.cell (World.block_lt_of_cell? w _ hw154_1)).trans hw154_1), ((HB.out.cell (World.block_lt_of_cell? w _ hw156_0)).trans hw156_0), ((HB.out.cell (World.block_lt_of_cell? w _ hw156_1)).trans hw156_1)⟩ (fun hHeld => ?_); refine with_tabW spec_IsSchedule.tab4 spec_IsSchedule.bits4 (fun HT_ HW_ => ?_)
           generalize wr.drew = w16 at HB hx154_0 hx154_1 hx156_0 hx156_1 hHeld ⊢
           refine sqP_ 0 10 (fb 34 1) (any_of HT_.out (by kernel_rfl)) ?_
           refine sqP_ 1 11 (fb 34 3) (any_of HT_.out (by kernel_rfl)) ?_
           refine sqP_ 2 12 (fb 34 7) (any_of HT_.out (by kernel_rfl)) ?_
           refine sqP_ 3 13 (fb 34 15) (any_of HT_.out (by kernel_rfl)) ?_
           refine sqT_ 4 14 (fb 34 31) (take_ofW HT_.out HW_.out (by kernel_rfl)) hHeld ?_
           refine one_ (i := 5) (N := some 15) (fb 34 63) rfl rfl (one_of HT_.out (by kernel_rfl)) (by decide) (fun K hK => ?_)
           refine goes_ Tryz.func41 (by kernel_rfl) rfl #[.int .i64 ((rd_T111 l0 x3_1).f0)] (by rfl) rfl rfl (by (try simp only [List.map_toArray, List.map_cons, List.map_nil]); first | done | rfl | (simp only [List.length_drop, List.length_take]; rfl)) ?_
           with_reducible refine (spec_l02Is.calls ((rd_T111 l0 x3_1).f0) true _ A4.out).mono ?_
           rintro e w' ⟨rfl, ⟨nd, rfl⟩⟩
           refine ⟨_, rfl, ?_⟩
           refine hK.out _ _ ⟨((HB.out.cell (World.block_lt_of_cell? w _ hw154_0)).trans hw154_0), ((HB.out.cell (World.block_lt_of_cell? w _ hw154_1)).trans hw154_1), ((HB.out.cell (World.block_lt_of_cell? w _ hw156_0)).trans hw156_0), ((HB.out.cell (World.block_lt_of_cell? w _ hw156_1)).trans hw156_1)⟩ (fun hHeld => ?_)
           clear hK K
           refine sqN_ 15 ?_
           refine sqP_ 6 16 (fb 34 127) (any_of HT_.out (by kernel_rfl)) ?_
           refine sqP_ 7 17 (fb 34 255) (any_of HT_.out (by kernel_rfl)) ?_
           refine sqP_ 8 18 (fb 34 511) (any_of HT_.out (by kernel_rfl)) ?_
           refine sqP_ 9 19 (fb 34 1023) (any_of HT_.out (by kernel_rfl)) ?_
           refine sqP_ 10 20 (fb 34 2047) (any_of HT_.out (by kernel_rfl)) ?_
           refine sqP_ 11 21 (fb 34 4095) (any_of HT_.out (by kernel_rfl)) ?_
           refine sqT_ 12 22 (fb 34 8191) (take_ofW HT_.out HW_.out (by kernel_rfl)) hHeld ?_
           refine one_ (i := 13) (N := some 23) (fb 34 16383) rfl rfl (one_of HT_.out (by kernel_rfl)) (by decide) (fun K hK => ?_)
           refine goes_ Tryz.func40 (by kernel_rfl) rfl #[.int .i64 ((rd_T111 l0 x3_1).f1)] (by rfl) rfl rfl (by (try simp only [List.map_toArray, List.map_cons, List.map_nil]); first | done | rfl | (simp only [List.length_drop, List.length_take]; rfl)) ?_
           with_reducible refine (spec_l04Points.calls ((rd_T111 l0 x3_1).f1) false _ A6.out).mono ?_
           rintro e w' ⟨rfl, ⟨nd, rfl⟩⟩
           refine ⟨_, rfl, ?_⟩
           refine hK.out _ _ ⟨((HB.out.cell (World.block_lt_of_cell? w _ hw154_0)).trans hw154_0), ((HB.out.cell (World.block_lt_of_cell? w _ hw154_1)).trans hw154_1), ((HB.out.cell (World.block_lt_of_cell? w _ hw156_0)).trans hw156_0), ((HB.out.cell (World.block_lt_of_cell? w _ hw156_1)).trans hw156_1)⟩ (fun hHeld => ?_)
           clear hK K
           refine sqN_ 23 ?_
           refine sqP_ 14 24 (fb 34 32767) (any_of HT_.out (by kernel_rfl)) ?_
           refine sqP_ 15 25 (fb 34 65535) (any_of HT_.out (by kernel_rfl)) ?_
           refine sqP_ 16 26 (fb 34 131071) (any_of HT_.out (by kernel_rfl)) ?_
           refine sqO_ 17 27 (fb 34 262143) (any_of HT_.out (by kernel_rfl)) ?_
           refine sqO_ 18 28 (fb 34 524287) (any_of HT_.out (by kernel_rfl)) ?_
           refine sqO_ 19 29 (fb 34 1048575) (any_of HT_.out (by kernel_rfl)) ?_
           refine sqO_ 20 30 (fb 34 2097151) (any_of HT_.out (by kernel_rfl)) ?_
           refine sqO_ 21 31 (fb 34 4194303) (any_of HT_.out (by kernel_rfl)) ?_
           refine sqO_ 22 32 (fb 34 8388607) (any_of HT_.out (by kernel_rfl)) ?_
           refine sqO_ 23 33 (fb 34 16777215) (any_of HT_.out (by kernel_rfl)) ?_
           refine sqO_ 24 34 (fb 34 33554431) (any_of HT_.out (by kernel_rfl)) ?_
           refine sqO_ 25 35 (fb 34 67108863) (any_of HT_.out (by kernel_rfl)) ?_
           refine sqO_ 26 36 (fb 34 134217727) (any_of HT_.out (by kernel_rfl)) ?_
           refine sqO_ 27 37 (fb 34 268435455) (any_of HT_.out (by kernel_rfl)) ?_
           refine sqO_ 28 38 (fb 34 536870911) (any_of HT_.out (by kernel_rfl)) ?_
           refine sqO_ 29 39 (fb 34 1073741823) (any_of HT_.out (by kernel_rfl)) ?_
           refine sqO_ 30 40 (fb 34 2147483647) (any_of HT_.out (by kernel_rfl)) ?_
           refine sqO_ 31 41 (fb 34 4294967295) (any_of HT_.out (by kernel_rfl)) ?_
           refine sqO_ 32 42 (fb 34 8589934591) (any_of HT_.out (by kernel_rfl)) ?_
           refine sqP_ 33 43 (fb 34 17179869183) (any_of HT_.out (by kernel_rfl)) ?_
           refine done_ (done_of HT_.out (by kernel_rfl)) ?_
           try go_wp2
           go_ret
           exact ⟨by first | rfl | (simp [errW_none, errW_some] <;> rfl) | (simp [*, errW_none, errW_some] <;> rfl), bb_⟩
       · replace c5 := Bool.eq_false_iff.mpr c5
         subst c5
         have H1 : (some false) = some r := by rw [if_neg (show ¬ (false = true) by decide)] at H; exact H
         clear H
         have H := H1
         clear H1
         obtain rfl := Option.some.inj H
         try go_wp2
         have n0_ := Aside0.mk (below_drew1 HB.out)
         clear HB
         have HB := n0_
         clear n0_
         have p154 : 0 ≤ (x3_1 : Int) := of_decide_eq_true (by first | (with_reducible assumption) | assumption)
         have q154 : x3_1 < (l0.length : Int) := of_decide_eq_true (by first | (with_reducible assumption) | assumption)
         obtain ⟨ad154, e154, hx154_0, hx154_1⟩ := at_T111 HR0.out x3_1 p154 q154
         have hw154_1 := hx154_1
         have hw154_0 := hx154_0
         cases e154
         replace hx154_0 := cel HB hx154_0
         replace hx154_1 := cel HB hx154_1
         replace p154 := eq_true p154
         replace q154 := eq_true q154
         refine start_ (n := 34) (S := fun w' => w'.cell? (ad154.add ((x3_1).toNat * 2)) = some (.int .i64 ((rd_T111 l0 x3_1).f0)) ∧ w'.cell? ⟨(ad154.add ((x3_1).toNat * 2)).block, (ad154.add ((x3_1).toNat * 2)).off + 1, none⟩ = some (.int .i64 ((rd_T111 l0 x3_1).f1))) (ds := []) (fb 34 0) (by kernel_rfl) rfl rfl ⟨((HB.out.cell (World.block_lt_of_cell? w _ hw154_0)).trans hw154_0), ((HB.out.cell (World.block_lt_of_cell? w _ hw154_1)).trans hw154_1)⟩ (fun hHeld => ?_); refine with_tabW spec_IsSchedule.tab4 spec_IsSchedule.bits4 (fun HT_ HW_ => ?_)
         generalize wr.drew = w17 at HB hx154_0 hx154_1 hHeld ⊢
         refine sqP_ 0 10 (fb 34 1) (any_of HT_.out (by kernel_rfl)) ?_
         refine sqP_ 1 11 (fb 34 3) (any_of HT_.out (by kernel_rfl)) ?_
         refine sqP_ 2 12 (fb 34 7) (any_of HT_.out (by kernel_rfl)) ?_
         refine sqP_ 3 13 (fb 34 15) (any_of HT_.out (by kernel_rfl)) ?_
         refine sqT_ 4 14 (fb 34 31) (take_ofW HT_.out HW_.out (by kernel_rfl)) hHeld ?_
         refine one_ (i := 5) (N := some 15) (fb 34 63) rfl rfl (one_of HT_.out (by kernel_rfl)) (by decide) (fun K hK => ?_)
         refine goes_ Tryz.func41 (by kernel_rfl) rfl #[.int .i64 ((rd_T111 l0 x3_1).f0)] (by rfl) rfl rfl (by (try simp only [List.map_toArray, List.map_cons, List.map_nil]); first | done | rfl | (simp only [List.length_drop, List.length_take]; rfl)) ?_
         with_reducible refine (spec_l02Is.calls ((rd_T111 l0 x3_1).f0) false _ A4.out).mono ?_
         rintro e w' ⟨rfl, ⟨nd, rfl⟩⟩
         refine ⟨_, rfl, ?_⟩
         refine hK.out _ _ ⟨((HB.out.cell (World.block_lt_of_cell? w _ hw154_0)).trans hw154_0), ((HB.out.cell (World.block_lt_of_cell? w _ hw154_1)).trans hw154_1)⟩ (fun hHeld => ?_)
         clear hK K
         refine sqN_ 15 ?_
         refine sqP_ 6 16 (fb 34 127) (any_of HT_.out (by kernel_rfl)) ?_
         refine sqP_ 7 17 (fb 34 255) (any_of HT_.out (by kernel_rfl)) ?_
         refine sqO_ 8 18 (fb 34 511) (any_of HT_.out (by kernel_rfl)) ?_
         refine sqO_ 9 19 (fb 34 1023) (any_of HT_.out (by kernel_rfl)) ?_
         refine sqO_ 10 20 (fb 34 2047) (any_of HT_.out (by kernel_rfl)) ?_
         refine sqO_ 11 21 (fb 34 4095) (any_of HT_.out (by kernel_rfl)) ?_
         refine sqO_ 12 22 (fb 34 8191) (any_of HT_.out (by kernel_rfl)) ?_
         refine sqO_ 13 23 (fb 34 16383) (any_of HT_.out (by kernel_rfl)) ?_
         refine sqO_ 14 24 (fb 34 32767) (any_of HT_.out (by kernel_rfl)) ?_
         refine sqP_ 15 25 (fb 34 65535) (any_of HT_.out (by kernel_rfl)) ?_
         refine sqP_ 16 26 (fb 34 131071) (any_of HT_.out (by kernel_rfl)) ?_
         refine sqO_ 17 27 (fb 34 262143) (any_of HT_.out (by kernel_rfl)) ?_
         refine sqO_ 18 28 (fb 34 524287) (any_of HT_.out (by kernel_rfl)) ?_
         refine sqO_ 19 29 (fb 34 1048575) (any_of HT_.out (by kernel_rfl)) ?_
         refine sqO_ 20 30 (fb 34 2097151) (any_of HT_.out (by kernel_rfl)) ?_
         refine sqO_ 21 31 (fb 34 4194303) (any_of HT_.out (by kernel_rfl)) ?_
         refine sqO_ 22 32 (fb 34 8388607) (any_of HT_.out (by kernel_rfl)) ?_
         refine sqO_ 23 33 (fb 34 16777215) (any_of HT_.out (by kernel_rfl)) ?_
         refine sqO_ 24 34 (fb 34 33554431) (any_of HT_.out (by kernel_rfl)) ?_
         refine sqO_ 25 35 (fb 34 67108863) (any_of HT_.out (by kernel_rfl)) ?_
         refine sqO_ 26 36 (fb 34 134217727) (any_of HT_.out (by kernel_rfl)) ?_
         refine sqO_ 27 37 (fb 34 268435455) (any_of HT_.out (by kernel_rfl)) ?_
         refine sqO_ 28 38 (fb 34 536870911) (any_of HT_.out (by kernel_rfl)) ?_
         refine sqO_ 29 39 (fb 34 1073741823) (any_of HT_.out (by kernel_rfl)) ?_
         refine sqO_ 30 40 (fb 34 2147483647) (any_of HT_.out (by kernel_rfl)) ?_
         refine sqO_ 31 41 (fb 34 4294967295) (any_of HT_.out (by kernel_rfl)) ?_
         refine sqO_ 32 42 (fb 34 8589934591) (any_of HT_.out (by kernel_rfl)) ?_
         refine sqP_ 33 43 (fb 34 17179869183) (any_of HT_.out (by kernel_rfl)) ?_
         refine done_ (done_of HT_.out (by kernel_rfl)) ?_
         try go_wp2
         go_ret
         exact ⟨by first | rfl | (simp [errW_none, errW_some] <;> rfl) | (simp [*, errW_none, errW_some] <;> rfl), bb_⟩
     · rw [if_neg c3] at H
       exact absurd H (by simp)
   · rw [if_neg c2] at H
     have c2b0 : decide (x3_1 < (l0.length : Int)) = false := decide_eq_false c2
     clear c2
     replace H := Option.bind_eq_some_iff.mp H
     obtain ⟨t153, A180, H⟩ := H
     replace H : (some t153) = some r := H
     have A18 := Aside0.mk A180
     clear A180
     obtain rfl := Option.some.inj H
     go_wp2_with (first | ((with_reducible refine gate_callee (f := 86) rfl ?_); refine goesL_ (some 46) rfl rfl Tryz.func86 (by kernel_rfl) rfl #[.int .i64 (l0.length : Int), .int .i64 1, .int .i64 12] rfl (by (try simp only [List.map_toArray, List.map_cons, List.map_nil]); first | done | rfl | (simp only [List.length_drop, List.length_take]; rfl)) ?_; (with_reducible refine (spec_l01In.calls (l0.length : Int) 1 12 t153 _ A18.out).mono ?_); rintro e w' ⟨rfl, ⟨nd, rfl⟩⟩; refine ⟨_, rfl, ?_⟩))
     go_ret
     exact ⟨by first | rfl | (simp [errW_none, errW_some] <;> rfl) | (simp [*, errW_none, errW_some] <;> rfl), bb_⟩

end Go.Proofs.YtmfbkbbgokjhnaaGreat.F
namespace Go.Proofs.YtmfbkbbgokjhnaaGreat.F
open Go.RowKit Go.Proofs.YtmfbkbbgokjhnaaGreatW.PrintWords Go.Proofs.YtmfbkbbgokjhnaaGreatW.PrintLast Go.Proofs.YtmfbkbbgokjhnaaGreatW.PrintMore
attribute [local go_sem] max2_int min2_int max_two min_two max_three min_three max_four min_four   -- for this text's walks alone
set_option linter.unusedVariables false
set_option linter.unusedSimpArgs false

/-! ### spec_l06Find: function 89 -/
def spec_l06Find.l0 : Nat → List (S103) → ByteArray → Int → Option (Int)
 | 0, _, _, _ => none
 | k + 1, x0, x1, x5 => if x5 < (x0.length : Int) then (if 0 ≤ x5 then (if ((rd_T103 x0 x5).f0).toList = x1.toList then (some x5) else (spec_l06Find.l0 k x0 x1 (wrap64 (x5 + 1)))) else (none)) else (some (-1))
def spec_l06Find.f (k : Nat) (l0 : List (S103)) (a1 : ByteArray) : Option (Int) := spec_l06Find.l0 k l0 a1 0
theorem spec_l06Find.mono_l : ∀ k, (∀ y0 y1 y2, LeO (spec_l06Find.l0 k y0 y1 y2) (spec_l06Find.l0 (k + 1) y0 y1 y2))
 | 0 => fun _ _ _ r h => by simp [spec_l06Find.l0] at h
 | k + 1 => by
  have ih0 := spec_l06Find.mono_l k
  · intro y0 y1 y2
    unfold spec_l06Find.l0
    repeat' first
    | (with_reducible exact ih0 _ _ _)
    | (with_reducible exact LeO.refl _)
    | (with_reducible exact LeO.none _)
    | (with_reducible refine LeO.ite ?_ ?_)
    | (with_reducible refine LeO.bind ?_ (fun _ => ?_))
    | exact ih0 _ _ _
    | exact LeO.none _
    | refine LeO.ite ?_ ?_
    | refine LeO.bind ?_ (fun _ => ?_)
theorem spec_l06Find.mono : ∀ a0 a1 k, LeO (spec_l06Find.f k a0 a1) (spec_l06Find.f (k + 1) a0 a1) := by
 intro a0 a1 k
 have ih0 := spec_l06Find.mono_l k
 unfold spec_l06Find.f
 repeat' first
  | (with_reducible exact ih0 _ _ _)
  | (with_reducible exact LeO.refl _)
  | (with_reducible exact LeO.none _)
  | (with_reducible refine LeO.ite ?_ ?_)
  | (with_reducible refine LeO.bind ?_ (fun _ => ?_))
  | exact ih0 _ _ _
  | exact LeO.none _
  | refine LeO.ite ?_ ?_
  | refine LeO.bind ?_ (fun _ => ?_)
set_option maxHeartbeats 8000000 in
set_option maxRecDepth 100000 in
theorem spec_l06Find.calls (k : Nat) (A0 : Option Addr) (c0 : Nat) (l0 : List (S103)) (a1 : ByteArray) (r : Int) (w : World) (hr0 : Kd.C k103 w A0 l0.length l0) (hc0 : l0.length ≤ c0) (h : spec_l06Find.f k l0 a1 = some r) :
 Calls Tryz.prog 89 #[.slice A0 l0.length c0, .string a1] w fun e w' => e = .returned (.int .i64 r) ∧ Drawn0 w w' := by
 have HR0 := Aside0.mk hr0
 have HC0 := Aside0.mk hc0
 clear hr0 hc0
 have H : (spec_l06Find.l0 k l0 a1 0) = some r := h
 clear h
 have H' := Aside0.mk H
 clear H
 go_enter Tryz.func89, Tryz.ntmps89
 go_wp2
 go_loopg [5] k (fun kq v5 w' => ∃ (x5_1 : Int), v5 = .int .i64 x5_1 ∧ Aside0 (spec_l06Find.l0 kq l0 a1 x5_1 = some r) ∧ Aside0 (kq ≤ k) ∧ Drawn0 w w')
 case atStart => exact ⟨(0), (by first | rfl | (simp; done) | (simp [*]; done)), H', ⟨Nat.le_refl _⟩, by repeat (first | exact Drawn0.refl _ | apply Drawn0.step)⟩
 case round =>
  clear H'
  try clear p2
  obtain ⟨x5_1, rfl, HA, HK1, ⟨m1, rfl⟩⟩ := hrel
  cases gk with
  | zero => exact absurd HA.out (by simp [spec_l06Find.l0])
  | succ k1 =>
   have H := HA.out
   clear HA
   simp only [spec_l06Find.l0] at H
   by_cases c3 : x5_1 < (l0.length : Int)
   · rw [if_pos c3] at H
     have c3b0 : decide (x5_1 < (l0.length : Int)) = true := decide_eq_true c3
     clear c3
     by_cases c4 : 0 ≤ x5_1
     · rw [if_pos c4] at H
       have c4b0 : decide (0 ≤ x5_1) = true := decide_eq_true c4
       clear c4
       by_cases c5 : ((rd_T103 l0 x5_1).f0).toList = a1.toList
       · rw [if_pos c5] at H
         have c5b0 : (((rd_T103 l0 x5_1).f0).toList == a1.toList) = true := beq_iff_eq.mpr c5
         have c5b1 : (((rd_T103 l0 x5_1).f0).toList != a1.toList) = false := bne_eq_false_iff_eq.mpr c5
         clear c5
         obtain rfl := Option.some.inj H
         have p160 : 0 ≤ (x5_1 : Int) := of_decide_eq_true (by first | (with_reducible assumption) | assumption)
         have q160 : x5_1 < (l0.length : Int) := of_decide_eq_true (by first | (with_reducible assumption) | assumption)
         obtain ⟨ad160, e160, hx160_0, hx160_1, hx160_2, hx160_3, hx160_4⟩ := at_T103 HR0.out x5_1 p160 q160
         cases e160
         replace p160 := eq_true p160
         replace q160 := eq_true q160
         go_wp2
         go_ret
         exact ⟨by first | rfl | (simp; done) | (simp [*]; done), by repeat (first | exact Drawn0.refl _ | apply Drawn0.step)⟩
       · rw [if_neg c5] at H
         have c5b0 : (((rd_T103 l0 x5_1).f0).toList == a1.toList) = false := beq_eq_false_iff_ne.mpr c5
         have c5b1 : (((rd_T103 l0 x5_1).f0).toList != a1.toList) = true := bne_iff_ne.mpr c5
         have H' := Aside0.mk H
         clear H
         have p160 : 0 ≤ (x5_1 : Int) := of_decide_eq_true (by first | (with_reducible assumption) | assumption)
         have q160 : x5_1 < (l0.length : Int) := of_decide_eq_true (by first | (with_reducible assumption) | assumption)
         obtain ⟨ad160, e160, hx160_0, hx160_1, hx160_2, hx160_3, hx160_4⟩ := at_T103 HR0.out x5_1 p160 q160
         cases e160
         replace p160 := eq_true p160
         replace q160 := eq_true q160
         go_wp2
         go_roundg k1
         case measure => have := HK1.out; omega
         case rel => exact ⟨(wrap64 (x5_1 + 1)), (by first | rfl | (simp; done) | (simp [*]; done)), H', ⟨by have := HK1.out; omega⟩, by repeat (first | exact Drawn0.refl _ | apply Drawn0.step)⟩
     · rw [if_neg c4] at H
       exact absurd H (by simp)
   · rw [if_neg c3] at H
     have c3b0 : decide (x5_1 < (l0.length : Int)) = false := decide_eq_false c3
     clear c3
     obtain rfl := Option.some.inj H
     go_wp2
     go_ret
     exact ⟨by first | rfl | (simp; done) | (simp [*]; done), by repeat (first | exact Drawn0.refl _ | apply Drawn0.step)⟩

/-! ### spec_l08Fits: function 39 -/
def spec_l08Fits.l0 : Nat → List (S65) → List (S103) → Int → Option (Bool)
 | 0, _, _, _ => none
 | k + 1, x0, x1, x5 => if x5 < (x0.length : Int) then (if 0 ≤ x5 then ((spec_l06Find.f k x1 ((rd_T65 x0 x5).f2)).bind fun t162 => (if t162 < 0 then (some false) else (spec_l08Fits.l0 k x0 x1 (wrap64 (x5 + 1))))) else (none)) else (some true)
def spec_l08Fits.f (k : Nat) (l0 : List (S65)) (l1 : List (S103)) : Option (Bool) := spec_l08Fits.l0 k l0 l1 0
theorem spec_l08Fits.mono_l : ∀ k, (∀ y0 y1 y2, LeO (spec_l08Fits.l0 k y0 y1 y2) (spec_l08Fits.l0 (k + 1) y0 y1 y2))
 | 0 => fun _ _ _ r h => by simp [spec_l08Fits.l0] at h
 | k + 1 => by
  have ih0 := spec_l08Fits.mono_l k
  · intro y0 y1 y2
    unfold spec_l08Fits.l0
    repeat' first
    | (with_reducible exact ih0 _ _ _)
    | (with_reducible exact spec_l06Find.mono _ _ _)
    | (with_reducible exact LeO.refl _)
    | (with_reducible exact LeO.none _)
    | (with_reducible refine LeO.ite ?_ ?_)
    | (with_reducible refine LeO.bind ?_ (fun _ => ?_))
    | exact ih0 _ _ _
    | exact spec_l06Find.mono _ _ _
    | exact LeO.none _
    | refine LeO.ite ?_ ?_
    | refine LeO.bind ?_ (fun _ => ?_)
theorem spec_l08Fits.mono : ∀ a0 a1 k, LeO (spec_l08Fits.f k a0 a1) (spec_l08Fits.f (k + 1) a0 a1) := by
 intro a0 a1 k
 have ih0 := spec_l08Fits.mono_l k
 unfold spec_l08Fits.f
 repeat' first
  | (with_reducible exact ih0 _ _ _)
  | (with_reducible exact spec_l06Find.mono _ _ _)
  | (with_reducible exact LeO.refl _)
  | (with_reducible exact LeO.none _)
  | (with_reducible refine LeO.ite ?_ ?_)
  | (with_reducible refine LeO.bind ?_ (fun _ => ?_))
  | exact ih0 _ _ _
  | exact spec_l06Find.mono _ _ _
  | exact LeO.none _
  | refine LeO.ite ?_ ?_
  | refine LeO.bind ?_ (fun _ => ?_)
set_option maxHeartbeats 8000000 in
set_option maxRecDepth 100000 in
theorem spec_l08Fits.calls (k : Nat) (A0 : Option Addr) (c0 : Nat) (l0 : List (S65)) (A1 : Option Addr) (c1 : Nat) (l1 : List (S103)) (r : Bool) (w : World) (hr0 : Kd.C k65 w A0 l0.length l0) (hc0 : l0.length ≤ c0) (hr1 : Kd.C k103 w A1 l1.length l1) (hc1 : l1.length ≤ c1) (h : spec_l08Fits.f k l0 l1 = some r) :
 Calls Tryz.prog 39 #[.slice A0 l0.length c0, .slice A1 l1.length c1] w fun e w' => e = .returned (.bool r) ∧ Drawn0 w w' := by
 have HR0 := Aside0.mk hr0
 have HC0 := Aside0.mk hc0
 clear hr0 hc0
 have HR1 := Aside0.mk hr1
 have HC1 := Aside0.mk hc1
 clear hr1 hc1
 have H : (spec_l08Fits.l0 k l0 l1 0) = some r := h
 clear h
 have H' := Aside0.mk H
 clear H
 go_enter Tryz.func39, Tryz.ntmps39
 go_wp2
 go_loopg [5] k (fun kq v5 w' => ∃ (x5_1 : Int), v5 = .int .i64 x5_1 ∧ Aside0 (spec_l08Fits.l0 kq l0 l1 x5_1 = some r) ∧ Aside0 (kq ≤ k) ∧ Drawn0 w w')
 case atStart => exact ⟨(0), (by first | rfl | (simp; done) | (simp [*]; done)), H', ⟨Nat.le_refl _⟩, by repeat (first | exact Drawn0.refl _ | apply Drawn0.step)⟩
 case round =>
  clear H'
  try clear c1
  try clear p2
  obtain ⟨x5_1, rfl, HA, HK1, ⟨m1, rfl⟩⟩ := hrel
  cases gk with
  | zero => exact absurd HA.out (by simp [spec_l08Fits.l0])
  | succ k1 =>
   have H := HA.out
   clear HA
   simp only [spec_l08Fits.l0] at H
   by_cases c3 : x5_1 < (l0.length : Int)
   · rw [if_pos c3] at H
     have c3b0 : decide (x5_1 < (l0.length : Int)) = true := decide_eq_true c3
     clear c3
     by_cases c4 : 0 ≤ x5_1
     · rw [if_pos c4] at H
       have c4b0 : decide (0 ≤ x5_1) = true := decide_eq_true c4
       clear c4
       replace H := Option.bind_eq_some_iff.mp H
       obtain ⟨t162, A50, H⟩ := H
       replace H : (if t162 < 0 then (some false) else (spec_l08Fits.l0 k1 l0 l1 (wrap64 (x5_1 + 1)))) = some r := H
       have A5 := Aside0.mk A50
       clear A50
       by_cases c6 : t162 < 0
       · rw [if_pos c6] at H
         have c6b0 : decide (t162 < 0) = true := decide_eq_true c6
         clear c6
         obtain rfl := Option.some.inj H
         have p161 : 0 ≤ (x5_1 : Int) := of_decide_eq_true (by first | (with_reducible assumption) | assumption)
         have q161 : x5_1 < (l0.length : Int) := of_decide_eq_true (by first | (with_reducible assumption) | assumption)
         obtain ⟨ad161, e161, hx161_0, hx161_1, hx161_2, hx161_3, hx161_4, hx161_5, hx161_6⟩ := at_T65 HR0.out x5_1 p161 q161
         cases e161
         replace p161 := eq_true p161
         replace q161 := eq_true q161
         go_wp2_with (first | ((with_reducible refine gate_callee (f := 89) rfl ?_); refine goesL_ (some 18) rfl rfl Tryz.func89 (by kernel_rfl) rfl #[.slice A1 l1.length c1, .string ((rd_T65 l0 x5_1).f2)] rfl (by (try simp only [List.map_toArray, List.map_cons, List.map_nil]); first | done | rfl | (simp only [List.length_drop, List.length_take]; rfl)) ?_; (with_reducible refine (spec_l06Find.calls k1 _ _ l1 ((rd_T65 l0 x5_1).f2) t162 _ ?side1 ?side2 A5.out).mono ?_); (case side1 => repeat (first | exact HR1.out | (with_reducible refine Kd.C_alloc ?_ _) | (with_reducible refine Kd.C_drewN ?_ _) | (with_reducible refine Kd.C_drew ?_))); (case side2 => exact HC1.out); rintro e w' ⟨rfl, ⟨nd, rfl⟩⟩; refine ⟨_, rfl, ?_⟩))
         go_ret
         exact ⟨by first | rfl | (simp; done) | (simp [*]; done), by repeat (first | exact Drawn0.refl _ | apply Drawn0.step)⟩
       · rw [if_neg c6] at H
         have c6b0 : decide (t162 < 0) = false := decide_eq_false c6
         clear c6
         have H' := Aside0.mk H
         clear H
         have p161 : 0 ≤ (x5_1 : Int) := of_decide_eq_true (by first | (with_reducible assumption) | assumption)
         have q161 : x5_1 < (l0.length : Int) := of_decide_eq_true (by first | (with_reducible assumption) | assumption)
         obtain ⟨ad161, e161, hx161_0, hx161_1, hx161_2, hx161_3, hx161_4, hx161_5, hx161_6⟩ := at_T65 HR0.out x5_1 p161 q161
         cases e161
         replace p161 := eq_true p161
         replace q161 := eq_true q161
         go_wp2_with (first | ((with_reducible refine gate_callee (f := 89) rfl ?_); refine goesL_ (some 18) rfl rfl Tryz.func89 (by kernel_rfl) rfl #[.slice A1 l1.length c1, .string ((rd_T65 l0 x5_1).f2)] rfl (by (try simp only [List.map_toArray, List.map_cons, List.map_nil]); first | done | rfl | (simp only [List.length_drop, List.length_take]; rfl)) ?_; (with_reducible refine (spec_l06Find.calls k1 _ _ l1 ((rd_T65 l0 x5_1).f2) t162 _ ?side1 ?side2 A5.out).mono ?_); (case side1 => repeat (first | exact HR1.out | (with_reducible refine Kd.C_alloc ?_ _) | (with_reducible refine Kd.C_drewN ?_ _) | (with_reducible refine Kd.C_drew ?_))); (case side2 => exact HC1.out); rintro e w' ⟨rfl, ⟨nd, rfl⟩⟩; refine ⟨_, rfl, ?_⟩))
         go_roundg k1
         case measure => have := HK1.out; omega
         case rel => exact ⟨(wrap64 (x5_1 + 1)), (by first | rfl | (simp; done) | (simp [*]; done)), H', ⟨by have := HK1.out; omega⟩, by repeat (first | exact Drawn0.refl _ | apply Drawn0.step)⟩
     · rw [if_neg c4] at H
       exact absurd H (by simp)
   · rw [if_neg c3] at H
     have c3b0 : decide (x5_1 < (l0.length : Int)) = false := decide_eq_false c3
     clear c3
     obtain rfl := Option.some.inj H
     go_wp2
     go_ret
     exact ⟨by first | rfl | (simp; done) | (simp [*]; done), by repeat (first | exact Drawn0.refl _ | apply Drawn0.step)⟩

end Go.Proofs.YtmfbkbbgokjhnaaGreat.F
