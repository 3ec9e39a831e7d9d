-- Written by this session's program (wip/bin/hp.py) over the kit's print: a function's Lean form, and a proof that the call does what it says.
import Derived.Test.YtmfbkbbgokjhnaaFx0
import Derived.Test.YtmfbkbbgokjhnaaSq
import Derived.Test.YtmfbkbbgokjhnaaFx10
namespace Go.Proofs.Ytmfbkbbgokjhnaa.F
open Go.RowKit Go.Proofs.YtmfbkbbgokjhnaaW.PrintWords Go.Proofs.YtmfbkbbgokjhnaaW.PrintLast Go.Proofs.YtmfbkbbgokjhnaaW.PrintMore
attribute [local go_sem] max2_int min2_int max_two min_two max_three min_three max_four min_four   -- for this text's walks alone
set_option linter.unusedVariables false
set_option linter.unusedSimpArgs false

/-! ### spec_IsLog: function 64 -/
def spec_IsLog.l0 : Nat → List (S43) → Int → Option (Bool)
 | 0, _, _ => none
 | k + 1, x0, x3 => if x3 < (x0.length : Int) then (if 0 ≤ x3 then ((spec_IsEvent.f k ((rd_T43 x0 x3).f0) ((rd_T43 x0 x3).f1) ((rd_T43 x0 x3).f2) ((rd_T43 x0 x3).f3) ((rd_T43 x0 x3).f4) ((rd_T43 x0 x3).f5) ((rd_T43 x0 x3).f6)).bind fun t170 => (if t170 = true then (if x3 > 0 then (if 0 ≤ (wrap64 (x3 - 1)) then (if (wrap64 (x3 - 1)) < (x0.length : Int) then (if ((rd_T43 x0 x3).f0) < ((rd_T43 x0 (wrap64 (x3 - 1))).f0) then (some false) else (spec_IsLog.l0 k x0 (wrap64 (x3 + 1)))) else (none)) else (none)) else (spec_IsLog.l0 k x0 (wrap64 (x3 + 1)))) else (some false))) else (none)) else (some (decide ((x0.length : Int) ≤ 15)))
def spec_IsLog.f (k : Nat) (l0 : List (S43)) : Option (Bool) := spec_IsLog.l0 k l0 0
theorem spec_IsLog.mono_l : ∀ k, (∀ y0 y1, LeO (spec_IsLog.l0 k y0 y1) (spec_IsLog.l0 (k + 1) y0 y1))
 | 0 => fun _ _ r h => by simp [spec_IsLog.l0] at h
 | k + 1 => by
  have ih0 := spec_IsLog.mono_l k
  · intro y0 y1
    unfold spec_IsLog.l0
    repeat' first
    | (with_reducible exact ih0 _ _)
    | (with_reducible exact spec_IsEvent.mono _ _ _ _ _ _ _ _)
    | (with_reducible exact LeO.refl _)
    | (with_reducible exact LeO.none _)
    | (with_reducible refine LeO.ite ?_ ?_)
    | (with_reducible refine LeO.bind ?_ (fun _ => ?_))
    | exact ih0 _ _
    | exact spec_IsEvent.mono _ _ _ _ _ _ _ _
    | exact LeO.none _
    | refine LeO.ite ?_ ?_
    | refine LeO.bind ?_ (fun _ => ?_)
theorem spec_IsLog.mono : ∀ a0 k, LeO (spec_IsLog.f k a0) (spec_IsLog.f (k + 1) a0) := by
 intro a0 k
 have ih0 := spec_IsLog.mono_l k
 unfold spec_IsLog.f
 repeat' first
  | (with_reducible exact ih0 _ _)
  | (with_reducible exact spec_IsEvent.mono _ _ _ _ _ _ _ _)
  | (with_reducible exact LeO.refl _)
  | (with_reducible exact LeO.none _)
  | (with_reducible refine LeO.ite ?_ ?_)
  | (with_reducible refine LeO.bind ?_ (fun _ => ?_))
  | exact ih0 _ _
  | exact spec_IsEvent.mono _ _ _ _ _ _ _ _
  | exact LeO.none _
  | refine LeO.ite ?_ ?_
  | refine LeO.bind ?_ (fun _ => ?_)
def spec_IsLog.T4 : Bool × List (List Nat × List Nat) := (true, [([], []), ([], []), ([0, 1], [0, 1]), ([2], [2]), ([3], [3]), ([4], [4]), ([5, 4], [5]), ([6], [6]), ([7, 6], [6, 7]), ([8, 6, 6], [6, 8]), ([9], [9]), ([9], [9]), ([10, 11, 9], [9, 10, 11]), ([12, 9], [9, 12]), ([13, 9], [9, 13]), ([9], [9]), ([9], [9]), ([16, 9], [9, 16]), ([15, 17, 9], [9, 15, 17]), ([18, 9], [9, 18]), ([19, 9], [9, 19]), ([14, 20, 9], [9, 14, 20]), ([9, 21, 6], [6, 9, 21]), ([6, 22], [6, 22])])
def spec_IsLog.B4 : List Nat := [0, 0, 3, 7, 15, 31, 63, 127, 255, 511, 1023, 1023, 4095, 8191, 16383, 1023, 1023, 66559, 230399, 492543, 1016831, 2097151, 4194303, 8388607]
theorem spec_IsLog.tab4 : rtab .any (opsOf Try.f64 4) = spec_IsLog.T4 := by kernel_rfl
theorem spec_IsLog.bits4 : waitsOk spec_IsLog.T4.2 spec_IsLog.B4 = true := by kernel_rfl
set_option maxHeartbeats 8000000 in
set_option maxRecDepth 100000 in
theorem spec_IsLog.calls (k : Nat) (A0 : Option Addr) (c0 : Nat) (l0 : List (S43)) (r : Bool) (w : World) (hr0 : Kd.C k43 w A0 l0.length l0) (hc0 : l0.length ≤ c0) (h : spec_IsLog.f k l0 = some r) :
 Calls Try.prog 64 #[.slice A0 l0.length c0] w fun e w' => e = .returned (.bool r) ∧ Below w.heap.size w w' := by
 have hu43 := Try.underlying43
 have HR0 := Aside0.mk hr0
 have HC0 := Aside0.mk hc0
 clear hr0 hc0
 have HB := Aside0.mk (Below.refl w.heap.size w)
 have H : (spec_IsLog.l0 k l0 0) = some r := h
 clear h
 have H' := Aside0.mk H
 clear H
 go_enter Try.func64, Try.ntmps64
 go_wp2
 go_loopg [3] k (fun kq v3 w' => ∃ (x3_1 : Int), v3 = .int .i64 x3_1 ∧ Aside0 (spec_IsLog.l0 kq l0 x3_1 = some r) ∧ Aside0 (kq ≤ k) ∧ Aside0 (Below w.heap.size w w'))
 case atStart => exact ⟨(0), (by first | rfl | (simp; done) | (simp [*]; done)), H', ⟨Nat.le_refl _⟩, ⟨bb_⟩⟩
 case round =>
  clear H'
  obtain ⟨x3_1, rfl, HA, HK1, HB⟩ := hrel
  cases gk with
  | zero => exact absurd HA.out (by simp [spec_IsLog.l0])
  | succ k1 =>
   have H := HA.out
   clear HA
   simp only [spec_IsLog.l0] at H
   by_cases c2 : x3_1 < (l0.length : Int)
   · rw [if_pos c2] at H
     have c2b0 : decide (x3_1 < (l0.length : Int)) = true := decide_eq_true c2
     clear c2
     by_cases c3 : 0 ≤ x3_1
     · rw [if_pos c3] at H
       have c3b0 : decide (0 ≤ x3_1) = true := decide_eq_true c3
       clear c3
       replace H := Option.bind_eq_some_iff.mp H
       obtain ⟨t170, A40, H⟩ := H
       replace H : (if t170 = true then (if x3_1 > 0 then (if 0 ≤ (wrap64 (x3_1 - 1)) then (if (wrap64 (x3_1 - 1)) < (l0.length : Int) then (if ((rd_T43 l0 x3_1).f0) < ((rd_T43 l0 (wrap64 (x3_1 - 1))).f0) then (some false) else (spec_IsLog.l0 k1 l0 (wrap64 (x3_1 + 1)))) else (none)) else (none)) else (spec_IsLog.l0 k1 l0 (wrap64 (x3_1 + 1)))) else (some false)) = some r := H
       have A4 := Aside0.mk A40
       clear A40
       by_cases c5 : t170 = true
       · subst c5
         have H1 : (if x3_1 > 0 then (if 0 ≤ (wrap64 (x3_1 - 1)) then (if (wrap64 (x3_1 - 1)) < (l0.length : Int) then (if ((rd_T43 l0 x3_1).f0) < ((rd_T43 l0 (wrap64 (x3_1 - 1))).f0) then (some false) else (spec_IsLog.l0 k1 l0 (wrap64 (x3_1 + 1)))) else (none)) else (none)) else (spec_IsLog.l0 k1 l0 (wrap64 (x3_1 + 1)))) = some r := by rw [if_pos rfl] at H; exact H
         clear H
         have H := H1
         clear H1
         by_cases c6 : x3_1 > 0
         · rw [if_pos c6] at H
           have c6b0 : decide (0 < x3_1) = true := decide_eq_true c6
           clear c6
           obtain ⟨ji7, hji7⟩ : ∃ j_ : Int, (wrap64 (x3_1 - 1)) = j_ := ⟨_, rfl⟩
           replace H : (if 0 ≤ (ji7) then (if (ji7) < (l0.length : Int) then (if ((rd_T43 l0 x3_1).f0) < ((rd_T43 l0 (ji7)).f0) then (some false) else (spec_IsLog.l0 k1 l0 (wrap64 (x3_1 + 1)))) else (none)) else (none)) = some r := by first | (rw [hji7] at H; exact H) | (simp only [hji7] at H ⊢; exact H)
           (try rw [hji7] at A4)
           have hji7w : (IntKind.i64.wrap (x3_1 - 1)) = ji7 := (i64_w _).trans hji7
           by_cases c8 : 0 ≤ (ji7)
           · rw [if_pos c8] at H
             have c8b0 : decide (0 ≤ (ji7)) = true := decide_eq_true c8
             clear c8
             by_cases c9 : (ji7) < (l0.length : Int)
             · rw [if_pos c9] at H
               have c9b0 : decide ((ji7) < (l0.length : Int)) = true := decide_eq_true c9
               clear c9
               by_cases c10 : ((rd_T43 l0 x3_1).f0) < ((rd_T43 l0 (ji7)).f0)
               · rw [if_pos c10] at H
                 have c10b0 : decide (((rd_T43 l0 x3_1).f0) < ((rd_T43 l0 (ji7)).f0)) = true := decide_eq_true c10
                 clear c10
                 obtain rfl := Option.some.inj H
                 try go_wp2
                 have n0_ := Aside0.mk (below_drew1 HB.out)
                 clear HB; revert n0_; intro HB
                 have p169 : 0 ≤ (x3_1 : Int) := od_
                 have q169 : x3_1 < (l0.length : Int) := od_
                 obtain ⟨ad169, e169, hx169_0, hx169_1, hx169_2, hx169_3, hx169_4, hx169_5, hx169_6⟩ := at_T43 HR0.out x3_1 p169 q169
                 have hw169_6 := hx169_6
                 have hw169_5 := hx169_5
                 have hw169_4 := hx169_4
                 have hw169_3 := hx169_3
                 have hw169_2 := hx169_2
                 have hw169_1 := hx169_1
                 have hw169_0 := hx169_0
                 cases e169
                 replace hx169_0 := cel HB hx169_0
                 replace hx169_1 := cel HB hx169_1
                 replace hx169_2 := cel HB hx169_2
                 replace hx169_3 := cel HB hx169_3
                 replace hx169_4 := cel HB hx169_4
                 replace hx169_5 := cel HB hx169_5
                 replace hx169_6 := cel HB hx169_6
                 replace p169 := eq_true p169
                 replace q169 := eq_true q169
                 have p171 : 0 ≤ (x3_1 : Int) := od_
                 have q171 : x3_1 < (l0.length : Int) := od_
                 obtain ⟨ad171, e171, hx171_0, hx171_1, hx171_2, hx171_3, hx171_4, hx171_5, hx171_6⟩ := at_T43 HR0.out x3_1 p171 q171
                 have hw171_6 := hx171_6
                 have hw171_5 := hx171_5
                 have hw171_4 := hx171_4
                 have hw171_3 := hx171_3
                 have hw171_2 := hx171_2
                 have hw171_1 := hx171_1
                 have hw171_0 := hx171_0
                 obtain rfl : ad169 = ad171 := (by injection e171)
                 replace hx171_0 := cel HB hx171_0
                 replace hx171_1 := cel HB hx171_1
                 replace hx171_2 := cel HB hx171_2
                 replace hx171_3 := cel HB hx171_3
                 replace hx171_4 := cel HB hx171_4
                 replace hx171_5 := cel HB hx171_5
                 replace hx171_6 := cel HB hx171_6
                 replace p171 := eq_true p171
                 replace q171 := eq_true q171
                 have p172 : 0 ≤ ((ji7) : Int) := od_
                 have q172 : (ji7) < (l0.length : Int) := od_
                 obtain ⟨ad172, e172, hx172_0, hx172_1, hx172_2, hx172_3, hx172_4, hx172_5, hx172_6⟩ := at_T43 HR0.out (ji7) p172 q172
                 have hw172_6 := hx172_6
                 have hw172_5 := hx172_5
                 have hw172_4 := hx172_4
                 have hw172_3 := hx172_3
                 have hw172_2 := hx172_2
                 have hw172_1 := hx172_1
                 have hw172_0 := hx172_0
                 obtain rfl : ad169 = ad172 := (by injection e172)
                 replace hx172_0 := cel HB hx172_0
                 replace hx172_1 := cel HB hx172_1
                 replace hx172_2 := cel HB hx172_2
                 replace hx172_3 := cel HB hx172_3
                 replace hx172_4 := cel HB hx172_4
                 replace hx172_5 := cel HB hx172_5
                 replace hx172_6 := cel HB hx172_6
                 replace p172 := eq_true p172
                 replace q172 := eq_true q172
                 refine start_ (n := 24) (S := fun w' => w'.cell? (ad169.add ((x3_1).toNat * 7)) = some (.int .i64 ((rd_T43 l0 x3_1).f0)) ∧ w'.cell? ⟨(ad169.add ((x3_1).toNat * 7)).block, (ad169.add ((x3_1).toNat * 7)).off + 1, none⟩ = some (.int .i64 ((rd_T43 l0 x3_1).f1)) ∧ w'.cell? ⟨(ad169.add ((x3_1).toNat * 7)).block, (ad169.add ((x3_1).toNat * 7)).off + 2, none⟩ = some (.string ((rd_T43 l0 x3_1).f2)) ∧ w'.cell? ⟨(ad169.add ((x3_1).toNat * 7)).block, (ad169.add ((x3_1).toNat * 7)).off + 3, none⟩ = some (.int .i64 ((rd_T43 l0 x3_1).f3)) ∧ w'.cell? ⟨(ad169.add ((x3_1).toNat * 7)).block, (ad169.add ((x3_1).toNat * 7)).off + 4, none⟩ = some (.bool ((rd_T43 l0 x3_1).f4)) ∧ w'.cell? ⟨(ad169.add ((x3_1).toNat * 7)).block, (ad169.add ((x3_1).toNat * 7)).off + 5, none⟩ = some (.bool ((rd_T43 l0 x3_1).f5)) ∧ w'.cell? ⟨(ad169.add ((x3_1).toNat * 7)).block, (ad169.add ((x3_1).toNat * 7)).off + 6, none⟩ = some (.bool ((rd_T43 l0 x3_1).f6)) ∧ w'.cell? (ad169.add ((x3_1).toNat * 7)) = some (.int .i64 ((rd_T43 l0 x3_1).f0)) ∧ w'.cell? ⟨(ad169.add ((x3_1).toNat * 7)).block, (ad169.add ((x3_1).toNat * 7)).off + 1, none⟩ = some (.int .i64 ((rd_T43 l0 x3_1).f1)) ∧ w'.cell? ⟨(ad169.add ((x3_1).toNat * 7)).block, (ad169.add ((x3_1).toNat * 7)).off + 2, none⟩ = some (.string ((rd_T43 l0 x3_1).f2)) ∧ w'.cell? ⟨(ad169.add ((x3_1).toNat * 7)).block, (ad169.add ((x3_1).toNat * 7)).off + 3, none⟩ = some (.int .i64 ((rd_T43 l0 x3_1).f3)) ∧ w'.cell? ⟨(ad169.add ((x3_1).toNat * 7)).block, (ad169.add ((x3_1).toNat * 7)).off + 4, none⟩ = some (.bool ((rd_T43 l0 x3_1).f4)) ∧ w'.cell? ⟨(ad169.add ((x3_1).toNat * 7)).block, (ad169.add ((x3_1).toNat * 7)).off + 5, none⟩ = some (.bool ((rd_T43 l0 x3_1).f5)) ∧ w'.cell? ⟨(ad169.add ((x3_1).toNat * 7)).block, (ad169.add ((x3_1).toNat * 7)).off + 6, none⟩ = some (.bool ((rd_T43 l0 x3_1).f6)) ∧ w'.cell? (ad169.add (((ji7)).toNat * 7)) = some (.int .i64 ((rd_T43 l0 (ji7)).f0)) ∧ w'.cell? ⟨(ad169.add (((ji7)).toNat * 7)).block, (ad169.add (((ji7)).toNat * 7)).off + 1, none⟩ = some (.int .i64 ((rd_T43 l0 (ji7)).f1)) ∧ w'.cell? ⟨(ad169.add (((ji7)).toNat * 7)).block, (ad169.add (((ji7)).toNat * 7)).off + 2, none⟩ = some (.string ((rd_T43 l0 (ji7)).f2)) ∧ w'.cell? ⟨(ad169.add (((ji7)).toNat * 7)).block, (ad169.add (((ji7)).toNat * 7)).off + 3, none⟩ = some (.int .i64 ((rd_T43 l0 (ji7)).f3)) ∧ w'.cell? ⟨(ad169.add (((ji7)).toNat * 7)).block, (ad169.add (((ji7)).toNat * 7)).off + 4, none⟩ = some (.bool ((rd_T43 l0 (ji7)).f4)) ∧ w'.cell? ⟨(ad169.add (((ji7)).toNat * 7)).block, (ad169.add (((ji7)).toNat * 7)).off + 5, none⟩ = some (.bool ((rd_T43 l0 (ji7)).f5)) ∧ w'.cell? ⟨(ad169.add (((ji7)).toNat * 7)).block, (ad169.add (((ji7)).toNat * 7)).off + 6, none⟩ = some (.bool ((rd_T43 l0 (ji7)).f6))) (ds := []) (fb 24 0) (by kernel_rfl) rfl rfl ⟨((HB.out.cell (World.block_lt_of_cell? w _ hw169_0)).trans hw169_0), ((HB.out.cell (World.block_lt_of_cell? w _ hw169_1)).trans hw169_1), ((HB.out.cell (World.block_lt_of_cell? w _ hw169_2)).trans hw169_2), ((HB.out.cell (World.block_lt_of_cell? w _ hw169_3)).trans hw169_3), ((HB.out.cell (World.block_lt_of_cell? w _ hw169_4)).trans hw169_4), ((HB.out.cell (World.block_lt_of_cell? w _ hw169_5)).trans hw169_5), ((HB.out.cell (World.block_lt_of_cell? w _ hw169_6)).trans hw169_6), ((HB.out.cell (World.block_lt_of_cell? w _ hw171_0)).trans hw171_0), ((HB.out.cell (World.block_lt_of_cell? w _ hw171_1)).trans hw171_1), ((HB.out.cell (World.block_lt_of_cell? w _ hw171_2)).trans hw171_2), ((HB.out.cell (World.block_lt_of_cell? w _ hw171_3)).trans hw171_3), ((HB.out.cell (World.block_lt_of_cell? w _ hw171_4)).trans hw171_4), ((HB.out.cell (World.block_lt_of_cell? w _ hw171_5)).trans hw171_5), ((HB.out.cell (World.block_lt_of_cell? w _ hw171_6)).trans hw171_6), ((HB.out.cell (World.block_lt_of_cell? w _ hw172_0)).trans hw172_0), ((HB.out.cell (World.block_lt_of_cell? w _ hw172_1)).trans hw172_1), ((HB.out.cell (World.block_lt_of_cell? w _ hw172_2)).trans hw172_2), ((HB.out.cell (World.block_lt_of_cell? w _ hw172_3)).trans hw172_3), ((HB.out.cell (World.block_lt_of_cell? w _ hw172_4)).trans hw172_4), ((HB.out.cell (World.block_lt_of_cell? w _ hw172_5)).trans hw172_5), ((HB.out.cell (World.block_lt_of_cell? w _ hw172_6)).trans hw172_6)⟩ (fun hHeld => ?_); refine with_tabW spec_IsLog.tab4 spec_IsLog.bits4 (fun HT_ HW_ => ?_)
                 generalize wr.drew = w11 at HB hx169_0 hx169_1 hx169_2 hx169_3 hx169_4 hx169_5 hx169_6 hx171_0 hx171_1 hx171_2 hx171_3 hx171_4 hx171_5 hx171_6 hx172_0 hx172_1 hx172_2 hx172_3 hx172_4 hx172_5 hx172_6 hHeld ⊢
                 refine sqP_ 0 10 (fb 24 1) (any_of HT_.out (by kernel_rfl)) ?_
                 refine sqP_ 1 11 (fb 24 3) (any_of HT_.out (by kernel_rfl)) ?_
                 refine sqP_ 2 12 (fb 24 7) (any_of HT_.out (by kernel_rfl)) ?_
                 refine sqT_ 3 13 (fb 24 15) (take_ofW HT_.out HW_.out (by kernel_rfl)) hHeld ?_
                 refine one_ (i := 4) (N := some 14) (fb 24 31) rfl rfl (one_of HT_.out (by kernel_rfl)) (by decide) (fun K hK => ?_)
                 refine goes_ Try.func56 (by kernel_rfl) rfl #[.agg #[.int .i64 ((rd_T43 l0 x3_1).f0), .int .i64 ((rd_T43 l0 x3_1).f1), .string ((rd_T43 l0 x3_1).f2), .int .i64 ((rd_T43 l0 x3_1).f3), .bool ((rd_T43 l0 x3_1).f4), .bool ((rd_T43 l0 x3_1).f5), .bool ((rd_T43 l0 x3_1).f6)]] (by rfl) rfl rfl (by (try simp only [List.map_toArray, List.map_cons, List.map_nil]); first | done | rfl | (simp only [List.length_drop, List.length_take]; rfl)) ?_
                 with_reducible refine (spec_IsEvent.calls k1 ((rd_T43 l0 x3_1).f0) ((rd_T43 l0 x3_1).f1) ((rd_T43 l0 x3_1).f2) ((rd_T43 l0 x3_1).f3) ((rd_T43 l0 x3_1).f4) ((rd_T43 l0 x3_1).f5) ((rd_T43 l0 x3_1).f6) true _ A4.out).mono ?_
                 rintro e w12 ⟨rfl, hb⟩
                 refine ⟨_, rfl, ?_⟩
                 have n0_ := Aside0.mk (bs_ hb)
                 clear HB; revert n0_; intro HB
                 (try clear hb)
                 (try clear hb2)
                 (try clear hk)
                 (try clear hi)
                 refine hK.out _ _ ⟨((HB.out.cell (World.block_lt_of_cell? w _ hw169_0)).trans hw169_0), ((HB.out.cell (World.block_lt_of_cell? w _ hw169_1)).trans hw169_1), ((HB.out.cell (World.block_lt_of_cell? w _ hw169_2)).trans hw169_2), ((HB.out.cell (World.block_lt_of_cell? w _ hw169_3)).trans hw169_3), ((HB.out.cell (World.block_lt_of_cell? w _ hw169_4)).trans hw169_4), ((HB.out.cell (World.block_lt_of_cell? w _ hw169_5)).trans hw169_5), ((HB.out.cell (World.block_lt_of_cell? w _ hw169_6)).trans hw169_6), ((HB.out.cell (World.block_lt_of_cell? w _ hw171_0)).trans hw171_0), ((HB.out.cell (World.block_lt_of_cell? w _ hw171_1)).trans hw171_1), ((HB.out.cell (World.block_lt_of_cell? w _ hw171_2)).trans hw171_2), ((HB.out.cell (World.block_lt_of_cell? w _ hw171_3)).trans hw171_3), ((HB.out.cell (World.block_lt_of_cell? w _ hw171_4)).trans hw171_4), ((HB.out.cell (World.block_lt_of_cell? w _ hw171_5)).trans hw171_5), ((HB.out.cell (World.block_lt_of_cell? w _ hw171_6)).trans hw171_6), ((HB.out.cell (World.block_lt_of_cell? w _ hw172_0)).trans hw172_0), ((HB.out.cell (World.block_lt_of_cell? w _ hw172_1)).trans hw172_1), ((HB.out.cell (World.block_lt_of_cell? w _ hw172_2)).trans hw172_2), ((HB.out.cell (World.block_lt_of_cell? w _ hw172_3)).trans hw172_3), ((HB.out.cell (World.block_lt_of_cell? w _ hw172_4)).trans hw172_4), ((HB.out.cell (World.block_lt_of_cell? w _ hw172_5)).trans hw172_5), ((HB.out.cell (World.block_lt_of_cell? w _ hw172_6)).trans hw172_6)⟩ (fun hHeld => ?_)
                 clear hK K
                 refine sqN_ 14 ?_
                 refine sqP_ 5 15 (fb 24 63) (any_of HT_.out (by kernel_rfl)) ?_
                 refine sqP_ 6 16 (fb 24 127) (any_of HT_.out (by kernel_rfl)) ?_
                 refine sqP_ 7 17 (fb 24 255) (any_of HT_.out (by kernel_rfl)) ?_
                 refine sqP_ 8 18 (fb 24 511) (any_of HT_.out (by kernel_rfl)) ?_
                 refine sqP_ 9 19 (fb 24 1023) (any_of HT_.out (by kernel_rfl)) ?_
                 refine sqP_ 10 20 (fb 24 2047) (any_of HT_.out (by kernel_rfl)) ?_
                 refine sqP_ 11 21 (fb 24 4095) (any_of HT_.out (by kernel_rfl)) ?_
                 refine sqP_ 12 22 (fb 24 8191) (any_of HT_.out (by kernel_rfl)) ?_
                 refine sqP_ 13 23 (fb 24 16383) (any_of HT_.out (by kernel_rfl)) ?_
                 refine sqP_ 15 25 (fb 24 49151) (any_of HT_.out (by kernel_rfl)) ?_
                 refine sqP_ 16 26 (fb 24 114687) (any_of HT_.out (by kernel_rfl)) ?_
                 refine sqP_ 17 27 (fb 24 245759) (any_of HT_.out (by kernel_rfl)) ?_
                 refine sqP_ 18 28 (fb 24 507903) (any_of HT_.out (by kernel_rfl)) ?_
                 refine sqP_ 19 29 (fb 24 1032191) (any_of HT_.out (by kernel_rfl)) ?_
                 refine sqT_ 14 24 (fb 24 1048575) (take_ofW HT_.out HW_.out (by kernel_rfl)) hHeld ?_
                 refine sqT_ 20 30 (fb 24 2097151) (take_ofW HT_.out HW_.out (by kernel_rfl)) hHeld ?_
                 refine sqP_ 21 31 (fb 24 4194303) (any_of HT_.out (by kernel_rfl)) ?_
                 refine sqP_ 22 32 (fb 24 8388607) (any_of HT_.out (by kernel_rfl)) ?_
                 refine sqP_ 23 33 (fb 24 16777215) (any_of HT_.out (by kernel_rfl)) ?_
                 refine done_ (done_of HT_.out (by kernel_rfl)) ?_
                 try go_wp2
                 go_ret
                 exact ⟨by first | rfl | (simp [errW_none, errW_some] <;> rfl) | (simp only [← hji7]; first | rfl | (simp [errW_none, errW_some] <;> rfl)) | (simp [*, errW_none, errW_some] <;> rfl), bb_⟩
               · rw [if_neg c10] at H
                 have c10b0 : decide (((rd_T43 l0 x3_1).f0) < ((rd_T43 l0 (ji7)).f0)) = false := decide_eq_false c10
                 clear c10
                 have H' := Aside0.mk H
                 clear H
                 try go_wp2
                 have n0_ := Aside0.mk (below_drew1 HB.out)
                 clear HB; revert n0_; intro HB
                 have p169 : 0 ≤ (x3_1 : Int) := od_
                 have q169 : x3_1 < (l0.length : Int) := od_
                 obtain ⟨ad169, e169, hx169_0, hx169_1, hx169_2, hx169_3, hx169_4, hx169_5, hx169_6⟩ := at_T43 HR0.out x3_1 p169 q169
                 have hw169_6 := hx169_6
                 have hw169_5 := hx169_5
                 have hw169_4 := hx169_4
                 have hw169_3 := hx169_3
                 have hw169_2 := hx169_2
                 have hw169_1 := hx169_1
                 have hw169_0 := hx169_0
                 cases e169
                 replace hx169_0 := cel HB hx169_0
                 replace hx169_1 := cel HB hx169_1
                 replace hx169_2 := cel HB hx169_2
                 replace hx169_3 := cel HB hx169_3
                 replace hx169_4 := cel HB hx169_4
                 replace hx169_5 := cel HB hx169_5
                 replace hx169_6 := cel HB hx169_6
                 replace p169 := eq_true p169
                 replace q169 := eq_true q169
                 have p171 : 0 ≤ (x3_1 : Int) := od_
                 have q171 : x3_1 < (l0.length : Int) := od_
                 obtain ⟨ad171, e171, hx171_0, hx171_1, hx171_2, hx171_3, hx171_4, hx171_5, hx171_6⟩ := at_T43 HR0.out x3_1 p171 q171
                 have hw171_6 := hx171_6
                 have hw171_5 := hx171_5
                 have hw171_4 := hx171_4
                 have hw171_3 := hx171_3
                 have hw171_2 := hx171_2
                 have hw171_1 := hx171_1
                 have hw171_0 := hx171_0
                 obtain rfl : ad169 = ad171 := (by injection e171)
                 replace hx171_0 := cel HB hx171_0
                 replace hx171_1 := cel HB hx171_1
                 replace hx171_2 := cel HB hx171_2
                 replace hx171_3 := cel HB hx171_3
                 replace hx171_4 := cel HB hx171_4
                 replace hx171_5 := cel HB hx171_5
                 replace hx171_6 := cel HB hx171_6
                 replace p171 := eq_true p171
                 replace q171 := eq_true q171
                 have p172 : 0 ≤ ((ji7) : Int) := od_
                 have q172 : (ji7) < (l0.length : Int) := od_
                 obtain ⟨ad172, e172, hx172_0, hx172_1, hx172_2, hx172_3, hx172_4, hx172_5, hx172_6⟩ := at_T43 HR0.out (ji7) p172 q172
                 have hw172_6 := hx172_6
                 have hw172_5 := hx172_5
                 have hw172_4 := hx172_4
                 have hw172_3 := hx172_3
                 have hw172_2 := hx172_2
                 have hw172_1 := hx172_1
                 have hw172_0 := hx172_0
                 obtain rfl : ad169 = ad172 := (by injection e172)
                 replace hx172_0 := cel HB hx172_0
                 replace hx172_1 := cel HB hx172_1
                 replace hx172_2 := cel HB hx172_2
                 replace hx172_3 := cel HB hx172_3
                 replace hx172_4 := cel HB hx172_4
                 replace hx172_5 := cel HB hx172_5
                 replace hx172_6 := cel HB hx172_6
                 replace p172 := eq_true p172
                 replace q172 := eq_true q172
                 refine start_ (n := 24) (S := fun w' => w'.cell? (ad169.add ((x3_1).toNat * 7)) = some (.int .i64 ((rd_T43 l0 x3_1).f0)) ∧ w'.cell? ⟨(ad169.add ((x3_1).toNat * 7)).block, (ad169.add ((x3_1).toNat * 7)).off + 1, none⟩ = some (.int .i64 ((rd_T43 l0 x3_1).f1)) ∧ w'.cell? ⟨(ad169.add ((x3_1).toNat * 7)).block, (ad169.add ((x3_1).toNat * 7)).off + 2, none⟩ = some (.string ((rd_T43 l0 x3_1).f2)) ∧ w'.cell? ⟨(ad169.add ((x3_1).toNat * 7)).block, (ad169.add ((x3_1).toNat * 7)).off + 3, none⟩ = some (.int .i64 ((rd_T43 l0 x3_1).f3)) ∧ w'.cell? ⟨(ad169.add ((x3_1).toNat * 7)).block, (ad169.add ((x3_1).toNat * 7)).off + 4, none⟩ = some (.bool ((rd_T43 l0 x3_1).f4)) ∧ w'.cell? ⟨(ad169.add ((x3_1).toNat * 7)).block, (ad169.add ((x3_1).toNat * 7)).off + 5, none⟩ = some (.bool ((rd_T43 l0 x3_1).f5)) ∧ w'.cell? ⟨(ad169.add ((x3_1).toNat * 7)).block, (ad169.add ((x3_1).toNat * 7)).off + 6, none⟩ = some (.bool ((rd_T43 l0 x3_1).f6)) ∧ w'.cell? (ad169.add ((x3_1).toNat * 7)) = some (.int .i64 ((rd_T43 l0 x3_1).f0)) ∧ w'.cell? ⟨(ad169.add ((x3_1).toNat * 7)).block, (ad169.add ((x3_1).toNat * 7)).off + 1, none⟩ = some (.int .i64 ((rd_T43 l0 x3_1).f1)) ∧ w'.cell? ⟨(ad169.add ((x3_1).toNat * 7)).block, (ad169.add ((x3_1).toNat * 7)).off + 2, none⟩ = some (.string ((rd_T43 l0 x3_1).f2)) ∧ w'.cell? ⟨(ad169.add ((x3_1).toNat * 7)).block, (ad169.add ((x3_1).toNat * 7)).off + 3, none⟩ = some (.int .i64 ((rd_T43 l0 x3_1).f3)) ∧ w'.cell? ⟨(ad169.add ((x3_1).toNat * 7)).block, (ad169.add ((x3_1).toNat * 7)).off + 4, none⟩ = some (.bool ((rd_T43 l0 x3_1).f4)) ∧ w'.cell? ⟨(ad169.add ((x3_1).toNat * 7)).block, (ad169.add ((x3_1).toNat * 7)).off + 5, none⟩ = some (.bool ((rd_T43 l0 x3_1).f5)) ∧ w'.cell? ⟨(ad169.add ((x3_1).toNat * 7)).block, (ad169.add ((x3_1).toNat * 7)).off + 6, none⟩ = some (.bool ((rd_T43 l0 x3_1).f6)) ∧ w'.cell? (ad169.add (((ji7)).toNat * 7)) = some (.int .i64 ((rd_T43 l0 (ji7)).f0)) ∧ w'.cell? ⟨(ad169.add (((ji7)).toNat * 7)).block, (ad169.add (((ji7)).toNat * 7)).off + 1, none⟩ = some (.int .i64 ((rd_T43 l0 (ji7)).f1)) ∧ w'.cell? ⟨(ad169.add (((ji7)).toNat * 7)).block, (ad169.add (((ji7)).toNat * 7)).off + 2, none⟩ = some (.string ((rd_T43 l0 (ji7)).f2)) ∧ w'.cell? ⟨(ad169.add (((ji7)).toNat * 7)).block, (ad169.add (((ji7)).toNat * 7)).off + 3, none⟩ = some (.int .i64 ((rd_T43 l0 (ji7)).f3)) ∧ w'.cell? ⟨(ad169.add (((ji7)).toNat * 7)).block, (ad169.add (((ji7)).toNat * 7)).off + 4, none⟩ = some (.bool ((rd_T43 l0 (ji7)).f4)) ∧ w'.cell? ⟨(ad169.add (((ji7)).toNat * 7)).block, (ad169.add (((ji7)).toNat * 7)).off + 5, none⟩ = some (.bool ((rd_T43 l0 (ji7)).f5)) ∧ w'.cell? ⟨(ad169.add (((ji7)).toNat * 7)).block, (ad169.add (((ji7)).toNat * 7)).off + 6, none⟩ = some (.bool ((rd_T43 l0 (ji7)).f6))) (ds := []) (fb 24 0) (by kernel_rfl) rfl rfl ⟨((HB.out.cell (World.block_lt_of_cell? w _ hw169_0)).trans hw169_0), ((HB.out.cell (World.block_lt_of_cell? w _ hw169_1)).trans hw169_1), ((HB.out.cell (World.block_lt_of_cell? w _ hw169_2)).trans hw169_2), ((HB.out.cell (World.block_lt_of_cell? w _ hw169_3)).trans hw169_3), ((HB.out.cell (World.block_lt_of_cell? w _ hw169_4)).trans hw169_4), ((HB.out.cell (World.block_lt_of_cell? w _ hw169_5)).trans hw169_5), ((HB.out.cell (World.block_lt_of_cell? w _ hw169_6)).trans hw169_6), ((HB.out.cell (World.block_lt_of_cell? w _ hw171_0)).trans hw171_0), ((HB.out.cell (World.block_lt_of_cell? w _ hw171_1)).trans hw171_1), ((HB.out.cell (World.block_lt_of_cell? w _ hw171_2)).trans hw171_2), ((HB.out.cell (World.block_lt_of_cell? w _ hw171_3)).trans hw171_3), ((HB.out.cell (World.block_lt_of_cell? w _ hw171_4)).trans hw171_4), ((HB.out.cell (World.block_lt_of_cell? w _ hw171_5)).trans hw171_5), ((HB.out.cell (World.block_lt_of_cell? w _ hw171_6)).trans hw171_6), ((HB.out.cell (World.block_lt_of_cell? w _ hw172_0)).trans hw172_0), ((HB.out.cell (World.block_lt_of_cell? w _ hw172_1)).trans hw172_1), ((HB.out.cell (World.block_lt_of_cell? w _ hw172_2)).trans hw172_2), ((HB.out.cell (World.block_lt_of_cell? w _ hw172_3)).trans hw172_3), ((HB.out.cell (World.block_lt_of_cell? w _ hw172_4)).trans hw172_4), ((HB.out.cell (World.block_lt_of_cell? w _ hw172_5)).trans hw172_5), ((HB.out.cell (World.block_lt_of_cell? w _ hw172_6)).trans hw172_6)⟩ (fun hHeld => ?_); refine with_tabW spec_IsLog.tab4 spec_IsLog.bits4 (fun HT_ HW_ => ?_)
                 generalize wr.drew = w13 at HB hx169_0 hx169_1 hx169_2 hx169_3 hx169_4 hx169_5 hx169_6 hx171_0 hx171_1 hx171_2 hx171_3 hx171_4 hx171_5 hx171_6 hx172_0 hx172_1 hx172_2 hx172_3 hx172_4 hx172_5 hx172_6 hHeld ⊢
                 refine sqP_ 0 10 (fb 24 1) (any_of HT_.out (by kernel_rfl)) ?_
                 refine sqP_ 1 11 (fb 24 3) (any_of HT_.out (by kernel_rfl)) ?_
                 refine sqP_ 2 12 (fb 24 7) (any_of HT_.out (by kernel_rfl)) ?_
                 refine sqT_ 3 13 (fb 24 15) (take_ofW HT_.out HW_.out (by kernel_rfl)) hHeld ?_
                 refine one_ (i := 4) (N := some 14) (fb 24 31) rfl rfl (one_of HT_.out (by kernel_rfl)) (by decide) (fun K hK => ?_)
                 refine goes_ Try.func56 (by kernel_rfl) rfl #[.agg #[.int .i64 ((rd_T43 l0 x3_1).f0), .int .i64 ((rd_T43 l0 x3_1).f1), .string ((rd_T43 l0 x3_1).f2), .int .i64 ((rd_T43 l0 x3_1).f3), .bool ((rd_T43 l0 x3_1).f4), .bool ((rd_T43 l0 x3_1).f5), .bool ((rd_T43 l0 x3_1).f6)]] (by rfl) rfl rfl (by (try simp only [List.map_toArray, List.map_cons, List.map_nil]); first | done | rfl | (simp only [List.length_drop, List.length_take]; rfl)) ?_
                 with_reducible refine (spec_IsEvent.calls k1 ((rd_T43 l0 x3_1).f0) ((rd_T43 l0 x3_1).f1) ((rd_T43 l0 x3_1).f2) ((rd_T43 l0 x3_1).f3) ((rd_T43 l0 x3_1).f4) ((rd_T43 l0 x3_1).f5) ((rd_T43 l0 x3_1).f6) true _ A4.out).mono ?_
                 rintro e w14 ⟨rfl, hb⟩
                 refine ⟨_, rfl, ?_⟩
                 have n0_ := Aside0.mk (bs_ hb)
                 clear HB; revert n0_; intro HB
                 (try clear hb)
                 (try clear hb2)
                 (try clear hk)
                 (try clear hi)
                 refine hK.out _ _ ⟨((HB.out.cell (World.block_lt_of_cell? w _ hw169_0)).trans hw169_0), ((HB.out.cell (World.block_lt_of_cell? w _ hw169_1)).trans hw169_1), ((HB.out.cell (World.block_lt_of_cell? w _ hw169_2)).trans hw169_2), ((HB.out.cell (World.block_lt_of_cell? w _ hw169_3)).trans hw169_3), ((HB.out.cell (World.block_lt_of_cell? w _ hw169_4)).trans hw169_4), ((HB.out.cell (World.block_lt_of_cell? w _ hw169_5)).trans hw169_5), ((HB.out.cell (World.block_lt_of_cell? w _ hw169_6)).trans hw169_6), ((HB.out.cell (World.block_lt_of_cell? w _ hw171_0)).trans hw171_0), ((HB.out.cell (World.block_lt_of_cell? w _ hw171_1)).trans hw171_1), ((HB.out.cell (World.block_lt_of_cell? w _ hw171_2)).trans hw171_2), ((HB.out.cell (World.block_lt_of_cell? w _ hw171_3)).trans hw171_3), ((HB.out.cell (World.block_lt_of_cell? w _ hw171_4)).trans hw171_4), ((HB.out.cell (World.block_lt_of_cell? w _ hw171_5)).trans hw171_5), ((HB.out.cell (World.block_lt_of_cell? w _ hw171_6)).trans hw171_6), ((HB.out.cell (World.block_lt_of_cell? w _ hw172_0)).trans hw172_0), ((HB.out.cell (World.block_lt_of_cell? w _ hw172_1)).trans hw172_1), ((HB.out.cell (World.block_lt_of_cell? w _ hw172_2)).trans hw172_2), ((HB.out.cell (World.block_lt_of_cell? w _ hw172_3)).trans hw172_3), ((HB.out.cell (World.block_lt_of_cell? w _ hw172_4)).trans hw172_4), ((HB.out.cell (World.block_lt_of_cell? w _ hw172_5)).trans hw172_5), ((HB.out.cell (World.block_lt_of_cell? w _ hw172_6)).trans hw172_6)⟩ (fun hHeld => ?_)
                 clear hK K
                 refine sqN_ 14 ?_
                 refine sqP_ 5 15 (fb 24 63) (any_of HT_.out (by kernel_rfl)) ?_
                 refine sqP_ 6 16 (fb 24 127) (any_of HT_.out (by kernel_rfl)) ?_
                 refine sqP_ 7 17 (fb 24 255) (any_of HT_.out (by kernel_rfl)) ?_
                 refine sqP_ 8 18 (fb 24 511) (any_of HT_.out (by kernel_rfl)) ?_
                 refine sqP_ 9 19 (fb 24 1023) (any_of HT_.out (by kernel_rfl)) ?_
                 refine sqP_ 10 20 (fb 24 2047) (any_of HT_.out (by kernel_rfl)) ?_
                 refine sqP_ 11 21 (fb 24 4095) (any_of HT_.out (by kernel_rfl)) ?_
                 refine sqP_ 12 22 (fb 24 8191) (any_of HT_.out (by kernel_rfl)) ?_
                 refine sqP_ 13 23 (fb 24 16383) (any_of HT_.out (by kernel_rfl)) ?_
                 refine sqP_ 15 25 (fb 24 49151) (any_of HT_.out (by kernel_rfl)) ?_
                 refine sqP_ 16 26 (fb 24 114687) (any_of HT_.out (by kernel_rfl)) ?_
                 refine sqP_ 17 27 (fb 24 245759) (any_of HT_.out (by kernel_rfl)) ?_
                 refine sqP_ 18 28 (fb 24 507903) (any_of HT_.out (by kernel_rfl)) ?_
                 refine sqP_ 19 29 (fb 24 1032191) (any_of HT_.out (by kernel_rfl)) ?_
                 refine sqT_ 14 24 (fb 24 1048575) (take_ofW HT_.out HW_.out (by kernel_rfl)) hHeld ?_
                 refine sqT_ 20 30 (fb 24 2097151) (take_ofW HT_.out HW_.out (by kernel_rfl)) hHeld ?_
                 refine sqP_ 21 31 (fb 24 4194303) (any_of HT_.out (by kernel_rfl)) ?_
                 refine sqP_ 22 32 (fb 24 8388607) (any_of HT_.out (by kernel_rfl)) ?_
                 refine sqP_ 23 33 (fb 24 16777215) (any_of HT_.out (by kernel_rfl)) ?_
                 refine done_ (done_of HT_.out (by kernel_rfl)) ?_
                 try go_wp2
                 go_roundg k1
                 case measure => have := HK1.out; omega
                 case rel => exact ⟨(wrap64 (x3_1 + 1)), (by first | rfl | (simp; done) | (simp [*]; done)), H', ⟨by have := HK1.out; omega⟩, ⟨bb_⟩⟩
             · rw [if_neg c9] at H
               exact absurd H (by simp)
           · rw [if_neg c8] at H
             exact absurd H (by simp)
         · rw [if_neg c6] at H
           have c6b0 : decide (0 < x3_1) = false := decide_eq_false c6
           clear c6
           have H' := Aside0.mk H
           clear H
           try go_wp2
           have n0_ := Aside0.mk (below_drew1 HB.out)
           clear HB; revert n0_; intro HB
           have p169 : 0 ≤ (x3_1 : Int) := od_
           have q169 : x3_1 < (l0.length : Int) := od_
           obtain ⟨ad169, e169, hx169_0, hx169_1, hx169_2, hx169_3, hx169_4, hx169_5, hx169_6⟩ := at_T43 HR0.out x3_1 p169 q169
           have hw169_6 := hx169_6
           have hw169_5 := hx169_5
           have hw169_4 := hx169_4
           have hw169_3 := hx169_3
           have hw169_2 := hx169_2
           have hw169_1 := hx169_1
           have hw169_0 := hx169_0
           cases e169
           replace hx169_0 := cel HB hx169_0
           replace hx169_1 := cel HB hx169_1
           replace hx169_2 := cel HB hx169_2
           replace hx169_3 := cel HB hx169_3
           replace hx169_4 := cel HB hx169_4
           replace hx169_5 := cel HB hx169_5
           replace hx169_6 := cel HB hx169_6
           replace p169 := eq_true p169
           replace q169 := eq_true q169
           refine start_ (n := 24) (S := fun w' => w'.cell? (ad169.add ((x3_1).toNat * 7)) = some (.int .i64 ((rd_T43 l0 x3_1).f0)) ∧ w'.cell? ⟨(ad169.add ((x3_1).toNat * 7)).block, (ad169.add ((x3_1).toNat * 7)).off + 1, none⟩ = some (.int .i64 ((rd_T43 l0 x3_1).f1)) ∧ w'.cell? ⟨(ad169.add ((x3_1).toNat * 7)).block, (ad169.add ((x3_1).toNat * 7)).off + 2, none⟩ = some (.string ((rd_T43 l0 x3_1).f2)) ∧ w'.cell? ⟨(ad169.add ((x3_1).toNat * 7)).block, (ad169.add ((x3_1).toNat * 7)).off + 3, none⟩ = some (.int .i64 ((rd_T43 l0 x3_1).f3)) ∧ w'.cell? ⟨(ad169.add ((x3_1).toNat * 7)).block, (ad169.add ((x3_1).toNat * 7)).off + 4, none⟩ = some (.bool ((rd_T43 l0 x3_1).f4)) ∧ w'.cell? ⟨(ad169.add ((x3_1).toNat * 7)).block, (ad169.add ((x3_1).toNat * 7)).off + 5, none⟩ = some (.bool ((rd_T43 l0 x3_1).f5)) ∧ w'.cell? ⟨(ad169.add ((x3_1).toNat * 7)).block, (ad169.add ((x3_1).toNat * 7)).off + 6, none⟩ = some (.bool ((rd_T43 l0 x3_1).f6))) (ds := []) (fb 24 0) (by kernel_rfl) rfl rfl ⟨((HB.out.cell (World.block_lt_of_cell? w _ hw169_0)).trans hw169_0), ((HB.out.cell (World.block_lt_of_cell? w _ hw169_1)).trans hw169_1), ((HB.out.cell (World.block_lt_of_cell? w _ hw169_2)).trans hw169_2), ((HB.out.cell (World.block_lt_of_cell? w _ hw169_3)).trans hw169_3), ((HB.out.cell (World.block_lt_of_cell? w _ hw169_4)).trans hw169_4), ((HB.out.cell (World.block_lt_of_cell? w _ hw169_5)).trans hw169_5), ((HB.out.cell (World.block_lt_of_cell? w _ hw169_6)).trans hw169_6)⟩ (fun hHeld => ?_); refine with_tabW spec_IsLog.tab4 spec_IsLog.bits4 (fun HT_ HW_ => ?_)
           generalize wr.drew = w15 at HB hx169_0 hx169_1 hx169_2 hx169_3 hx169_4 hx169_5 hx169_6 hHeld ⊢
           refine sqP_ 0 10 (fb 24 1) (any_of HT_.out (by kernel_rfl)) ?_
           refine sqP_ 1 11 (fb 24 3) (any_of HT_.out (by kernel_rfl)) ?_
           refine sqP_ 2 12 (fb 24 7) (any_of HT_.out (by kernel_rfl)) ?_
           refine sqT_ 3 13 (fb 24 15) (take_ofW HT_.out HW_.out (by kernel_rfl)) hHeld ?_
           refine one_ (i := 4) (N := some 14) (fb 24 31) rfl rfl (one_of HT_.out (by kernel_rfl)) (by decide) (fun K hK => ?_)
           refine goes_ Try.func56 (by kernel_rfl) rfl #[.agg #[.int .i64 ((rd_T43 l0 x3_1).f0), .int .i64 ((rd_T43 l0 x3_1).f1), .string ((rd_T43 l0 x3_1).f2), .int .i64 ((rd_T43 l0 x3_1).f3), .bool ((rd_T43 l0 x3_1).f4), .bool ((rd_T43 l0 x3_1).f5), .bool ((rd_T43 l0 x3_1).f6)]] (by rfl) rfl rfl (by (try simp only [List.map_toArray, List.map_cons, List.map_nil]); first | done | rfl | (simp only [List.length_drop, List.length_take]; rfl)) ?_
           with_reducible refine (spec_IsEvent.calls k1 ((rd_T43 l0 x3_1).f0) ((rd_T43 l0 x3_1).f1) ((rd_T43 l0 x3_1).f2) ((rd_T43 l0 x3_1).f3) ((rd_T43 l0 x3_1).f4) ((rd_T43 l0 x3_1).f5) ((rd_T43 l0 x3_1).f6) true _ A4.out).mono ?_
           rintro e w16 ⟨rfl, hb⟩
           refine ⟨_, rfl, ?_⟩
           have n0_ := Aside0.mk (bs_ hb)
           clear HB; revert n0_; intro HB
           (try clear hb)
           (try clear hb2)
           (try clear hk)
           (try clear hi)
           refine hK.out _ _ ⟨((HB.out.cell (World.block_lt_of_cell? w _ hw169_0)).trans hw169_0), ((HB.out.cell (World.block_lt_of_cell? w _ hw169_1)).trans hw169_1), ((HB.out.cell (World.block_lt_of_cell? w _ hw169_2)).trans hw169_2), ((HB.out.cell (World.block_lt_of_cell? w _ hw169_3)).trans hw169_3), ((HB.out.cell (World.block_lt_of_cell? w _ hw169_4)).trans hw169_4), ((HB.out.cell (World.block_lt_of_cell? w _ hw169_5)).trans hw169_5), ((HB.out.cell (World.block_lt_of_cell? w _ hw169_6)).trans hw169_6)⟩ (fun hHeld => ?_)
           clear hK K
           refine sqN_ 14 ?_
           refine sqP_ 5 15 (fb 24 63) (any_of HT_.out (by kernel_rfl)) ?_
           refine sqP_ 6 16 (fb 24 127) (any_of HT_.out (by kernel_rfl)) ?_
           refine sqP_ 7 17 (fb 24 255) (any_of HT_.out (by kernel_rfl)) ?_
           refine sqP_ 8 18 (fb 24 511) (any_of HT_.out (by kernel_rfl)) ?_
           refine sqP_ 9 19 (fb 24 1023) (any_of HT_.out (by kernel_rfl)) ?_
           refine sqO_ 10 20 (fb 24 2047) (any_of HT_.out (by kernel_rfl)) ?_
           refine sqO_ 11 21 (fb 24 4095) (any_of HT_.out (by kernel_rfl)) ?_
           refine sqO_ 12 22 (fb 24 8191) (any_of HT_.out (by kernel_rfl)) ?_
           refine sqO_ 13 23 (fb 24 16383) (any_of HT_.out (by kernel_rfl)) ?_
           refine sqO_ 14 24 (fb 24 32767) (any_of HT_.out (by kernel_rfl)) ?_
           refine sqO_ 15 25 (fb 24 65535) (any_of HT_.out (by kernel_rfl)) ?_
           refine sqO_ 16 26 (fb 24 131071) (any_of HT_.out (by kernel_rfl)) ?_
           refine sqO_ 17 27 (fb 24 262143) (any_of HT_.out (by kernel_rfl)) ?_
           refine sqO_ 18 28 (fb 24 524287) (any_of HT_.out (by kernel_rfl)) ?_
           refine sqO_ 19 29 (fb 24 1048575) (any_of HT_.out (by kernel_rfl)) ?_
           refine sqO_ 20 30 (fb 24 2097151) (any_of HT_.out (by kernel_rfl)) ?_
           refine sqO_ 21 31 (fb 24 4194303) (any_of HT_.out (by kernel_rfl)) ?_
           refine sqP_ 22 32 (fb 24 8388607) (any_of HT_.out (by kernel_rfl)) ?_
           refine sqP_ 23 33 (fb 24 16777215) (any_of HT_.out (by kernel_rfl)) ?_
           refine done_ (done_of HT_.out (by kernel_rfl)) ?_
           try go_wp2
           go_roundg k1
           case measure => have := HK1.out; omega
           case rel => exact ⟨(wrap64 (x3_1 + 1)), (by first | rfl | (simp; done) | (simp [*]; done)), H', ⟨by have := HK1.out; omega⟩, ⟨bb_⟩⟩
       · replace c5 := Bool.eq_false_iff.mpr c5
         subst c5
         have H1 : (some false) = some r := by rw [if_neg (show ¬ (false = true) by decide)] at H; exact H
         clear H
         have H := H1
         clear H1
         obtain rfl := Option.some.inj H
         try go_wp2
         have n0_ := Aside0.mk (below_drew1 HB.out)
         clear HB; revert n0_; intro HB
         have p169 : 0 ≤ (x3_1 : Int) := od_
         have q169 : x3_1 < (l0.length : Int) := od_
         obtain ⟨ad169, e169, hx169_0, hx169_1, hx169_2, hx169_3, hx169_4, hx169_5, hx169_6⟩ := at_T43 HR0.out x3_1 p169 q169
         have hw169_6 := hx169_6
         have hw169_5 := hx169_5
         have hw169_4 := hx169_4
         have hw169_3 := hx169_3
         have hw169_2 := hx169_2
         have hw169_1 := hx169_1
         have hw169_0 := hx169_0
         cases e169
         replace hx169_0 := cel HB hx169_0
         replace hx169_1 := cel HB hx169_1
         replace hx169_2 := cel HB hx169_2
         replace hx169_3 := cel HB hx169_3
         replace hx169_4 := cel HB hx169_4
         replace hx169_5 := cel HB hx169_5
         replace hx169_6 := cel HB hx169_6
         replace p169 := eq_true p169
         replace q169 := eq_true q169
         refine start_ (n := 24) (S := fun w' => w'.cell? (ad169.add ((x3_1).toNat * 7)) = some (.int .i64 ((rd_T43 l0 x3_1).f0)) ∧ w'.cell? ⟨(ad169.add ((x3_1).toNat * 7)).block, (ad169.add ((x3_1).toNat * 7)).off + 1, none⟩ = some (.int .i64 ((rd_T43 l0 x3_1).f1)) ∧ w'.cell? ⟨(ad169.add ((x3_1).toNat * 7)).block, (ad169.add ((x3_1).toNat * 7)).off + 2, none⟩ = some (.string ((rd_T43 l0 x3_1).f2)) ∧ w'.cell? ⟨(ad169.add ((x3_1).toNat * 7)).block, (ad169.add ((x3_1).toNat * 7)).off + 3, none⟩ = some (.int .i64 ((rd_T43 l0 x3_1).f3)) ∧ w'.cell? ⟨(ad169.add ((x3_1).toNat * 7)).block, (ad169.add ((x3_1).toNat * 7)).off + 4, none⟩ = some (.bool ((rd_T43 l0 x3_1).f4)) ∧ w'.cell? ⟨(ad169.add ((x3_1).toNat * 7)).block, (ad169.add ((x3_1).toNat * 7)).off + 5, none⟩ = some (.bool ((rd_T43 l0 x3_1).f5)) ∧ w'.cell? ⟨(ad169.add ((x3_1).toNat * 7)).block, (ad169.add ((x3_1).toNat * 7)).off + 6, none⟩ = some (.bool ((rd_T43 l0 x3_1).f6))) (ds := []) (fb 24 0) (by kernel_rfl) rfl rfl ⟨((HB.out.cell (World.block_lt_of_cell? w _ hw169_0)).trans hw169_0), ((HB.out.cell (World.block_lt_of_cell? w _ hw169_1)).trans hw169_1), ((HB.out.cell (World.block_lt_of_cell? w _ hw169_2)).trans hw169_2), ((HB.out.cell (World.block_lt_of_cell? w _ hw169_3)).trans hw169_3), ((HB.out.cell (World.block_lt_of_cell? w _ hw169_4)).trans hw169_4), ((HB.out.cell (World.block_lt_of_cell? w _ hw169_5)).trans hw169_5), ((HB.out.cell (World.block_lt_of_cell? w _ hw169_6)).trans hw169_6)⟩ (fun hHeld => ?_); refine with_tabW spec_IsLog.tab4 spec_IsLog.bits4 (fun HT_ HW_ => ?_)
         generalize wr.drew = w17 at HB hx169_0 hx169_1 hx169_2 hx169_3 hx169_4 hx169_5 hx169_6 hHeld ⊢
         refine sqP_ 0 10 (fb 24 1) (any_of HT_.out (by kernel_rfl)) ?_
         refine sqP_ 1 11 (fb 24 3) (any_of HT_.out (by kernel_rfl)) ?_
         refine sqP_ 2 12 (fb 24 7) (any_of HT_.out (by kernel_rfl)) ?_
         refine sqT_ 3 13 (fb 24 15) (take_ofW HT_.out HW_.out (by kernel_rfl)) hHeld ?_
         refine one_ (i := 4) (N := some 14) (fb 24 31) rfl rfl (one_of HT_.out (by kernel_rfl)) (by decide) (fun K hK => ?_)
         refine goes_ Try.func56 (by kernel_rfl) rfl #[.agg #[.int .i64 ((rd_T43 l0 x3_1).f0), .int .i64 ((rd_T43 l0 x3_1).f1), .string ((rd_T43 l0 x3_1).f2), .int .i64 ((rd_T43 l0 x3_1).f3), .bool ((rd_T43 l0 x3_1).f4), .bool ((rd_T43 l0 x3_1).f5), .bool ((rd_T43 l0 x3_1).f6)]] (by rfl) rfl rfl (by (try simp only [List.map_toArray, List.map_cons, List.map_nil]); first | done | rfl | (simp only [List.length_drop, List.length_take]; rfl)) ?_
         with_reducible refine (spec_IsEvent.calls k1 ((rd_T43 l0 x3_1).f0) ((rd_T43 l0 x3_1).f1) ((rd_T43 l0 x3_1).f2) ((rd_T43 l0 x3_1).f3) ((rd_T43 l0 x3_1).f4) ((rd_T43 l0 x3_1).f5) ((rd_T43 l0 x3_1).f6) false _ A4.out).mono ?_
         rintro e w18 ⟨rfl, hb⟩
         refine ⟨_, rfl, ?_⟩
         have n0_ := Aside0.mk (bs_ hb)
         clear HB; revert n0_; intro HB
         (try clear hb)
         (try clear hb2)
         (try clear hk)
         (try clear hi)
         refine hK.out _ _ ⟨((HB.out.cell (World.block_lt_of_cell? w _ hw169_0)).trans hw169_0), ((HB.out.cell (World.block_lt_of_cell? w _ hw169_1)).trans hw169_1), ((HB.out.cell (World.block_lt_of_cell? w _ hw169_2)).trans hw169_2), ((HB.out.cell (World.block_lt_of_cell? w _ hw169_3)).trans hw169_3), ((HB.out.cell (World.block_lt_of_cell? w _ hw169_4)).trans hw169_4), ((HB.out.cell (World.block_lt_of_cell? w _ hw169_5)).trans hw169_5), ((HB.out.cell (World.block_lt_of_cell? w _ hw169_6)).trans hw169_6)⟩ (fun hHeld => ?_)
         clear hK K
         refine sqN_ 14 ?_
         refine sqP_ 5 15 (fb 24 63) (any_of HT_.out (by kernel_rfl)) ?_
         refine sqP_ 6 16 (fb 24 127) (any_of HT_.out (by kernel_rfl)) ?_
         refine sqO_ 7 17 (fb 24 255) (any_of HT_.out (by kernel_rfl)) ?_
         refine sqO_ 8 18 (fb 24 511) (any_of HT_.out (by kernel_rfl)) ?_
         refine sqO_ 9 19 (fb 24 1023) (any_of HT_.out (by kernel_rfl)) ?_
         refine sqO_ 10 20 (fb 24 2047) (any_of HT_.out (by kernel_rfl)) ?_
         refine sqO_ 11 21 (fb 24 4095) (any_of HT_.out (by kernel_rfl)) ?_
         refine sqO_ 12 22 (fb 24 8191) (any_of HT_.out (by kernel_rfl)) ?_
         refine sqO_ 13 23 (fb 24 16383) (any_of HT_.out (by kernel_rfl)) ?_
         refine sqO_ 14 24 (fb 24 32767) (any_of HT_.out (by kernel_rfl)) ?_
         refine sqO_ 15 25 (fb 24 65535) (any_of HT_.out (by kernel_rfl)) ?_
         refine sqO_ 16 26 (fb 24 131071) (any_of HT_.out (by kernel_rfl)) ?_
         refine sqO_ 17 27 (fb 24 262143) (any_of HT_.out (by kernel_rfl)) ?_
         refine sqO_ 18 28 (fb 24 524287) (any_of HT_.out (by kernel_rfl)) ?_
         refine sqO_ 19 29 (fb 24 1048575) (any_of HT_.out (by kernel_rfl)) ?_
         refine sqO_ 20 30 (fb 24 2097151) (any_of HT_.out (by kernel_rfl)) ?_
         refine sqO_ 21 31 (fb 24 4194303) (any_of HT_.out (by kernel_rfl)) ?_
         refine sqO_ 22 32 (fb 24 8388607) (any_of HT_.out (by kernel_rfl)) ?_
         refine sqP_ 23 33 (fb 24 16777215) (any_of HT_.out (by kernel_rfl)) ?_
         refine done_ (done_of HT_.out (by kernel_rfl)) ?_
         try go_wp2
         go_ret
         exact ⟨by first | rfl | (simp [errW_none, errW_some] <;> rfl) | (simp [*, errW_none, errW_some] <;> rfl), bb_⟩
     · rw [if_neg c3] at H
       exact absurd H (by simp)
   · rw [if_neg c2] at H
     have c2b0 : decide (x3_1 < (l0.length : Int)) = false := decide_eq_false c2
     clear c2
     obtain rfl := Option.some.inj H
     go_wp2
     go_ret
     exact ⟨by first | rfl | (simp [errW_none, errW_some] <;> rfl) | (simp [*, errW_none, errW_some] <;> rfl), bb_⟩

end Go.Proofs.Ytmfbkbbgokjhnaa.F
