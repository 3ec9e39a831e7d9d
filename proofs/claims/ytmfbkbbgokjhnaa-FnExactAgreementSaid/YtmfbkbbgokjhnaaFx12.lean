-- Written by this session's program (wip/bin/hp.py) over the kit's print: a function's Lean form, and a proof that the call does what it says.
import Derived.Test.YtmfbkbbgokjhnaaFx0
import Derived.Test.YtmfbkbbgokjhnaaSq
import Derived.Test.YtmfbkbbgokjhnaaFx10
namespace Go.Proofs.Ytmfbkbbgokjhnaa.F
open Go.RowKit Go.Proofs.YtmfbkbbgokjhnaaW.PrintWords Go.Proofs.YtmfbkbbgokjhnaaW.PrintLast Go.Proofs.YtmfbkbbgokjhnaaW.PrintMore
attribute [local go_sem] max2_int min2_int max_two min_two max_three min_three max_four min_four   -- for this text's walks alone
set_option linter.unusedVariables false
set_option linter.unusedSimpArgs false

/-! ### spec_IsLog: function 64 -/
def spec_IsLog.l0 : Nat → List (S43) → Int → Option (Bool)
 | 0, _, _ => none
 | k + 1, x0, x3 => if x3 < (x0.length : Int) then (if 0 ≤ x3 then ((spec_IsEvent.f k ((rd_T43 x0 x3).f0) ((rd_T43 x0 x3).f1) ((rd_T43 x0 x3).f2) ((rd_T43 x0 x3).f3) ((rd_T43 x0 x3).f4) ((rd_T43 x0 x3).f5) ((rd_T43 x0 x3).f6)).bind fun t174 => (if t174 = true then (if x3 > 0 then (if 0 ≤ (wrap64 (x3 - 1)) then (if (wrap64 (x3 - 1)) < (x0.length : Int) then (if ((rd_T43 x0 x3).f0) < ((rd_T43 x0 (wrap64 (x3 - 1))).f0) then (some false) else (spec_IsLog.l0 k x0 (wrap64 (x3 + 1)))) else (none)) else (none)) else (spec_IsLog.l0 k x0 (wrap64 (x3 + 1)))) else (some false))) else (none)) else (some (decide ((x0.length : Int) ≤ 15)))
def spec_IsLog.f (k : Nat) (l0 : List (S43)) : Option (Bool) := spec_IsLog.l0 k l0 0
theorem spec_IsLog.mono_l : ∀ k, (∀ y0 y1, LeO (spec_IsLog.l0 k y0 y1) (spec_IsLog.l0 (k + 1) y0 y1))
 | 0 => fun _ _ r h => by simp [spec_IsLog.l0] at h
 | k + 1 => by
  have ih0 := spec_IsLog.mono_l k
  · intro y0 y1
    unfold spec_IsLog.l0
    repeat' first
    | (with_reducible exact ih0 _ _)
    | (with_reducible exact spec_IsEvent.mono _ _ _ _ _ _ _ _)
    | (with_reducible exact LeO.refl _)
    | (with_reducible exact LeO.none _)
    | (with_reducible refine LeO.ite ?_ ?_)
    | (with_reducible refine LeO.bind ?_ (fun _ => ?_))
    | exact ih0 _ _
    | exact spec_IsEvent.mono _ _ _ _ _ _ _ _
    | exact LeO.none _
    | refine LeO.ite ?_ ?_
    | refine LeO.bind ?_ (fun _ => ?_)
theorem spec_IsLog.mono : ∀ a0 k, LeO (spec_IsLog.f k a0) (spec_IsLog.f (k + 1) a0) := by
 intro a0 k
 have ih0 := spec_IsLog.mono_l k
 unfold spec_IsLog.f
 repeat' first
  | (with_reducible exact ih0 _ _)
  | (with_reducible exact spec_IsEvent.mono _ _ _ _ _ _ _ _)
  | (with_reducible exact LeO.refl _)
  | (with_reducible exact LeO.none _)
  | (with_reducible refine LeO.ite ?_ ?_)
  | (with_reducible refine LeO.bind ?_ (fun _ => ?_))
  | exact ih0 _ _
  | exact spec_IsEvent.mono _ _ _ _ _ _ _ _
  | exact LeO.none _
  | refine LeO.ite ?_ ?_
  | refine LeO.bind ?_ (fun _ => ?_)
def spec_IsLog.T4 : Bool × List (List Nat × List Nat) := (true, [([], []), ([], []), ([0, 1], [0, 1]), ([2], [2]), ([3], [3]), ([4], [4]), ([5, 4], [5]), ([6], [6]), ([7, 6], [6, 7]), ([8, 6, 6], [6, 8]), ([9], [9]), ([9], [9]), ([10, 11, 9], [9, 10, 11]), ([12, 9], [9, 12]), ([13, 9], [9, 13]), ([9], [9]), ([9], [9]), ([16, 9], [9, 16]), ([15, 17, 9], [9, 15, 17]), ([18, 9], [9, 18]), ([19, 9], [9, 19]), ([14, 20, 9], [9, 14, 20]), ([9, 21, 6], [6, 9, 21]), ([6, 22], [6, 22])])
def spec_IsLog.B4 : List Nat := [0, 0, 3, 7, 15, 31, 63, 127, 255, 511, 1023, 1023, 4095, 8191, 16383, 1023, 1023, 66559, 230399, 492543, 1016831, 2097151, 4194303, 8388607]
theorem spec_IsLog.tab4 : rtab .any (opsOf Try.f64 4) = spec_IsLog.T4 := by kernel_rfl
theorem spec_IsLog.bits4 : waitsOk spec_IsLog.T4.2 spec_IsLog.B4 = true := by kernel_rfl
set_option maxHeartbeats 8000000 in
set_option maxRecDepth 100000 in
theorem spec_IsLog.calls (k : Nat) (A0 : Option Addr) (c0 : Nat) (l0 : List (S43)) (r : Bool) (w : World) (hr0 : Kd.C k43 w A0 l0.length l0) (hc0 : l0.length ≤ c0) (h : spec_IsLog.f k l0 = some r) :
 Calls Try.prog 64 #[.slice A0 l0.length c0] w fun e w' => e = .returned (.bool r) ∧ Below w.heap.size w w' := by
 have hu43 := Try.underlying43
 have HR0 := Aside0.mk hr0
 have HC0 := Aside0.mk hc0
 clear hr0 hc0
 have HB := Aside0.mk (Below.refl w.heap.size w)
 have H : (spec_IsLog.l0 k l0 0) = some r := h
 clear h
 have H' := Aside0.mk H
 clear H
 go_enter Try.func64, Try.ntmps64
 go_wp2
 go_loopg [3] k (fun kq v3 w' => ∃ (x3_1 : Int), v3 = .int .i64 x3_1 ∧ Aside0 (spec_IsLog.l0 kq l0 x3_1 = some r) ∧ Aside0 (kq ≤ k) ∧ Aside0 (Below w.heap.size w w'))
 case atStart => exact ⟨(0), (by first | rfl | (simp; done) | (simp [*]; done)), H', ⟨Nat.le_refl _⟩, ⟨bb_⟩⟩
 case round =>
  clear H'
  obtain ⟨x3_1, rfl, HA, HK1, HB⟩ := hrel
  cases gk with
  | zero => exact absurd HA.out (by simp [spec_IsLog.l0])
  | succ k1 =>
   have H := HA.out
   clear HA
   simp only [spec_IsLog.l0] at H
   by_cases c2 : x3_1 < (l0.length : Int)
   · rw [if_pos c2] at H
     have c2b0 : decide (x3_1 < (l0.length : Int)) = true := decide_eq_true c2
     clear c2
     by_cases c3 : 0 ≤ x3_1
     · rw [if_pos c3] at H
       have c3b0 : decide (0 ≤ x3_1) = true := decide_eq_true c3
       clear c3
       replace H := Option.bind_eq_some_iff.mp H
       obtain ⟨t174, A40, H⟩ := H
       replace H : (if t174 = true then (if x3_1 > 0 then (if 0 ≤ (wrap64 (x3_1 - 1)) then (if (wrap64 (x3_1 - 1)) < (l0.length : Int) then (if ((rd_T43 l0 x3_1).f0) < ((rd_T43 l0 (wrap64 (x3_1 - 1))).f0) then (some false) else (spec_IsLog.l0 k1 l0 (wrap64 (x3_1 + 1)))) else (none)) else (none)) else (spec_IsLog.l0 k1 l0 (wrap64 (x3_1 + 1)))) else (some false)) = some r := H
       have A4 := Aside0.mk A40
       clear A40
       by_cases c5 : t174 = true
       · subst c5
         have H1 : (if x3_1 > 0 then (if 0 ≤ (wrap64 (x3_1 - 1)) then (if (wrap64 (x3_1 - 1)) < (l0.length : Int) then (if ((rd_T43 l0 x3_1).f0) < ((rd_T43 l0 (wrap64 (x3_1 - 1))).f0) then (some false) else (spec_IsLog.l0 k1 l0 (wrap64 (x3_1 + 1)))) else (none)) else (none)) else (spec_IsLog.l0 k1 l0 (wrap64 (x3_1 + 1)))) = some r := by rw [if_pos rfl] at H; exact H
         clear H
         have H := H1
         clear H1
         by_cases c6 : x3_1 > 0
         · rw [if_pos c6] at H
           have c6b0 : decide (0 < x3_1) = true := decide_eq_true c6
           clear c6
           obtain ⟨ji7, hji7⟩ : ∃ j_ : Int, (wrap64 (x3_1 - 1)) = j_ := ⟨_, rfl⟩
           replace H : (if 0 ≤ (ji7) then (if (ji7) < (l0.length : Int) then (if ((rd_T43 l0 x3_1).f0) < ((rd_T43 l0 (ji7)).f0) then (some false) else (spec_IsLog.l0 k1 l0 (wrap64 (x3_1 + 1)))) else (none)) else (none)) = some r := by first | (rw [hji7] at H; exact H) | (simp only [hji7] at H ⊢; exact H)
           (try rw [hji7] at A4)
           have hji7w : (IntKind.i64.wrap (x3_1 - 1)) = ji7 := (i64_w _).trans hji7
           by_cases c8 : 0 ≤ (ji7)
           · rw [if_pos c8] at H
             have c8b0 : decide (0 ≤ (ji7)) = true := decide_eq_true c8
             clear c8
             by_cases c9 : (ji7) < (l0.length : Int)
             · rw [if_pos c9] at H
               have c9b0 : decide ((ji7) < (l0.length : Int)) = true := decide_eq_true c9
               clear c9
               by_cases c10 : ((rd_T43 l0 x3_1).f0) < ((rd_T43 l0 (ji7)).f0)
               · rw [if_pos c10] at H
                 have c10b0 : decide (((rd_T43 l0 x3_1).f0) < ((rd_T43 l0 (ji7)).f0)) = true := decide_eq_true c10
                 clear c10
                 obtain rfl := Option.some.inj H
                 try go_wp2
                 have n0_ := Aside0.mk (below_drew1 HB.out)
                 clear HB; revert n0_; intro HB
                 have p173 : 0 ≤ (x3_1 : Int) := od_
                 have q173 : x3_1 < (l0.length : Int) := od_
                 obtain ⟨ad173, e173, hx173_0, hx173_1, hx173_2, hx173_3, hx173_4, hx173_5, hx173_6⟩ := at_T43 HR0.out x3_1 p173 q173
                 have hw173_6 := hx173_6
                 have hw173_5 := hx173_5
                 have hw173_4 := hx173_4
                 have hw173_3 := hx173_3
                 have hw173_2 := hx173_2
                 have hw173_1 := hx173_1
                 have hw173_0 := hx173_0
                 cases e173
                 replace hx173_0 := cel HB hx173_0
                 replace hx173_1 := cel HB hx173_1
                 replace hx173_2 := cel HB hx173_2
                 replace hx173_3 := cel HB hx173_3
                 replace hx173_4 := cel HB hx173_4
                 replace hx173_5 := cel HB hx173_5
                 replace hx173_6 := cel HB hx173_6
                 replace p173 := eq_true p173
                 replace q173 := eq_true q173
                 have p175 : 0 ≤ (x3_1 : Int) := od_
                 have q175 : x3_1 < (l0.length : Int) := od_
                 obtain ⟨ad175, e175, hx175_0, hx175_1, hx175_2, hx175_3, hx175_4, hx175_5, hx175_6⟩ := at_T43 HR0.out x3_1 p175 q175
                 have hw175_6 := hx175_6
                 have hw175_5 := hx175_5
                 have hw175_4 := hx175_4
                 have hw175_3 := hx175_3
                 have hw175_2 := hx175_2
                 have hw175_1 := hx175_1
                 have hw175_0 := hx175_0
                 obtain rfl : ad173 = ad175 := (by injection e175)
                 replace hx175_0 := cel HB hx175_0
                 replace hx175_1 := cel HB hx175_1
                 replace hx175_2 := cel HB hx175_2
                 replace hx175_3 := cel HB hx175_3
                 replace hx175_4 := cel HB hx175_4
                 replace hx175_5 := cel HB hx175_5
                 replace hx175_6 := cel HB hx175_6
                 replace p175 := eq_true p175
                 replace q175 := eq_true q175
                 have p176 : 0 ≤ ((ji7) : Int) := od_
                 have q176 : (ji7) < (l0.length : Int) := od_
                 obtain ⟨ad176, e176, hx176_0, hx176_1, hx176_2, hx176_3, hx176_4, hx176_5, hx176_6⟩ := at_T43 HR0.out (ji7) p176 q176
                 have hw176_6 := hx176_6
                 have hw176_5 := hx176_5
                 have hw176_4 := hx176_4
                 have hw176_3 := hx176_3
                 have hw176_2 := hx176_2
                 have hw176_1 := hx176_1
                 have hw176_0 := hx176_0
                 obtain rfl : ad173 = ad176 := (by injection e176)
                 replace hx176_0 := cel HB hx176_0
                 replace hx176_1 := cel HB hx176_1
                 replace hx176_2 := cel HB hx176_2
                 replace hx176_3 := cel HB hx176_3
                 replace hx176_4 := cel HB hx176_4
                 replace hx176_5 := cel HB hx176_5
                 replace hx176_6 := cel HB hx176_6
                 replace p176 := eq_true p176
                 replace q176 := eq_true q176
                 refine start_ (n := 24) (S := fun w' => w'.cell? (ad173.add ((x3_1).toNat * 7)) = some (.int .i64 ((rd_T43 l0 x3_1).f0)) ∧ w'.cell? ⟨(ad173.add ((x3_1).toNat * 7)).block, (ad173.add ((x3_1).toNat * 7)).off + 1, none⟩ = some (.int .i64 ((rd_T43 l0 x3_1).f1)) ∧ w'.cell? ⟨(ad173.add ((x3_1).toNat * 7)).block, (ad173.add ((x3_1).toNat * 7)).off + 2, none⟩ = some (.string ((rd_T43 l0 x3_1).f2)) ∧ w'.cell? ⟨(ad173.add ((x3_1).toNat * 7)).block, (ad173.add ((x3_1).toNat * 7)).off + 3, none⟩ = some (.int .i64 ((rd_T43 l0 x3_1).f3)) ∧ w'.cell? ⟨(ad173.add ((x3_1).toNat * 7)).block, (ad173.add ((x3_1).toNat * 7)).off + 4, none⟩ = some (.bool ((rd_T43 l0 x3_1).f4)) ∧ w'.cell? ⟨(ad173.add ((x3_1).toNat * 7)).block, (ad173.add ((x3_1).toNat * 7)).off + 5, none⟩ = some (.bool ((rd_T43 l0 x3_1).f5)) ∧ w'.cell? ⟨(ad173.add ((x3_1).toNat * 7)).block, (ad173.add ((x3_1).toNat * 7)).off + 6, none⟩ = some (.bool ((rd_T43 l0 x3_1).f6)) ∧ w'.cell? (ad173.add ((x3_1).toNat * 7)) = some (.int .i64 ((rd_T43 l0 x3_1).f0)) ∧ w'.cell? ⟨(ad173.add ((x3_1).toNat * 7)).block, (ad173.add ((x3_1).toNat * 7)).off + 1, none⟩ = some (.int .i64 ((rd_T43 l0 x3_1).f1)) ∧ w'.cell? ⟨(ad173.add ((x3_1).toNat * 7)).block, (ad173.add ((x3_1).toNat * 7)).off + 2, none⟩ = some (.string ((rd_T43 l0 x3_1).f2)) ∧ w'.cell? ⟨(ad173.add ((x3_1).toNat * 7)).block, (ad173.add ((x3_1).toNat * 7)).off + 3, none⟩ = some (.int .i64 ((rd_T43 l0 x3_1).f3)) ∧ w'.cell? ⟨(ad173.add ((x3_1).toNat * 7)).block, (ad173.add ((x3_1).toNat * 7)).off + 4, none⟩ = some (.bool ((rd_T43 l0 x3_1).f4)) ∧ w'.cell? ⟨(ad173.add ((x3_1).toNat * 7)).block, (ad173.add ((x3_1).toNat * 7)).off + 5, none⟩ = some (.bool ((rd_T43 l0 x3_1).f5)) ∧ w'.cell? ⟨(ad173.add ((x3_1).toNat * 7)).block, (ad173.add ((x3_1).toNat * 7)).off + 6, none⟩ = some (.bool ((rd_T43 l0 x3_1).f6)) ∧ w'.cell? (ad173.add (((ji7)).toNat * 7)) = some (.int .i64 ((rd_T43 l0 (ji7)).f0)) ∧ w'.cell? ⟨(ad173.add (((ji7)).toNat * 7)).block, (ad173.add (((ji7)).toNat * 7)).off + 1, none⟩ = some (.int .i64 ((rd_T43 l0 (ji7)).f1)) ∧ w'.cell? ⟨(ad173.add (((ji7)).toNat * 7)).block, (ad173.add (((ji7)).toNat * 7)).off + 2, none⟩ = some (.string ((rd_T43 l0 (ji7)).f2)) ∧ w'.cell? ⟨(ad173.add (((ji7)).toNat * 7)).block, (ad173.add (((ji7)).toNat * 7)).off + 3, none⟩ = some (.int .i64 ((rd_T43 l0 (ji7)).f3)) ∧ w'.cell? ⟨(ad173.add (((ji7)).toNat * 7)).block, (ad173.add (((ji7)).toNat * 7)).off + 4, none⟩ = some (.bool ((rd_T43 l0 (ji7)).f4)) ∧ w'.cell? ⟨(ad173.add (((ji7)).toNat * 7)).block, (ad173.add (((ji7)).toNat * 7)).off + 5, none⟩ = some (.bool ((rd_T43 l0 (ji7)).f5)) ∧ w'.cell? ⟨(ad173.add (((ji7)).toNat * 7)).block, (ad173.add (((ji7)).toNat * 7)).off + 6, none⟩ = some (.bool ((rd_T43 l0 (ji7)).f6))) (ds := []) (fb 24 0) (by kernel_rfl) rfl rfl ⟨((HB.out.cell (World.block_lt_of_cell? w _ hw173_0)).trans hw173_0), ((HB.out.cell (World.block_lt_of_cell? w _ hw173_1)).trans hw173_1), ((HB.out.cell (World.block_lt_of_cell? w _ hw173_2)).trans hw173_2), ((HB.out.cell (World.block_lt_of_cell? w _ hw173_3)).trans hw173_3), ((HB.out.cell (World.block_lt_of_cell? w _ hw173_4)).trans hw173_4), ((HB.out.cell (World.block_lt_of_cell? w _ hw173_5)).trans hw173_5), ((HB.out.cell (World.block_lt_of_cell? w _ hw173_6)).trans hw173_6), ((HB.out.cell (World.block_lt_of_cell? w _ hw175_0)).trans hw175_0), ((HB.out.cell (World.block_lt_of_cell? w _ hw175_1)).trans hw175_1), ((HB.out.cell (World.block_lt_of_cell? w _ hw175_2)).trans hw175_2), ((HB.out.cell (World.block_lt_of_cell? w _ hw175_3)).trans hw175_3), ((HB.out.cell (World.block_lt_of_cell? w _ hw175_4)).trans hw175_4), ((HB.out.cell (World.block_lt_of_cell? w _ hw175_5)).trans hw175_5), ((HB.out.cell (World.block_lt_of_cell? w _ hw175_6)).trans hw175_6), ((HB.out.cell (World.block_lt_of_cell? w _ hw176_0)).trans hw176_0), ((HB.out.cell (World.block_lt_of_cell? w _ hw176_1)).trans hw176_1), ((HB.out.cell (World.block_lt_of_cell? w _ hw176_2)).trans hw176_2), ((HB.out.cell (World.block_lt_of_cell? w _ hw176_3)).trans hw176_3), ((HB.out.cell (World.block_lt_of_cell? w _ hw176_4)).trans hw176_4), ((HB.out.cell (World.block_lt_of_cell? w _ hw176_5)).trans hw176_5), ((HB.out.cell (World.block_lt_of_cell? w _ hw176_6)).trans hw176_6)⟩ (fun hHeld => ?_); refine with_tabW spec_IsLog.tab4 spec_IsLog.bits4 (fun HT_ HW_ => ?_)
                 generalize wr.drew = w11 at HB hx173_0 hx173_1 hx173_2 hx173_3 hx173_4 hx173_5 hx173_6 hx175_0 hx175_1 hx175_2 hx175_3 hx175_4 hx175_5 hx175_6 hx176_0 hx176_1 hx176_2 hx176_3 hx176_4 hx176_5 hx176_6 hHeld ⊢
                 refine sqP_ 0 10 (fb 24 1) (any_of HT_.out (by kernel_rfl)) ?_
                 refine sqP_ 1 11 (fb 24 3) (any_of HT_.out (by kernel_rfl)) ?_
                 refine sqP_ 2 12 (fb 24 7) (any_of HT_.out (by kernel_rfl)) ?_
                 refine sqT_ 3 13 (fb 24 15) (take_ofW HT_.out HW_.out (by kernel_rfl)) hHeld ?_
                 refine one_ (i := 4) (N := some 14) (fb 24 31) rfl rfl (one_of HT_.out (by kernel_rfl)) (by decide) (fun K hK => ?_)
                 refine goes_ Try.func56 (by kernel_rfl) rfl #[.agg #[.int .i64 ((rd_T43 l0 x3_1).f0), .int .i64 ((rd_T43 l0 x3_1).f1), .string ((rd_T43 l0 x3_1).f2), .int .i64 ((rd_T43 l0 x3_1).f3), .bool ((rd_T43 l0 x3_1).f4), .bool ((rd_T43 l0 x3_1).f5), .bool ((rd_T43 l0 x3_1).f6)]] (by rfl) rfl rfl (by (try simp only [List.map_toArray, List.map_cons, List.map_nil]); first | done | rfl | (simp only [List.length_drop, List.length_take]; rfl)) ?_
                 with_reducible refine (spec_IsEvent.calls k1 ((rd_T43 l0 x3_1).f0) ((rd_T43 l0 x3_1).f1) ((rd_T43 l0 x3_1).f2) ((rd_T43 l0 x3_1).f3) ((rd_T43 l0 x3_1).f4) ((rd_T43 l0 x3_1).f5) ((rd_T43 l0 x3_1).f6) true _ A4.out).mono ?_
                 rintro e w12 ⟨rfl, hb⟩
                 refine ⟨_, rfl, ?_⟩
                 have n0_ := Aside0.mk (bs_ hb)
                 clear HB; revert n0_; intro HB
                 (try clear hb)
                 (try clear hb2)
                 (try clear hk)
                 (try clear hi)
                 refine hK.out _ _ ⟨((HB.out.cell (World.block_lt_of_cell? w _ hw173_0)).trans hw173_0), ((HB.out.cell (World.block_lt_of_cell? w _ hw173_1)).trans hw173_1), ((HB.out.cell (World.block_lt_of_cell? w _ hw173_2)).trans hw173_2), ((HB.out.cell (World.block_lt_of_cell? w _ hw173_3)).trans hw173_3), ((HB.out.cell (World.block_lt_of_cell? w _ hw173_4)).trans hw173_4), ((HB.out.cell (World.block_lt_of_cell? w _ hw173_5)).trans hw173_5), ((HB.out.cell (World.block_lt_of_cell? w _ hw173_6)).trans hw173_6), ((HB.out.cell (World.block_lt_of_cell? w _ hw175_0)).trans hw175_0), ((HB.out.cell (World.block_lt_of_cell? w _ hw175_1)).trans hw175_1), ((HB.out.cell (World.block_lt_of_cell? w _ hw175_2)).trans hw175_2), ((HB.out.cell (World.block_lt_of_cell? w _ hw175_3)).trans hw175_3), ((HB.out.cell (World.block_lt_of_cell? w _ hw175_4)).trans hw175_4), ((HB.out.cell (World.block_lt_of_cell? w _ hw175_5)).trans hw175_5), ((HB.out.cell (World.block_lt_of_cell? w _ hw175_6)).trans hw175_6), ((HB.out.cell (World.block_lt_of_cell? w _ hw176_0)).trans hw176_0), ((HB.out.cell (World.block_lt_of_cell? w _ hw176_1)).trans hw176_1), ((HB.out.cell (World.block_lt_of_cell? w _ hw176_2)).trans hw176_2), ((HB.out.cell (World.block_lt_of_cell? w _ hw176_3)).trans hw176_3), ((HB.out.cell (World.block_lt_of_cell? w _ hw176_4)).trans hw176_4), ((HB.out.cell (World.block_lt_of_cell? w _ hw176_5)).trans hw176_5), ((HB.out.cell (World.block_lt_of_cell? w _ hw176_6)).trans hw176_6)⟩ (fun hHeld => ?_)
                 clear hK K
                 refine sqN_ 14 ?_
                 refine sqP_ 5 15 (fb 24 63) (any_of HT_.out (by kernel_rfl)) ?_
                 refine sqP_ 6 16 (fb 24 127) (any_of HT_.out (by kernel_rfl)) ?_
                 refine sqP_ 7 17 (fb 24 255) (any_of HT_.out (by kernel_rfl)) ?_
                 refine sqP_ 8 18 (fb 24 511) (any_of HT_.out (by kernel_rfl)) ?_
                 refine sqP_ 9 19 (fb 24 1023) (any_of HT_.out (by kernel_rfl)) ?_
                 refine sqP_ 10 20 (fb 24 2047) (any_of HT_.out (by kernel_rfl)) ?_
                 refine sqP_ 11 21 (fb 24 4095) (any_of HT_.out (by kernel_rfl)) ?_
                 refine sqP_ 12 22 (fb 24 8191) (any_of HT_.out (by kernel_rfl)) ?_
                 refine sqP_ 13 23 (fb 24 16383) (any_of HT_.out (by kernel_rfl)) ?_
                 refine sqP_ 15 25 (fb 24 49151) (any_of HT_.out (by kernel_rfl)) ?_
                 refine sqP_ 16 26 (fb 24 114687) (any_of HT_.out (by kernel_rfl)) ?_
                 refine sqP_ 17 27 (fb 24 245759) (any_of HT_.out (by kernel_rfl)) ?_
                 refine sqP_ 18 28 (fb 24 507903) (any_of HT_.out (by kernel_rfl)) ?_
                 refine sqP_ 19 29 (fb 24 1032191) (any_of HT_.out (by kernel_rfl)) ?_
                 refine sqT_ 14 24 (fb 24 1048575) (take_ofW HT_.out HW_.out (by kernel_rfl)) hHeld ?_
                 refine sqT_ 20 30 (fb 24 2097151) (take_ofW HT_.out HW_.out (by kernel_rfl)) hHeld ?_
                 refine sqP_ 21 31 (fb 24 4194303) (any_of HT_.out (by kernel_rfl)) ?_
                 refine sqP_ 22 32 (fb 24 8388607) (any_of HT_.out (by kernel_rfl)) ?_
                 refine sqP_ 23 33 (fb 24 16777215) (any_of HT_.out (by kernel_rfl)) ?_
                 refine done_ (done_of HT_.out (by kernel_rfl)) ?_
                 try go_wp2
                 go_ret
                 exact ⟨by first | rfl | (simp [errW_none, errW_some] <;> rfl) | (simp only [← hji7]; first | rfl | (simp [errW_none, errW_some] <;> rfl)) | (simp [*, errW_none, errW_some] <;> rfl), bb_⟩
               · rw [if_neg c10] at H
                 have c10b0 : decide (((rd_T43 l0 x3_1).f0) < ((rd_T43 l0 (ji7)).f0)) = false := decide_eq_false c10
                 clear c10
                 have H' := Aside0.mk H
                 clear H
                 try go_wp2
                 have n0_ := Aside0.mk (below_drew1 HB.out)
                 clear HB; revert n0_; intro HB
                 have p173 : 0 ≤ (x3_1 : Int) := od_
                 have q173 : x3_1 < (l0.length : Int) := od_
                 obtain ⟨ad173, e173, hx173_0, hx173_1, hx173_2, hx173_3, hx173_4, hx173_5, hx173_6⟩ := at_T43 HR0.out x3_1 p173 q173
                 have hw173_6 := hx173_6
                 have hw173_5 := hx173_5
                 have hw173_4 := hx173_4
                 have hw173_3 := hx173_3
                 have hw173_2 := hx173_2
                 have hw173_1 := hx173_1
                 have hw173_0 := hx173_0
                 cases e173
                 replace hx173_0 := cel HB hx173_0
                 replace hx173_1 := cel HB hx173_1
                 replace hx173_2 := cel HB hx173_2
                 replace hx173_3 := cel HB hx173_3
                 replace hx173_4 := cel HB hx173_4
                 replace hx173_5 := cel HB hx173_5
                 replace hx173_6 := cel HB hx173_6
                 replace p173 := eq_true p173
                 replace q173 := eq_true q173
                 have p175 : 0 ≤ (x3_1 : Int) := od_
                 have q175 : x3_1 < (l0.length : Int) := od_
                 obtain ⟨ad175, e175, hx175_0, hx175_1, hx175_2, hx175_3, hx175_4, hx175_5, hx175_6⟩ := at_T43 HR0.out x3_1 p175 q175
                 have hw175_6 := hx175_6
                 have hw175_5 := hx175_5
                 have hw175_4 := hx175_4
                 have hw175_3 := hx175_3
                 have hw175_2 := hx175_2
                 have hw175_1 := hx175_1
                 have hw175_0 := hx175_0
                 obtain rfl : ad173 = ad175 := (by injection e175)
                 replace hx175_0 := cel HB hx175_0
                 replace hx175_1 := cel HB hx175_1
                 replace hx175_2 := cel HB hx175_2
                 replace hx175_3 := cel HB hx175_3
                 replace hx175_4 := cel HB hx175_4
                 replace hx175_5 := cel HB hx175_5
                 replace hx175_6 := cel HB hx175_6
                 replace p175 := eq_true p175
                 replace q175 := eq_true q175
                 have p176 : 0 ≤ ((ji7) : Int) := od_
                 have q176 : (ji7) < (l0.length : Int) := od_
                 obtain ⟨ad176, e176, hx176_0, hx176_1, hx176_2, hx176_3, hx176_4, hx176_5, hx176_6⟩ := at_T43 HR0.out (ji7) p176 q176
                 have hw176_6 := hx176_6
                 have hw176_5 := hx176_5
                 have hw176_4 := hx176_4
                 have hw176_3 := hx176_3
                 have hw176_2 := hx176_2
                 have hw176_1 := hx176_1
                 have hw176_0 := hx176_0
                 obtain rfl : ad173 = ad176 := (by injection e176)
                 replace hx176_0 := cel HB hx176_0
                 replace hx176_1 := cel HB hx176_1
                 replace hx176_2 := cel HB hx176_2
                 replace hx176_3 := cel HB hx176_3
                 replace hx176_4 := cel HB hx176_4
                 replace hx176_5 := cel HB hx176_5
                 replace hx176_6 := cel HB hx176_6
                 replace p176 := eq_true p176
                 replace q176 := eq_true q176
                 refine start_ (n := 24) (S := fun w' => w'.cell? (ad173.add ((x3_1).toNat * 7)) = some (.int .i64 ((rd_T43 l0 x3_1).f0)) ∧ w'.cell? ⟨(ad173.add ((x3_1).toNat * 7)).block, (ad173.add ((x3_1).toNat * 7)).off + 1, none⟩ = some (.int .i64 ((rd_T43 l0 x3_1).f1)) ∧ w'.cell? ⟨(ad173.add ((x3_1).toNat * 7)).block, (ad173.add ((x3_1).toNat * 7)).off + 2, none⟩ = some (.string ((rd_T43 l0 x3_1).f2)) ∧ w'.cell? ⟨(ad173.add ((x3_1).toNat * 7)).block, (ad173.add ((x3_1).toNat * 7)).off + 3, none⟩ = some (.int .i64 ((rd_T43 l0 x3_1).f3)) ∧ w'.cell? ⟨(ad173.add ((x3_1).toNat * 7)).block, (ad173.add ((x3_1).toNat * 7)).off + 4, none⟩ = some (.bool ((rd_T43 l0 x3_1).f4)) ∧ w'.cell? ⟨(ad173.add ((x3_1).toNat * 7)).block, (ad173.add ((x3_1).toNat * 7)).off + 5, none⟩ = some (.bool ((rd_T43 l0 x3_1).f5)) ∧ w'.cell? ⟨(ad173.add ((x3_1).toNat * 7)).block, (ad173.add ((x3_1).toNat * 7)).off + 6, none⟩ = some (.bool ((rd_T43 l0 x3_1).f6)) ∧ w'.cell? (ad173.add ((x3_1).toNat * 7)) = some (.int .i64 ((rd_T43 l0 x3_1).f0)) ∧ w'.cell? ⟨(ad173.add ((x3_1).toNat * 7)).block, (ad173.add ((x3_1).toNat * 7)).off + 1, none⟩ = some (.int .i64 ((rd_T43 l0 x3_1).f1)) ∧ w'.cell? ⟨(ad173.add ((x3_1).toNat * 7)).block, (ad173.add ((x3_1).toNat * 7)).off + 2, none⟩ = some (.string ((rd_T43 l0 x3_1).f2)) ∧ w'.cell? ⟨(ad173.add ((x3_1).toNat * 7)).block, (ad173.add ((x3_1).toNat * 7)).off + 3, none⟩ = some (.int .i64 ((rd_T43 l0 x3_1).f3)) ∧ w'.cell? ⟨(ad173.add ((x3_1).toNat * 7)).block, (ad173.add ((x3_1).toNat * 7)).off + 4, none⟩ = some (.bool ((rd_T43 l0 x3_1).f4)) ∧ w'.cell? ⟨(ad173.add ((x3_1).toNat * 7)).block, (ad173.add ((x3_1).toNat * 7)).off + 5, none⟩ = some (.bool ((rd_T43 l0 x3_1).f5)) ∧ w'.cell? ⟨(ad173.add ((x3_1).toNat * 7)).block, (ad173.add ((x3_1).toNat * 7)).off + 6, none⟩ = some (.bool ((rd_T43 l0 x3_1).f6)) ∧ w'.cell? (ad173.add (((ji7)).toNat * 7)) = some (.int .i64 ((rd_T43 l0 (ji7)).f0)) ∧ w'.cell? ⟨(ad173.add (((ji7)).toNat * 7)).block, (ad173.add (((ji7)).toNat * 7)).off + 1, none⟩ = some (.int .i64 ((rd_T43 l0 (ji7)).f1)) ∧ w'.cell? ⟨(ad173.add (((ji7)).toNat * 7)).block, (ad173.add (((ji7)).toNat * 7)).off + 2, none⟩ = some (.string ((rd_T43 l0 (ji7)).f2)) ∧ w'.cell? ⟨(ad173.add (((ji7)).toNat * 7)).block, (ad173.add (((ji7)).toNat * 7)).off + 3, none⟩ = some (.int .i64 ((rd_T43 l0 (ji7)).f3)) ∧ w'.cell? ⟨(ad173.add (((ji7)).toNat * 7)).block, (ad173.add (((ji7)).toNat * 7)).off + 4, none⟩ = some (.bool ((rd_T43 l0 (ji7)).f4)) ∧ w'.cell? ⟨(ad173.add (((ji7)).toNat * 7)).block, (ad173.add (((ji7)).toNat * 7)).off + 5, none⟩ = some (.bool ((rd_T43 l0 (ji7)).f5)) ∧ w'.cell? ⟨(ad173.add (((ji7)).toNat * 7)).block, (ad173.add (((ji7)).toNat * 7)).off + 6, none⟩ = some (.bool ((rd_T43 l0 (ji7)).f6))) (ds := []) (fb 24 0) (by kernel_rfl) rfl rfl ⟨((HB.out.cell (World.block_lt_of_cell? w _ hw173_0)).trans hw173_0), ((HB.out.cell (World.block_lt_of_cell? w _ hw173_1)).trans hw173_1), ((HB.out.cell (World.block_lt_of_cell? w _ hw173_2)).trans hw173_2), ((HB.out.cell (World.block_lt_of_cell? w _ hw173_3)).trans hw173_3), ((HB.out.cell (World.block_lt_of_cell? w _ hw173_4)).trans hw173_4), ((HB.out.cell (World.block_lt_of_cell? w _ hw173_5)).trans hw173_5), ((HB.out.cell (World.block_lt_of_cell? w _ hw173_6)).trans hw173_6), ((HB.out.cell (World.block_lt_of_cell? w _ hw175_0)).trans hw175_0), ((HB.out.cell (World.block_lt_of_cell? w _ hw175_1)).trans hw175_1), ((HB.out.cell (World.block_lt_of_cell? w _ hw175_2)).trans hw175_2), ((HB.out.cell (World.block_lt_of_cell? w _ hw175_3)).trans hw175_3), ((HB.out.cell (World.block_lt_of_cell? w _ hw175_4)).trans hw175_4), ((HB.out.cell (World.block_lt_of_cell? w _ hw175_5)).trans hw175_5), ((HB.out.cell (World.block_lt_of_cell? w _ hw175_6)).trans hw175_6), ((HB.out.cell (World.block_lt_of_cell? w _ hw176_0)).trans hw176_0), ((HB.out.cell (World.block_lt_of_cell? w _ hw176_1)).trans hw176_1), ((HB.out.cell (World.block_lt_of_cell? w _ hw176_2)).trans hw176_2), ((HB.out.cell (World.block_lt_of_cell? w _ hw176_3)).trans hw176_3), ((HB.out.cell (World.block_lt_of_cell? w _ hw176_4)).trans hw176_4), ((HB.out.cell (World.block_lt_of_cell? w _ hw176_5)).trans hw176_5), ((HB.out.cell (World.block_lt_of_cell? w _ hw176_6)).trans hw176_6)⟩ (fun hHeld => ?_); refine with_tabW spec_IsLog.tab4 spec_IsLog.bits4 (fun HT_ HW_ => ?_)
                 generalize wr.drew = w13 at HB hx173_0 hx173_1 hx173_2 hx173_3 hx173_4 hx173_5 hx173_6 hx175_0 hx175_1 hx175_2 hx175_3 hx175_4 hx175_5 hx175_6 hx176_0 hx176_1 hx176_2 hx176_3 hx176_4 hx176_5 hx176_6 hHeld ⊢
                 refine sqP_ 0 10 (fb 24 1) (any_of HT_.out (by kernel_rfl)) ?_
                 refine sqP_ 1 11 (fb 24 3) (any_of HT_.out (by kernel_rfl)) ?_
                 refine sqP_ 2 12 (fb 24 7) (any_of HT_.out (by kernel_rfl)) ?_
                 refine sqT_ 3 13 (fb 24 15) (take_ofW HT_.out HW_.out (by kernel_rfl)) hHeld ?_
                 refine one_ (i := 4) (N := some 14) (fb 24 31) rfl rfl (one_of HT_.out (by kernel_rfl)) (by decide) (fun K hK => ?_)
                 refine goes_ Try.func56 (by kernel_rfl) rfl #[.agg #[.int .i64 ((rd_T43 l0 x3_1).f0), .int .i64 ((rd_T43 l0 x3_1).f1), .string ((rd_T43 l0 x3_1).f2), .int .i64 ((rd_T43 l0 x3_1).f3), .bool ((rd_T43 l0 x3_1).f4), .bool ((rd_T43 l0 x3_1).f5), .bool ((rd_T43 l0 x3_1).f6)]] (by rfl) rfl rfl (by (try simp only [List.map_toArray, List.map_cons, List.map_nil]); first | done | rfl | (simp only [List.length_drop, List.length_take]; rfl)) ?_
                 with_reducible refine (spec_IsEvent.calls k1 ((rd_T43 l0 x3_1).f0) ((rd_T43 l0 x3_1).f1) ((rd_T43 l0 x3_1).f2) ((rd_T43 l0 x3_1).f3) ((rd_T43 l0 x3_1).f4) ((rd_T43 l0 x3_1).f5) ((rd_T43 l0 x3_1).f6) true _ A4.out).mono ?_
                 rintro e w14 ⟨rfl, hb⟩
                 refine ⟨_, rfl, ?_⟩
                 have n0_ := Aside0.mk (bs_ hb)
                 clear HB; revert n0_; intro HB
                 (try clear hb)
                 (try clear hb2)
                 (try clear hk)
                 (try clear hi)
                 refine hK.out _ _ ⟨((HB.out.cell (World.block_lt_of_cell? w _ hw173_0)).trans hw173_0), ((HB.out.cell (World.block_lt_of_cell? w _ hw173_1)).trans hw173_1), ((HB.out.cell (World.block_lt_of_cell? w _ hw173_2)).trans hw173_2), ((HB.out.cell (World.block_lt_of_cell? w _ hw173_3)).trans hw173_3), ((HB.out.cell (World.block_lt_of_cell? w _ hw173_4)).trans hw173_4), ((HB.out.cell (World.block_lt_of_cell? w _ hw173_5)).trans hw173_5), ((HB.out.cell (World.block_lt_of_cell? w _ hw173_6)).trans hw173_6), ((HB.out.cell (World.block_lt_of_cell? w _ hw175_0)).trans hw175_0), ((HB.out.cell (World.block_lt_of_cell? w _ hw175_1)).trans hw175_1), ((HB.out.cell (World.block_lt_of_cell? w _ hw175_2)).trans hw175_2), ((HB.out.cell (World.block_lt_of_cell? w _ hw175_3)).trans hw175_3), ((HB.out.cell (World.block_lt_of_cell? w _ hw175_4)).trans hw175_4), ((HB.out.cell (World.block_lt_of_cell? w _ hw175_5)).trans hw175_5), ((HB.out.cell (World.block_lt_of_cell? w _ hw175_6)).trans hw175_6), ((HB.out.cell (World.block_lt_of_cell? w _ hw176_0)).trans hw176_0), ((HB.out.cell (World.block_lt_of_cell? w _ hw176_1)).trans hw176_1), ((HB.out.cell (World.block_lt_of_cell? w _ hw176_2)).trans hw176_2), ((HB.out.cell (World.block_lt_of_cell? w _ hw176_3)).trans hw176_3), ((HB.out.cell (World.block_lt_of_cell? w _ hw176_4)).trans hw176_4), ((HB.out.cell (World.block_lt_of_cell? w _ hw176_5)).trans hw176_5), ((HB.out.cell (World.block_lt_of_cell? w _ hw176_6)).trans hw176_6)⟩ (fun hHeld => ?_)
                 clear hK K
                 refine sqN_ 14 ?_
                 refine sqP_ 5 15 (fb 24 63) (any_of HT_.out (by kernel_rfl)) ?_
                 refine sqP_ 6 16 (fb 24 127) (any_of HT_.out (by kernel_rfl)) ?_
                 refine sqP_ 7 17 (fb 24 255) (any_of HT_.out (by kernel_rfl)) ?_
                 refine sqP_ 8 18 (fb 24 511) (any_of HT_.out (by kernel_rfl)) ?_
                 refine sqP_ 9 19 (fb 24 1023) (any_of HT_.out (by kernel_rfl)) ?_
                 refine sqP_ 10 20 (fb 24 2047) (any_of HT_.out (by kernel_rfl)) ?_
                 refine sqP_ 11 21 (fb 24 4095) (any_of HT_.out (by kernel_rfl)) ?_
                 refine sqP_ 12 22 (fb 24 8191) (any_of HT_.out (by kernel_rfl)) ?_
                 refine sqP_ 13 23 (fb 24 16383) (any_of HT_.out (by kernel_rfl)) ?_
                 refine sqP_ 15 25 (fb 24 49151) (any_of HT_.out (by kernel_rfl)) ?_
                 refine sqP_ 16 26 (fb 24 114687) (any_of HT_.out (by kernel_rfl)) ?_
                 refine sqP_ 17 27 (fb 24 245759) (any_of HT_.out (by kernel_rfl)) ?_
                 refine sqP_ 18 28 (fb 24 507903) (any_of HT_.out (by kernel_rfl)) ?_
                 refine sqP_ 19 29 (fb 24 1032191) (any_of HT_.out (by kernel_rfl)) ?_
                 refine sqT_ 14 24 (fb 24 1048575) (take_ofW HT_.out HW_.out (by kernel_rfl)) hHeld ?_
                 refine sqT_ 20 30 (fb 24 2097151) (take_ofW HT_.out HW_.out (by kernel_rfl)) hHeld ?_
                 refine sqP_ 21 31 (fb 24 4194303) (any_of HT_.out (by kernel_rfl)) ?_
                 refine sqP_ 22 32 (fb 24 8388607) (any_of HT_.out (by kernel_rfl)) ?_
                 refine sqP_ 23 33 (fb 24 16777215) (any_of HT_.out (by kernel_rfl)) ?_
                 refine done_ (done_of HT_.out (by kernel_rfl)) ?_
                 try go_wp2
                 go_roundg k1
                 case measure => have := HK1.out; omega
                 case rel => exact ⟨(wrap64 (x3_1 + 1)), (by first | rfl | (simp; done) | (simp [*]; done)), H', ⟨by have := HK1.out; omega⟩, ⟨bb_⟩⟩
             · rw [if_neg c9] at H
               exact absurd H (by simp)
           · rw [if_neg c8] at H
             exact absurd H (by simp)
         · rw [if_neg c6] at H
           have c6b0 : decide (0 < x3_1) = false := decide_eq_false c6
           clear c6
           have H' := Aside0.mk H
           clear H
           try go_wp2
           have n0_ := Aside0.mk (below_drew1 HB.out)
           clear HB; revert n0_; intro HB
           have p173 : 0 ≤ (x3_1 : Int) := od_
           have q173 : x3_1 < (l0.length : Int) := od_
           obtain ⟨ad173, e173, hx173_0, hx173_1, hx173_2, hx173_3, hx173_4, hx173_5, hx173_6⟩ := at_T43 HR0.out x3_1 p173 q173
           have hw173_6 := hx173_6
           have hw173_5 := hx173_5
           have hw173_4 := hx173_4
           have hw173_3 := hx173_3
           have hw173_2 := hx173_2
           have hw173_1 := hx173_1
           have hw173_0 := hx173_0
           cases e173
           replace hx173_0 := cel HB hx173_0
           replace hx173_1 := cel HB hx173_1
           replace hx173_2 := cel HB hx173_2
           replace hx173_3 := cel HB hx173_3
           replace hx173_4 := cel HB hx173_4
           replace hx173_5 := cel HB hx173_5
           replace hx173_6 := cel HB hx173_6
           replace p173 := eq_true p173
           replace q173 := eq_true q173
           refine start_ (n := 24) (S := fun w' => w'.cell? (ad173.add ((x3_1).toNat * 7)) = some (.int .i64 ((rd_T43 l0 x3_1).f0)) ∧ w'.cell? ⟨(ad173.add ((x3_1).toNat * 7)).block, (ad173.add ((x3_1).toNat * 7)).off + 1, none⟩ = some (.int .i64 ((rd_T43 l0 x3_1).f1)) ∧ w'.cell? ⟨(ad173.add ((x3_1).toNat * 7)).block, (ad173.add ((x3_1).toNat * 7)).off + 2, none⟩ = some (.string ((rd_T43 l0 x3_1).f2)) ∧ w'.cell? ⟨(ad173.add ((x3_1).toNat * 7)).block, (ad173.add ((x3_1).toNat * 7)).off + 3, none⟩ = some (.int .i64 ((rd_T43 l0 x3_1).f3)) ∧ w'.cell? ⟨(ad173.add ((x3_1).toNat * 7)).block, (ad173.add ((x3_1).toNat * 7)).off + 4, none⟩ = some (.bool ((rd_T43 l0 x3_1).f4)) ∧ w'.cell? ⟨(ad173.add ((x3_1).toNat * 7)).block, (ad173.add ((x3_1).toNat * 7)).off + 5, none⟩ = some (.bool ((rd_T43 l0 x3_1).f5)) ∧ w'.cell? ⟨(ad173.add ((x3_1).toNat * 7)).block, (ad173.add ((x3_1).toNat * 7)).off + 6, none⟩ = some (.bool ((rd_T43 l0 x3_1).f6))) (ds := []) (fb 24 0) (by kernel_rfl) rfl rfl ⟨((HB.out.cell (World.block_lt_of_cell? w _ hw173_0)).trans hw173_0), ((HB.out.cell (World.block_lt_of_cell? w _ hw173_1)).trans hw173_1), ((HB.out.cell (World.block_lt_of_cell? w _ hw173_2)).trans hw173_2), ((HB.out.cell (World.block_lt_of_cell? w _ hw173_3)).trans hw173_3), ((HB.out.cell (World.block_lt_of_cell? w _ hw173_4)).trans hw173_4), ((HB.out.cell (World.block_lt_of_cell? w _ hw173_5)).trans hw173_5), ((HB.out.cell (World.block_lt_of_cell? w _ hw173_6)).trans hw173_6)⟩ (fun hHeld => ?_); refine with_tabW spec_IsLog.tab4 spec_IsLog.bits4 (fun HT_ HW_ => ?_)
           generalize wr.drew = w15 at HB hx173_0 hx173_1 hx173_2 hx173_3 hx173_4 hx173_5 hx173_6 hHeld ⊢
           refine sqP_ 0 10 (fb 24 1) (any_of HT_.out (by kernel_rfl)) ?_
           refine sqP_ 1 11 (fb 24 3) (any_of HT_.out (by kernel_rfl)) ?_
           refine sqP_ 2 12 (fb 24 7) (any_of HT_.out (by kernel_rfl)) ?_
           refine sqT_ 3 13 (fb 24 15) (take_ofW HT_.out HW_.out (by kernel_rfl)) hHeld ?_
           refine one_ (i := 4) (N := some 14) (fb 24 31) rfl rfl (one_of HT_.out (by kernel_rfl)) (by decide) (fun K hK => ?_)
           refine goes_ Try.func56 (by kernel_rfl) rfl #[.agg #[.int .i64 ((rd_T43 l0 x3_1).f0), .int .i64 ((rd_T43 l0 x3_1).f1), .string ((rd_T43 l0 x3_1).f2), .int .i64 ((rd_T43 l0 x3_1).f3), .bool ((rd_T43 l0 x3_1).f4), .bool ((rd_T43 l0 x3_1).f5), .bool ((rd_T43 l0 x3_1).f6)]] (by rfl) rfl rfl (by (try simp only [List.map_toArray, List.map_cons, List.map_nil]); first | done | rfl | (simp only [List.length_drop, List.length_take]; rfl)) ?_
           with_reducible refine (spec_IsEvent.calls k1 ((rd_T43 l0 x3_1).f0) ((rd_T43 l0 x3_1).f1) ((rd_T43 l0 x3_1).f2) ((rd_T43 l0 x3_1).f3) ((rd_T43 l0 x3_1).f4) ((rd_T43 l0 x3_1).f5) ((rd_T43 l0 x3_1).f6) true _ A4.out).mono ?_
           rintro e w16 ⟨rfl, hb⟩
           refine ⟨_, rfl, ?_⟩
           have n0_ := Aside0.mk (bs_ hb)
           clear HB; revert n0_; intro HB
           (try clear hb)
           (try clear hb2)
           (try clear hk)
           (try clear hi)
           refine hK.out _ _ ⟨((HB.out.cell (World.block_lt_of_cell? w _ hw173_0)).trans hw173_0), ((HB.out.cell (World.block_lt_of_cell? w _ hw173_1)).trans hw173_1), ((HB.out.cell (World.block_lt_of_cell? w _ hw173_2)).trans hw173_2), ((HB.out.cell (World.block_lt_of_cell? w _ hw173_3)).trans hw173_3), ((HB.out.cell (World.block_lt_of_cell? w _ hw173_4)).trans hw173_4), ((HB.out.cell (World.block_lt_of_cell? w _ hw173_5)).trans hw173_5), ((HB.out.cell (World.block_lt_of_cell? w _ hw173_6)).trans hw173_6)⟩ (fun hHeld => ?_)
           clear hK K
           refine sqN_ 14 ?_
           refine sqP_ 5 15 (fb 24 63) (any_of HT_.out (by kernel_rfl)) ?_
           refine sqP_ 6 16 (fb 24 127) (any_of HT_.out (by kernel_rfl)) ?_
           refine sqP_ 7 17 (fb 24 255) (any_of HT_.out (by kernel_rfl)) ?_
           refine sqP_ 8 18 (fb 24 511) (any_of HT_.out (by kernel_rfl)) ?_
           refine sqP_ 9 19 (fb 24 1023) (any_of HT_.out (by kernel_rfl)) ?_
           refine sqO_ 10 20 (fb 24 2047) (any_of HT_.out (by kernel_rfl)) ?_
           refine sqO_ 11 21 (fb 24 4095) (any_of HT_.out (by kernel_rfl)) ?_
           refine sqO_ 12 22 (fb 24 8191) (any_of HT_.out (by kernel_rfl)) ?_
           refine sqO_ 13 23 (fb 24 16383) (any_of HT_.out (by kernel_rfl)) ?_
           refine sqO_ 14 24 (fb 24 32767) (any_of HT_.out (by kernel_rfl)) ?_
           refine sqO_ 15 25 (fb 24 65535) (any_of HT_.out (by kernel_rfl)) ?_
           refine sqO_ 16 26 (fb 24 131071) (any_of HT_.out (by kernel_rfl)) ?_
           refine sqO_ 17 27 (fb 24 262143) (any_of HT_.out (by kernel_rfl)) ?_
           refine sqO_ 18 28 (fb 24 524287) (any_of HT_.out (by kernel_rfl)) ?_
           refine sqO_ 19 29 (fb 24 1048575) (any_of HT_.out (by kernel_rfl)) ?_
           refine sqO_ 20 30 (fb 24 2097151) (any_of HT_.out (by kernel_rfl)) ?_
           refine sqO_ 21 31 (fb 24 4194303) (any_of HT_.out (by kernel_rfl)) ?_
           refine sqP_ 22 32 (fb 24 8388607) (any_of HT_.out (by kernel_rfl)) ?_
           refine sqP_ 23 33 (fb 24 16777215) (any_of HT_.out (by kernel_rfl)) ?_
           refine done_ (done_of HT_.out (by kernel_rfl)) ?_
           try go_wp2
           go_roundg k1
           case measure => have := HK1.out; omega
           case rel => exact ⟨(wrap64 (x3_1 + 1)), (by first | rfl | (simp; done) | (simp [*]; done)), H', ⟨by have := HK1.out; omega⟩, ⟨bb_⟩⟩
       · replace c5 := Bool.eq_false_iff.mpr c5
         subst c5
         have H1 : (some false) = some r := by rw [if_neg (show ¬ (false = true) by decide)] at H; exact H
         clear H
         have H := H1
         clear H1
         obtain rfl := Option.some.inj H
         try go_wp2
         have n0_ := Aside0.mk (below_drew1 HB.out)
         clear HB; revert n0_; intro HB
         have p173 : 0 ≤ (x3_1 : Int) := od_
         have q173 : x3_1 < (l0.length : Int) := od_
         obtain ⟨ad173, e173, hx173_0, hx173_1, hx173_2, hx173_3, hx173_4, hx173_5, hx173_6⟩ := at_T43 HR0.out x3_1 p173 q173
         have hw173_6 := hx173_6
         have hw173_5 := hx173_5
         have hw173_4 := hx173_4
         have hw173_3 := hx173_3
         have hw173_2 := hx173_2
         have hw173_1 := hx173_1
         have hw173_0 := hx173_0
         cases e173
         replace hx173_0 := cel HB hx173_0
         replace hx173_1 := cel HB hx173_1
         replace hx173_2 := cel HB hx173_2
         replace hx173_3 := cel HB hx173_3
         replace hx173_4 := cel HB hx173_4
         replace hx173_5 := cel HB hx173_5
         replace hx173_6 := cel HB hx173_6
         replace p173 := eq_true p173
         replace q173 := eq_true q173
         refine start_ (n := 24) (S := fun w' => w'.cell? (ad173.add ((x3_1).toNat * 7)) = some (.int .i64 ((rd_T43 l0 x3_1).f0)) ∧ w'.cell? ⟨(ad173.add ((x3_1).toNat * 7)).block, (ad173.add ((x3_1).toNat * 7)).off + 1, none⟩ = some (.int .i64 ((rd_T43 l0 x3_1).f1)) ∧ w'.cell? ⟨(ad173.add ((x3_1).toNat * 7)).block, (ad173.add ((x3_1).toNat * 7)).off + 2, none⟩ = some (.string ((rd_T43 l0 x3_1).f2)) ∧ w'.cell? ⟨(ad173.add ((x3_1).toNat * 7)).block, (ad173.add ((x3_1).toNat * 7)).off + 3, none⟩ = some (.int .i64 ((rd_T43 l0 x3_1).f3)) ∧ w'.cell? ⟨(ad173.add ((x3_1).toNat * 7)).block, (ad173.add ((x3_1).toNat * 7)).off + 4, none⟩ = some (.bool ((rd_T43 l0 x3_1).f4)) ∧ w'.cell? ⟨(ad173.add ((x3_1).toNat * 7)).block, (ad173.add ((x3_1).toNat * 7)).off + 5, none⟩ = some (.bool ((rd_T43 l0 x3_1).f5)) ∧ w'.cell? ⟨(ad173.add ((x3_1).toNat * 7)).block, (ad173.add ((x3_1).toNat * 7)).off + 6, none⟩ = some (.bool ((rd_T43 l0 x3_1).f6))) (ds := []) (fb 24 0) (by kernel_rfl) rfl rfl ⟨((HB.out.cell (World.block_lt_of_cell? w _ hw173_0)).trans hw173_0), ((HB.out.cell (World.block_lt_of_cell? w _ hw173_1)).trans hw173_1), ((HB.out.cell (World.block_lt_of_cell? w _ hw173_2)).trans hw173_2), ((HB.out.cell (World.block_lt_of_cell? w _ hw173_3)).trans hw173_3), ((HB.out.cell (World.block_lt_of_cell? w _ hw173_4)).trans hw173_4), ((HB.out.cell (World.block_lt_of_cell? w _ hw173_5)).trans hw173_5), ((HB.out.cell (World.block_lt_of_cell? w _ hw173_6)).trans hw173_6)⟩ (fun hHeld => ?_); refine with_tabW spec_IsLog.tab4 spec_IsLog.bits4 (fun HT_ HW_ => ?_)
         generalize wr.drew = w17 at HB hx173_0 hx173_1 hx173_2 hx173_3 hx173_4 hx173_5 hx173_6 hHeld ⊢
         refine sqP_ 0 10 (fb 24 1) (any_of HT_.out (by kernel_rfl)) ?_
         refine sqP_ 1 11 (fb 24 3) (any_of HT_.out (by kernel_rfl)) ?_
         refine sqP_ 2 12 (fb 24 7) (any_of HT_.out (by kernel_rfl)) ?_
         refine sqT_ 3 13 (fb 24 15) (take_ofW HT_.out HW_.out (by kernel_rfl)) hHeld ?_
         refine one_ (i := 4) (N := some 14) (fb 24 31) rfl rfl (one_of HT_.out (by kernel_rfl)) (by decide) (fun K hK => ?_)
         refine goes_ Try.func56 (by kernel_rfl) rfl #[.agg #[.int .i64 ((rd_T43 l0 x3_1).f0), .int .i64 ((rd_T43 l0 x3_1).f1), .string ((rd_T43 l0 x3_1).f2), .int .i64 ((rd_T43 l0 x3_1).f3), .bool ((rd_T43 l0 x3_1).f4), .bool ((rd_T43 l0 x3_1).f5), .bool ((rd_T43 l0 x3_1).f6)]] (by rfl) rfl rfl (by (try simp only [List.map_toArray, List.map_cons, List.map_nil]); first | done | rfl | (simp only [List.length_drop, List.length_take]; rfl)) ?_
         with_reducible refine (spec_IsEvent.calls k1 ((rd_T43 l0 x3_1).f0) ((rd_T43 l0 x3_1).f1) ((rd_T43 l0 x3_1).f2) ((rd_T43 l0 x3_1).f3) ((rd_T43 l0 x3_1).f4) ((rd_T43 l0 x3_1).f5) ((rd_T43 l0 x3_1).f6) false _ A4.out).mono ?_
         rintro e w18 ⟨rfl, hb⟩
         refine ⟨_, rfl, ?_⟩
         have n0_ := Aside0.mk (bs_ hb)
         clear HB; revert n0_; intro HB
         (try clear hb)
         (try clear hb2)
         (try clear hk)
         (try clear hi)
         refine hK.out _ _ ⟨((HB.out.cell (World.block_lt_of_cell? w _ hw173_0)).trans hw173_0), ((HB.out.cell (World.block_lt_of_cell? w _ hw173_1)).trans hw173_1), ((HB.out.cell (World.block_lt_of_cell? w _ hw173_2)).trans hw173_2), ((HB.out.cell (World.block_lt_of_cell? w _ hw173_3)).trans hw173_3), ((HB.out.cell (World.block_lt_of_cell? w _ hw173_4)).trans hw173_4), ((HB.out.cell (World.block_lt_of_cell? w _ hw173_5)).trans hw173_5), ((HB.out.cell (World.block_lt_of_cell? w _ hw173_6)).trans hw173_6)⟩ (fun hHeld => ?_)
         clear hK K
         refine sqN_ 14 ?_
         refine sqP_ 5 15 (fb 24 63) (any_of HT_.out (by kernel_rfl)) ?_
         refine sqP_ 6 16 (fb 24 127) (any_of HT_.out (by kernel_rfl)) ?_
         refine sqO_ 7 17 (fb 24 255) (any_of HT_.out (by kernel_rfl)) ?_
         refine sqO_ 8 18 (fb 24 511) (any_of HT_.out (by kernel_rfl)) ?_
         refine sqO_ 9 19 (fb 24 1023) (any_of HT_.out (by kernel_rfl)) ?_
         refine sqO_ 10 20 (fb 24 2047) (any_of HT_.out (by kernel_rfl)) ?_
         refine sqO_ 11 21 (fb 24 4095) (any_of HT_.out (by kernel_rfl)) ?_
         refine sqO_ 12 22 (fb 24 8191) (any_of HT_.out (by kernel_rfl)) ?_
         refine sqO_ 13 23 (fb 24 16383) (any_of HT_.out (by kernel_rfl)) ?_
         refine sqO_ 14 24 (fb 24 32767) (any_of HT_.out (by kernel_rfl)) ?_
         refine sqO_ 15 25 (fb 24 65535) (any_of HT_.out (by kernel_rfl)) ?_
         refine sqO_ 16 26 (fb 24 131071) (any_of HT_.out (by kernel_rfl)) ?_
         refine sqO_ 17 27 (fb 24 262143) (any_of HT_.out (by kernel_rfl)) ?_
         refine sqO_ 18 28 (fb 24 524287) (any_of HT_.out (by kernel_rfl)) ?_
         refine sqO_ 19 29 (fb 24 1048575) (any_of HT_.out (by kernel_rfl)) ?_
         refine sqO_ 20 30 (fb 24 2097151) (any_of HT_.out (by kernel_rfl)) ?_
         refine sqO_ 21 31 (fb 24 4194303) (any_of HT_.out (by kernel_rfl)) ?_
         refine sqO_ 22 32 (fb 24 8388607) (any_of HT_.out (by kernel_rfl)) ?_
         refine sqP_ 23 33 (fb 24 16777215) (any_of HT_.out (by kernel_rfl)) ?_
         refine done_ (done_of HT_.out (by kernel_rfl)) ?_
         try go_wp2
         go_ret
         exact ⟨by first | rfl | (simp [errW_none, errW_some] <;> rfl) | (simp [*, errW_none, errW_some] <;> rfl), bb_⟩
     · rw [if_neg c3] at H
       exact absurd H (by simp)
   · rw [if_neg c2] at H
     have c2b0 : decide (x3_1 < (l0.length : Int)) = false := decide_eq_false c2
     clear c2
     obtain rfl := Option.some.inj H
     go_wp2
     go_ret
     exact ⟨by first | rfl | (simp [errW_none, errW_some] <;> rfl) | (simp [*, errW_none, errW_some] <;> rfl), bb_⟩

end Go.Proofs.Ytmfbkbbgokjhnaa.F
namespace Go.Proofs.Ytmfbkbbgokjhnaa.F
open Go.RowKit Go.Proofs.YtmfbkbbgokjhnaaW.PrintWords Go.Proofs.YtmfbkbbgokjhnaaW.PrintLast Go.Proofs.YtmfbkbbgokjhnaaW.PrintMore
attribute [local go_sem] max2_int min2_int max_two min_two max_three min_three max_four min_four   -- for this text's walks alone
set_option linter.unusedVariables false
set_option linter.unusedSimpArgs false

/-! ### spec_l09Meets: function 131 -/
def spec_l09Meets.f (a0 : Int) (a1 : Bool) : Option (Bool) := if a0 = 0 then (some true) else (some (a1 == (a0 == 1)))
set_option maxHeartbeats 8000000 in
set_option maxRecDepth 100000 in
theorem spec_l09Meets.calls (a0 : Int) (a1 : Bool) (r : Bool) (w : World) (h : spec_l09Meets.f a0 a1 = some r) :
 Calls Try.prog 131 #[.int .i64 a0, .bool a1] w fun e w' => e = .returned (.bool r) ∧ Drawn0 w w' := by
 have H : (if a0 = 0 then (some true) else (some (a1 == (a0 == 1)))) = some r := h
 clear h
 by_cases c3 : a0 = 0
 rw [if_pos c3] at H
 have c3b0 : (a0 == 0) = true := beq_iff_eq.mpr c3
 have c3b1 : (a0 != 0) = false := bne_eq_false_iff_eq.mpr c3
 clear c3
 obtain rfl := Option.some.inj H
 rotate_left
 rw [if_neg c3] at H
 have c3b0 : (a0 == 0) = false := beq_eq_false_iff_ne.mpr c3
 have c3b1 : (a0 != 0) = true := bne_iff_ne.mpr c3
 obtain rfl := Option.some.inj H
 rotate_left
 all_goals
  go_enter Try.func131, Try.ntmps131
  go_wp2
  go_ret
  exact ⟨by first | rfl | (simp; done) | (simp [*]; done), by repeat (first | exact Drawn0.refl _ | apply Drawn0.step)⟩

/-! ### spec_l09Matches: function 117 -/
def spec_l09Matches.f (a0_0 : ByteArray) (a0_1 : Int) (a0_2 : Int) (a0_3 : Int) (a0_4 : Int) (a0_5 : Int) (a0_6 : ByteArray) (a1_0 : Int) (a1_1 : Int) (a1_2 : ByteArray) (a1_3 : Int) (a1_4 : Bool) (a1_5 : Bool) (a1_6 : Bool) : Option (Bool) := if a0_1 = (-1) then ((spec_l09Meets.f a0_2 a1_4).bind fun t179 => (if t179 = true then ((spec_l09Meets.f a0_3 a1_5).bind fun t180 => (if t180 = true then ((spec_l09Meets.f a0_4 a1_6).bind fun t181 => (some t181)) else (some false))) else (some false))) else (if a0_1 = a1_1 then ((spec_l09Meets.f a0_2 a1_4).bind fun t182 => (if t182 = true then ((spec_l09Meets.f a0_3 a1_5).bind fun t183 => (if t183 = true then ((spec_l09Meets.f a0_4 a1_6).bind fun t184 => (some t184)) else (some false))) else (some false))) else (some false))
set_option maxHeartbeats 8000000 in
set_option maxRecDepth 100000 in
theorem spec_l09Matches.calls (a0_0 : ByteArray) (a0_1 : Int) (a0_2 : Int) (a0_3 : Int) (a0_4 : Int) (a0_5 : Int) (a0_6 : ByteArray) (a1_0 : Int) (a1_1 : Int) (a1_2 : ByteArray) (a1_3 : Int) (a1_4 : Bool) (a1_5 : Bool) (a1_6 : Bool) (r : Bool) (w : World) (h : spec_l09Matches.f a0_0 a0_1 a0_2 a0_3 a0_4 a0_5 a0_6 a1_0 a1_1 a1_2 a1_3 a1_4 a1_5 a1_6 = some r) :
 Calls Try.prog 117 #[.agg #[.string a0_0, .int .i64 a0_1, .int .i64 a0_2, .int .i64 a0_3, .int .i64 a0_4, .int .i64 a0_5, .string a0_6], .agg #[.int .i64 a1_0, .int .i64 a1_1, .string a1_2, .int .i64 a1_3, .bool a1_4, .bool a1_5, .bool a1_6]] w fun e w' => e = .returned (.bool r) ∧ Below w.heap.size w w' := by
 have hu94 := Try.underlying94
 have hu43 := Try.underlying43
 have HB := Aside0.mk (Below.refl w.heap.size w)
 have H : (if a0_1 = (-1) then ((spec_l09Meets.f a0_2 a1_4).bind fun t179 => (if t179 = true then ((spec_l09Meets.f a0_3 a1_5).bind fun t180 => (if t180 = true then ((spec_l09Meets.f a0_4 a1_6).bind fun t181 => (some t181)) else (some false))) else (some false))) else (if a0_1 = a1_1 then ((spec_l09Meets.f a0_2 a1_4).bind fun t182 => (if t182 = true then ((spec_l09Meets.f a0_3 a1_5).bind fun t183 => (if t183 = true then ((spec_l09Meets.f a0_4 a1_6).bind fun t184 => (some t184)) else (some false))) else (some false))) else (some false))) = some r := h
 clear h
 by_cases c3 : a0_1 = (-1)
 rw [if_pos c3] at H
 have c3b0 : (a0_1 == (-1)) = true := beq_iff_eq.mpr c3
 have c3b1 : (a0_1 != (-1)) = false := bne_eq_false_iff_eq.mpr c3
 clear c3
 replace H := Option.bind_eq_some_iff.mp H
 obtain ⟨t179, A40, H⟩ := H
 replace H : (if t179 = true then ((spec_l09Meets.f a0_3 a1_5).bind fun t180 => (if t180 = true then ((spec_l09Meets.f a0_4 a1_6).bind fun t181 => (some t181)) else (some false))) else (some false)) = some r := H
 have A4 := Aside0.mk A40
 clear A40
 by_cases c5 : t179 = true
 subst c5
 have H1 : ((spec_l09Meets.f a0_3 a1_5).bind fun t180 => (if t180 = true then ((spec_l09Meets.f a0_4 a1_6).bind fun t181 => (some t181)) else (some false))) = some r := by rw [if_pos rfl] at H; exact H
 clear H
 have H := H1
 clear H1
 replace H := Option.bind_eq_some_iff.mp H
 obtain ⟨t180, A60, H⟩ := H
 replace H : (if t180 = true then ((spec_l09Meets.f a0_4 a1_6).bind fun t181 => (some t181)) else (some false)) = some r := H
 have A6 := Aside0.mk A60
 clear A60
 by_cases c7 : t180 = true
 subst c7
 have H1 : ((spec_l09Meets.f a0_4 a1_6).bind fun t181 => (some t181)) = some r := by rw [if_pos rfl] at H; exact H
 clear H
 have H := H1
 clear H1
 replace H := Option.bind_eq_some_iff.mp H
 obtain ⟨t181, A80, H⟩ := H
 replace H : (some t181) = some r := H
 have A8 := Aside0.mk A80
 clear A80
 obtain rfl := Option.some.inj H
 rotate_left
 replace c7 := Bool.eq_false_iff.mpr c7
 subst c7
 have H1 : (some false) = some r := by rw [if_neg (show ¬ (false = true) by decide)] at H; exact H
 clear H
 have H := H1
 clear H1
 obtain rfl := Option.some.inj H
 rotate_left
 replace c5 := Bool.eq_false_iff.mpr c5
 subst c5
 have H1 : (some false) = some r := by rw [if_neg (show ¬ (false = true) by decide)] at H; exact H
 clear H
 have H := H1
 clear H1
 obtain rfl := Option.some.inj H
 rotate_left
 rw [if_neg c3] at H
 have c3b0 : (a0_1 == (-1)) = false := beq_eq_false_iff_ne.mpr c3
 have c3b1 : (a0_1 != (-1)) = true := bne_iff_ne.mpr c3
 by_cases c24 : a0_1 = a1_1
 rw [if_pos c24] at H
 have c24b0 : (a0_1 == a1_1) = true := beq_iff_eq.mpr c24
 have c24b1 : (a0_1 != a1_1) = false := bne_eq_false_iff_eq.mpr c24
 clear c24
 replace H := Option.bind_eq_some_iff.mp H
 obtain ⟨t182, A250, H⟩ := H
 replace H : (if t182 = true then ((spec_l09Meets.f a0_3 a1_5).bind fun t183 => (if t183 = true then ((spec_l09Meets.f a0_4 a1_6).bind fun t184 => (some t184)) else (some false))) else (some false)) = some r := H
 have A25 := Aside0.mk A250
 clear A250
 by_cases c26 : t182 = true
 subst c26
 have H1 : ((spec_l09Meets.f a0_3 a1_5).bind fun t183 => (if t183 = true then ((spec_l09Meets.f a0_4 a1_6).bind fun t184 => (some t184)) else (some false))) = some r := by rw [if_pos rfl] at H; exact H
 clear H
 have H := H1
 clear H1
 replace H := Option.bind_eq_some_iff.mp H
 obtain ⟨t183, A270, H⟩ := H
 replace H : (if t183 = true then ((spec_l09Meets.f a0_4 a1_6).bind fun t184 => (some t184)) else (some false)) = some r := H
 have A27 := Aside0.mk A270
 clear A270
 by_cases c28 : t183 = true
 subst c28
 have H1 : ((spec_l09Meets.f a0_4 a1_6).bind fun t184 => (some t184)) = some r := by rw [if_pos rfl] at H; exact H
 clear H
 have H := H1
 clear H1
 replace H := Option.bind_eq_some_iff.mp H
 obtain ⟨t184, A290, H⟩ := H
 replace H : (some t184) = some r := H
 have A29 := Aside0.mk A290
 clear A290
 obtain rfl := Option.some.inj H
 rotate_left
 replace c28 := Bool.eq_false_iff.mpr c28
 subst c28
 have H1 : (some false) = some r := by rw [if_neg (show ¬ (false = true) by decide)] at H; exact H
 clear H
 have H := H1
 clear H1
 obtain rfl := Option.some.inj H
 rotate_left
 replace c26 := Bool.eq_false_iff.mpr c26
 subst c26
 have H1 : (some false) = some r := by rw [if_neg (show ¬ (false = true) by decide)] at H; exact H
 clear H
 have H := H1
 clear H1
 obtain rfl := Option.some.inj H
 rotate_left
 rw [if_neg c24] at H
 have c24b0 : (a0_1 == a1_1) = false := beq_eq_false_iff_ne.mpr c24
 have c24b1 : (a0_1 != a1_1) = true := bne_iff_ne.mpr c24
 obtain rfl := Option.some.inj H
 rotate_left
 all_goals
  go_enter Try.func117, Try.ntmps117
  go_wp2_with (first | ((with_reducible refine gate_dst (N := 2) rfl ?_); refine bx_ 2 #[.string a0_0, .int .i64 a0_1, .int .i64 a0_2, .int .i64 a0_3, .int .i64 a0_4, .int .i64 a0_5, .string a0_6] 94 ?_; intro gb177 hg w9 hbox hb; have n0_ := Aside0.mk (bs_ hb); have n1_ := Aside0.mk (hbox); have n2_ := Aside0.mk ((by rw [hg]; exact (bz_) : w.heap.size ≤ gb177)); have n3_ := Aside0.mk ((by rw [hg]; exact (bz_) : w.heap.size ≤ gb177)); clear HB; revert n0_ n1_ n2_ n3_; intro HB BK177 GW177 GE177; clear hb hbox hg) | ((with_reducible refine gate_dst (N := 3) rfl ?_); refine bx_ 3 #[.int .i64 a1_0, .int .i64 a1_1, .string a1_2, .int .i64 a1_3, .bool a1_4, .bool a1_5, .bool a1_6] 43 ?_; intro gb178 hg w10 hbox hb; have n0_ := Aside0.mk (bkb BK177 hb); have n1_ := Aside0.mk (bs_ hb); have n2_ := Aside0.mk (hbox); have n3_ := Aside0.mk ((by rw [hg]; exact (bz_) : w.heap.size ≤ gb178)); have n4_ := Aside0.mk ((by rw [hg]; exact (bz_) : w.heap.size ≤ gb178)); have n5_ := Aside0.mk ((by rw [hg]; exact Nat.ne_of_lt (blk_lt (g := gb177) (o := .cells #[.string a0_0, .int .i64 a0_1, .int .i64 a0_2, .int .i64 a0_3, .int .i64 a0_4, .int .i64 a0_5, .string a0_6] 94 (0, 0)) (by (with_reducible repeat (first | refine blk_drewN ?_ _ | refine blk_drew ?_ | refine blk_alloc ?_ _)); exact BK177.out)) : gb177 ≠ gb178)); have n6_ := Aside0.mk ((by rw [hg]; exact Nat.ne_of_gt (blk_lt (g := gb177) (o := .cells #[.string a0_0, .int .i64 a0_1, .int .i64 a0_2, .int .i64 a0_3, .int .i64 a0_4, .int .i64 a0_5, .string a0_6] 94 (0, 0)) (by (with_reducible repeat (first | refine blk_drewN ?_ _ | refine blk_drew ?_ | refine blk_alloc ?_ _)); exact BK177.out)) : gb178 ≠ gb177)); clear BK177 HB; revert n0_ n1_ n2_ n3_ n4_ n5_ n6_; intro BK177 HB BK178 GW178 GE178 NB177_178 NB178_177; clear hb hbox hg; have hnb11 := NB177_178.out; have hnc11 := NB178_177.out; have hcz12_0 := bk BK177 0; have hcz12_1 := bk BK177 1; have hcz12_2 := bk BK177 2; have hcz12_3 := bk BK177 3; have hcz12_4 := bk BK177 4; have hcz12_5 := bk BK177 5; have hcz12_6 := bk BK177 6; have hfz12_0 := blk_frozen BK177.out 0; have hfz12_1 := blk_frozen BK177.out 1; have hfz12_2 := blk_frozen BK177.out 2; have hfz12_3 := blk_frozen BK177.out 3; have hfz12_4 := blk_frozen BK177.out 4; have hfz12_5 := blk_frozen BK177.out 5; have hfz12_6 := blk_frozen BK177.out 6; have hcz13_0 := bk BK178 0; have hcz13_1 := bk BK178 1; have hcz13_2 := bk BK178 2; have hcz13_3 := bk BK178 3; have hcz13_4 := bk BK178 4; have hcz13_5 := bk BK178 5; have hcz13_6 := bk BK178 6; have hfz13_0 := blk_frozen BK178.out 0; have hfz13_1 := blk_frozen BK178.out 1; have hfz13_2 := blk_frozen BK178.out 2; have hfz13_3 := blk_frozen BK178.out 3; have hfz13_4 := blk_frozen BK178.out 4; have hfz13_5 := blk_frozen BK178.out 5; have hfz13_6 := blk_frozen BK178.out 6) | (go_at_call 131; (with_reducible refine (spec_l09Meets.calls a0_2 a1_4 _ _ A4.out).mono ?_); rintro e w' ⟨rfl, ⟨nd, rfl⟩⟩) | (go_at_call 131; (with_reducible refine (spec_l09Meets.calls a0_3 a1_5 _ _ A6.out).mono ?_); rintro e w' ⟨rfl, ⟨nd, rfl⟩⟩) | (go_at_call 131; (with_reducible refine (spec_l09Meets.calls a0_4 a1_6 t181 _ A8.out).mono ?_); rintro e w' ⟨rfl, ⟨nd, rfl⟩⟩) | (go_at_call 131; (with_reducible refine (spec_l09Meets.calls a0_2 a1_4 _ _ A25.out).mono ?_); rintro e w' ⟨rfl, ⟨nd, rfl⟩⟩) | (go_at_call 131; (with_reducible refine (spec_l09Meets.calls a0_3 a1_5 _ _ A27.out).mono ?_); rintro e w' ⟨rfl, ⟨nd, rfl⟩⟩) | (go_at_call 131; (with_reducible refine (spec_l09Meets.calls a0_4 a1_6 t184 _ A29.out).mono ?_); rintro e w' ⟨rfl, ⟨nd, rfl⟩⟩))
  go_ret
  exact ⟨by first | rfl | (simp [errW_none, errW_some] <;> rfl) | (simp [*, errW_none, errW_some] <;> rfl), bb_⟩

end Go.Proofs.Ytmfbkbbgokjhnaa.F
