-- Written by this session's program (wip/bin/hp.py) over the kit's print: a function's Lean form, and a proof that the call does what it says.
import Derived.Test.YtmfbkbbgokjhnaaGreatFx0
import Derived.Test.YtmfbkbbgokjhnaaGreatSq
import Derived.Test.YtmfbkbbgokjhnaaGreatFx4
namespace Go.Proofs.YtmfbkbbgokjhnaaGreat.F
open Go.RowKit Go.Proofs.YtmfbkbbgokjhnaaGreatW.PrintWords Go.Proofs.YtmfbkbbgokjhnaaGreatW.PrintLast Go.Proofs.YtmfbkbbgokjhnaaGreatW.PrintMore
attribute [local go_sem] max2_int min2_int max_two min_two max_three min_three max_four min_four   -- for this text's walks alone
set_option linter.unusedVariables false
set_option linter.unusedSimpArgs false

/-! ### spec_IsLog: function 35 -/
def spec_IsLog.l0 : Nat → List (S65) → Int → Option (Bool)
 | 0, _, _ => none
 | k + 1, x0, x3 => if x3 < (x0.length : Int) then (if 0 ≤ x3 then ((spec_IsEvent.f k ((rd_T65 x0 x3).f0) ((rd_T65 x0 x3).f1) ((rd_T65 x0 x3).f2) ((rd_T65 x0 x3).f3) ((rd_T65 x0 x3).f4) ((rd_T65 x0 x3).f5) ((rd_T65 x0 x3).f6)).bind fun t131 => (if t131 = true then (if x3 > 0 then (if 0 ≤ (wrap64 (x3 - 1)) then (if (wrap64 (x3 - 1)) < (x0.length : Int) then (if ((rd_T65 x0 x3).f0) < ((rd_T65 x0 (wrap64 (x3 - 1))).f0) then (some false) else (spec_IsLog.l0 k x0 (wrap64 (x3 + 1)))) else (none)) else (none)) else (spec_IsLog.l0 k x0 (wrap64 (x3 + 1)))) else (some false))) else (none)) else (some (decide ((x0.length : Int) ≤ 15)))
def spec_IsLog.f (k : Nat) (l0 : List (S65)) : Option (Bool) := spec_IsLog.l0 k l0 0
theorem spec_IsLog.mono_l : ∀ k, (∀ y0 y1, LeO (spec_IsLog.l0 k y0 y1) (spec_IsLog.l0 (k + 1) y0 y1))
 | 0 => fun _ _ r h => by simp [spec_IsLog.l0] at h
 | k + 1 => by
  have ih0 := spec_IsLog.mono_l k
  · intro y0 y1
    unfold spec_IsLog.l0
    repeat' first
    | (with_reducible exact ih0 _ _)
    | (with_reducible exact spec_IsEvent.mono _ _ _ _ _ _ _ _)
    | (with_reducible exact LeO.refl _)
    | (with_reducible exact LeO.none _)
    | (with_reducible refine LeO.ite ?_ ?_)
    | (with_reducible refine LeO.bind ?_ (fun _ => ?_))
    | exact ih0 _ _
    | exact spec_IsEvent.mono _ _ _ _ _ _ _ _
    | exact LeO.none _
    | refine LeO.ite ?_ ?_
    | refine LeO.bind ?_ (fun _ => ?_)
theorem spec_IsLog.mono : ∀ a0 k, LeO (spec_IsLog.f k a0) (spec_IsLog.f (k + 1) a0) := by
 intro a0 k
 have ih0 := spec_IsLog.mono_l k
 unfold spec_IsLog.f
 repeat' first
  | (with_reducible exact ih0 _ _)
  | (with_reducible exact spec_IsEvent.mono _ _ _ _ _ _ _ _)
  | (with_reducible exact LeO.refl _)
  | (with_reducible exact LeO.none _)
  | (with_reducible refine LeO.ite ?_ ?_)
  | (with_reducible refine LeO.bind ?_ (fun _ => ?_))
  | exact ih0 _ _
  | exact spec_IsEvent.mono _ _ _ _ _ _ _ _
  | exact LeO.none _
  | refine LeO.ite ?_ ?_
  | refine LeO.bind ?_ (fun _ => ?_)
def spec_IsLog.T4 : Bool × List (List Nat × List Nat) := (true, [([], []), ([], []), ([0, 1], [0, 1]), ([2], [2]), ([3], [3]), ([4], [4]), ([5, 4], [5]), ([6], [6]), ([7, 6], [6, 7]), ([8, 6, 6], [6, 8]), ([9], [9]), ([9], [9]), ([10, 11, 9], [9, 10, 11]), ([12, 9], [9, 12]), ([13, 9], [9, 13]), ([9], [9]), ([9], [9]), ([16, 9], [9, 16]), ([15, 17, 9], [9, 15, 17]), ([18, 9], [9, 18]), ([19, 9], [9, 19]), ([14, 20, 9], [9, 14, 20]), ([9, 21, 6], [6, 9, 21]), ([6, 22], [6, 22])])
def spec_IsLog.B4 : List Nat := [0, 0, 3, 7, 15, 31, 63, 127, 255, 511, 1023, 1023, 4095, 8191, 16383, 1023, 1023, 66559, 230399, 492543, 1016831, 2097151, 4194303, 8388607]
theorem spec_IsLog.tab4 : rtab .any (opsOf Tryz.f35 4) = spec_IsLog.T4 := by kernel_rfl
theorem spec_IsLog.bits4 : waitsOk spec_IsLog.T4.2 spec_IsLog.B4 = true := by kernel_rfl
set_option maxHeartbeats 8000000 in
set_option maxRecDepth 100000 in
theorem spec_IsLog.calls (k : Nat) (A0 : Option Addr) (c0 : Nat) (l0 : List (S65)) (r : Bool) (w : World) (hr0 : Kd.C k65 w A0 l0.length l0) (hc0 : l0.length ≤ c0) (h : spec_IsLog.f k l0 = some r) :
 Calls Tryz.prog 35 #[.slice A0 l0.length c0] w fun e w' => e = .returned (.bool r) ∧ Below w.heap.size w w' := by
 have hu65 := Tryz.underlying65
 have HR0 := Aside0.mk hr0
 have HC0 := Aside0.mk hc0
 clear hr0 hc0
 have HB := Aside0.mk (Below.refl w.heap.size w)
 have H : (spec_IsLog.l0 k l0 0) = some r := h
 clear h
 have H' := Aside0.mk H
 clear H
 go_enter Tryz.func35, Tryz.ntmps35
 go_wp2
 go_loopg [3] k (fun kq v3 w' => ∃ (x3_1 : Int), v3 = .int .i64 x3_1 ∧ Aside0 (spec_IsLog.l0 kq l0 x3_1 = some r) ∧ Aside0 (kq ≤ k) ∧ Aside0 (Below w.heap.size w w'))
 case atStart => exact ⟨(0), (by first | rfl | (simp; done) | (simp [*]; done)), H', ⟨Nat.le_refl _⟩, ⟨bb_⟩⟩
 case round =>
  clear H'
  obtain ⟨x3_1, rfl, HA, HK1, HB⟩ := hrel
  cases gk with
  | zero => exact absurd HA.out (by simp [spec_IsLog.l0])
  | succ k1 =>
   have H := HA.out
   clear HA
   simp only [spec_IsLog.l0] at H
   by_cases c2 : x3_1 < (l0.length : Int)
   · rw [if_pos c2] at H
     have c2b0 : decide (x3_1 < (l0.length : Int)) = true := decide_eq_true c2
     clear c2
     by_cases c3 : 0 ≤ x3_1
     · rw [if_pos c3] at H
       have c3b0 : decide (0 ≤ x3_1) = true := decide_eq_true c3
       clear c3
       replace H := Option.bind_eq_some_iff.mp H
       obtain ⟨t131, A40, H⟩ := H
       replace H : (if t131 = true then (if x3_1 > 0 then (if 0 ≤ (wrap64 (x3_1 - 1)) then (if (wrap64 (x3_1 - 1)) < (l0.length : Int) then (if ((rd_T65 l0 x3_1).f0) < ((rd_T65 l0 (wrap64 (x3_1 - 1))).f0) then (some false) else (spec_IsLog.l0 k1 l0 (wrap64 (x3_1 + 1)))) else (none)) else (none)) else (spec_IsLog.l0 k1 l0 (wrap64 (x3_1 + 1)))) else (some false)) = some r := H
       have A4 := Aside0.mk A40
       clear A40
       by_cases c5 : t131 = true
       · subst c5
         have H1 : (if x3_1 > 0 then (if 0 ≤ (wrap64 (x3_1 - 1)) then (if (wrap64 (x3_1 - 1)) < (l0.length : Int) then (if ((rd_T65 l0 x3_1).f0) < ((rd_T65 l0 (wrap64 (x3_1 - 1))).f0) then (some false) else (spec_IsLog.l0 k1 l0 (wrap64 (x3_1 + 1)))) else (none)) else (none)) else (spec_IsLog.l0 k1 l0 (wrap64 (x3_1 + 1)))) = some r := by rw [if_pos rfl] at H; exact H
         clear H
         have H := H1
         clear H1
         by_cases c6 : x3_1 > 0
         · rw [if_pos c6] at H
           have c6b0 : decide (0 < x3_1) = true := decide_eq_true c6
           clear c6
           obtain ⟨ji7, hji7⟩ : ∃ j_ : Int, (wrap64 (x3_1 - 1)) = j_ := ⟨_, rfl⟩
           replace H : (if 0 ≤ (ji7) then (if (ji7) < (l0.length : Int) then (if ((rd_T65 l0 x3_1).f0) < ((rd_T65 l0 (ji7)).f0) then (some false) else (spec_IsLog.l0 k1 l0 (wrap64 (x3_1 + 1)))) else (none)) else (none)) = some r := by first | (rw [hji7] at H; exact H) | (simp only [hji7] at H ⊢; exact H)
           (try rw [hji7] at A4)
           have hji7w : (IntKind.i64.wrap (x3_1 - 1)) = ji7 := (i64_w _).trans hji7
           by_cases c8 : 0 ≤ (ji7)
           · rw [if_pos c8] at H
             have c8b0 : decide (0 ≤ (ji7)) = true := decide_eq_true c8
             clear c8
             by_cases c9 : (ji7) < (l0.length : Int)
             · rw [if_pos c9] at H
               have c9b0 : decide ((ji7) < (l0.length : Int)) = true := decide_eq_true c9
               clear c9
               by_cases c10 : ((rd_T65 l0 x3_1).f0) < ((rd_T65 l0 (ji7)).f0)
               · rw [if_pos c10] at H
                 have c10b0 : decide (((rd_T65 l0 x3_1).f0) < ((rd_T65 l0 (ji7)).f0)) = true := decide_eq_true c10
                 clear c10
                 obtain rfl := Option.some.inj H
                 try go_wp2
                 have n0_ := Aside0.mk (below_drew1 HB.out)
                 clear HB
                 have HB := n0_
                 clear n0_
                 have p130 : 0 ≤ (x3_1 : Int) := of_decide_eq_true (by first | (with_reducible assumption) | assumption)
                 have q130 : x3_1 < (l0.length : Int) := of_decide_eq_true (by first | (with_reducible assumption) | assumption)
                 obtain ⟨ad130, e130, hx130_0, hx130_1, hx130_2, hx130_3, hx130_4, hx130_5, hx130_6⟩ := at_T65 HR0.out x3_1 p130 q130
                 have hw130_6 := hx130_6
                 have hw130_5 := hx130_5
                 have hw130_4 := hx130_4
                 have hw130_3 := hx130_3
                 have hw130_2 := hx130_2
                 have hw130_1 := hx130_1
                 have hw130_0 := hx130_0
                 cases e130
                 replace hx130_0 := cel HB hx130_0
                 replace hx130_1 := cel HB hx130_1
                 replace hx130_2 := cel HB hx130_2
                 replace hx130_3 := cel HB hx130_3
                 replace hx130_4 := cel HB hx130_4
                 replace hx130_5 := cel HB hx130_5
                 replace hx130_6 := cel HB hx130_6
                 replace p130 := eq_true p130
                 replace q130 := eq_true q130
                 have p132 : 0 ≤ (x3_1 : Int) := of_decide_eq_true (by first | (with_reducible assumption) | assumption)
                 have q132 : x3_1 < (l0.length : Int) := of_decide_eq_true (by first | (with_reducible assumption) | assumption)
                 obtain ⟨ad132, e132, hx132_0, hx132_1, hx132_2, hx132_3, hx132_4, hx132_5, hx132_6⟩ := at_T65 HR0.out x3_1 p132 q132
                 have hw132_6 := hx132_6
                 have hw132_5 := hx132_5
                 have hw132_4 := hx132_4
                 have hw132_3 := hx132_3
                 have hw132_2 := hx132_2
                 have hw132_1 := hx132_1
                 have hw132_0 := hx132_0
                 obtain rfl : ad130 = ad132 := (by injection e132)
                 replace hx132_0 := cel HB hx132_0
                 replace hx132_1 := cel HB hx132_1
                 replace hx132_2 := cel HB hx132_2
                 replace hx132_3 := cel HB hx132_3
                 replace hx132_4 := cel HB hx132_4
                 replace hx132_5 := cel HB hx132_5
                 replace hx132_6 := cel HB hx132_6
                 replace p132 := eq_true p132
                 replace q132 := eq_true q132
                 have p133 : 0 ≤ ((ji7) : Int) := of_decide_eq_true (by first | (with_reducible assumption) | assumption)
                 have q133 : (ji7) < (l0.length : Int) := of_decide_eq_true (by first | (with_reducible assumption) | assumption)
                 obtain ⟨ad133, e133, hx133_0, hx133_1, hx133_2, hx133_3, hx133_4, hx133_5, hx133_6⟩ := at_T65 HR0.out (ji7) p133 q133
                 have hw133_6 := hx133_6
                 have hw133_5 := hx133_5
                 have hw133_4 := hx133_4
                 have hw133_3 := hx133_3
                 have hw133_2 := hx133_2
                 have hw133_1 := hx133_1
                 have hw133_0 := hx133_0
                 obtain rfl : ad130 = ad133 := (by injection e133)
                 replace hx133_0 := cel HB hx133_0
                 replace hx133_1 := cel HB hx133_1
                 replace hx133_2 := cel HB hx133_2
                 replace hx133_3 := cel HB hx133_3
                 replace hx133_4 := cel HB hx133_4
                 replace hx133_5 := cel HB hx133_5
                 replace hx133_6 := cel HB hx133_6
                 replace p133 := eq_true p133
                 replace q133 := eq_true q133
                 refine start_ (n := 24) (S := fun w' => w'.cell? (ad130.add ((x3_1).toNat * 7)) = some (.int .i64 ((rd_T65 l0 x3_1).f0)) ∧ w'.cell? ⟨(ad130.add ((x3_1).toNat * 7)).block, (ad130.add ((x3_1).toNat * 7)).off + 1, none⟩ = some (.int .i64 ((rd_T65 l0 x3_1).f1)) ∧ w'.cell? ⟨(ad130.add ((x3_1).toNat * 7)).block, (ad130.add ((x3_1).toNat * 7)).off + 2, none⟩ = some (.string ((rd_T65 l0 x3_1).f2)) ∧ w'.cell? ⟨(ad130.add ((x3_1).toNat * 7)).block, (ad130.add ((x3_1).toNat * 7)).off + 3, none⟩ = some (.int .i64 ((rd_T65 l0 x3_1).f3)) ∧ w'.cell? ⟨(ad130.add ((x3_1).toNat * 7)).block, (ad130.add ((x3_1).toNat * 7)).off + 4, none⟩ = some (.bool ((rd_T65 l0 x3_1).f4)) ∧ w'.cell? ⟨(ad130.add ((x3_1).toNat * 7)).block, (ad130.add ((x3_1).toNat * 7)).off + 5, none⟩ = some (.bool ((rd_T65 l0 x3_1).f5)) ∧ w'.cell? ⟨(ad130.add ((x3_1).toNat * 7)).block, (ad130.add ((x3_1).toNat * 7)).off + 6, none⟩ = some (.bool ((rd_T65 l0 x3_1).f6)) ∧ w'.cell? (ad130.add ((x3_1).toNat * 7)) = some (.int .i64 ((rd_T65 l0 x3_1).f0)) ∧ w'.cell? ⟨(ad130.add ((x3_1).toNat * 7)).block, (ad130.add ((x3_1).toNat * 7)).off + 1, none⟩ = some (.int .i64 ((rd_T65 l0 x3_1).f1)) ∧ w'.cell? ⟨(ad130.add ((x3_1).toNat * 7)).block, (ad130.add ((x3_1).toNat * 7)).off + 2, none⟩ = some (.string ((rd_T65 l0 x3_1).f2)) ∧ w'.cell? ⟨(ad130.add ((x3_1).toNat * 7)).block, (ad130.add ((x3_1).toNat * 7)).off + 3, none⟩ = some (.int .i64 ((rd_T65 l0 x3_1).f3)) ∧ w'.cell? ⟨(ad130.add ((x3_1).toNat * 7)).block, (ad130.add ((x3_1).toNat * 7)).off + 4, none⟩ = some (.bool ((rd_T65 l0 x3_1).f4)) ∧ w'.cell? ⟨(ad130.add ((x3_1).toNat * 7)).block, (ad130.add ((x3_1).toNat * 7)).off + 5, none⟩ = some (.bool ((rd_T65 l0 x3_1).f5)) ∧ w'.cell? ⟨(ad130.add ((x3_1).toNat * 7)).block, (ad130.add ((x3_1).toNat * 7)).off + 6, none⟩ = some (.bool ((rd_T65 l0 x3_1).f6)) ∧ w'.cell? (ad130.add (((ji7)).toNat * 7)) = some (.int .i64 ((rd_T65 l0 (ji7)).f0)) ∧ w'.cell? ⟨(ad130.add (((ji7)).toNat * 7)).block, (ad130.add (((ji7)).toNat * 7)).off + 1, none⟩ = some (.int .i64 ((rd_T65 l0 (ji7)).f1)) ∧ w'.cell? ⟨(ad130.add (((ji7)).toNat * 7)).block, (ad130.add (((ji7)).toNat * 7)).off + 2, none⟩ = some (.string ((rd_T65 l0 (ji7)).f2)) ∧ w'.cell? ⟨(ad130.add (((ji7)).toNat * 7)).block, (ad130.add (((ji7)).toNat * 7)).off + 3, none⟩ = some (.int .i64 ((rd_T65 l0 (ji7)).f3)) ∧ w'.cell? ⟨(ad130.add (((ji7)).toNat * 7)).block, (ad130.add (((ji7)).toNat * 7)).off + 4, none⟩ = some (.bool ((rd_T65 l0 (ji7)).f4)) ∧ w'.cell? ⟨(ad130.add (((ji7)).toNat * 7)).block, (ad130.add (((ji7)).toNat * 7)).off + 5, none⟩ = some (.bool ((rd_T65 l0 (ji7)).f5)) ∧ w'.cell? ⟨(ad130.add (((ji7)).toNat * 7)).block, (ad130.add (((ji7)).toNat * 7)).off + 6, none⟩ = some (.bool ((rd_T65 l0 (ji7)).f6))) (ds := []) (fb 24 0) (by kernel_rfl) rfl rfl ⟨((HB.out.cell (World.block_lt_of_cell? w _ hw130_0)).trans hw130_0), ((HB.out.cell (World.block_lt_of_cell? w _ hw130_1)).trans hw130_1), ((HB.out.cell (World.block_lt_of_cell? w _ hw130_2)).trans hw130_2), ((HB.out.cell (World.block_lt_of_cell? w _ hw130_3)).trans hw130_3), ((HB.out.cell (World.block_lt_of_cell? w _ hw130_4)).trans hw130_4), ((HB.out.cell (World.block_lt_of_cell? w _ hw130_5)).trans hw130_5), ((HB.out.cell (World.block_lt_of_cell? w _ hw130_6)).trans hw130_6), ((HB.out.cell (World.block_lt_of_cell? w _ hw132_0)).trans hw132_0), ((HB.out.cell (World.block_lt_of_cell? w _ hw132_1)).trans hw132_1), ((HB.out.cell (World.block_lt_of_cell? w _ hw132_2)).trans hw132_2), ((HB.out.cell (World.block_lt_of_cell? w _ hw132_3)).trans hw132_3), ((HB.out.cell (World.block_lt_of_cell? w _ hw132_4)).trans hw132_4), ((HB.out.cell (World.block_lt_of_cell? w _ hw132_5)).trans hw132_5), ((HB.out.cell (World.block_lt_of_cell? w _ hw132_6)).trans hw132_6), ((HB.out.cell (World.block_lt_of_cell? w _ hw133_0)).trans hw133_0), ((HB.out.cell (World.block_lt_of_cell? w _ hw133_1)).trans hw133_1), ((HB.out.cell (World.block_lt_of_cell? w _ hw133_2)).trans hw133_2), ((HB.out.cell (World.block_lt_of_cell? w _ hw133_3)).trans hw133_3), ((HB.out.cell (World.block_lt_of_cell? w _ hw133_4)).trans hw133_4), ((HB.out.cell (World.block_lt_of_cell? w _ hw133_5)).trans hw133_5), ((HB.out.cell (World.block_lt_of_cell? w _ hw133_6)).trans hw133_6)⟩ (fun hHeld => ?_); refine with_tabW spec_IsLog.tab4 spec_IsLog.bits4 (fun HT_ HW_ => ?_)
                 generalize wr.drew = w11 at HB hx130_0 hx130_1 hx130_2 hx130_3 hx130_4 hx130_5 hx130_6 hx132_0 hx132_1 hx132_2 hx132_3 hx132_4 hx132_5 hx132_6 hx133_0 hx133_1 hx133_2 hx133_3 hx133_4 hx133_5 hx133_6 hHeld ⊢
                 refine sqP_ 0 10 (fb 24 1) (any_of HT_.out (by kernel_rfl)) ?_
                 refine sqP_ 1 11 (fb 24 3) (any_of HT_.out (by kernel_rfl)) ?_
                 refine sqP_ 2 12 (fb 24 7) (any_of HT_.out (by kernel_rfl)) ?_
                 refine sqT_ 3 13 (fb 24 15) (take_ofW HT_.out HW_.out (by kernel_rfl)) hHeld ?_
                 refine one_ (i := 4) (N := some 14) (fb 24 31) rfl rfl (one_of HT_.out (by kernel_rfl)) (by decide) (fun K hK => ?_)
                 refine goes_ Tryz.func85 (by kernel_rfl) rfl #[.agg #[.int .i64 ((rd_T65 l0 x3_1).f0), .int .i64 ((rd_T65 l0 x3_1).f1), .string ((rd_T65 l0 x3_1).f2), .int .i64 ((rd_T65 l0 x3_1).f3), .bool ((rd_T65 l0 x3_1).f4), .bool ((rd_T65 l0 x3_1).f5), .bool ((rd_T65 l0 x3_1).f6)]] (by rfl) rfl rfl (by (try simp only [List.map_toArray, List.map_cons, List.map_nil]); first | done | rfl | (simp only [List.length_drop, List.length_take]; rfl)) ?_
                 with_reducible refine (spec_IsEvent.calls k1 ((rd_T65 l0 x3_1).f0) ((rd_T65 l0 x3_1).f1) ((rd_T65 l0 x3_1).f2) ((rd_T65 l0 x3_1).f3) ((rd_T65 l0 x3_1).f4) ((rd_T65 l0 x3_1).f5) ((rd_T65 l0 x3_1).f6) true _ A4.out).mono ?_
                 rintro e w12 ⟨rfl, hb⟩
                 refine ⟨_, rfl, ?_⟩
                 have n0_ := Aside0.mk (bs_ hb)
                 clear HB
                 have HB := n0_
                 clear n0_
                 (try clear hb)
                 (try clear hb2)
                 (try clear hk)
                 (try clear hi)
                 refine hK.out _ _ ⟨((HB.out.cell (World.block_lt_of_cell? w _ hw130_0)).trans hw130_0), ((HB.out.cell (World.block_lt_of_cell? w _ hw130_1)).trans hw130_1), ((HB.out.cell (World.block_lt_of_cell? w _ hw130_2)).trans hw130_2), ((HB.out.cell (World.block_lt_of_cell? w _ hw130_3)).trans hw130_3), ((HB.out.cell (World.block_lt_of_cell? w _ hw130_4)).trans hw130_4), ((HB.out.cell (World.block_lt_of_cell? w _ hw130_5)).trans hw130_5), ((HB.out.cell (World.block_lt_of_cell? w _ hw130_6)).trans hw130_6), ((HB.out.cell (World.block_lt_of_cell? w _ hw132_0)).trans hw132_0), ((HB.out.cell (World.block_lt_of_cell? w _ hw132_1)).trans hw132_1), ((HB.out.cell (World.block_lt_of_cell? w _ hw132_2)).trans hw132_2), ((HB.out.cell (World.block_lt_of_cell? w _ hw132_3)).trans hw132_3), ((HB.out.cell (World.block_lt_of_cell? w _ hw132_4)).trans hw132_4), ((HB.out.cell (World.block_lt_of_cell? w _ hw132_5)).trans hw132_5), ((HB.out.cell (World.block_lt_of_cell? w _ hw132_6)).trans hw132_6), ((HB.out.cell (World.block_lt_of_cell? w _ hw133_0)).trans hw133_0), ((HB.out.cell (World.block_lt_of_cell? w _ hw133_1)).trans hw133_1), ((HB.out.cell (World.block_lt_of_cell? w _ hw133_2)).trans hw133_2), ((HB.out.cell (World.block_lt_of_cell? w _ hw133_3)).trans hw133_3), ((HB.out.cell (World.block_lt_of_cell? w _ hw133_4)).trans hw133_4), ((HB.out.cell (World.block_lt_of_cell? w _ hw133_5)).trans hw133_5), ((HB.out.cell (World.block_lt_of_cell? w _ hw133_6)).trans hw133_6)⟩ (fun hHeld => ?_)
                 clear hK K
                 refine sqN_ 14 ?_
                 refine sqP_ 5 15 (fb 24 63) (any_of HT_.out (by kernel_rfl)) ?_
                 refine sqP_ 6 16 (fb 24 127) (any_of HT_.out (by kernel_rfl)) ?_
                 refine sqP_ 7 17 (fb 24 255) (any_of HT_.out (by kernel_rfl)) ?_
                 refine sqP_ 8 18 (fb 24 511) (any_of HT_.out (by kernel_rfl)) ?_
                 refine sqP_ 9 19 (fb 24 1023) (any_of HT_.out (by kernel_rfl)) ?_
                 refine sqP_ 10 20 (fb 24 2047) (any_of HT_.out (by kernel_rfl)) ?_
                 refine sqP_ 11 21 (fb 24 4095) (any_of HT_.out (by kernel_rfl)) ?_
                 refine sqP_ 12 22 (fb 24 8191) (any_of HT_.out (by kernel_rfl)) ?_
                 refine sqP_ 13 23 (fb 24 16383) (any_of HT_.out (by kernel_rfl)) ?_
                 refine sqP_ 15 25 (fb 24 49151) (any_of HT_.out (by kernel_rfl)) ?_
                 refine sqP_ 16 26 (fb 24 114687) (any_of HT_.out (by kernel_rfl)) ?_
                 refine sqP_ 17 27 (fb 24 245759) (any_of HT_.out (by kernel_rfl)) ?_
                 refine sqP_ 18 28 (fb 24 507903) (any_of HT_.out (by kernel_rfl)) ?_
                 refine sqP_ 19 29 (fb 24 1032191) (any_of HT_.out (by kernel_rfl)) ?_
                 refine sqT_ 14 24 (fb 24 1048575) (take_ofW HT_.out HW_.out (by kernel_rfl)) hHeld ?_
                 refine sqT_ 20 30 (fb 24 2097151) (take_ofW HT_.out HW_.out (by kernel_rfl)) hHeld ?_
                 refine sqP_ 21 31 (fb 24 4194303) (any_of HT_.out (by kernel_rfl)) ?_
                 refine sqP_ 22 32 (fb 24 8388607) (any_of HT_.out (by kernel_rfl)) ?_
                 refine sqP_ 23 33 (fb 24 16777215) (any_of HT_.out (by kernel_rfl)) ?_
                 refine done_ (done_of HT_.out (by kernel_rfl)) ?_
                 try go_wp2
                 go_ret
                 exact ⟨by first | rfl | (simp [errW_none, errW_some] <;> rfl) | (simp only [← hji7]; first | rfl | (simp [errW_none, errW_some] <;> rfl)) | (simp [*, errW_none, errW_some] <;> rfl), bb_⟩
               · rw [if_neg c10] at H
                 have c10b0 : decide (((rd_T65 l0 x3_1).f0) < ((rd_T65 l0 (ji7)).f0)) = false := decide_eq_false c10
                 clear c10
                 have H' := Aside0.mk H
                 clear H
                 try go_wp2
                 have n0_ := Aside0.mk (below_drew1 HB.out)
                 clear HB
                 have HB := n0_
                 clear n0_
                 have p130 : 0 ≤ (x3_1 : Int) := of_decide_eq_true (by first | (with_reducible assumption) | assumption)
                 have q130 : x3_1 < (l0.length : Int) := of_decide_eq_true (by first | (with_reducible assumption) | assumption)
                 obtain ⟨ad130, e130, hx130_0, hx130_1, hx130_2, hx130_3, hx130_4, hx130_5, hx130_6⟩ := at_T65 HR0.out x3_1 p130 q130
                 have hw130_6 := hx130_6
                 have hw130_5 := hx130_5
                 have hw130_4 := hx130_4
                 have hw130_3 := hx130_3
                 have hw130_2 := hx130_2
                 have hw130_1 := hx130_1
                 have hw130_0 := hx130_0
                 cases e130
                 replace hx130_0 := cel HB hx130_0
                 replace hx130_1 := cel HB hx130_1
                 replace hx130_2 := cel HB hx130_2
                 replace hx130_3 := cel HB hx130_3
                 replace hx130_4 := cel HB hx130_4
                 replace hx130_5 := cel HB hx130_5
                 replace hx130_6 := cel HB hx130_6
                 replace p130 := eq_true p130
                 replace q130 := eq_true q130
                 have p132 : 0 ≤ (x3_1 : Int) := of_decide_eq_true (by first | (with_reducible assumption) | assumption)
                 have q132 : x3_1 < (l0.length : Int) := of_decide_eq_true (by first | (with_reducible assumption) | assumption)
                 obtain ⟨ad132, e132, hx132_0, hx132_1, hx132_2, hx132_3, hx132_4, hx132_5, hx132_6⟩ := at_T65 HR0.out x3_1 p132 q132
                 have hw132_6 := hx132_6
                 have hw132_5 := hx132_5
                 have hw132_4 := hx132_4
                 have hw132_3 := hx132_3
                 have hw132_2 := hx132_2
                 have hw132_1 := hx132_1
                 have hw132_0 := hx132_0
                 obtain rfl : ad130 = ad132 := (by injection e132)
                 replace hx132_0 := cel HB hx132_0
                 replace hx132_1 := cel HB hx132_1
                 replace hx132_2 := cel HB hx132_2
                 replace hx132_3 := cel HB hx132_3
                 replace hx132_4 := cel HB hx132_4
                 replace hx132_5 := cel HB hx132_5
                 replace hx132_6 := cel HB hx132_6
                 replace p132 := eq_true p132
                 replace q132 := eq_true q132
                 have p133 : 0 ≤ ((ji7) : Int) := of_decide_eq_true (by first | (with_reducible assumption) | assumption)
                 have q133 : (ji7) < (l0.length : Int) := of_decide_eq_true (by first | (with_reducible assumption) | assumption)
                 obtain ⟨ad133, e133, hx133_0, hx133_1, hx133_2, hx133_3, hx133_4, hx133_5, hx133_6⟩ := at_T65 HR0.out (ji7) p133 q133
                 have hw133_6 := hx133_6
                 have hw133_5 := hx133_5
                 have hw133_4 := hx133_4
                 have hw133_3 := hx133_3
                 have hw133_2 := hx133_2
                 have hw133_1 := hx133_1
                 have hw133_0 := hx133_0
                 obtain rfl : ad130 = ad133 := (by injection e133)
                 replace hx133_0 := cel HB hx133_0
                 replace hx133_1 := cel HB hx133_1
                 replace hx133_2 := cel HB hx133_2
                 replace hx133_3 := cel HB hx133_3
                 replace hx133_4 := cel HB hx133_4
                 replace hx133_5 := cel HB hx133_5
                 replace hx133_6 := cel HB hx133_6
                 replace p133 := eq_true p133
                 replace q133 := eq_true q133
                 refine start_ (n := 24) (S := fun w' => w'.cell? (ad130.add ((x3_1).toNat * 7)) = some (.int .i64 ((rd_T65 l0 x3_1).f0)) ∧ w'.cell? ⟨(ad130.add ((x3_1).toNat * 7)).block, (ad130.add ((x3_1).toNat * 7)).off + 1, none⟩ = some (.int .i64 ((rd_T65 l0 x3_1).f1)) ∧ w'.cell? ⟨(ad130.add ((x3_1).toNat * 7)).block, (ad130.add ((x3_1).toNat * 7)).off + 2, none⟩ = some (.string ((rd_T65 l0 x3_1).f2)) ∧ w'.cell? ⟨(ad130.add ((x3_1).toNat * 7)).block, (ad130.add ((x3_1).toNat * 7)).off + 3, none⟩ = some (.int .i64 ((rd_T65 l0 x3_1).f3)) ∧ w'.cell? ⟨(ad130.add ((x3_1).toNat * 7)).block, (ad130.add ((x3_1).toNat * 7)).off + 4, none⟩ = some (.bool ((rd_T65 l0 x3_1).f4)) ∧ w'.cell? ⟨(ad130.add ((x3_1).toNat * 7)).block, (ad130.add ((x3_1).toNat * 7)).off + 5, none⟩ = some (.bool ((rd_T65 l0 x3_1).f5)) ∧ w'.cell? ⟨(ad130.add ((x3_1).toNat * 7)).block, (ad130.add ((x3_1).toNat * 7)).off + 6, none⟩ = some (.bool ((rd_T65 l0 x3_1).f6)) ∧ w'.cell? (ad130.add ((x3_1).toNat * 7)) = some (.int .i64 ((rd_T65 l0 x3_1).f0)) ∧ w'.cell? ⟨(ad130.add ((x3_1).toNat * 7)).block, (ad130.add ((x3_1).toNat * 7)).off + 1, none⟩ = some (.int .i64 ((rd_T65 l0 x3_1).f1)) ∧ w'.cell? ⟨(ad130.add ((x3_1).toNat * 7)).block, (ad130.add ((x3_1).toNat * 7)).off + 2, none⟩ = some (.string ((rd_T65 l0 x3_1).f2)) ∧ w'.cell? ⟨(ad130.add ((x3_1).toNat * 7)).block, (ad130.add ((x3_1).toNat * 7)).off + 3, none⟩ = some (.int .i64 ((rd_T65 l0 x3_1).f3)) ∧ w'.cell? ⟨(ad130.add ((x3_1).toNat * 7)).block, (ad130.add ((x3_1).toNat * 7)).off + 4, none⟩ = some (.bool ((rd_T65 l0 x3_1).f4)) ∧ w'.cell? ⟨(ad130.add ((x3_1).toNat * 7)).block, (ad130.add ((x3_1).toNat * 7)).off + 5, none⟩ = some (.bool ((rd_T65 l0 x3_1).f5)) ∧ w'.cell? ⟨(ad130.add ((x3_1).toNat * 7)).block, (ad130.add ((x3_1).toNat * 7)).off + 6, none⟩ = some (.bool ((rd_T65 l0 x3_1).f6)) ∧ w'.cell? (ad130.add (((ji7)).toNat * 7)) = some (.int .i64 ((rd_T65 l0 (ji7)).f0)) ∧ w'.cell? ⟨(ad130.add (((ji7)).toNat * 7)).block, (ad130.add (((ji7)).toNat * 7)).off + 1, none⟩ = some (.int .i64 ((rd_T65 l0 (ji7)).f1)) ∧ w'.cell? ⟨(ad130.add (((ji7)).toNat * 7)).block, (ad130.add (((ji7)).toNat * 7)).off + 2, none⟩ = some (.string ((rd_T65 l0 (ji7)).f2)) ∧ w'.cell? ⟨(ad130.add (((ji7)).toNat * 7)).block, (ad130.add (((ji7)).toNat * 7)).off + 3, none⟩ = some (.int .i64 ((rd_T65 l0 (ji7)).f3)) ∧ w'.cell? ⟨(ad130.add (((ji7)).toNat * 7)).block, (ad130.add (((ji7)).toNat * 7)).off + 4, none⟩ = some (.bool ((rd_T65 l0 (ji7)).f4)) ∧ w'.cell? ⟨(ad130.add (((ji7)).toNat * 7)).block, (ad130.add (((ji7)).toNat * 7)).off + 5, none⟩ = some (.bool ((rd_T65 l0 (ji7)).f5)) ∧ w'.cell? ⟨(ad130.add (((ji7)).toNat * 7)).block, (ad130.add (((ji7)).toNat * 7)).off + 6, none⟩ = some (.bool ((rd_T65 l0 (ji7)).f6))) (ds := []) (fb 24 0) (by kernel_rfl) rfl rfl ⟨((HB.out.cell (World.block_lt_of_cell? w _ hw130_0)).trans hw130_0), ((HB.out.cell (World.block_lt_of_cell? w _ hw130_1)).trans hw130_1), ((HB.out.cell (World.block_lt_of_cell? w _ hw130_2)).trans hw130_2), ((HB.out.cell (World.block_lt_of_cell? w _ hw130_3)).trans hw130_3), ((HB.out.cell (World.block_lt_of_cell? w _ hw130_4)).trans hw130_4), ((HB.out.cell (World.block_lt_of_cell? w _ hw130_5)).trans hw130_5), ((HB.out.cell (World.block_lt_of_cell? w _ hw130_6)).trans hw130_6), ((HB.out.cell (World.block_lt_of_cell? w _ hw132_0)).trans hw132_0), ((HB.out.cell (World.block_lt_of_cell? w _ hw132_1)).trans hw132_1), ((HB.out.cell (World.block_lt_of_cell? w _ hw132_2)).trans hw132_2), ((HB.out.cell (World.block_lt_of_cell? w _ hw132_3)).trans hw132_3), ((HB.out.cell (World.block_lt_of_cell? w _ hw132_4)).trans hw132_4), ((HB.out.cell (World.block_lt_of_cell? w _ hw132_5)).trans hw132_5), ((HB.out.cell (World.block_lt_of_cell? w _ hw132_6)).trans hw132_6), ((HB.out.cell (World.block_lt_of_cell? w _ hw133_0)).trans hw133_0), ((HB.out.cell (World.block_lt_of_cell? w _ hw133_1)).trans hw133_1), ((HB.out.cell (World.block_lt_of_cell? w _ hw133_2)).trans hw133_2), ((HB.out.cell (World.block_lt_of_cell? w _ hw133_3)).trans hw133_3), ((HB.out.cell (World.block_lt_of_cell? w _ hw133_4)).trans hw133_4), ((HB.out.cell (World.block_lt_of_cell? w _ hw133_5)).trans hw133_5), ((HB.out.cell (World.block_lt_of_cell? w _ hw133_6)).trans hw133_6)⟩ (fun hHeld => ?_); refine with_tabW spec_IsLog.tab4 spec_IsLog.bits4 (fun HT_ HW_ => ?_)
                 generalize wr.drew = w13 at HB hx130_0 hx130_1 hx130_2 hx130_3 hx130_4 hx130_5 hx130_6 hx132_0 hx132_1 hx132_2 hx132_3 hx132_4 hx132_5 hx132_6 hx133_0 hx133_1 hx133_2 hx133_3 hx133_4 hx133_5 hx133_6 hHeld ⊢
                 refine sqP_ 0 10 (fb 24 1) (any_of HT_.out (by kernel_rfl)) ?_
                 refine sqP_ 1 11 (fb 24 3) (any_of HT_.out (by kernel_rfl)) ?_
                 refine sqP_ 2 12 (fb 24 7) (any_of HT_.out (by kernel_rfl)) ?_
                 refine sqT_ 3 13 (fb 24 15) (take_ofW HT_.out HW_.out (by kernel_rfl)) hHeld ?_
                 refine one_ (i := 4) (N := some 14) (fb 24 31) rfl rfl (one_of HT_.out (by kernel_rfl)) (by decide) (fun K hK => ?_)
                 refine goes_ Tryz.func85 (by kernel_rfl) rfl #[.agg #[.int .i64 ((rd_T65 l0 x3_1).f0), .int .i64 ((rd_T65 l0 x3_1).f1), .string ((rd_T65 l0 x3_1).f2), .int .i64 ((rd_T65 l0 x3_1).f3), .bool ((rd_T65 l0 x3_1).f4), .bool ((rd_T65 l0 x3_1).f5), .bool ((rd_T65 l0 x3_1).f6)]] (by rfl) rfl rfl (by (try simp only [List.map_toArray, List.map_cons, List.map_nil]); first | done | rfl | (simp only [List.length_drop, List.length_take]; rfl)) ?_
                 with_reducible refine (spec_IsEvent.calls k1 ((rd_T65 l0 x3_1).f0) ((rd_T65 l0 x3_1).f1) ((rd_T65 l0 x3_1).f2) ((rd_T65 l0 x3_1).f3) ((rd_T65 l0 x3_1).f4) ((rd_T65 l0 x3_1).f5) ((rd_T65 l0 x3_1).f6) true _ A4.out).mono ?_
                 rintro e w14 ⟨rfl, hb⟩
                 refine ⟨_, rfl, ?_⟩
                 have n0_ := Aside0.mk (bs_ hb)
                 clear HB
                 have HB := n0_
                 clear n0_
                 (try clear hb)
                 (try clear hb2)
                 (try clear hk)
                 (try clear hi)
                 refine hK.out _ _ ⟨((HB.out.cell (World.block_lt_of_cell? w _ hw130_0)).trans hw130_0), ((HB.out.cell (World.block_lt_of_cell? w _ hw130_1)).trans hw130_1), ((HB.out.cell (World.block_lt_of_cell? w _ hw130_2)).trans hw130_2), ((HB.out.cell (World.block_lt_of_cell? w _ hw130_3)).trans hw130_3), ((HB.out.cell (World.block_lt_of_cell? w _ hw130_4)).trans hw130_4), ((HB.out.cell (World.block_lt_of_cell? w _ hw130_5)).trans hw130_5), ((HB.out.cell (World.block_lt_of_cell? w _ hw130_6)).trans hw130_6), ((HB.out.cell (World.block_lt_of_cell? w _ hw132_0)).trans hw132_0), ((HB.out.cell (World.block_lt_of_cell? w _ hw132_1)).trans hw132_1), ((HB.out.cell (World.block_lt_of_cell? w _ hw132_2)).trans hw132_2), ((HB.out.cell (World.block_lt_of_cell? w _ hw132_3)).trans hw132_3), ((HB.out.cell (World.block_lt_of_cell? w _ hw132_4)).trans hw132_4), ((HB.out.cell (World.block_lt_of_cell? w _ hw132_5)).trans hw132_5), ((HB.out.cell (World.block_lt_of_cell? w _ hw132_6)).trans hw132_6), ((HB.out.cell (World.block_lt_of_cell? w _ hw133_0)).trans hw133_0), ((HB.out.cell (World.block_lt_of_cell? w _ hw133_1)).trans hw133_1), ((HB.out.cell (World.block_lt_of_cell? w _ hw133_2)).trans hw133_2), ((HB.out.cell (World.block_lt_of_cell? w _ hw133_3)).trans hw133_3), ((HB.out.cell (World.block_lt_of_cell? w _ hw133_4)).trans hw133_4), ((HB.out.cell (World.block_lt_of_cell? w _ hw133_5)).trans hw133_5), ((HB.out.cell (World.block_lt_of_cell? w _ hw133_6)).trans hw133_6)⟩ (fun hHeld => ?_)
                 clear hK K
                 refine sqN_ 14 ?_
                 refine sqP_ 5 15 (fb 24 63) (any_of HT_.out (by kernel_rfl)) ?_
                 refine sqP_ 6 16 (fb 24 127) (any_of HT_.out (by kernel_rfl)) ?_
                 refine sqP_ 7 17 (fb 24 255) (any_of HT_.out (by kernel_rfl)) ?_
                 refine sqP_ 8 18 (fb 24 511) (any_of HT_.out (by kernel_rfl)) ?_
                 refine sqP_ 9 19 (fb 24 1023) (any_of HT_.out (by kernel_rfl)) ?_
                 refine sqP_ 10 20 (fb 24 2047) (any_of HT_.out (by kernel_rfl)) ?_
                 refine sqP_ 11 21 (fb 24 4095) (any_of HT_.out (by kernel_rfl)) ?_
                 refine sqP_ 12 22 (fb 24 8191) (any_of HT_.out (by kernel_rfl)) ?_
                 refine sqP_ 13 23 (fb 24 16383) (any_of HT_.out (by kernel_rfl)) ?_
                 refine sqP_ 15 25 (fb 24 49151) (any_of HT_.out (by kernel_rfl)) ?_
                 refine sqP_ 16 26 (fb 24 114687) (any_of HT_.out (by kernel_rfl)) ?_
                 refine sqP_ 17 27 (fb 24 245759) (any_of HT_.out (by kernel_rfl)) ?_
                 refine sqP_ 18 28 (fb 24 507903) (any_of HT_.out (by kernel_rfl)) ?_
                 refine sqP_ 19 29 (fb 24 1032191) (any_of HT_.out (by kernel_rfl)) ?_
                 refine sqT_ 14 24 (fb 24 1048575) (take_ofW HT_.out HW_.out (by kernel_rfl)) hHeld ?_
                 refine sqT_ 20 30 (fb 24 2097151) (take_ofW HT_.out HW_.out (by kernel_rfl)) hHeld ?_
                 refine sqP_ 21 31 (fb 24 4194303) (any_of HT_.out (by kernel_rfl)) ?_
                 refine sqP_ 22 32 (fb 24 8388607) (any_of HT_.out (by kernel_rfl)) ?_
                 refine sqP_ 23 33 (fb 24 16777215) (any_of HT_.out (by kernel_rfl)) ?_
                 refine done_ (done_of HT_.out (by kernel_rfl)) ?_
                 try go_wp2
                 go_roundg k1
                 case measure => have := HK1.out; omega
                 case rel => exact ⟨(wrap64 (x3_1 + 1)), (by first | rfl | (simp; done) | (simp [*]; done)), H', ⟨by have := HK1.out; omega⟩, ⟨bb_⟩⟩
             · rw [if_neg c9] at H
               exact absurd H (by simp)
           · rw [if_neg c8] at H
             exact absurd H (by simp)
         · rw [if_neg c6] at H
           have c6b0 : decide (0 < x3_1) = false := decide_eq_false c6
           clear c6
           have H' := Aside0.mk H
           clear H
           try go_wp2
           have n0_ := Aside0.mk (below_drew1 HB.out)
           clear HB
           have HB := n0_
           clear n0_
           have p130 : 0 ≤ (x3_1 : Int) := of_decide_eq_true (by first | (with_reducible assumption) | assumption)
           have q130 : x3_1 < (l0.length : Int) := of_decide_eq_true (by first | (with_reducible assumption) | assumption)
           obtain ⟨ad130, e130, hx130_0, hx130_1, hx130_2, hx130_3, hx130_4, hx130_5, hx130_6⟩ := at_T65 HR0.out x3_1 p130 q130
           have hw130_6 := hx130_6
           have hw130_5 := hx130_5
           have hw130_4 := hx130_4
           have hw130_3 := hx130_3
           have hw130_2 := hx130_2
           have hw130_1 := hx130_1
           have hw130_0 := hx130_0
           cases e130
           replace hx130_0 := cel HB hx130_0
           replace hx130_1 := cel HB hx130_1
           replace hx130_2 := cel HB hx130_2
           replace hx130_3 := cel HB hx130_3
           replace hx130_4 := cel HB hx130_4
           replace hx130_5 := cel HB hx130_5
           replace hx130_6 := cel HB hx130_6
           replace p130 := eq_true p130
           replace q130 := eq_true q130
           refine start_ (n := 24) (S := fun w' => w'.cell? (ad130.add ((x3_1).toNat * 7)) = some (.int .i64 ((rd_T65 l0 x3_1).f0)) ∧ w'.cell? ⟨(ad130.add ((x3_1).toNat * 7)).block, (ad130.add ((x3_1).toNat * 7)).off + 1, none⟩ = some (.int .i64 ((rd_T65 l0 x3_1).f1)) ∧ w'.cell? ⟨(ad130.add ((x3_1).toNat * 7)).block, (ad130.add ((x3_1).toNat * 7)).off + 2, none⟩ = some (.string ((rd_T65 l0 x3_1).f2)) ∧ w'.cell? ⟨(ad130.add ((x3_1).toNat * 7)).block, (ad130.add ((x3_1).toNat * 7)).off + 3, none⟩ = some (.int .i64 ((rd_T65 l0 x3_1).f3)) ∧ w'.cell? ⟨(ad130.add ((x3_1).toNat * 7)).block, (ad130.add ((x3_1).toNat * 7)).off + 4, none⟩ = some (.bool ((rd_T65 l0 x3_1).f4)) ∧ w'.cell? ⟨(ad130.add ((x3_1).toNat * 7)).block, (ad130.add ((x3_1).toNat * 7)).off + 5, none⟩ = some (.bool ((rd_T65 l0 x3_1).f5)) ∧ w'.cell? ⟨(ad130.add ((x3_1).toNat * 7)).block, (ad130.add ((x3_1).toNat * 7)).off + 6, none⟩ = some (.bool ((rd_T65 l0 x3_1).f6))) (ds := []) (fb 24 0) (by kernel_rfl) rfl rfl ⟨((HB.out.cell (World.block_lt_of_cell? w _ hw130_0)).trans hw130_0), ((HB.out.cell (World.block_lt_of_cell? w _ hw130_1)).trans hw130_1), ((HB.out.cell (World.block_lt_of_cell? w _ hw130_2)).trans hw130_2), ((HB.out.cell (World.block_lt_of_cell? w _ hw130_3)).trans hw130_3), ((HB.out.cell (World.block_lt_of_cell? w _ hw130_4)).trans hw130_4), ((HB.out.cell (World.block_lt_of_cell? w _ hw130_5)).trans hw130_5), ((HB.out.cell (World.block_lt_of_cell? w _ hw130_6)).trans hw130_6)⟩ (fun hHeld => ?_); refine with_tabW spec_IsLog.tab4 spec_IsLog.bits4 (fun HT_ HW_ => ?_)
           generalize wr.drew = w15 at HB hx130_0 hx130_1 hx130_2 hx130_3 hx130_4 hx130_5 hx130_6 hHeld ⊢
           refine sqP_ 0 10 (fb 24 1) (any_of HT_.out (by kernel_rfl)) ?_
           refine sqP_ 1 11 (fb 24 3) (any_of HT_.out (by kernel_rfl)) ?_
           refine sqP_ 2 12 (fb 24 7) (any_of HT_.out (by kernel_rfl)) ?_
           refine sqT_ 3 13 (fb 24 15) (take_ofW HT_.out HW_.out (by kernel_rfl)) hHeld ?_
           refine one_ (i := 4) (N := some 14) (fb 24 31) rfl rfl (one_of HT_.out (by kernel_rfl)) (by decide) (fun K hK => ?_)
           refine goes_ Tryz.func85 (by kernel_rfl) rfl #[.agg #[.int .i64 ((rd_T65 l0 x3_1).f0), .int .i64 ((rd_T65 l0 x3_1).f1), .string ((rd_T65 l0 x3_1).f2), .int .i64 ((rd_T65 l0 x3_1).f3), .bool ((rd_T65 l0 x3_1).f4), .bool ((rd_T65 l0 x3_1).f5), .bool ((rd_T65 l0 x3_1).f6)]] (by rfl) rfl rfl (by (try simp only [List.map_toArray, List.map_cons, List.map_nil]); first | done | rfl | (simp only [List.length_drop, List.length_take]; rfl)) ?_
           with_reducible refine (spec_IsEvent.calls k1 ((rd_T65 l0 x3_1).f0) ((rd_T65 l0 x3_1).f1) ((rd_T65 l0 x3_1).f2) ((rd_T65 l0 x3_1).f3) ((rd_T65 l0 x3_1).f4) ((rd_T65 l0 x3_1).f5) ((rd_T65 l0 x3_1).f6) true _ A4.out).mono ?_
           rintro e w16 ⟨rfl, hb⟩
           refine ⟨_, rfl, ?_⟩
           have n0_ := Aside0.mk (bs_ hb)
           clear HB
           have HB := n0_
           clear n0_
           (try clear hb)
           (try clear hb2)
           (try clear hk)
           (try clear hi)
           refine hK.out _ _ ⟨((HB.out.cell (World.block_lt_of_cell? w _ hw130_0)).trans hw130_0), ((HB.out.cell (World.block_lt_of_cell? w _ hw130_1)).trans hw130_1), ((HB.out.cell (World.block_lt_of_cell? w _ hw130_2)).trans hw130_2), ((HB.out.cell (World.block_lt_of_cell? w _ hw130_3)).trans hw130_3), ((HB.out.cell (World.block_lt_of_cell? w _ hw130_4)).trans hw130_4), ((HB.out.cell (World.block_lt_of_cell? w _ hw130_5)).trans hw130_5), ((HB.out.cell (World.block_lt_of_cell? w _ hw130_6)).trans hw130_6)⟩ (fun hHeld => ?_)
           clear hK K
           refine sqN_ 14 ?_
           refine sqP_ 5 15 (fb 24 63) (any_of HT_.out (by kernel_rfl)) ?_
           refine sqP_ 6 16 (fb 24 127) (any_of HT_.out (by kernel_rfl)) ?_
           refine sqP_ 7 17 (fb 24 255) (any_of HT_.out (by kernel_rfl)) ?_
           refine sqP_ 8 18 (fb 24 511) (any_of HT_.out (by kernel_rfl)) ?_
           refine sqP_ 9 19 (fb 24 1023) (any_of HT_.out (by kernel_rfl)) ?_
           refine sqO_ 10 20 (fb 24 2047) (any_of HT_.out (by kernel_rfl)) ?_
           refine sqO_ 11 21 (fb 24 4095) (any_of HT_.out (by kernel_rfl)) ?_
           refine sqO_ 12 22 (fb 24 8191) (any_of HT_.out (by kernel_rfl)) ?_
           refine sqO_ 13 23 (fb 24 16383) (any_of HT_.out (by kernel_rfl)) ?_
           refine sqO_ 14 24 (fb 24 32767) (any_of HT_.out (by kernel_rfl)) ?_
           refine sqO_ 15 25 (fb 24 65535) (any_of HT_.out (by kernel_rfl)) ?_
           refine sqO_ 16 26 (fb 24 131071) (any_of HT_.out (by kernel_rfl)) ?_
           refine sqO_ 17 27 (fb 24 262143) (any_of HT_.out (by kernel_rfl)) ?_
           refine sqO_ 18 28 (fb 24 524287) (any_of HT_.out (by kernel_rfl)) ?_
           refine sqO_ 19 29 (fb 24 1048575) (any_of HT_.out (by kernel_rfl)) ?_
           refine sqO_ 20 30 (fb 24 2097151) (any_of HT_.out (by kernel_rfl)) ?_
           refine sqO_ 21 31 (fb 24 4194303) (any_of HT_.out (by kernel_rfl)) ?_
           refine sqP_ 22 32 (fb 24 8388607) (any_of HT_.out (by kernel_rfl)) ?_
           refine sqP_ 23 33 (fb 24 16777215) (any_of HT_.out (by kernel_rfl)) ?_
           refine done_ (done_of HT_.out (by kernel_rfl)) ?_
           try go_wp2
           go_roundg k1
           case measure => have := HK1.out; omega
           case rel => exact ⟨(wrap64 (x3_1 + 1)), (by first | rfl | (simp; done) | (simp [*]; done)), H', ⟨by have := HK1.out; omega⟩, ⟨bb_⟩⟩
       · replace c5 := Bool.eq_false_iff.mpr c5
         subst c5
         have H1 : (some false) = some r := by rw [if_neg (show ¬ (false = true) by decide)] at H; exact H
         clear H
         have H := H1
         clear H1
         obtain rfl := Option.some.inj H
         try go_wp2
         have n0_ := Aside0.mk (below_drew1 HB.out)
         clear HB
         have HB := n0_
         clear n0_
         have p130 : 0 ≤ (x3_1 : Int) := of_decide_eq_true (by first | (with_reducible assumption) | assumption)
         have q130 : x3_1 < (l0.length : Int) := of_decide_eq_true (by first | (with_reducible assumption) | assumption)
         obtain ⟨ad130, e130, hx130_0, hx130_1, hx130_2, hx130_3, hx130_4, hx130_5, hx130_6⟩ := at_T65 HR0.out x3_1 p130 q130
         have hw130_6 := hx130_6
         have hw130_5 := hx130_5
         have hw130_4 := hx130_4
         have hw130_3 := hx130_3
         have hw130_2 := hx130_2
         have hw130_1 := hx130_1
         have hw130_0 := hx130_0
         cases e130
         replace hx130_0 := cel HB hx130_0
         replace hx130_1 := cel HB hx130_1
         replace hx130_2 := cel HB hx130_2
         replace hx130_3 := cel HB hx130_3
         replace hx130_4 := cel HB hx130_4
         replace hx130_5 := cel HB hx130_5
         replace hx130_6 := cel HB hx130_6
         replace p130 := eq_true p130
         replace q130 := eq_true q130
         refine start_ (n := 24) (S := fun w' => w'.cell? (ad130.add ((x3_1).toNat * 7)) = some (.int .i64 ((rd_T65 l0 x3_1).f0)) ∧ w'.cell? ⟨(ad130.add ((x3_1).toNat * 7)).block, (ad130.add ((x3_1).toNat * 7)).off + 1, none⟩ = some (.int .i64 ((rd_T65 l0 x3_1).f1)) ∧ w'.cell? ⟨(ad130.add ((x3_1).toNat * 7)).block, (ad130.add ((x3_1).toNat * 7)).off + 2, none⟩ = some (.string ((rd_T65 l0 x3_1).f2)) ∧ w'.cell? ⟨(ad130.add ((x3_1).toNat * 7)).block, (ad130.add ((x3_1).toNat * 7)).off + 3, none⟩ = some (.int .i64 ((rd_T65 l0 x3_1).f3)) ∧ w'.cell? ⟨(ad130.add ((x3_1).toNat * 7)).block, (ad130.add ((x3_1).toNat * 7)).off + 4, none⟩ = some (.bool ((rd_T65 l0 x3_1).f4)) ∧ w'.cell? ⟨(ad130.add ((x3_1).toNat * 7)).block, (ad130.add ((x3_1).toNat * 7)).off + 5, none⟩ = some (.bool ((rd_T65 l0 x3_1).f5)) ∧ w'.cell? ⟨(ad130.add ((x3_1).toNat * 7)).block, (ad130.add ((x3_1).toNat * 7)).off + 6, none⟩ = some (.bool ((rd_T65 l0 x3_1).f6))) (ds := []) (fb 24 0) (by kernel_rfl) rfl rfl ⟨((HB.out.cell (World.block_lt_of_cell? w _ hw130_0)).trans hw130_0), ((HB.out.cell (World.block_lt_of_cell? w _ hw130_1)).trans hw130_1), ((HB.out.cell (World.block_lt_of_cell? w _ hw130_2)).trans hw130_2), ((HB.out.cell (World.block_lt_of_cell? w _ hw130_3)).trans hw130_3), ((HB.out.cell (World.block_lt_of_cell? w _ hw130_4)).trans hw130_4), ((HB.out.cell (World.block_lt_of_cell? w _ hw130_5)).trans hw130_5), ((HB.out.cell (World.block_lt_of_cell? w _ hw130_6)).trans hw130_6)⟩ (fun hHeld => ?_); refine with_tabW spec_IsLog.tab4 spec_IsLog.bits4 (fun HT_ HW_ => ?_)
         generalize wr.drew = w17 at HB hx130_0 hx130_1 hx130_2 hx130_3 hx130_4 hx130_5 hx130_6 hHeld ⊢
         refine sqP_ 0 10 (fb 24 1) (any_of HT_.out (by kernel_rfl)) ?_
         refine sqP_ 1 11 (fb 24 3) (any_of HT_.out (by kernel_rfl)) ?_
         refine sqP_ 2 12 (fb 24 7) (any_of HT_.out (by kernel_rfl)) ?_
         refine sqT_ 3 13 (fb 24 15) (take_ofW HT_.out HW_.out (by kernel_rfl)) hHeld ?_
         refine one_ (i := 4) (N := some 14) (fb 24 31) rfl rfl (one_of HT_.out (by kernel_rfl)) (by decide) (fun K hK => ?_)
         refine goes_ Tryz.func85 (by kernel_rfl) rfl #[.agg #[.int .i64 ((rd_T65 l0 x3_1).f0), .int .i64 ((rd_T65 l0 x3_1).f1), .string ((rd_T65 l0 x3_1).f2), .int .i64 ((rd_T65 l0 x3_1).f3), .bool ((rd_T65 l0 x3_1).f4), .bool ((rd_T65 l0 x3_1).f5), .bool ((rd_T65 l0 x3_1).f6)]] (by rfl) rfl rfl (by (try simp only [List.map_toArray, List.map_cons, List.map_nil]); first | done | rfl | (simp only [List.length_drop, List.length_take]; rfl)) ?_
         with_reducible refine (spec_IsEvent.calls k1 ((rd_T65 l0 x3_1).f0) ((rd_T65 l0 x3_1).f1) ((rd_T65 l0 x3_1).f2) ((rd_T65 l0 x3_1).f3) ((rd_T65 l0 x3_1).f4) ((rd_T65 l0 x3_1).f5) ((rd_T65 l0 x3_1).f6) false _ A4.out).mono ?_
         rintro e w18 ⟨rfl, hb⟩
         refine ⟨_, rfl, ?_⟩
         have n0_ := Aside0.mk (bs_ hb)
         clear HB
         have HB := n0_
         clear n0_
         (try clear hb)
         (try clear hb2)
         (try clear hk)
         (try clear hi)
         refine hK.out _ _ ⟨((HB.out.cell (World.block_lt_of_cell? w _ hw130_0)).trans hw130_0), ((HB.out.cell (World.block_lt_of_cell? w _ hw130_1)).trans hw130_1), ((HB.out.cell (World.block_lt_of_cell? w _ hw130_2)).trans hw130_2), ((HB.out.cell (World.block_lt_of_cell? w _ hw130_3)).trans hw130_3), ((HB.out.cell (World.block_lt_of_cell? w _ hw130_4)).trans hw130_4), ((HB.out.cell (World.block_lt_of_cell? w _ hw130_5)).trans hw130_5), ((HB.out.cell (World.block_lt_of_cell? w _ hw130_6)).trans hw130_6)⟩ (fun hHeld => ?_)
         clear hK K
         refine sqN_ 14 ?_
         refine sqP_ 5 15 (fb 24 63) (any_of HT_.out (by kernel_rfl)) ?_
         refine sqP_ 6 16 (fb 24 127) (any_of HT_.out (by kernel_rfl)) ?_
         refine sqO_ 7 17 (fb 24 255) (any_of HT_.out (by kernel_rfl)) ?_
         refine sqO_ 8 18 (fb 24 511) (any_of HT_.out (by kernel_rfl)) ?_
         refine sqO_ 9 19 (fb 24 1023) (any_of HT_.out (by kernel_rfl)) ?_
         refine sqO_ 10 20 (fb 24 2047) (any_of HT_.out (by kernel_rfl)) ?_
         refine sqO_ 11 21 (fb 24 4095) (any_of HT_.out (by kernel_rfl)) ?_
         refine sqO_ 12 22 (fb 24 8191) (any_of HT_.out (by kernel_rfl)) ?_
         refine sqO_ 13 23 (fb 24 16383) (any_of HT_.out (by kernel_rfl)) ?_
         refine sqO_ 14 24 (fb 24 32767) (any_of HT_.out (by kernel_rfl)) ?_
         refine sqO_ 15 25 (fb 24 65535) (any_of HT_.out (by kernel_rfl)) ?_
         refine sqO_ 16 26 (fb 24 131071) (any_of HT_.out (by kernel_rfl)) ?_
         refine sqO_ 17 27 (fb 24 262143) (any_of HT_.out (by kernel_rfl)) ?_
         refine sqO_ 18 28 (fb 24 524287) (any_of HT_.out (by kernel_rfl)) ?_
         refine sqO_ 19 29 (fb 24 1048575) (any_of HT_.out (by kernel_rfl)) ?_
         refine sqO_ 20 30 (fb 24 2097151) (any_of HT_.out (by kernel_rfl)) ?_
         refine sqO_ 21 31 (fb 24 4194303) (any_of HT_.out (by kernel_rfl)) ?_
         refine sqO_ 22 32 (fb 24 8388607) (any_of HT_.out (by kernel_rfl)) ?_
         refine sqP_ 23 33 (fb 24 16777215) (any_of HT_.out (by kernel_rfl)) ?_
         refine done_ (done_of HT_.out (by kernel_rfl)) ?_
         try go_wp2
         go_ret
         exact ⟨by first | rfl | (simp [errW_none, errW_some] <;> rfl) | (simp [*, errW_none, errW_some] <;> rfl), bb_⟩
     · rw [if_neg c3] at H
       exact absurd H (by simp)
   · rw [if_neg c2] at H
     have c2b0 : decide (x3_1 < (l0.length : Int)) = false := decide_eq_false c2
     clear c2
     obtain rfl := Option.some.inj H
     go_wp2
     go_ret
     exact ⟨by first | rfl | (simp [errW_none, errW_some] <;> rfl) | (simp [*, errW_none, errW_some] <;> rfl), bb_⟩

end Go.Proofs.YtmfbkbbgokjhnaaGreat.F
namespace Go.Proofs.YtmfbkbbgokjhnaaGreat.F
open Go.RowKit Go.Proofs.YtmfbkbbgokjhnaaGreatW.PrintWords Go.Proofs.YtmfbkbbgokjhnaaGreatW.PrintLast Go.Proofs.YtmfbkbbgokjhnaaGreatW.PrintMore
attribute [local go_sem] max2_int min2_int max_two min_two max_three min_three max_four min_four   -- for this text's walks alone
set_option linter.unusedVariables false
set_option linter.unusedSimpArgs false

/-! ### spec_l09Need: function 137 -/
def spec_l09Need.f (a0 : Int) : Option (Bool) := (spec_l01In.f a0 0 2).bind fun t134 => (some t134)
set_option maxHeartbeats 8000000 in
set_option maxRecDepth 100000 in
theorem spec_l09Need.calls (a0 : Int) (r : Bool) (w : World) (h : spec_l09Need.f a0 = some r) :
 Calls Tryz.prog 137 #[.int .i64 a0] w fun e w' => e = .returned (.bool r) ∧ Drawn0 w w' := by
 have H : ((spec_l01In.f a0 0 2).bind fun t134 => (some t134)) = some r := h
 clear h
 replace H := Option.bind_eq_some_iff.mp H
 obtain ⟨t134, A20, H⟩ := H
 replace H : (some t134) = some r := H
 have A2 := Aside0.mk A20
 clear A20
 obtain rfl := Option.some.inj H
 go_enter Tryz.func137, Tryz.ntmps137
 go_wp2_with (first | ((with_reducible refine gate_callee (f := 86) rfl ?_); refine goesL_ (some 4) rfl rfl Tryz.func86 (by kernel_rfl) rfl #[.int .i64 a0, .int .i64 0, .int .i64 2] rfl (by (try simp only [List.map_toArray, List.map_cons, List.map_nil]); first | done | rfl | (simp only [List.length_drop, List.length_take]; rfl)) ?_; (with_reducible refine (spec_l01In.calls a0 0 2 t134 _ A2.out).mono ?_); rintro e w' ⟨rfl, ⟨nd, rfl⟩⟩; refine ⟨_, rfl, ?_⟩))
 go_ret
 exact ⟨by first | rfl | (simp; done) | (simp [*]; done), by repeat (first | exact Drawn0.refl _ | apply Drawn0.step)⟩

end Go.Proofs.YtmfbkbbgokjhnaaGreat.F
namespace Go.Proofs.YtmfbkbbgokjhnaaGreat.F
open Go.RowKit Go.Proofs.YtmfbkbbgokjhnaaGreatW.PrintWords Go.Proofs.YtmfbkbbgokjhnaaGreatW.PrintLast Go.Proofs.YtmfbkbbgokjhnaaGreatW.PrintMore
attribute [local go_sem] max2_int min2_int max_two min_two max_three min_three max_four min_four   -- for this text's walks alone
set_option linter.unusedVariables false
set_option linter.unusedSimpArgs false

/-! ### spec_IsClause: function 87 -/
def spec_IsClause.j0 : Nat → Bool → ByteArray → Int → Int → Int → Int → Int → ByteArray → Option (Bool)
 | 0, _, _, _, _, _, _, _, _ => none
 | k + 1, x36, x136000, x136001, x136002, x136003, x136004, x136005, x136006 => if x36 = true then (some false) else (if x136005 = 3 then ((spec_IsPartyCode.f k x136006).bind fun t142 => (some t142)) else (some (x136006.toList == ([] : List UInt8))))
def spec_IsClause.f (k : Nat) (a0_0 : ByteArray) (a0_1 : Int) (a0_2 : Int) (a0_3 : Int) (a0_4 : Int) (a0_5 : Int) (a0_6 : ByteArray) : Option (Bool) := (spec_IsPartyCode.f k a0_0).bind fun t136 => (if t136 = true then ((spec_l01In.f a0_1 (-1) 6).bind fun t137 => (if t137 = true then ((spec_l09Need.f a0_2).bind fun t138 => (if t138 = true then ((spec_l09Need.f a0_3).bind fun t139 => (if t139 = true then ((spec_l09Need.f a0_4).bind fun t140 => (if t140 = true then ((spec_l01In.f a0_5 0 3).bind fun t141 => (spec_IsClause.j0 k (!t141) a0_0 a0_1 a0_2 a0_3 a0_4 a0_5 a0_6)) else (spec_IsClause.j0 k true a0_0 a0_1 a0_2 a0_3 a0_4 a0_5 a0_6))) else (spec_IsClause.j0 k true a0_0 a0_1 a0_2 a0_3 a0_4 a0_5 a0_6))) else (spec_IsClause.j0 k true a0_0 a0_1 a0_2 a0_3 a0_4 a0_5 a0_6))) else (spec_IsClause.j0 k true a0_0 a0_1 a0_2 a0_3 a0_4 a0_5 a0_6))) else (spec_IsClause.j0 k true a0_0 a0_1 a0_2 a0_3 a0_4 a0_5 a0_6))
theorem spec_IsClause.mono_l : ∀ k, (∀ y0 y1 y2 y3 y4 y5 y6 y7, LeO (spec_IsClause.j0 k y0 y1 y2 y3 y4 y5 y6 y7) (spec_IsClause.j0 (k + 1) y0 y1 y2 y3 y4 y5 y6 y7))
 | 0 => fun _ _ _ _ _ _ _ _ r h => by simp [spec_IsClause.j0] at h
 | k + 1 => by
  have ih0 := spec_IsClause.mono_l k
  · intro y0 y1 y2 y3 y4 y5 y6 y7
    unfold spec_IsClause.j0
    repeat' first
    | (with_reducible exact ih0 _ _ _ _ _ _ _ _)
    | (with_reducible exact spec_IsPartyCode.mono _ _)
    | (with_reducible exact LeO.refl _)
    | (with_reducible exact LeO.none _)
    | (with_reducible refine LeO.ite ?_ ?_)
    | (with_reducible refine LeO.bind ?_ (fun _ => ?_))
    | exact ih0 _ _ _ _ _ _ _ _
    | exact spec_IsPartyCode.mono _ _
    | exact LeO.none _
    | refine LeO.ite ?_ ?_
    | refine LeO.bind ?_ (fun _ => ?_)
theorem spec_IsClause.mono : ∀ a0 a1 a2 a3 a4 a5 a6 k, LeO (spec_IsClause.f k a0 a1 a2 a3 a4 a5 a6) (spec_IsClause.f (k + 1) a0 a1 a2 a3 a4 a5 a6) := by
 intro a0 a1 a2 a3 a4 a5 a6 k
 have ih0 := spec_IsClause.mono_l k
 unfold spec_IsClause.f
 repeat' first
  | (with_reducible exact ih0 _ _ _ _ _ _ _ _)
  | (with_reducible exact spec_IsPartyCode.mono _ _)
  | (with_reducible exact LeO.refl _)
  | (with_reducible exact LeO.none _)
  | (with_reducible refine LeO.ite ?_ ?_)
  | (with_reducible refine LeO.bind ?_ (fun _ => ?_))
  | exact ih0 _ _ _ _ _ _ _ _
  | exact spec_IsPartyCode.mono _ _
  | exact LeO.none _
  | refine LeO.ite ?_ ?_
  | refine LeO.bind ?_ (fun _ => ?_)
set_option maxHeartbeats 8000000 in
set_option maxRecDepth 100000 in
theorem spec_IsClause.calls (k : Nat) (a0_0 : ByteArray) (a0_1 : Int) (a0_2 : Int) (a0_3 : Int) (a0_4 : Int) (a0_5 : Int) (a0_6 : ByteArray) (r : Bool) (w : World) (h : spec_IsClause.f k a0_0 a0_1 a0_2 a0_3 a0_4 a0_5 a0_6 = some r) :
 Calls Tryz.prog 87 #[.agg #[.string a0_0, .int .i64 a0_1, .int .i64 a0_2, .int .i64 a0_3, .int .i64 a0_4, .int .i64 a0_5, .string a0_6]] w fun e w' => e = .returned (.bool r) ∧ Below w.heap.size w w' := by
 have hu105 := Tryz.underlying105
 have HB := Aside0.mk (Below.refl w.heap.size w)
 have H : ((spec_IsPartyCode.f k a0_0).bind fun t136 => (if t136 = true then ((spec_l01In.f a0_1 (-1) 6).bind fun t137 => (if t137 = true then ((spec_l09Need.f a0_2).bind fun t138 => (if t138 = true then ((spec_l09Need.f a0_3).bind fun t139 => (if t139 = true then ((spec_l09Need.f a0_4).bind fun t140 => (if t140 = true then ((spec_l01In.f a0_5 0 3).bind fun t141 => (spec_IsClause.j0 k (!t141) a0_0 a0_1 a0_2 a0_3 a0_4 a0_5 a0_6)) else (spec_IsClause.j0 k true a0_0 a0_1 a0_2 a0_3 a0_4 a0_5 a0_6))) else (spec_IsClause.j0 k true a0_0 a0_1 a0_2 a0_3 a0_4 a0_5 a0_6))) else (spec_IsClause.j0 k true a0_0 a0_1 a0_2 a0_3 a0_4 a0_5 a0_6))) else (spec_IsClause.j0 k true a0_0 a0_1 a0_2 a0_3 a0_4 a0_5 a0_6))) else (spec_IsClause.j0 k true a0_0 a0_1 a0_2 a0_3 a0_4 a0_5 a0_6))) = some r := h
 clear h
 have HC2 := Aside0.mk H
 clear H
 go_enter Tryz.func87, Tryz.ntmps87
 go_upto_region 1 with (first | ((with_reducible refine gate_dst (N := 1) rfl ?_); refine box_event ?hg (N := 1) ?hd (cs := #[.string a0_0, .int .i64 a0_1, .int .i64 a0_2, .int .i64 a0_3, .int .i64 a0_4, .int .i64 a0_5, .string a0_6]) (t := 105) ?hr ?_; (case hd => rfl); (case hg => rfl); (case hr => first | (go_simp; done) | (go_simp; rfl)); intro gb135 hg w3 hbox hb; have n0_ := Aside0.mk (bs_ hb); have n1_ := Aside0.mk (hbox); have n2_ := Aside0.mk ((by rw [hg]; exact (bz_) : w.heap.size ≤ gb135)); have n3_ := Aside0.mk ((by rw [hg]; exact (bz_) : w.heap.size ≤ gb135)); clear HB; have HB := n0_; have BK135 := n1_; have GW135 := n2_; have GE135 := n3_; clear n0_ n1_ n2_ n3_; clear hb hbox hg))
 (try simp only [Act.put, List.setIfInBounds_toArray, List.set_cons_zero, List.set_cons_succ])
 go_cut [36] (fun v36 wc => ∃ (kq : Nat) (x36_1 : Bool), v36 = .bool x36_1 ∧ Aside0 (spec_IsClause.j0 kq x36_1 a0_0 a0_1 a0_2 a0_3 a0_4 a0_5 a0_6 = some r) ∧ Aside0 (kq ≤ k) ∧ Aside0 (wc.heap[gb135]? = some (.cells #[.string a0_0, .int .i64 a0_1, .int .i64 a0_2, .int .i64 a0_3, .int .i64 a0_4, .int .i64 a0_5, .string a0_6] 105 (0, 0))) ∧ Aside0 (Below w.heap.size w wc))
 case first =>
  have H := HC2.out
  clear HC2
  replace H := Option.bind_eq_some_iff.mp H
  obtain ⟨t136, A40, H⟩ := H
  replace H : (if t136 = true then ((spec_l01In.f a0_1 (-1) 6).bind fun t137 => (if t137 = true then ((spec_l09Need.f a0_2).bind fun t138 => (if t138 = true then ((spec_l09Need.f a0_3).bind fun t139 => (if t139 = true then ((spec_l09Need.f a0_4).bind fun t140 => (if t140 = true then ((spec_l01In.f a0_5 0 3).bind fun t141 => (spec_IsClause.j0 k (!t141) a0_0 a0_1 a0_2 a0_3 a0_4 a0_5 a0_6)) else (spec_IsClause.j0 k true a0_0 a0_1 a0_2 a0_3 a0_4 a0_5 a0_6))) else (spec_IsClause.j0 k true a0_0 a0_1 a0_2 a0_3 a0_4 a0_5 a0_6))) else (spec_IsClause.j0 k true a0_0 a0_1 a0_2 a0_3 a0_4 a0_5 a0_6))) else (spec_IsClause.j0 k true a0_0 a0_1 a0_2 a0_3 a0_4 a0_5 a0_6))) else (spec_IsClause.j0 k true a0_0 a0_1 a0_2 a0_3 a0_4 a0_5 a0_6)) = some r := H
  have A4 := Aside0.mk A40
  clear A40
  by_cases c5 : t136 = true
  · subst c5
    have H1 : ((spec_l01In.f a0_1 (-1) 6).bind fun t137 => (if t137 = true then ((spec_l09Need.f a0_2).bind fun t138 => (if t138 = true then ((spec_l09Need.f a0_3).bind fun t139 => (if t139 = true then ((spec_l09Need.f a0_4).bind fun t140 => (if t140 = true then ((spec_l01In.f a0_5 0 3).bind fun t141 => (spec_IsClause.j0 k (!t141) a0_0 a0_1 a0_2 a0_3 a0_4 a0_5 a0_6)) else (spec_IsClause.j0 k true a0_0 a0_1 a0_2 a0_3 a0_4 a0_5 a0_6))) else (spec_IsClause.j0 k true a0_0 a0_1 a0_2 a0_3 a0_4 a0_5 a0_6))) else (spec_IsClause.j0 k true a0_0 a0_1 a0_2 a0_3 a0_4 a0_5 a0_6))) else (spec_IsClause.j0 k true a0_0 a0_1 a0_2 a0_3 a0_4 a0_5 a0_6))) = some r := by rw [if_pos rfl] at H; exact H
    clear H
    have H := H1
    clear H1
    replace H := Option.bind_eq_some_iff.mp H
    obtain ⟨t137, A60, H⟩ := H
    replace H : (if t137 = true then ((spec_l09Need.f a0_2).bind fun t138 => (if t138 = true then ((spec_l09Need.f a0_3).bind fun t139 => (if t139 = true then ((spec_l09Need.f a0_4).bind fun t140 => (if t140 = true then ((spec_l01In.f a0_5 0 3).bind fun t141 => (spec_IsClause.j0 k (!t141) a0_0 a0_1 a0_2 a0_3 a0_4 a0_5 a0_6)) else (spec_IsClause.j0 k true a0_0 a0_1 a0_2 a0_3 a0_4 a0_5 a0_6))) else (spec_IsClause.j0 k true a0_0 a0_1 a0_2 a0_3 a0_4 a0_5 a0_6))) else (spec_IsClause.j0 k true a0_0 a0_1 a0_2 a0_3 a0_4 a0_5 a0_6))) else (spec_IsClause.j0 k true a0_0 a0_1 a0_2 a0_3 a0_4 a0_5 a0_6)) = some r := H
    have A6 := Aside0.mk A60
    clear A60
    by_cases c7 : t137 = true
    · subst c7
      have H1 : ((spec_l09Need.f a0_2).bind fun t138 => (if t138 = true then ((spec_l09Need.f a0_3).bind fun t139 => (if t139 = true then ((spec_l09Need.f a0_4).bind fun t140 => (if t140 = true then ((spec_l01In.f a0_5 0 3).bind fun t141 => (spec_IsClause.j0 k (!t141) a0_0 a0_1 a0_2 a0_3 a0_4 a0_5 a0_6)) else (spec_IsClause.j0 k true a0_0 a0_1 a0_2 a0_3 a0_4 a0_5 a0_6))) else (spec_IsClause.j0 k true a0_0 a0_1 a0_2 a0_3 a0_4 a0_5 a0_6))) else (spec_IsClause.j0 k true a0_0 a0_1 a0_2 a0_3 a0_4 a0_5 a0_6))) = some r := by rw [if_pos rfl] at H; exact H
      clear H
      have H := H1
      clear H1
      replace H := Option.bind_eq_some_iff.mp H
      obtain ⟨t138, A80, H⟩ := H
      replace H : (if t138 = true then ((spec_l09Need.f a0_3).bind fun t139 => (if t139 = true then ((spec_l09Need.f a0_4).bind fun t140 => (if t140 = true then ((spec_l01In.f a0_5 0 3).bind fun t141 => (spec_IsClause.j0 k (!t141) a0_0 a0_1 a0_2 a0_3 a0_4 a0_5 a0_6)) else (spec_IsClause.j0 k true a0_0 a0_1 a0_2 a0_3 a0_4 a0_5 a0_6))) else (spec_IsClause.j0 k true a0_0 a0_1 a0_2 a0_3 a0_4 a0_5 a0_6))) else (spec_IsClause.j0 k true a0_0 a0_1 a0_2 a0_3 a0_4 a0_5 a0_6)) = some r := H
      have A8 := Aside0.mk A80
      clear A80
      by_cases c9 : t138 = true
      · subst c9
        have H1 : ((spec_l09Need.f a0_3).bind fun t139 => (if t139 = true then ((spec_l09Need.f a0_4).bind fun t140 => (if t140 = true then ((spec_l01In.f a0_5 0 3).bind fun t141 => (spec_IsClause.j0 k (!t141) a0_0 a0_1 a0_2 a0_3 a0_4 a0_5 a0_6)) else (spec_IsClause.j0 k true a0_0 a0_1 a0_2 a0_3 a0_4 a0_5 a0_6))) else (spec_IsClause.j0 k true a0_0 a0_1 a0_2 a0_3 a0_4 a0_5 a0_6))) = some r := by rw [if_pos rfl] at H; exact H
        clear H
        have H := H1
        clear H1
        replace H := Option.bind_eq_some_iff.mp H
        obtain ⟨t139, A100, H⟩ := H
        replace H : (if t139 = true then ((spec_l09Need.f a0_4).bind fun t140 => (if t140 = true then ((spec_l01In.f a0_5 0 3).bind fun t141 => (spec_IsClause.j0 k (!t141) a0_0 a0_1 a0_2 a0_3 a0_4 a0_5 a0_6)) else (spec_IsClause.j0 k true a0_0 a0_1 a0_2 a0_3 a0_4 a0_5 a0_6))) else (spec_IsClause.j0 k true a0_0 a0_1 a0_2 a0_3 a0_4 a0_5 a0_6)) = some r := H
        have A10 := Aside0.mk A100
        clear A100
        by_cases c11 : t139 = true
        · subst c11
          have H1 : ((spec_l09Need.f a0_4).bind fun t140 => (if t140 = true then ((spec_l01In.f a0_5 0 3).bind fun t141 => (spec_IsClause.j0 k (!t141) a0_0 a0_1 a0_2 a0_3 a0_4 a0_5 a0_6)) else (spec_IsClause.j0 k true a0_0 a0_1 a0_2 a0_3 a0_4 a0_5 a0_6))) = some r := by rw [if_pos rfl] at H; exact H
          clear H
          have H := H1
          clear H1
          replace H := Option.bind_eq_some_iff.mp H
          obtain ⟨t140, A120, H⟩ := H
          replace H : (if t140 = true then ((spec_l01In.f a0_5 0 3).bind fun t141 => (spec_IsClause.j0 k (!t141) a0_0 a0_1 a0_2 a0_3 a0_4 a0_5 a0_6)) else (spec_IsClause.j0 k true a0_0 a0_1 a0_2 a0_3 a0_4 a0_5 a0_6)) = some r := H
          have A12 := Aside0.mk A120
          clear A120
          by_cases c13 : t140 = true
          · subst c13
            have H1 : ((spec_l01In.f a0_5 0 3).bind fun t141 => (spec_IsClause.j0 k (!t141) a0_0 a0_1 a0_2 a0_3 a0_4 a0_5 a0_6)) = some r := by rw [if_pos rfl] at H; exact H
            clear H
            have H := H1
            clear H1
            replace H := Option.bind_eq_some_iff.mp H
            obtain ⟨t141, A140, H⟩ := H
            replace H : (spec_IsClause.j0 k (!t141) a0_0 a0_1 a0_2 a0_3 a0_4 a0_5 a0_6) = some r := H
            have A14 := Aside0.mk A140
            clear A140
            have H' := Aside0.mk H
            clear H
            have hcz15_0 := bk BK135 0
            have hcz15_1 := bk BK135 1
            have hcz15_2 := bk BK135 2
            have hcz15_3 := bk BK135 3
            have hcz15_4 := bk BK135 4
            have hcz15_5 := bk BK135 5
            have hcz15_6 := bk BK135 6
            have hfz15_0 := blk_frozen BK135.out 0
            have hfz15_1 := blk_frozen BK135.out 1
            have hfz15_2 := blk_frozen BK135.out 2
            have hfz15_3 := blk_frozen BK135.out 3
            have hfz15_4 := blk_frozen BK135.out 4
            have hfz15_5 := blk_frozen BK135.out 5
            have hfz15_6 := blk_frozen BK135.out 6
            go_wp2_with (first | ((with_reducible refine gate_callee (f := 136) rfl ?_); refine goesL_ (some 5) rfl rfl Tryz.func136 (by kernel_rfl) rfl #[.string a0_0] rfl (by (try simp only [List.map_toArray, List.map_cons, List.map_nil]); first | done | rfl | (simp only [List.length_drop, List.length_take]; rfl)) ?_; (with_reducible refine (spec_IsPartyCode.calls k a0_0 true _ A4.out).mono ?_); rintro e w' ⟨rfl, ⟨nd, rfl⟩⟩; refine ⟨_, rfl, ?_⟩) | (go_at_call 86; (with_reducible refine (spec_l01In.calls a0_1 (-1) 6 true _ A6.out).mono ?_); rintro e w' ⟨rfl, ⟨nd, rfl⟩⟩) | (go_at_call 137; (with_reducible refine (spec_l09Need.calls a0_2 true _ A8.out).mono ?_); rintro e w' ⟨rfl, ⟨nd, rfl⟩⟩) | (go_at_call 137; (with_reducible refine (spec_l09Need.calls a0_3 true _ A10.out).mono ?_); rintro e w' ⟨rfl, ⟨nd, rfl⟩⟩) | (go_at_call 137; (with_reducible refine (spec_l09Need.calls a0_4 true _ A12.out).mono ?_); rintro e w' ⟨rfl, ⟨nd, rfl⟩⟩) | (go_at_call 86; (with_reducible refine (spec_l01In.calls a0_5 0 3 t141 _ A14.out).mono ?_); rintro e w' ⟨rfl, ⟨nd, rfl⟩⟩))
            go_meet
            case rel => exact ⟨_, (!t141), (by first | rfl | (simp; done) | (simp [*]; done)), H', ⟨by first | omega | exact Nat.le_refl _⟩, ⟨by (with_reducible repeat (first | refine blk_drewN ?_ _ | refine blk_drew ?_ | refine blk_alloc ?_ _)); exact BK135.out⟩, ⟨bb_⟩⟩
          · replace c13 := Bool.eq_false_iff.mpr c13
            subst c13
            have H1 : (spec_IsClause.j0 k true a0_0 a0_1 a0_2 a0_3 a0_4 a0_5 a0_6) = some r := by rw [if_neg (show ¬ (false = true) by decide)] at H; exact H
            clear H
            have H := H1
            clear H1
            have H' := Aside0.mk H
            clear H
            have hcz16_0 := bk BK135 0
            have hcz16_1 := bk BK135 1
            have hcz16_2 := bk BK135 2
            have hcz16_3 := bk BK135 3
            have hcz16_4 := bk BK135 4
            have hcz16_5 := bk BK135 5
            have hcz16_6 := bk BK135 6
            have hfz16_0 := blk_frozen BK135.out 0
            have hfz16_1 := blk_frozen BK135.out 1
            have hfz16_2 := blk_frozen BK135.out 2
            have hfz16_3 := blk_frozen BK135.out 3
            have hfz16_4 := blk_frozen BK135.out 4
            have hfz16_5 := blk_frozen BK135.out 5
            have hfz16_6 := blk_frozen BK135.out 6
            go_wp2_with (first | ((with_reducible refine gate_callee (f := 136) rfl ?_); refine goesL_ (some 5) rfl rfl Tryz.func136 (by kernel_rfl) rfl #[.string a0_0] rfl (by (try simp only [List.map_toArray, List.map_cons, List.map_nil]); first | done | rfl | (simp only [List.length_drop, List.length_take]; rfl)) ?_; (with_reducible refine (spec_IsPartyCode.calls k a0_0 true _ A4.out).mono ?_); rintro e w' ⟨rfl, ⟨nd, rfl⟩⟩; refine ⟨_, rfl, ?_⟩) | (go_at_call 86; (with_reducible refine (spec_l01In.calls a0_1 (-1) 6 true _ A6.out).mono ?_); rintro e w' ⟨rfl, ⟨nd, rfl⟩⟩) | (go_at_call 137; (with_reducible refine (spec_l09Need.calls a0_2 true _ A8.out).mono ?_); rintro e w' ⟨rfl, ⟨nd, rfl⟩⟩) | (go_at_call 137; (with_reducible refine (spec_l09Need.calls a0_3 true _ A10.out).mono ?_); rintro e w' ⟨rfl, ⟨nd, rfl⟩⟩) | (go_at_call 137; (with_reducible refine (spec_l09Need.calls a0_4 false _ A12.out).mono ?_); rintro e w' ⟨rfl, ⟨nd, rfl⟩⟩))
            go_meet
            case rel => exact ⟨_, (true), (by first | rfl | (simp; done) | (simp [*]; done)), H', ⟨by first | omega | exact Nat.le_refl _⟩, ⟨by (with_reducible repeat (first | refine blk_drewN ?_ _ | refine blk_drew ?_ | refine blk_alloc ?_ _)); exact BK135.out⟩, ⟨bb_⟩⟩
        · replace c11 := Bool.eq_false_iff.mpr c11
          subst c11
          have H1 : (spec_IsClause.j0 k true a0_0 a0_1 a0_2 a0_3 a0_4 a0_5 a0_6) = some r := by rw [if_neg (show ¬ (false = true) by decide)] at H; exact H
          clear H
          have H := H1
          clear H1
          have H' := Aside0.mk H
          clear H
          have hcz17_0 := bk BK135 0
          have hcz17_1 := bk BK135 1
          have hcz17_2 := bk BK135 2
          have hcz17_3 := bk BK135 3
          have hcz17_4 := bk BK135 4
          have hcz17_5 := bk BK135 5
          have hcz17_6 := bk BK135 6
          have hfz17_0 := blk_frozen BK135.out 0
          have hfz17_1 := blk_frozen BK135.out 1
          have hfz17_2 := blk_frozen BK135.out 2
          have hfz17_3 := blk_frozen BK135.out 3
          have hfz17_4 := blk_frozen BK135.out 4
          have hfz17_5 := blk_frozen BK135.out 5
          have hfz17_6 := blk_frozen BK135.out 6
          go_wp2_with (first | ((with_reducible refine gate_callee (f := 136) rfl ?_); refine goesL_ (some 5) rfl rfl Tryz.func136 (by kernel_rfl) rfl #[.string a0_0] rfl (by (try simp only [List.map_toArray, List.map_cons, List.map_nil]); first | done | rfl | (simp only [List.length_drop, List.length_take]; rfl)) ?_; (with_reducible refine (spec_IsPartyCode.calls k a0_0 true _ A4.out).mono ?_); rintro e w' ⟨rfl, ⟨nd, rfl⟩⟩; refine ⟨_, rfl, ?_⟩) | (go_at_call 86; (with_reducible refine (spec_l01In.calls a0_1 (-1) 6 true _ A6.out).mono ?_); rintro e w' ⟨rfl, ⟨nd, rfl⟩⟩) | (go_at_call 137; (with_reducible refine (spec_l09Need.calls a0_2 true _ A8.out).mono ?_); rintro e w' ⟨rfl, ⟨nd, rfl⟩⟩) | (go_at_call 137; (with_reducible refine (spec_l09Need.calls a0_3 false _ A10.out).mono ?_); rintro e w' ⟨rfl, ⟨nd, rfl⟩⟩))
          go_meet
          case rel => exact ⟨_, (true), (by first | rfl | (simp; done) | (simp [*]; done)), H', ⟨by first | omega | exact Nat.le_refl _⟩, ⟨by (with_reducible repeat (first | refine blk_drewN ?_ _ | refine blk_drew ?_ | refine blk_alloc ?_ _)); exact BK135.out⟩, ⟨bb_⟩⟩
      · replace c9 := Bool.eq_false_iff.mpr c9
        subst c9
        have H1 : (spec_IsClause.j0 k true a0_0 a0_1 a0_2 a0_3 a0_4 a0_5 a0_6) = some r := by rw [if_neg (show ¬ (false = true) by decide)] at H; exact H
        clear H
        have H := H1
        clear H1
        have H' := Aside0.mk H
        clear H
        have hcz18_0 := bk BK135 0
        have hcz18_1 := bk BK135 1
        have hcz18_2 := bk BK135 2
        have hcz18_3 := bk BK135 3
        have hcz18_4 := bk BK135 4
        have hcz18_5 := bk BK135 5
        have hcz18_6 := bk BK135 6
        have hfz18_0 := blk_frozen BK135.out 0
        have hfz18_1 := blk_frozen BK135.out 1
        have hfz18_2 := blk_frozen BK135.out 2
        have hfz18_3 := blk_frozen BK135.out 3
        have hfz18_4 := blk_frozen BK135.out 4
        have hfz18_5 := blk_frozen BK135.out 5
        have hfz18_6 := blk_frozen BK135.out 6
        go_wp2_with (first | ((with_reducible refine gate_callee (f := 136) rfl ?_); refine goesL_ (some 5) rfl rfl Tryz.func136 (by kernel_rfl) rfl #[.string a0_0] rfl (by (try simp only [List.map_toArray, List.map_cons, List.map_nil]); first | done | rfl | (simp only [List.length_drop, List.length_take]; rfl)) ?_; (with_reducible refine (spec_IsPartyCode.calls k a0_0 true _ A4.out).mono ?_); rintro e w' ⟨rfl, ⟨nd, rfl⟩⟩; refine ⟨_, rfl, ?_⟩) | (go_at_call 86; (with_reducible refine (spec_l01In.calls a0_1 (-1) 6 true _ A6.out).mono ?_); rintro e w' ⟨rfl, ⟨nd, rfl⟩⟩) | (go_at_call 137; (with_reducible refine (spec_l09Need.calls a0_2 false _ A8.out).mono ?_); rintro e w' ⟨rfl, ⟨nd, rfl⟩⟩))
        go_meet
        case rel => exact ⟨_, (true), (by first | rfl | (simp; done) | (simp [*]; done)), H', ⟨by first | omega | exact Nat.le_refl _⟩, ⟨by (with_reducible repeat (first | refine blk_drewN ?_ _ | refine blk_drew ?_ | refine blk_alloc ?_ _)); exact BK135.out⟩, ⟨bb_⟩⟩
    · replace c7 := Bool.eq_false_iff.mpr c7
      subst c7
      have H1 : (spec_IsClause.j0 k true a0_0 a0_1 a0_2 a0_3 a0_4 a0_5 a0_6) = some r := by rw [if_neg (show ¬ (false = true) by decide)] at H; exact H
      clear H
      have H := H1
      clear H1
      have H' := Aside0.mk H
      clear H
      have hcz19_0 := bk BK135 0
      have hcz19_1 := bk BK135 1
      have hcz19_2 := bk BK135 2
      have hcz19_3 := bk BK135 3
      have hcz19_4 := bk BK135 4
      have hcz19_5 := bk BK135 5
      have hcz19_6 := bk BK135 6
      have hfz19_0 := blk_frozen BK135.out 0
      have hfz19_1 := blk_frozen BK135.out 1
      have hfz19_2 := blk_frozen BK135.out 2
      have hfz19_3 := blk_frozen BK135.out 3
      have hfz19_4 := blk_frozen BK135.out 4
      have hfz19_5 := blk_frozen BK135.out 5
      have hfz19_6 := blk_frozen BK135.out 6
      go_wp2_with (first | ((with_reducible refine gate_callee (f := 136) rfl ?_); refine goesL_ (some 5) rfl rfl Tryz.func136 (by kernel_rfl) rfl #[.string a0_0] rfl (by (try simp only [List.map_toArray, List.map_cons, List.map_nil]); first | done | rfl | (simp only [List.length_drop, List.length_take]; rfl)) ?_; (with_reducible refine (spec_IsPartyCode.calls k a0_0 true _ A4.out).mono ?_); rintro e w' ⟨rfl, ⟨nd, rfl⟩⟩; refine ⟨_, rfl, ?_⟩) | (go_at_call 86; (with_reducible refine (spec_l01In.calls a0_1 (-1) 6 false _ A6.out).mono ?_); rintro e w' ⟨rfl, ⟨nd, rfl⟩⟩))
      go_meet
      case rel => exact ⟨_, (true), (by first | rfl | (simp; done) | (simp [*]; done)), H', ⟨by first | omega | exact Nat.le_refl _⟩, ⟨by (with_reducible repeat (first | refine blk_drewN ?_ _ | refine blk_drew ?_ | refine blk_alloc ?_ _)); exact BK135.out⟩, ⟨bb_⟩⟩
  · replace c5 := Bool.eq_false_iff.mpr c5
    subst c5
    have H1 : (spec_IsClause.j0 k true a0_0 a0_1 a0_2 a0_3 a0_4 a0_5 a0_6) = some r := by rw [if_neg (show ¬ (false = true) by decide)] at H; exact H
    clear H
    have H := H1
    clear H1
    have H' := Aside0.mk H
    clear H
    have hcz20_0 := bk BK135 0
    have hcz20_1 := bk BK135 1
    have hcz20_2 := bk BK135 2
    have hcz20_3 := bk BK135 3
    have hcz20_4 := bk BK135 4
    have hcz20_5 := bk BK135 5
    have hcz20_6 := bk BK135 6
    have hfz20_0 := blk_frozen BK135.out 0
    have hfz20_1 := blk_frozen BK135.out 1
    have hfz20_2 := blk_frozen BK135.out 2
    have hfz20_3 := blk_frozen BK135.out 3
    have hfz20_4 := blk_frozen BK135.out 4
    have hfz20_5 := blk_frozen BK135.out 5
    have hfz20_6 := blk_frozen BK135.out 6
    go_wp2_with (first | ((with_reducible refine gate_callee (f := 136) rfl ?_); refine goesL_ (some 5) rfl rfl Tryz.func136 (by kernel_rfl) rfl #[.string a0_0] rfl (by (try simp only [List.map_toArray, List.map_cons, List.map_nil]); first | done | rfl | (simp only [List.length_drop, List.length_take]; rfl)) ?_; (with_reducible refine (spec_IsPartyCode.calls k a0_0 false _ A4.out).mono ?_); rintro e w' ⟨rfl, ⟨nd, rfl⟩⟩; refine ⟨_, rfl, ?_⟩))
    go_meet
    case rel => exact ⟨_, (true), (by first | rfl | (simp; done) | (simp [*]; done)), H', ⟨by first | omega | exact Nat.le_refl _⟩, ⟨by (with_reducible repeat (first | refine blk_drewN ?_ _ | refine blk_drew ?_ | refine blk_alloc ?_ _)); exact BK135.out⟩, ⟨bb_⟩⟩
 case rest =>
  clear HC2
  try clear c1
  try clear p2
  try clear c5
  try clear c7
  try clear c8
  try clear c9
  try clear c11
  try clear c13
  try clear hcz15_0
  try clear hcz15_1
  try clear hcz15_2
  try clear hcz15_3
  try clear hcz15_4
  try clear hcz15_5
  try clear hcz15_6
  try clear hcz16_0
  try clear hcz16_1
  try clear hcz16_2
  try clear hcz16_3
  try clear hcz16_4
  try clear hcz16_5
  try clear hcz16_6
  try clear hcz17_0
  try clear hcz17_1
  try clear hcz17_2
  try clear hcz17_3
  try clear hcz17_4
  try clear hcz17_5
  try clear hcz17_6
  try clear hcz18_0
  try clear hcz18_1
  try clear hcz18_2
  try clear hcz18_3
  try clear hcz18_4
  try clear hcz18_5
  try clear hcz18_6
  try clear hcz19_0
  try clear hcz19_1
  try clear hcz19_2
  try clear hcz19_3
  try clear hcz19_4
  try clear hcz19_5
  try clear hcz19_6
  try clear hcz20_0
  try clear hcz20_1
  try clear hcz20_2
  try clear hcz20_3
  try clear hcz20_4
  try clear hcz20_5
  try clear hcz20_6
  try clear hfz15_0
  try clear hfz15_1
  try clear hfz15_2
  try clear hfz15_3
  try clear hfz15_4
  try clear hfz15_5
  try clear hfz15_6
  try clear hfz16_0
  try clear hfz16_1
  try clear hfz16_2
  try clear hfz16_3
  try clear hfz16_4
  try clear hfz16_5
  try clear hfz16_6
  try clear hfz17_0
  try clear hfz17_1
  try clear hfz17_2
  try clear hfz17_3
  try clear hfz17_4
  try clear hfz17_5
  try clear hfz17_6
  try clear hfz18_0
  try clear hfz18_1
  try clear hfz18_2
  try clear hfz18_3
  try clear hfz18_4
  try clear hfz18_5
  try clear hfz18_6
  try clear hfz19_0
  try clear hfz19_1
  try clear hfz19_2
  try clear hfz19_3
  try clear hfz19_4
  try clear hfz19_5
  try clear hfz19_6
  try clear hfz20_0
  try clear hfz20_1
  try clear hfz20_2
  try clear hfz20_3
  try clear hfz20_4
  try clear hfz20_5
  try clear hfz20_6
  obtain ⟨kq, x36_1, rfl, HA, HJ1, BK135, HB⟩ := hcut
  cases kq with
  | zero => exact absurd HA.out (by simp [spec_IsClause.j0])
  | succ kj1 =>
   have H := HA.out
   clear HA
   simp only [spec_IsClause.j0] at H
   by_cases c21 : x36_1 = true
   · subst c21
     have H1 : (some false) = some r := by rw [if_pos rfl] at H; exact H
     clear H
     have H := H1
     clear H1
     obtain rfl := Option.some.inj H
     go_wp2
     go_ret
     exact ⟨by first | rfl | (simp [errW_none, errW_some] <;> rfl) | (simp [*, errW_none, errW_some] <;> rfl), bb_⟩
   · replace c21 := Bool.eq_false_iff.mpr c21
     subst c21
     have H1 : (if a0_5 = 3 then ((spec_IsPartyCode.f kj1 a0_6).bind fun t142 => (some t142)) else (some (a0_6.toList == ([] : List UInt8)))) = some r := by rw [if_neg (show ¬ (false = true) by decide)] at H; exact H
     clear H
     have H := H1
     clear H1
     by_cases c22 : a0_5 = 3
     · rw [if_pos c22] at H
       have c22b0 : (a0_5 == 3) = true := beq_iff_eq.mpr c22
       have c22b1 : (a0_5 != 3) = false := bne_eq_false_iff_eq.mpr c22
       clear c22
       replace H := Option.bind_eq_some_iff.mp H
       obtain ⟨t142, A230, H⟩ := H
       replace H : (some t142) = some r := H
       have A23 := Aside0.mk A230
       clear A230
       obtain rfl := Option.some.inj H
       have hcz24_0 := bk BK135 0
       have hcz24_1 := bk BK135 1
       have hcz24_2 := bk BK135 2
       have hcz24_3 := bk BK135 3
       have hcz24_4 := bk BK135 4
       have hcz24_5 := bk BK135 5
       have hcz24_6 := bk BK135 6
       have hfz24_0 := blk_frozen BK135.out 0
       have hfz24_1 := blk_frozen BK135.out 1
       have hfz24_2 := blk_frozen BK135.out 2
       have hfz24_3 := blk_frozen BK135.out 3
       have hfz24_4 := blk_frozen BK135.out 4
       have hfz24_5 := blk_frozen BK135.out 5
       have hfz24_6 := blk_frozen BK135.out 6
       go_wp2_with (first | ((with_reducible refine gate_callee (f := 136) rfl ?_); refine goesL_ (some 42) rfl rfl Tryz.func136 (by kernel_rfl) rfl #[.string a0_6] rfl (by (try simp only [List.map_toArray, List.map_cons, List.map_nil]); first | done | rfl | (simp only [List.length_drop, List.length_take]; rfl)) ?_; (with_reducible refine (spec_IsPartyCode.calls kj1 a0_6 t142 _ A23.out).mono ?_); rintro e w' ⟨rfl, ⟨nd, rfl⟩⟩; refine ⟨_, rfl, ?_⟩))
       go_ret
       exact ⟨by first | rfl | (simp [errW_none, errW_some] <;> rfl) | (simp [*, errW_none, errW_some] <;> rfl), bb_⟩
     · rw [if_neg c22] at H
       have c22b0 : (a0_5 == 3) = false := beq_eq_false_iff_ne.mpr c22
       have c22b1 : (a0_5 != 3) = true := bne_iff_ne.mpr c22
       obtain rfl := Option.some.inj H
       have hcz25_0 := bk BK135 0
       have hcz25_1 := bk BK135 1
       have hcz25_2 := bk BK135 2
       have hcz25_3 := bk BK135 3
       have hcz25_4 := bk BK135 4
       have hcz25_5 := bk BK135 5
       have hcz25_6 := bk BK135 6
       have hfz25_0 := blk_frozen BK135.out 0
       have hfz25_1 := blk_frozen BK135.out 1
       have hfz25_2 := blk_frozen BK135.out 2
       have hfz25_3 := blk_frozen BK135.out 3
       have hfz25_4 := blk_frozen BK135.out 4
       have hfz25_5 := blk_frozen BK135.out 5
       have hfz25_6 := blk_frozen BK135.out 6
       go_wp2
       go_ret
       exact ⟨by first | rfl | (simp [errW_none, errW_some] <;> rfl) | (simp [*, errW_none, errW_some] <;> rfl), bb_⟩

end Go.Proofs.YtmfbkbbgokjhnaaGreat.F
namespace Go.Proofs.YtmfbkbbgokjhnaaGreat.F
open Go.RowKit Go.Proofs.YtmfbkbbgokjhnaaGreatW.PrintWords Go.Proofs.YtmfbkbbgokjhnaaGreatW.PrintLast Go.Proofs.YtmfbkbbgokjhnaaGreatW.PrintMore
attribute [local go_sem] max2_int min2_int max_two min_two max_three min_three max_four min_four   -- for this text's walks alone
set_option linter.unusedVariables false
set_option linter.unusedSimpArgs false

/-! ### spec_l09Find: function 88 -/
def spec_l09Find.l0 : Nat → List (S105) → ByteArray → Int → Option (Int)
 | 0, _, _, _ => none
 | k + 1, x0, x1, x5 => if x5 < (x0.length : Int) then (if 0 ≤ x5 then (if ((rd_T105 x0 x5).f0).toList = x1.toList then (some x5) else (spec_l09Find.l0 k x0 x1 (wrap64 (x5 + 1)))) else (none)) else (some (-1))
def spec_l09Find.f (k : Nat) (l0 : List (S105)) (a1 : ByteArray) : Option (Int) := spec_l09Find.l0 k l0 a1 0
theorem spec_l09Find.mono_l : ∀ k, (∀ y0 y1 y2, LeO (spec_l09Find.l0 k y0 y1 y2) (spec_l09Find.l0 (k + 1) y0 y1 y2))
 | 0 => fun _ _ _ r h => by simp [spec_l09Find.l0] at h
 | k + 1 => by
  have ih0 := spec_l09Find.mono_l k
  · intro y0 y1 y2
    unfold spec_l09Find.l0
    repeat' first
    | (with_reducible exact ih0 _ _ _)
    | (with_reducible exact LeO.refl _)
    | (with_reducible exact LeO.none _)
    | (with_reducible refine LeO.ite ?_ ?_)
    | (with_reducible refine LeO.bind ?_ (fun _ => ?_))
    | exact ih0 _ _ _
    | exact LeO.none _
    | refine LeO.ite ?_ ?_
    | refine LeO.bind ?_ (fun _ => ?_)
theorem spec_l09Find.mono : ∀ a0 a1 k, LeO (spec_l09Find.f k a0 a1) (spec_l09Find.f (k + 1) a0 a1) := by
 intro a0 a1 k
 have ih0 := spec_l09Find.mono_l k
 unfold spec_l09Find.f
 repeat' first
  | (with_reducible exact ih0 _ _ _)
  | (with_reducible exact LeO.refl _)
  | (with_reducible exact LeO.none _)
  | (with_reducible refine LeO.ite ?_ ?_)
  | (with_reducible refine LeO.bind ?_ (fun _ => ?_))
  | exact ih0 _ _ _
  | exact LeO.none _
  | refine LeO.ite ?_ ?_
  | refine LeO.bind ?_ (fun _ => ?_)
set_option maxHeartbeats 8000000 in
set_option maxRecDepth 100000 in
theorem spec_l09Find.calls (k : Nat) (A0 : Option Addr) (c0 : Nat) (l0 : List (S105)) (a1 : ByteArray) (r : Int) (w : World) (hr0 : Kd.C k105 w A0 l0.length l0) (hc0 : l0.length ≤ c0) (h : spec_l09Find.f k l0 a1 = some r) :
 Calls Tryz.prog 88 #[.slice A0 l0.length c0, .string a1] w fun e w' => e = .returned (.int .i64 r) ∧ Drawn0 w w' := by
 have HR0 := Aside0.mk hr0
 have HC0 := Aside0.mk hc0
 clear hr0 hc0
 have H : (spec_l09Find.l0 k l0 a1 0) = some r := h
 clear h
 have H' := Aside0.mk H
 clear H
 go_enter Tryz.func88, Tryz.ntmps88
 go_wp2
 go_loopg [5] k (fun kq v5 w' => ∃ (x5_1 : Int), v5 = .int .i64 x5_1 ∧ Aside0 (spec_l09Find.l0 kq l0 a1 x5_1 = some r) ∧ Aside0 (kq ≤ k) ∧ Drawn0 w w')
 case atStart => exact ⟨(0), (by first | rfl | (simp; done) | (simp [*]; done)), H', ⟨Nat.le_refl _⟩, by repeat (first | exact Drawn0.refl _ | apply Drawn0.step)⟩
 case round =>
  clear H'
  try clear p2
  obtain ⟨x5_1, rfl, HA, HK1, ⟨m1, rfl⟩⟩ := hrel
  cases gk with
  | zero => exact absurd HA.out (by simp [spec_l09Find.l0])
  | succ k1 =>
   have H := HA.out
   clear HA
   simp only [spec_l09Find.l0] at H
   by_cases c3 : x5_1 < (l0.length : Int)
   · rw [if_pos c3] at H
     have c3b0 : decide (x5_1 < (l0.length : Int)) = true := decide_eq_true c3
     clear c3
     by_cases c4 : 0 ≤ x5_1
     · rw [if_pos c4] at H
       have c4b0 : decide (0 ≤ x5_1) = true := decide_eq_true c4
       clear c4
       by_cases c5 : ((rd_T105 l0 x5_1).f0).toList = a1.toList
       · rw [if_pos c5] at H
         have c5b0 : (((rd_T105 l0 x5_1).f0).toList == a1.toList) = true := beq_iff_eq.mpr c5
         have c5b1 : (((rd_T105 l0 x5_1).f0).toList != a1.toList) = false := bne_eq_false_iff_eq.mpr c5
         clear c5
         obtain rfl := Option.some.inj H
         have p143 : 0 ≤ (x5_1 : Int) := of_decide_eq_true (by first | (with_reducible assumption) | assumption)
         have q143 : x5_1 < (l0.length : Int) := of_decide_eq_true (by first | (with_reducible assumption) | assumption)
         obtain ⟨ad143, e143, hx143_0, hx143_1, hx143_2, hx143_3, hx143_4, hx143_5, hx143_6⟩ := at_T105 HR0.out x5_1 p143 q143
         cases e143
         replace p143 := eq_true p143
         replace q143 := eq_true q143
         go_wp2
         go_ret
         exact ⟨by first | rfl | (simp; done) | (simp [*]; done), by repeat (first | exact Drawn0.refl _ | apply Drawn0.step)⟩
       · rw [if_neg c5] at H
         have c5b0 : (((rd_T105 l0 x5_1).f0).toList == a1.toList) = false := beq_eq_false_iff_ne.mpr c5
         have c5b1 : (((rd_T105 l0 x5_1).f0).toList != a1.toList) = true := bne_iff_ne.mpr c5
         have H' := Aside0.mk H
         clear H
         have p143 : 0 ≤ (x5_1 : Int) := of_decide_eq_true (by first | (with_reducible assumption) | assumption)
         have q143 : x5_1 < (l0.length : Int) := of_decide_eq_true (by first | (with_reducible assumption) | assumption)
         obtain ⟨ad143, e143, hx143_0, hx143_1, hx143_2, hx143_3, hx143_4, hx143_5, hx143_6⟩ := at_T105 HR0.out x5_1 p143 q143
         cases e143
         replace p143 := eq_true p143
         replace q143 := eq_true q143
         go_wp2
         go_roundg k1
         case measure => have := HK1.out; omega
         case rel => exact ⟨(wrap64 (x5_1 + 1)), (by first | rfl | (simp; done) | (simp [*]; done)), H', ⟨by have := HK1.out; omega⟩, by repeat (first | exact Drawn0.refl _ | apply Drawn0.step)⟩
     · rw [if_neg c4] at H
       exact absurd H (by simp)
   · rw [if_neg c3] at H
     have c3b0 : decide (x5_1 < (l0.length : Int)) = false := decide_eq_false c3
     clear c3
     obtain rfl := Option.some.inj H
     go_wp2
     go_ret
     exact ⟨by first | rfl | (simp; done) | (simp [*]; done), by repeat (first | exact Drawn0.refl _ | apply Drawn0.step)⟩

end Go.Proofs.YtmfbkbbgokjhnaaGreat.F
