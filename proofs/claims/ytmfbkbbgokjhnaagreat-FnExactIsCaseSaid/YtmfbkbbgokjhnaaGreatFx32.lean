-- Written by this session's program (wip/bin/hp.py) over the kit's print: a function's Lean form, and a proof that the call does what it says.
import Derived.Test.YtmfbkbbgokjhnaaGreatFx0
import Derived.Test.YtmfbkbbgokjhnaaGreatSq
import Derived.Test.YtmfbkbbgokjhnaaGreatFx29
namespace Go.Proofs.YtmfbkbbgokjhnaaGreat.F
open Go.RowKit Go.Proofs.YtmfbkbbgokjhnaaGreatW.PrintWords Go.Proofs.YtmfbkbbgokjhnaaGreatW.PrintLast Go.Proofs.YtmfbkbbgokjhnaaGreatW.PrintMore
attribute [local go_sem] max2_int min2_int max_two min_two max_three min_three max_four min_four   -- for this text's walks alone
set_option linter.unusedVariables false
set_option linter.unusedSimpArgs false

/-! ### laws_eqInterestS: function 57 -/
def laws_eqInterestS.l0 : Nat → List (S103) → List (S103) → Int → Option (Bool)
 | 0, _, _, _ => none
 | k + 1, x0, x1, x5 => if x5 < (x0.length : Int) then (if 0 ≤ x5 then (if x5 < (x1.length : Int) then ((laws_eqInterest.f ((rd_T103 x0 x5).f0) ((rd_T103 x0 x5).f1) ((rd_T103 x0 x5).f2) ((rd_T103 x0 x5).f3) ((rd_T103 x0 x5).f4) ((rd_T103 x1 x5).f0) ((rd_T103 x1 x5).f1) ((rd_T103 x1 x5).f2) ((rd_T103 x1 x5).f3) ((rd_T103 x1 x5).f4)).bind fun t295 => (if t295 = true then (laws_eqInterestS.l0 k x0 x1 (wrap64 (x5 + 1))) else (some false))) else (none)) else (none)) else (some true)
def laws_eqInterestS.f (k : Nat) (l0 : List (S103)) (l1 : List (S103)) : Option (Bool) := if (l0.length : Int) = (l1.length : Int) then (laws_eqInterestS.l0 k l0 l1 0) else (some false)
theorem laws_eqInterestS.mono_l : ∀ k, (∀ y0 y1 y2, LeO (laws_eqInterestS.l0 k y0 y1 y2) (laws_eqInterestS.l0 (k + 1) y0 y1 y2))
 | 0 => fun _ _ _ r h => by simp [laws_eqInterestS.l0] at h
 | k + 1 => by
  have ih0 := laws_eqInterestS.mono_l k
  · intro y0 y1 y2
    unfold laws_eqInterestS.l0
    repeat' first
    | (with_reducible exact ih0 _ _ _)
    | (with_reducible exact LeO.refl _)
    | (with_reducible exact LeO.none _)
    | (with_reducible refine LeO.ite ?_ ?_)
    | (with_reducible refine LeO.bind ?_ (fun _ => ?_))
    | exact ih0 _ _ _
    | exact LeO.none _
    | refine LeO.ite ?_ ?_
    | refine LeO.bind ?_ (fun _ => ?_)
theorem laws_eqInterestS.mono : ∀ a0 a1 k, LeO (laws_eqInterestS.f k a0 a1) (laws_eqInterestS.f (k + 1) a0 a1) := by
 intro a0 a1 k
 have ih0 := laws_eqInterestS.mono_l k
 unfold laws_eqInterestS.f
 repeat' first
  | (with_reducible exact ih0 _ _ _)
  | (with_reducible exact LeO.refl _)
  | (with_reducible exact LeO.none _)
  | (with_reducible refine LeO.ite ?_ ?_)
  | (with_reducible refine LeO.bind ?_ (fun _ => ?_))
  | exact ih0 _ _ _
  | exact LeO.none _
  | refine LeO.ite ?_ ?_
  | refine LeO.bind ?_ (fun _ => ?_)
def laws_eqInterestS.T6 : Bool × List (List Nat × List Nat) := (true, [([], []), ([], []), ([0, 1], [0, 1]), ([2], [2]), ([], []), ([], []), ([4, 5], [4, 5]), ([6], [6]), ([3, 7], [3, 7]), ([8], [8])])
def laws_eqInterestS.B6 : List Nat := [0, 0, 3, 7, 0, 0, 48, 112, 255, 511]
theorem laws_eqInterestS.tab6 : rtab .any (opsOf Tryz.f57 6) = laws_eqInterestS.T6 := by kernel_rfl
theorem laws_eqInterestS.bits6 : waitsOk laws_eqInterestS.T6.2 laws_eqInterestS.B6 = true := by kernel_rfl
set_option maxHeartbeats 8000000 in
set_option maxRecDepth 100000 in
theorem laws_eqInterestS.calls (k : Nat) (A0 : Option Addr) (c0 : Nat) (l0 : List (S103)) (A1 : Option Addr) (c1 : Nat) (l1 : List (S103)) (r : Bool) (w : World) (hr0 : Kd.C k103 w A0 l0.length l0) (hc0 : l0.length ≤ c0) (hr1 : Kd.C k103 w A1 l1.length l1) (hc1 : l1.length ≤ c1) (h : laws_eqInterestS.f k l0 l1 = some r) :
 Calls Tryz.prog 57 #[.slice A0 l0.length c0, .slice A1 l1.length c1] w fun e w' => e = .returned (.bool r) ∧ Below w.heap.size w w' := by
 have hu103 := Tryz.underlying103
 have HR0 := Aside0.mk hr0
 have HC0 := Aside0.mk hc0
 clear hr0 hc0
 have HR1 := Aside0.mk hr1
 have HC1 := Aside0.mk hc1
 clear hr1 hc1
 have HB := Aside0.mk (Below.refl w.heap.size w)
 have H : (if (l0.length : Int) = (l1.length : Int) then (laws_eqInterestS.l0 k l0 l1 0) else (some false)) = some r := h
 clear h
 by_cases c3 : (l0.length : Int) = (l1.length : Int)
 · rw [if_pos c3] at H
   have c3b0 : ((l0.length : Int) == (l1.length : Int)) = true := beq_iff_eq.mpr c3
   have c3b1 : ((l0.length : Int) != (l1.length : Int)) = false := bne_eq_false_iff_eq.mpr c3
   have c3b2 : (l0.length == l1.length) = true := by first | simpa using c3 | (simp at c3 ⊢; omega)
   clear c3
   have H' := Aside0.mk H
   clear H
   go_enter Tryz.func57, Tryz.ntmps57
   go_wp2
   go_loopg [5] k (fun kq v5 w' => ∃ (x5_1 : Int), v5 = .int .i64 x5_1 ∧ Aside0 (laws_eqInterestS.l0 kq l0 l1 x5_1 = some r) ∧ Aside0 (kq ≤ k) ∧ Aside0 (Below w.heap.size w w'))
   case atStart => exact ⟨(0), (by first | rfl | (simp; done) | (simp [*]; done)), H', ⟨Nat.le_refl _⟩, ⟨bb_⟩⟩
   case round =>
    clear H'
    try clear c1
    try clear p2
    try clear c3
    try clear c3b0
    try clear c3b1
    try clear c3b2
    obtain ⟨x5_1, rfl, HA, HK1, HB⟩ := hrel
    cases gk with
    | zero => exact absurd HA.out (by simp [laws_eqInterestS.l0])
    | succ k1 =>
     have H := HA.out
     clear HA
     simp only [laws_eqInterestS.l0] at H
     by_cases c4 : x5_1 < (l0.length : Int)
     · rw [if_pos c4] at H
       have c4b0 : decide (x5_1 < (l0.length : Int)) = true := decide_eq_true c4
       clear c4
       by_cases c5 : 0 ≤ x5_1
       · rw [if_pos c5] at H
         have c5b0 : decide (0 ≤ x5_1) = true := decide_eq_true c5
         clear c5
         by_cases c6 : x5_1 < (l1.length : Int)
         · rw [if_pos c6] at H
           have c6b0 : decide (x5_1 < (l1.length : Int)) = true := decide_eq_true c6
           clear c6
           replace H := Option.bind_eq_some_iff.mp H
           obtain ⟨t295, A70, H⟩ := H
           replace H : (if t295 = true then (laws_eqInterestS.l0 k1 l0 l1 (wrap64 (x5_1 + 1))) else (some false)) = some r := H
           have A7 := Aside0.mk A70
           clear A70
           by_cases c8 : t295 = true
           · subst c8
             have H1 : (laws_eqInterestS.l0 k1 l0 l1 (wrap64 (x5_1 + 1))) = some r := by rw [if_pos rfl] at H; exact H
             clear H
             have H := H1
             clear H1
             have H' := Aside0.mk H
             clear H
             try go_wp2
             have n0_ := Aside0.mk (below_drew1 HB.out)
             clear HB
             have HB := n0_
             clear n0_
             have p293 : 0 ≤ (x5_1 : Int) := of_decide_eq_true (by first | (with_reducible assumption) | assumption)
             have q293 : x5_1 < (l0.length : Int) := of_decide_eq_true (by first | (with_reducible assumption) | assumption)
             obtain ⟨ad293, e293, hx293_0, hx293_1, hx293_2, hx293_3, hx293_4⟩ := at_T103 HR0.out x5_1 p293 q293
             have hw293_4 := hx293_4
             have hw293_3 := hx293_3
             have hw293_2 := hx293_2
             have hw293_1 := hx293_1
             have hw293_0 := hx293_0
             cases e293
             replace hx293_0 := cel HB hx293_0
             replace hx293_1 := cel HB hx293_1
             replace hx293_2 := cel HB hx293_2
             replace hx293_3 := cel HB hx293_3
             replace hx293_4 := cel HB hx293_4
             replace p293 := eq_true p293
             replace q293 := eq_true q293
             have p294 : 0 ≤ (x5_1 : Int) := of_decide_eq_true (by first | (with_reducible assumption) | assumption)
             have q294 : x5_1 < (l1.length : Int) := of_decide_eq_true (by first | (with_reducible assumption) | assumption)
             obtain ⟨ad294, e294, hx294_0, hx294_1, hx294_2, hx294_3, hx294_4⟩ := at_T103 HR1.out x5_1 p294 q294
             have hw294_4 := hx294_4
             have hw294_3 := hx294_3
             have hw294_2 := hx294_2
             have hw294_1 := hx294_1
             have hw294_0 := hx294_0
             cases e294
             replace hx294_0 := cel HB hx294_0
             replace hx294_1 := cel HB hx294_1
             replace hx294_2 := cel HB hx294_2
             replace hx294_3 := cel HB hx294_3
             replace hx294_4 := cel HB hx294_4
             replace p294 := eq_true p294
             replace q294 := eq_true q294
             refine start_ (n := 10) (S := fun w' => w'.cell? (ad293.add ((x5_1).toNat * 5)) = some (.string ((rd_T103 l0 x5_1).f0)) ∧ w'.cell? ⟨(ad293.add ((x5_1).toNat * 5)).block, (ad293.add ((x5_1).toNat * 5)).off + 1, none⟩ = some (.int .i64 ((rd_T103 l0 x5_1).f1)) ∧ w'.cell? ⟨(ad293.add ((x5_1).toNat * 5)).block, (ad293.add ((x5_1).toNat * 5)).off + 2, none⟩ = some (.string ((rd_T103 l0 x5_1).f2)) ∧ w'.cell? ⟨(ad293.add ((x5_1).toNat * 5)).block, (ad293.add ((x5_1).toNat * 5)).off + 3, none⟩ = some (.int .i64 ((rd_T103 l0 x5_1).f3)) ∧ w'.cell? ⟨(ad293.add ((x5_1).toNat * 5)).block, (ad293.add ((x5_1).toNat * 5)).off + 4, none⟩ = some (.int .i64 ((rd_T103 l0 x5_1).f4)) ∧ w'.cell? (ad294.add ((x5_1).toNat * 5)) = some (.string ((rd_T103 l1 x5_1).f0)) ∧ w'.cell? ⟨(ad294.add ((x5_1).toNat * 5)).block, (ad294.add ((x5_1).toNat * 5)).off + 1, none⟩ = some (.int .i64 ((rd_T103 l1 x5_1).f1)) ∧ w'.cell? ⟨(ad294.add ((x5_1).toNat * 5)).block, (ad294.add ((x5_1).toNat * 5)).off + 2, none⟩ = some (.string ((rd_T103 l1 x5_1).f2)) ∧ w'.cell? ⟨(ad294.add ((x5_1).toNat * 5)).block, (ad294.add ((x5_1).toNat * 5)).off + 3, none⟩ = some (.int .i64 ((rd_T103 l1 x5_1).f3)) ∧ w'.cell? ⟨(ad294.add ((x5_1).toNat * 5)).block, (ad294.add ((x5_1).toNat * 5)).off + 4, none⟩ = some (.int .i64 ((rd_T103 l1 x5_1).f4))) (ds := []) (fb 10 0) (by kernel_rfl) rfl rfl ⟨((HB.out.cell (World.block_lt_of_cell? w _ hw293_0)).trans hw293_0), ((HB.out.cell (World.block_lt_of_cell? w _ hw293_1)).trans hw293_1), ((HB.out.cell (World.block_lt_of_cell? w _ hw293_2)).trans hw293_2), ((HB.out.cell (World.block_lt_of_cell? w _ hw293_3)).trans hw293_3), ((HB.out.cell (World.block_lt_of_cell? w _ hw293_4)).trans hw293_4), ((HB.out.cell (World.block_lt_of_cell? w _ hw294_0)).trans hw294_0), ((HB.out.cell (World.block_lt_of_cell? w _ hw294_1)).trans hw294_1), ((HB.out.cell (World.block_lt_of_cell? w _ hw294_2)).trans hw294_2), ((HB.out.cell (World.block_lt_of_cell? w _ hw294_3)).trans hw294_3), ((HB.out.cell (World.block_lt_of_cell? w _ hw294_4)).trans hw294_4)⟩ (fun hHeld => ?_); refine with_tabW laws_eqInterestS.tab6 laws_eqInterestS.bits6 (fun HT_ HW_ => ?_)
             generalize wr.drew = w9 at HB hx293_0 hx293_1 hx293_2 hx293_3 hx293_4 hx294_0 hx294_1 hx294_2 hx294_3 hx294_4 hHeld ⊢
             refine sqP_ 0 17 (fb 10 1) (any_of HT_.out (by kernel_rfl)) ?_
             refine sqP_ 1 18 (fb 10 3) (any_of HT_.out (by kernel_rfl)) ?_
             refine sqP_ 2 19 (fb 10 7) (any_of HT_.out (by kernel_rfl)) ?_
             refine sqP_ 4 21 (fb 10 23) (any_of HT_.out (by kernel_rfl)) ?_
             refine sqP_ 5 22 (fb 10 55) (any_of HT_.out (by kernel_rfl)) ?_
             refine sqP_ 6 23 (fb 10 119) (any_of HT_.out (by kernel_rfl)) ?_
             refine sqT_ 3 20 (fb 10 127) (take_ofW HT_.out HW_.out (by kernel_rfl)) hHeld ?_
             refine sqT_ 7 24 (fb 10 255) (take_ofW HT_.out HW_.out (by kernel_rfl)) hHeld ?_
             refine one_ (i := 8) (N := some 25) (fb 10 511) rfl rfl (one_of HT_.out (by kernel_rfl)) (by decide) (fun K hK => ?_)
             refine goes_ Tryz.func114 (by kernel_rfl) rfl #[.agg #[.string ((rd_T103 l0 x5_1).f0), .int .i64 ((rd_T103 l0 x5_1).f1), .string ((rd_T103 l0 x5_1).f2), .int .i64 ((rd_T103 l0 x5_1).f3), .int .i64 ((rd_T103 l0 x5_1).f4)], .agg #[.string ((rd_T103 l1 x5_1).f0), .int .i64 ((rd_T103 l1 x5_1).f1), .string ((rd_T103 l1 x5_1).f2), .int .i64 ((rd_T103 l1 x5_1).f3), .int .i64 ((rd_T103 l1 x5_1).f4)]] (by rfl) rfl rfl (by (try simp only [List.map_toArray, List.map_cons, List.map_nil]); first | done | rfl | (simp only [List.length_drop, List.length_take]; rfl)) ?_
             with_reducible refine (laws_eqInterest.calls ((rd_T103 l0 x5_1).f0) ((rd_T103 l0 x5_1).f1) ((rd_T103 l0 x5_1).f2) ((rd_T103 l0 x5_1).f3) ((rd_T103 l0 x5_1).f4) ((rd_T103 l1 x5_1).f0) ((rd_T103 l1 x5_1).f1) ((rd_T103 l1 x5_1).f2) ((rd_T103 l1 x5_1).f3) ((rd_T103 l1 x5_1).f4) true _ A7.out).mono ?_
             rintro e w10 ⟨rfl, hb⟩
             refine ⟨_, rfl, ?_⟩
             have n0_ := Aside0.mk (bs_ hb)
             clear HB
             have HB := n0_
             clear n0_
             (try clear hb)
             (try clear hb2)
             (try clear hk)
             (try clear hi)
             refine hK.out _ _ ⟨((HB.out.cell (World.block_lt_of_cell? w _ hw293_0)).trans hw293_0), ((HB.out.cell (World.block_lt_of_cell? w _ hw293_1)).trans hw293_1), ((HB.out.cell (World.block_lt_of_cell? w _ hw293_2)).trans hw293_2), ((HB.out.cell (World.block_lt_of_cell? w _ hw293_3)).trans hw293_3), ((HB.out.cell (World.block_lt_of_cell? w _ hw293_4)).trans hw293_4), ((HB.out.cell (World.block_lt_of_cell? w _ hw294_0)).trans hw294_0), ((HB.out.cell (World.block_lt_of_cell? w _ hw294_1)).trans hw294_1), ((HB.out.cell (World.block_lt_of_cell? w _ hw294_2)).trans hw294_2), ((HB.out.cell (World.block_lt_of_cell? w _ hw294_3)).trans hw294_3), ((HB.out.cell (World.block_lt_of_cell? w _ hw294_4)).trans hw294_4)⟩ (fun hHeld => ?_)
             clear hK K
             refine sqN_ 25 ?_
             refine sqP_ 9 26 (fb 10 1023) (any_of HT_.out (by kernel_rfl)) ?_
             refine done_ (done_of HT_.out (by kernel_rfl)) ?_
             try go_wp2
             go_roundg k1
             case measure => have := HK1.out; omega
             case rel => exact ⟨(wrap64 (x5_1 + 1)), (by first | rfl | (simp; done) | (simp [*]; done)), H', ⟨by have := HK1.out; omega⟩, ⟨bb_⟩⟩
           · replace c8 := Bool.eq_false_iff.mpr c8
             subst c8
             have H1 : (some false) = some r := by rw [if_neg (show ¬ (false = true) by decide)] at H; exact H
             clear H
             have H := H1
             clear H1
             obtain rfl := Option.some.inj H
             try go_wp2
             have n0_ := Aside0.mk (below_drew1 HB.out)
             clear HB
             have HB := n0_
             clear n0_
             have p293 : 0 ≤ (x5_1 : Int) := of_decide_eq_true (by first | (with_reducible assumption) | assumption)
             have q293 : x5_1 < (l0.length : Int) := of_decide_eq_true (by first | (with_reducible assumption) | assumption)
             obtain ⟨ad293, e293, hx293_0, hx293_1, hx293_2, hx293_3, hx293_4⟩ := at_T103 HR0.out x5_1 p293 q293
             have hw293_4 := hx293_4
             have hw293_3 := hx293_3
             have hw293_2 := hx293_2
             have hw293_1 := hx293_1
             have hw293_0 := hx293_0
             cases e293
             replace hx293_0 := cel HB hx293_0
             replace hx293_1 := cel HB hx293_1
             replace hx293_2 := cel HB hx293_2
             replace hx293_3 := cel HB hx293_3
             replace hx293_4 := cel HB hx293_4
             replace p293 := eq_true p293
             replace q293 := eq_true q293
             have p294 : 0 ≤ (x5_1 : Int) := of_decide_eq_true (by first | (with_reducible assumption) | assumption)
             have q294 : x5_1 < (l1.length : Int) := of_decide_eq_true (by first | (with_reducible assumption) | assumption)
             obtain ⟨ad294, e294, hx294_0, hx294_1, hx294_2, hx294_3, hx294_4⟩ := at_T103 HR1.out x5_1 p294 q294
             have hw294_4 := hx294_4
             have hw294_3 := hx294_3
             have hw294_2 := hx294_2
             have hw294_1 := hx294_1
             have hw294_0 := hx294_0
             cases e294
             replace hx294_0 := cel HB hx294_0
             replace hx294_1 := cel HB hx294_1
             replace hx294_2 := cel HB hx294_2
             replace hx294_3 := cel HB hx294_3
             replace hx294_4 := cel HB hx294_4
             replace p294 := eq_true p294
             replace q294 := eq_true q294
             refine start_ (n := 10) (S := fun w' => w'.cell? (ad293.add ((x5_1).toNat * 5)) = some (.string ((rd_T103 l0 x5_1).f0)) ∧ w'.cell? ⟨(ad293.add ((x5_1).toNat * 5)).block, (ad293.add ((x5_1).toNat * 5)).off + 1, none⟩ = some (.int .i64 ((rd_T103 l0 x5_1).f1)) ∧ w'.cell? ⟨(ad293.add ((x5_1).toNat * 5)).block, (ad293.add ((x5_1).toNat * 5)).off + 2, none⟩ = some (.string ((rd_T103 l0 x5_1).f2)) ∧ w'.cell? ⟨(ad293.add ((x5_1).toNat * 5)).block, (ad293.add ((x5_1).toNat * 5)).off + 3, none⟩ = some (.int .i64 ((rd_T103 l0 x5_1).f3)) ∧ w'.cell? ⟨(ad293.add ((x5_1).toNat * 5)).block, (ad293.add ((x5_1).toNat * 5)).off + 4, none⟩ = some (.int .i64 ((rd_T103 l0 x5_1).f4)) ∧ w'.cell? (ad294.add ((x5_1).toNat * 5)) = some (.string ((rd_T103 l1 x5_1).f0)) ∧ w'.cell? ⟨(ad294.add ((x5_1).toNat * 5)).block, (ad294.add ((x5_1).toNat * 5)).off + 1, none⟩ = some (.int .i64 ((rd_T103 l1 x5_1).f1)) ∧ w'.cell? ⟨(ad294.add ((x5_1).toNat * 5)).block, (ad294.add ((x5_1).toNat * 5)).off + 2, none⟩ = some (.string ((rd_T103 l1 x5_1).f2)) ∧ w'.cell? ⟨(ad294.add ((x5_1).toNat * 5)).block, (ad294.add ((x5_1).toNat * 5)).off + 3, none⟩ = some (.int .i64 ((rd_T103 l1 x5_1).f3)) ∧ w'.cell? ⟨(ad294.add ((x5_1).toNat * 5)).block, (ad294.add ((x5_1).toNat * 5)).off + 4, none⟩ = some (.int .i64 ((rd_T103 l1 x5_1).f4))) (ds := []) (fb 10 0) (by kernel_rfl) rfl rfl ⟨((HB.out.cell (World.block_lt_of_cell? w _ hw293_0)).trans hw293_0), ((HB.out.cell (World.block_lt_of_cell? w _ hw293_1)).trans hw293_1), ((HB.out.cell (World.block_lt_of_cell? w _ hw293_2)).trans hw293_2), ((HB.out.cell (World.block_lt_of_cell? w _ hw293_3)).trans hw293_3), ((HB.out.cell (World.block_lt_of_cell? w _ hw293_4)).trans hw293_4), ((HB.out.cell (World.block_lt_of_cell? w _ hw294_0)).trans hw294_0), ((HB.out.cell (World.block_lt_of_cell? w _ hw294_1)).trans hw294_1), ((HB.out.cell (World.block_lt_of_cell? w _ hw294_2)).trans hw294_2), ((HB.out.cell (World.block_lt_of_cell? w _ hw294_3)).trans hw294_3), ((HB.out.cell (World.block_lt_of_cell? w _ hw294_4)).trans hw294_4)⟩ (fun hHeld => ?_); refine with_tabW laws_eqInterestS.tab6 laws_eqInterestS.bits6 (fun HT_ HW_ => ?_)
             generalize wr.drew = w11 at HB hx293_0 hx293_1 hx293_2 hx293_3 hx293_4 hx294_0 hx294_1 hx294_2 hx294_3 hx294_4 hHeld ⊢
             refine sqP_ 0 17 (fb 10 1) (any_of HT_.out (by kernel_rfl)) ?_
             refine sqP_ 1 18 (fb 10 3) (any_of HT_.out (by kernel_rfl)) ?_
             refine sqP_ 2 19 (fb 10 7) (any_of HT_.out (by kernel_rfl)) ?_
             refine sqP_ 4 21 (fb 10 23) (any_of HT_.out (by kernel_rfl)) ?_
             refine sqP_ 5 22 (fb 10 55) (any_of HT_.out (by kernel_rfl)) ?_
             refine sqP_ 6 23 (fb 10 119) (any_of HT_.out (by kernel_rfl)) ?_
             refine sqT_ 3 20 (fb 10 127) (take_ofW HT_.out HW_.out (by kernel_rfl)) hHeld ?_
             refine sqT_ 7 24 (fb 10 255) (take_ofW HT_.out HW_.out (by kernel_rfl)) hHeld ?_
             refine one_ (i := 8) (N := some 25) (fb 10 511) rfl rfl (one_of HT_.out (by kernel_rfl)) (by decide) (fun K hK => ?_)
             refine goes_ Tryz.func114 (by kernel_rfl) rfl #[.agg #[.string ((rd_T103 l0 x5_1).f0), .int .i64 ((rd_T103 l0 x5_1).f1), .string ((rd_T103 l0 x5_1).f2), .int .i64 ((rd_T103 l0 x5_1).f3), .int .i64 ((rd_T103 l0 x5_1).f4)], .agg #[.string ((rd_T103 l1 x5_1).f0), .int .i64 ((rd_T103 l1 x5_1).f1), .string ((rd_T103 l1 x5_1).f2), .int .i64 ((rd_T103 l1 x5_1).f3), .int .i64 ((rd_T103 l1 x5_1).f4)]] (by rfl) rfl rfl (by (try simp only [List.map_toArray, List.map_cons, List.map_nil]); first | done | rfl | (simp only [List.length_drop, List.length_take]; rfl)) ?_
             with_reducible refine (laws_eqInterest.calls ((rd_T103 l0 x5_1).f0) ((rd_T103 l0 x5_1).f1) ((rd_T103 l0 x5_1).f2) ((rd_T103 l0 x5_1).f3) ((rd_T103 l0 x5_1).f4) ((rd_T103 l1 x5_1).f0) ((rd_T103 l1 x5_1).f1) ((rd_T103 l1 x5_1).f2) ((rd_T103 l1 x5_1).f3) ((rd_T103 l1 x5_1).f4) false _ A7.out).mono ?_
             rintro e w12 ⟨rfl, hb⟩
             refine ⟨_, rfl, ?_⟩
             have n0_ := Aside0.mk (bs_ hb)
             clear HB
             have HB := n0_
             clear n0_
             (try clear hb)
             (try clear hb2)
             (try clear hk)
             (try clear hi)
             refine hK.out _ _ ⟨((HB.out.cell (World.block_lt_of_cell? w _ hw293_0)).trans hw293_0), ((HB.out.cell (World.block_lt_of_cell? w _ hw293_1)).trans hw293_1), ((HB.out.cell (World.block_lt_of_cell? w _ hw293_2)).trans hw293_2), ((HB.out.cell (World.block_lt_of_cell? w _ hw293_3)).trans hw293_3), ((HB.out.cell (World.block_lt_of_cell? w _ hw293_4)).trans hw293_4), ((HB.out.cell (World.block_lt_of_cell? w _ hw294_0)).trans hw294_0), ((HB.out.cell (World.block_lt_of_cell? w _ hw294_1)).trans hw294_1), ((HB.out.cell (World.block_lt_of_cell? w _ hw294_2)).trans hw294_2), ((HB.out.cell (World.block_lt_of_cell? w _ hw294_3)).trans hw294_3), ((HB.out.cell (World.block_lt_of_cell? w _ hw294_4)).trans hw294_4)⟩ (fun hHeld => ?_)
             clear hK K
             refine sqN_ 25 ?_
             refine sqP_ 9 26 (fb 10 1023) (any_of HT_.out (by kernel_rfl)) ?_
             refine done_ (done_of HT_.out (by kernel_rfl)) ?_
             try go_wp2
             go_ret
             exact ⟨by first | rfl | (simp [errW_none, errW_some] <;> rfl) | (simp [*, errW_none, errW_some] <;> rfl), bb_⟩
         · rw [if_neg c6] at H
           exact absurd H (by simp)
       · rw [if_neg c5] at H
         exact absurd H (by simp)
     · rw [if_neg c4] at H
       have c4b0 : decide (x5_1 < (l0.length : Int)) = false := decide_eq_false c4
       clear c4
       obtain rfl := Option.some.inj H
       go_wp2
       go_ret
       exact ⟨by first | rfl | (simp [errW_none, errW_some] <;> rfl) | (simp [*, errW_none, errW_some] <;> rfl), bb_⟩
 · rw [if_neg c3] at H
   have c3b0 : ((l0.length : Int) == (l1.length : Int)) = false := beq_eq_false_iff_ne.mpr c3
   have c3b1 : ((l0.length : Int) != (l1.length : Int)) = true := bne_iff_ne.mpr c3
   have c3b2 : (l0.length == l1.length) = false := by first | simpa using c3 | (simp at c3 ⊢; omega)
   obtain rfl := Option.some.inj H
   go_enter Tryz.func57, Tryz.ntmps57
   go_wp2
   go_ret
   exact ⟨by first | rfl | (simp [errW_none, errW_some] <;> rfl) | (simp [*, errW_none, errW_some] <;> rfl), bb_⟩

end Go.Proofs.YtmfbkbbgokjhnaaGreat.F
namespace Go.Proofs.YtmfbkbbgokjhnaaGreat.F
open Go.RowKit Go.Proofs.YtmfbkbbgokjhnaaGreatW.PrintWords Go.Proofs.YtmfbkbbgokjhnaaGreatW.PrintLast Go.Proofs.YtmfbkbbgokjhnaaGreatW.PrintMore
attribute [local go_sem] max2_int min2_int max_two min_two max_three min_three max_four min_four   -- for this text's walks alone
set_option linter.unusedVariables false
set_option linter.unusedSimpArgs false

/-! ### laws_eqEvent: function 115 -/
def laws_eqEvent.f (a0_0 : Int) (a0_1 : Int) (a0_2 : ByteArray) (a0_3 : Int) (a0_4 : Bool) (a0_5 : Bool) (a0_6 : Bool) (a1_0 : Int) (a1_1 : Int) (a1_2 : ByteArray) (a1_3 : Int) (a1_4 : Bool) (a1_5 : Bool) (a1_6 : Bool) : Option (Bool) := if a0_0 = a1_0 then (if a0_1 = a1_1 then (if a0_2.toList = a1_2.toList then (if a0_3 = a1_3 then (if (a0_4 != a1_4) = true then (some false) else (if (a0_5 != a1_5) = true then (some false) else (if (a0_6 != a1_6) = true then (some false) else (some true)))) else (some false)) else (some false)) else (some false)) else (some false)
set_option maxHeartbeats 8000000 in
set_option maxRecDepth 100000 in
theorem laws_eqEvent.calls (a0_0 : Int) (a0_1 : Int) (a0_2 : ByteArray) (a0_3 : Int) (a0_4 : Bool) (a0_5 : Bool) (a0_6 : Bool) (a1_0 : Int) (a1_1 : Int) (a1_2 : ByteArray) (a1_3 : Int) (a1_4 : Bool) (a1_5 : Bool) (a1_6 : Bool) (r : Bool) (w : World) (h : laws_eqEvent.f a0_0 a0_1 a0_2 a0_3 a0_4 a0_5 a0_6 a1_0 a1_1 a1_2 a1_3 a1_4 a1_5 a1_6 = some r) :
 Calls Tryz.prog 115 #[.agg #[.int .i64 a0_0, .int .i64 a0_1, .string a0_2, .int .i64 a0_3, .bool a0_4, .bool a0_5, .bool a0_6], .agg #[.int .i64 a1_0, .int .i64 a1_1, .string a1_2, .int .i64 a1_3, .bool a1_4, .bool a1_5, .bool a1_6]] w fun e w' => e = .returned (.bool r) ∧ Below w.heap.size w w' := by
 have hu65 := Tryz.underlying65
 have HB := Aside0.mk (Below.refl w.heap.size w)
 have H : (if a0_0 = a1_0 then (if a0_1 = a1_1 then (if a0_2.toList = a1_2.toList then (if a0_3 = a1_3 then (if (a0_4 != a1_4) = true then (some false) else (if (a0_5 != a1_5) = true then (some false) else (if (a0_6 != a1_6) = true then (some false) else (some true)))) else (some false)) else (some false)) else (some false)) else (some false)) = some r := h
 clear h
 by_cases c3 : a0_0 = a1_0
 rw [if_pos c3] at H
 have c3b0 : (a0_0 == a1_0) = true := beq_iff_eq.mpr c3
 have c3b1 : (a0_0 != a1_0) = false := bne_eq_false_iff_eq.mpr c3
 clear c3
 by_cases c4 : a0_1 = a1_1
 rw [if_pos c4] at H
 have c4b0 : (a0_1 == a1_1) = true := beq_iff_eq.mpr c4
 have c4b1 : (a0_1 != a1_1) = false := bne_eq_false_iff_eq.mpr c4
 clear c4
 by_cases c5 : a0_2.toList = a1_2.toList
 rw [if_pos c5] at H
 have c5b0 : (a0_2.toList == a1_2.toList) = true := beq_iff_eq.mpr c5
 have c5b1 : (a0_2.toList != a1_2.toList) = false := bne_eq_false_iff_eq.mpr c5
 clear c5
 by_cases c6 : a0_3 = a1_3
 rw [if_pos c6] at H
 have c6b0 : (a0_3 == a1_3) = true := beq_iff_eq.mpr c6
 have c6b1 : (a0_3 != a1_3) = false := bne_eq_false_iff_eq.mpr c6
 clear c6
 by_cases c7 : (a0_4 != a1_4) = true
 rw [if_pos c7] at H
 have c7b0 : (a0_4 != a1_4) = true := c7
 (try (have c7b1 : decide (a0_4 = a1_4) = false := by simpa using c7))
 (try (have c7b2 : (a0_4 == a1_4) = false := by simpa using c7))
 (try (have c7b3 : ¬ (a0_4 = a1_4) := by simpa using c7))
 clear c7
 obtain rfl := Option.some.inj H
 rotate_left
 rw [if_neg c7] at H
 have c7b0 : (a0_4 != a1_4) = false := by simpa using c7
 (try (have c7b1 : decide (a0_4 = a1_4) = true := by simpa using c7))
 (try (have c7b2 : (a0_4 == a1_4) = true := by simpa using c7))
 clear c7
 by_cases c13 : (a0_5 != a1_5) = true
 rw [if_pos c13] at H
 have c13b0 : (a0_5 != a1_5) = true := c13
 (try (have c13b1 : decide (a0_5 = a1_5) = false := by simpa using c13))
 (try (have c13b2 : (a0_5 == a1_5) = false := by simpa using c13))
 (try (have c13b3 : ¬ (a0_5 = a1_5) := by simpa using c13))
 clear c13
 obtain rfl := Option.some.inj H
 rotate_left
 rw [if_neg c13] at H
 have c13b0 : (a0_5 != a1_5) = false := by simpa using c13
 (try (have c13b1 : decide (a0_5 = a1_5) = true := by simpa using c13))
 (try (have c13b2 : (a0_5 == a1_5) = true := by simpa using c13))
 clear c13
 by_cases c19 : (a0_6 != a1_6) = true
 rw [if_pos c19] at H
 have c19b0 : (a0_6 != a1_6) = true := c19
 (try (have c19b1 : decide (a0_6 = a1_6) = false := by simpa using c19))
 (try (have c19b2 : (a0_6 == a1_6) = false := by simpa using c19))
 (try (have c19b3 : ¬ (a0_6 = a1_6) := by simpa using c19))
 clear c19
 obtain rfl := Option.some.inj H
 rotate_left
 rw [if_neg c19] at H
 have c19b0 : (a0_6 != a1_6) = false := by simpa using c19
 (try (have c19b1 : decide (a0_6 = a1_6) = true := by simpa using c19))
 (try (have c19b2 : (a0_6 == a1_6) = true := by simpa using c19))
 clear c19
 obtain rfl := Option.some.inj H
 rotate_left
 rw [if_neg c6] at H
 have c6b0 : (a0_3 == a1_3) = false := beq_eq_false_iff_ne.mpr c6
 have c6b1 : (a0_3 != a1_3) = true := bne_iff_ne.mpr c6
 obtain rfl := Option.some.inj H
 rotate_left
 rw [if_neg c5] at H
 have c5b0 : (a0_2.toList == a1_2.toList) = false := beq_eq_false_iff_ne.mpr c5
 have c5b1 : (a0_2.toList != a1_2.toList) = true := bne_iff_ne.mpr c5
 obtain rfl := Option.some.inj H
 rotate_left
 rw [if_neg c4] at H
 have c4b0 : (a0_1 == a1_1) = false := beq_eq_false_iff_ne.mpr c4
 have c4b1 : (a0_1 != a1_1) = true := bne_iff_ne.mpr c4
 obtain rfl := Option.some.inj H
 rotate_left
 rw [if_neg c3] at H
 have c3b0 : (a0_0 == a1_0) = false := beq_eq_false_iff_ne.mpr c3
 have c3b1 : (a0_0 != a1_0) = true := bne_iff_ne.mpr c3
 obtain rfl := Option.some.inj H
 rotate_left
 all_goals
  go_enter Tryz.func115, Tryz.ntmps115
  go_wp2_with (first | ((with_reducible refine gate_dst (N := 2) rfl ?_); refine box_event ?hg (N := 2) ?hd (cs := #[.int .i64 a0_0, .int .i64 a0_1, .string a0_2, .int .i64 a0_3, .bool a0_4, .bool a0_5, .bool a0_6]) (t := 65) ?hr ?_; (case hd => rfl); (case hg => rfl); (case hr => first | (go_simp; done) | (go_simp; rfl)); intro gb296 hg w8 hbox hb; have n0_ := Aside0.mk (bs_ hb); have n1_ := Aside0.mk (hbox); have n2_ := Aside0.mk ((by rw [hg]; exact (bz_) : w.heap.size ≤ gb296)); have n3_ := Aside0.mk ((by rw [hg]; exact (bz_) : w.heap.size ≤ gb296)); clear HB; have HB := n0_; have BK296 := n1_; have GW296 := n2_; have GE296 := n3_; clear n0_ n1_ n2_ n3_; clear hb hbox hg) | ((with_reducible refine gate_dst (N := 3) rfl ?_); refine box_event ?hg (N := 3) ?hd (cs := #[.int .i64 a1_0, .int .i64 a1_1, .string a1_2, .int .i64 a1_3, .bool a1_4, .bool a1_5, .bool a1_6]) (t := 65) ?hr ?_; (case hd => rfl); (case hg => rfl); (case hr => first | (go_simp; done) | (go_simp; rfl)); intro gb297 hg w9 hbox hb; have n0_ := Aside0.mk (blk_below (g := gb296) (o := .cells #[.int .i64 a0_0, .int .i64 a0_1, .string a0_2, .int .i64 a0_3, .bool a0_4, .bool a0_5, .bool a0_6] 65 (0, 0)) (by (with_reducible repeat (first | refine blk_drewN ?_ _ | refine blk_drew ?_ | refine blk_alloc ?_ _)); exact BK296.out) hb); have n1_ := Aside0.mk (bs_ hb); have n2_ := Aside0.mk (hbox); have n3_ := Aside0.mk ((by rw [hg]; exact (bz_) : w.heap.size ≤ gb297)); have n4_ := Aside0.mk ((by rw [hg]; exact (bz_) : w.heap.size ≤ gb297)); have n5_ := Aside0.mk ((by rw [hg]; exact Nat.ne_of_lt (blk_lt (g := gb296) (o := .cells #[.int .i64 a0_0, .int .i64 a0_1, .string a0_2, .int .i64 a0_3, .bool a0_4, .bool a0_5, .bool a0_6] 65 (0, 0)) (by (with_reducible repeat (first | refine blk_drewN ?_ _ | refine blk_drew ?_ | refine blk_alloc ?_ _)); exact BK296.out)) : gb296 ≠ gb297)); have n6_ := Aside0.mk ((by rw [hg]; exact Nat.ne_of_gt (blk_lt (g := gb296) (o := .cells #[.int .i64 a0_0, .int .i64 a0_1, .string a0_2, .int .i64 a0_3, .bool a0_4, .bool a0_5, .bool a0_6] 65 (0, 0)) (by (with_reducible repeat (first | refine blk_drewN ?_ _ | refine blk_drew ?_ | refine blk_alloc ?_ _)); exact BK296.out)) : gb297 ≠ gb296)); clear BK296; clear HB; have BK296 := n0_; have HB := n1_; have BK297 := n2_; have GW297 := n3_; have GE297 := n4_; have NB296_297 := n5_; have NB297_296 := n6_; clear n0_ n1_ n2_ n3_ n4_ n5_ n6_; clear hb hbox hg; have hnb10 := NB296_297.out; have hnc10 := NB297_296.out; have hcz11_0 := bk BK296 0; have hcz11_1 := bk BK296 1; have hcz11_2 := bk BK296 2; have hcz11_3 := bk BK296 3; have hcz11_4 := bk BK296 4; have hcz11_5 := bk BK296 5; have hcz11_6 := bk BK296 6; have hfz11_0 := blk_frozen BK296.out 0; have hfz11_1 := blk_frozen BK296.out 1; have hfz11_2 := blk_frozen BK296.out 2; have hfz11_3 := blk_frozen BK296.out 3; have hfz11_4 := blk_frozen BK296.out 4; have hfz11_5 := blk_frozen BK296.out 5; have hfz11_6 := blk_frozen BK296.out 6; have hcz12_0 := bk BK297 0; have hcz12_1 := bk BK297 1; have hcz12_2 := bk BK297 2; have hcz12_3 := bk BK297 3; have hcz12_4 := bk BK297 4; have hcz12_5 := bk BK297 5; have hcz12_6 := bk BK297 6; have hfz12_0 := blk_frozen BK297.out 0; have hfz12_1 := blk_frozen BK297.out 1; have hfz12_2 := blk_frozen BK297.out 2; have hfz12_3 := blk_frozen BK297.out 3; have hfz12_4 := blk_frozen BK297.out 4; have hfz12_5 := blk_frozen BK297.out 5; have hfz12_6 := blk_frozen BK297.out 6))
  go_ret
  exact ⟨by first | rfl | (simp [errW_none, errW_some] <;> rfl) | (simp [*, errW_none, errW_some] <;> rfl), bb_⟩

end Go.Proofs.YtmfbkbbgokjhnaaGreat.F
namespace Go.Proofs.YtmfbkbbgokjhnaaGreat.F
open Go.RowKit Go.Proofs.YtmfbkbbgokjhnaaGreatW.PrintWords Go.Proofs.YtmfbkbbgokjhnaaGreatW.PrintLast Go.Proofs.YtmfbkbbgokjhnaaGreatW.PrintMore
attribute [local go_sem] max2_int min2_int max_two min_two max_three min_three max_four min_four   -- for this text's walks alone
set_option linter.unusedVariables false
set_option linter.unusedSimpArgs false

/-! ### laws_eqEventS: function 58 -/
def laws_eqEventS.l0 : Nat → List (S65) → List (S65) → Int → Option (Bool)
 | 0, _, _, _ => none
 | k + 1, x0, x1, x5 => if x5 < (x0.length : Int) then (if 0 ≤ x5 then (if x5 < (x1.length : Int) then ((laws_eqEvent.f ((rd_T65 x0 x5).f0) ((rd_T65 x0 x5).f1) ((rd_T65 x0 x5).f2) ((rd_T65 x0 x5).f3) ((rd_T65 x0 x5).f4) ((rd_T65 x0 x5).f5) ((rd_T65 x0 x5).f6) ((rd_T65 x1 x5).f0) ((rd_T65 x1 x5).f1) ((rd_T65 x1 x5).f2) ((rd_T65 x1 x5).f3) ((rd_T65 x1 x5).f4) ((rd_T65 x1 x5).f5) ((rd_T65 x1 x5).f6)).bind fun t300 => (if t300 = true then (laws_eqEventS.l0 k x0 x1 (wrap64 (x5 + 1))) else (some false))) else (none)) else (none)) else (some true)
def laws_eqEventS.f (k : Nat) (l0 : List (S65)) (l1 : List (S65)) : Option (Bool) := if (l0.length : Int) = (l1.length : Int) then (laws_eqEventS.l0 k l0 l1 0) else (some false)
theorem laws_eqEventS.mono_l : ∀ k, (∀ y0 y1 y2, LeO (laws_eqEventS.l0 k y0 y1 y2) (laws_eqEventS.l0 (k + 1) y0 y1 y2))
 | 0 => fun _ _ _ r h => by simp [laws_eqEventS.l0] at h
 | k + 1 => by
  have ih0 := laws_eqEventS.mono_l k
  · intro y0 y1 y2
    unfold laws_eqEventS.l0
    repeat' first
    | (with_reducible exact ih0 _ _ _)
    | (with_reducible exact LeO.refl _)
    | (with_reducible exact LeO.none _)
    | (with_reducible refine LeO.ite ?_ ?_)
    | (with_reducible refine LeO.bind ?_ (fun _ => ?_))
    | exact ih0 _ _ _
    | exact LeO.none _
    | refine LeO.ite ?_ ?_
    | refine LeO.bind ?_ (fun _ => ?_)
theorem laws_eqEventS.mono : ∀ a0 a1 k, LeO (laws_eqEventS.f k a0 a1) (laws_eqEventS.f (k + 1) a0 a1) := by
 intro a0 a1 k
 have ih0 := laws_eqEventS.mono_l k
 unfold laws_eqEventS.f
 repeat' first
  | (with_reducible exact ih0 _ _ _)
  | (with_reducible exact LeO.refl _)
  | (with_reducible exact LeO.none _)
  | (with_reducible refine LeO.ite ?_ ?_)
  | (with_reducible refine LeO.bind ?_ (fun _ => ?_))
  | exact ih0 _ _ _
  | exact LeO.none _
  | refine LeO.ite ?_ ?_
  | refine LeO.bind ?_ (fun _ => ?_)
def laws_eqEventS.T6 : Bool × List (List Nat × List Nat) := (true, [([], []), ([], []), ([0, 1], [0, 1]), ([2], [2]), ([], []), ([], []), ([4, 5], [4, 5]), ([6], [6]), ([3, 7], [3, 7]), ([8], [8])])
def laws_eqEventS.B6 : List Nat := [0, 0, 3, 7, 0, 0, 48, 112, 255, 511]
theorem laws_eqEventS.tab6 : rtab .any (opsOf Tryz.f58 6) = laws_eqEventS.T6 := by kernel_rfl
theorem laws_eqEventS.bits6 : waitsOk laws_eqEventS.T6.2 laws_eqEventS.B6 = true := by kernel_rfl
set_option maxHeartbeats 8000000 in
set_option maxRecDepth 100000 in
theorem laws_eqEventS.calls (k : Nat) (A0 : Option Addr) (c0 : Nat) (l0 : List (S65)) (A1 : Option Addr) (c1 : Nat) (l1 : List (S65)) (r : Bool) (w : World) (hr0 : Kd.C k65 w A0 l0.length l0) (hc0 : l0.length ≤ c0) (hr1 : Kd.C k65 w A1 l1.length l1) (hc1 : l1.length ≤ c1) (h : laws_eqEventS.f k l0 l1 = some r) :
 Calls Tryz.prog 58 #[.slice A0 l0.length c0, .slice A1 l1.length c1] w fun e w' => e = .returned (.bool r) ∧ Below w.heap.size w w' := by
 have hu65 := Tryz.underlying65
 have HR0 := Aside0.mk hr0
 have HC0 := Aside0.mk hc0
 clear hr0 hc0
 have HR1 := Aside0.mk hr1
 have HC1 := Aside0.mk hc1
 clear hr1 hc1
 have HB := Aside0.mk (Below.refl w.heap.size w)
 have H : (if (l0.length : Int) = (l1.length : Int) then (laws_eqEventS.l0 k l0 l1 0) else (some false)) = some r := h
 clear h
 by_cases c3 : (l0.length : Int) = (l1.length : Int)
 · rw [if_pos c3] at H
   have c3b0 : ((l0.length : Int) == (l1.length : Int)) = true := beq_iff_eq.mpr c3
   have c3b1 : ((l0.length : Int) != (l1.length : Int)) = false := bne_eq_false_iff_eq.mpr c3
   have c3b2 : (l0.length == l1.length) = true := by first | simpa using c3 | (simp at c3 ⊢; omega)
   clear c3
   have H' := Aside0.mk H
   clear H
   go_enter Tryz.func58, Tryz.ntmps58
   go_wp2
   go_loopg [5] k (fun kq v5 w' => ∃ (x5_1 : Int), v5 = .int .i64 x5_1 ∧ Aside0 (laws_eqEventS.l0 kq l0 l1 x5_1 = some r) ∧ Aside0 (kq ≤ k) ∧ Aside0 (Below w.heap.size w w'))
   case atStart => exact ⟨(0), (by first | rfl | (simp; done) | (simp [*]; done)), H', ⟨Nat.le_refl _⟩, ⟨bb_⟩⟩
   case round =>
    clear H'
    try clear c1
    try clear p2
    try clear c3
    try clear c3b0
    try clear c3b1
    try clear c3b2
    obtain ⟨x5_1, rfl, HA, HK1, HB⟩ := hrel
    cases gk with
    | zero => exact absurd HA.out (by simp [laws_eqEventS.l0])
    | succ k1 =>
     have H := HA.out
     clear HA
     simp only [laws_eqEventS.l0] at H
     by_cases c4 : x5_1 < (l0.length : Int)
     · rw [if_pos c4] at H
       have c4b0 : decide (x5_1 < (l0.length : Int)) = true := decide_eq_true c4
       clear c4
       by_cases c5 : 0 ≤ x5_1
       · rw [if_pos c5] at H
         have c5b0 : decide (0 ≤ x5_1) = true := decide_eq_true c5
         clear c5
         by_cases c6 : x5_1 < (l1.length : Int)
         · rw [if_pos c6] at H
           have c6b0 : decide (x5_1 < (l1.length : Int)) = true := decide_eq_true c6
           clear c6
           replace H := Option.bind_eq_some_iff.mp H
           obtain ⟨t300, A70, H⟩ := H
           replace H : (if t300 = true then (laws_eqEventS.l0 k1 l0 l1 (wrap64 (x5_1 + 1))) else (some false)) = some r := H
           have A7 := Aside0.mk A70
           clear A70
           by_cases c8 : t300 = true
           · subst c8
             have H1 : (laws_eqEventS.l0 k1 l0 l1 (wrap64 (x5_1 + 1))) = some r := by rw [if_pos rfl] at H; exact H
             clear H
             have H := H1
             clear H1
             have H' := Aside0.mk H
             clear H
             try go_wp2
             have n0_ := Aside0.mk (below_drew1 HB.out)
             clear HB
             have HB := n0_
             clear n0_
             have p298 : 0 ≤ (x5_1 : Int) := of_decide_eq_true (by first | (with_reducible assumption) | assumption)
             have q298 : x5_1 < (l0.length : Int) := of_decide_eq_true (by first | (with_reducible assumption) | assumption)
             obtain ⟨ad298, e298, hx298_0, hx298_1, hx298_2, hx298_3, hx298_4, hx298_5, hx298_6⟩ := at_T65 HR0.out x5_1 p298 q298
             have hw298_6 := hx298_6
             have hw298_5 := hx298_5
             have hw298_4 := hx298_4
             have hw298_3 := hx298_3
             have hw298_2 := hx298_2
             have hw298_1 := hx298_1
             have hw298_0 := hx298_0
             cases e298
             replace hx298_0 := cel HB hx298_0
             replace hx298_1 := cel HB hx298_1
             replace hx298_2 := cel HB hx298_2
             replace hx298_3 := cel HB hx298_3
             replace hx298_4 := cel HB hx298_4
             replace hx298_5 := cel HB hx298_5
             replace hx298_6 := cel HB hx298_6
             replace p298 := eq_true p298
             replace q298 := eq_true q298
             have p299 : 0 ≤ (x5_1 : Int) := of_decide_eq_true (by first | (with_reducible assumption) | assumption)
             have q299 : x5_1 < (l1.length : Int) := of_decide_eq_true (by first | (with_reducible assumption) | assumption)
             obtain ⟨ad299, e299, hx299_0, hx299_1, hx299_2, hx299_3, hx299_4, hx299_5, hx299_6⟩ := at_T65 HR1.out x5_1 p299 q299
             have hw299_6 := hx299_6
             have hw299_5 := hx299_5
             have hw299_4 := hx299_4
             have hw299_3 := hx299_3
             have hw299_2 := hx299_2
             have hw299_1 := hx299_1
             have hw299_0 := hx299_0
             cases e299
             replace hx299_0 := cel HB hx299_0
             replace hx299_1 := cel HB hx299_1
             replace hx299_2 := cel HB hx299_2
             replace hx299_3 := cel HB hx299_3
             replace hx299_4 := cel HB hx299_4
             replace hx299_5 := cel HB hx299_5
             replace hx299_6 := cel HB hx299_6
             replace p299 := eq_true p299
             replace q299 := eq_true q299
             refine start_ (n := 10) (S := fun w' => w'.cell? (ad298.add ((x5_1).toNat * 7)) = some (.int .i64 ((rd_T65 l0 x5_1).f0)) ∧ w'.cell? ⟨(ad298.add ((x5_1).toNat * 7)).block, (ad298.add ((x5_1).toNat * 7)).off + 1, none⟩ = some (.int .i64 ((rd_T65 l0 x5_1).f1)) ∧ w'.cell? ⟨(ad298.add ((x5_1).toNat * 7)).block, (ad298.add ((x5_1).toNat * 7)).off + 2, none⟩ = some (.string ((rd_T65 l0 x5_1).f2)) ∧ w'.cell? ⟨(ad298.add ((x5_1).toNat * 7)).block, (ad298.add ((x5_1).toNat * 7)).off + 3, none⟩ = some (.int .i64 ((rd_T65 l0 x5_1).f3)) ∧ w'.cell? ⟨(ad298.add ((x5_1).toNat * 7)).block, (ad298.add ((x5_1).toNat * 7)).off + 4, none⟩ = some (.bool ((rd_T65 l0 x5_1).f4)) ∧ w'.cell? ⟨(ad298.add ((x5_1).toNat * 7)).block, (ad298.add ((x5_1).toNat * 7)).off + 5, none⟩ = some (.bool ((rd_T65 l0 x5_1).f5)) ∧ w'.cell? ⟨(ad298.add ((x5_1).toNat * 7)).block, (ad298.add ((x5_1).toNat * 7)).off + 6, none⟩ = some (.bool ((rd_T65 l0 x5_1).f6)) ∧ w'.cell? (ad299.add ((x5_1).toNat * 7)) = some (.int .i64 ((rd_T65 l1 x5_1).f0)) ∧ w'.cell? ⟨(ad299.add ((x5_1).toNat * 7)).block, (ad299.add ((x5_1).toNat * 7)).off + 1, none⟩ = some (.int .i64 ((rd_T65 l1 x5_1).f1)) ∧ w'.cell? ⟨(ad299.add ((x5_1).toNat * 7)).block, (ad299.add ((x5_1).toNat * 7)).off + 2, none⟩ = some (.string ((rd_T65 l1 x5_1).f2)) ∧ w'.cell? ⟨(ad299.add ((x5_1).toNat * 7)).block, (ad299.add ((x5_1).toNat * 7)).off + 3, none⟩ = some (.int .i64 ((rd_T65 l1 x5_1).f3)) ∧ w'.cell? ⟨(ad299.add ((x5_1).toNat * 7)).block, (ad299.add ((x5_1).toNat * 7)).off + 4, none⟩ = some (.bool ((rd_T65 l1 x5_1).f4)) ∧ w'.cell? ⟨(ad299.add ((x5_1).toNat * 7)).block, (ad299.add ((x5_1).toNat * 7)).off + 5, none⟩ = some (.bool ((rd_T65 l1 x5_1).f5)) ∧ w'.cell? ⟨(ad299.add ((x5_1).toNat * 7)).block, (ad299.add ((x5_1).toNat * 7)).off + 6, none⟩ = some (.bool ((rd_T65 l1 x5_1).f6))) (ds := []) (fb 10 0) (by kernel_rfl) rfl rfl ⟨((HB.out.cell (World.block_lt_of_cell? w _ hw298_0)).trans hw298_0), ((HB.out.cell (World.block_lt_of_cell? w _ hw298_1)).trans hw298_1), ((HB.out.cell (World.block_lt_of_cell? w _ hw298_2)).trans hw298_2), ((HB.out.cell (World.block_lt_of_cell? w _ hw298_3)).trans hw298_3), ((HB.out.cell (World.block_lt_of_cell? w _ hw298_4)).trans hw298_4), ((HB.out.cell (World.block_lt_of_cell? w _ hw298_5)).trans hw298_5), ((HB.out.cell (World.block_lt_of_cell? w _ hw298_6)).trans hw298_6), ((HB.out.cell (World.block_lt_of_cell? w _ hw299_0)).trans hw299_0), ((HB.out.cell (World.block_lt_of_cell? w _ hw299_1)).trans hw299_1), ((HB.out.cell (World.block_lt_of_cell? w _ hw299_2)).trans hw299_2), ((HB.out.cell (World.block_lt_of_cell? w _ hw299_3)).trans hw299_3), ((HB.out.cell (World.block_lt_of_cell? w _ hw299_4)).trans hw299_4), ((HB.out.cell (World.block_lt_of_cell? w _ hw299_5)).trans hw299_5), ((HB.out.cell (World.block_lt_of_cell? w _ hw299_6)).trans hw299_6)⟩ (fun hHeld => ?_); refine with_tabW laws_eqEventS.tab6 laws_eqEventS.bits6 (fun HT_ HW_ => ?_)
             generalize wr.drew = w9 at HB hx298_0 hx298_1 hx298_2 hx298_3 hx298_4 hx298_5 hx298_6 hx299_0 hx299_1 hx299_2 hx299_3 hx299_4 hx299_5 hx299_6 hHeld ⊢
             refine sqP_ 0 17 (fb 10 1) (any_of HT_.out (by kernel_rfl)) ?_
             refine sqP_ 1 18 (fb 10 3) (any_of HT_.out (by kernel_rfl)) ?_
             refine sqP_ 2 19 (fb 10 7) (any_of HT_.out (by kernel_rfl)) ?_
             refine sqP_ 4 21 (fb 10 23) (any_of HT_.out (by kernel_rfl)) ?_
             refine sqP_ 5 22 (fb 10 55) (any_of HT_.out (by kernel_rfl)) ?_
             refine sqP_ 6 23 (fb 10 119) (any_of HT_.out (by kernel_rfl)) ?_
             refine sqT_ 3 20 (fb 10 127) (take_ofW HT_.out HW_.out (by kernel_rfl)) hHeld ?_
             refine sqT_ 7 24 (fb 10 255) (take_ofW HT_.out HW_.out (by kernel_rfl)) hHeld ?_
             refine one_ (i := 8) (N := some 25) (fb 10 511) rfl rfl (one_of HT_.out (by kernel_rfl)) (by decide) (fun K hK => ?_)
             refine goes_ Tryz.func115 (by kernel_rfl) rfl #[.agg #[.int .i64 ((rd_T65 l0 x5_1).f0), .int .i64 ((rd_T65 l0 x5_1).f1), .string ((rd_T65 l0 x5_1).f2), .int .i64 ((rd_T65 l0 x5_1).f3), .bool ((rd_T65 l0 x5_1).f4), .bool ((rd_T65 l0 x5_1).f5), .bool ((rd_T65 l0 x5_1).f6)], .agg #[.int .i64 ((rd_T65 l1 x5_1).f0), .int .i64 ((rd_T65 l1 x5_1).f1), .string ((rd_T65 l1 x5_1).f2), .int .i64 ((rd_T65 l1 x5_1).f3), .bool ((rd_T65 l1 x5_1).f4), .bool ((rd_T65 l1 x5_1).f5), .bool ((rd_T65 l1 x5_1).f6)]] (by rfl) rfl rfl (by (try simp only [List.map_toArray, List.map_cons, List.map_nil]); first | done | rfl | (simp only [List.length_drop, List.length_take]; rfl)) ?_
             with_reducible refine (laws_eqEvent.calls ((rd_T65 l0 x5_1).f0) ((rd_T65 l0 x5_1).f1) ((rd_T65 l0 x5_1).f2) ((rd_T65 l0 x5_1).f3) ((rd_T65 l0 x5_1).f4) ((rd_T65 l0 x5_1).f5) ((rd_T65 l0 x5_1).f6) ((rd_T65 l1 x5_1).f0) ((rd_T65 l1 x5_1).f1) ((rd_T65 l1 x5_1).f2) ((rd_T65 l1 x5_1).f3) ((rd_T65 l1 x5_1).f4) ((rd_T65 l1 x5_1).f5) ((rd_T65 l1 x5_1).f6) true _ A7.out).mono ?_
             rintro e w10 ⟨rfl, hb⟩
             refine ⟨_, rfl, ?_⟩
             have n0_ := Aside0.mk (bs_ hb)
             clear HB
             have HB := n0_
             clear n0_
             (try clear hb)
             (try clear hb2)
             (try clear hk)
             (try clear hi)
             refine hK.out _ _ ⟨((HB.out.cell (World.block_lt_of_cell? w _ hw298_0)).trans hw298_0), ((HB.out.cell (World.block_lt_of_cell? w _ hw298_1)).trans hw298_1), ((HB.out.cell (World.block_lt_of_cell? w _ hw298_2)).trans hw298_2), ((HB.out.cell (World.block_lt_of_cell? w _ hw298_3)).trans hw298_3), ((HB.out.cell (World.block_lt_of_cell? w _ hw298_4)).trans hw298_4), ((HB.out.cell (World.block_lt_of_cell? w _ hw298_5)).trans hw298_5), ((HB.out.cell (World.block_lt_of_cell? w _ hw298_6)).trans hw298_6), ((HB.out.cell (World.block_lt_of_cell? w _ hw299_0)).trans hw299_0), ((HB.out.cell (World.block_lt_of_cell? w _ hw299_1)).trans hw299_1), ((HB.out.cell (World.block_lt_of_cell? w _ hw299_2)).trans hw299_2), ((HB.out.cell (World.block_lt_of_cell? w _ hw299_3)).trans hw299_3), ((HB.out.cell (World.block_lt_of_cell? w _ hw299_4)).trans hw299_4), ((HB.out.cell (World.block_lt_of_cell? w _ hw299_5)).trans hw299_5), ((HB.out.cell (World.block_lt_of_cell? w _ hw299_6)).trans hw299_6)⟩ (fun hHeld => ?_)
             clear hK K
             refine sqN_ 25 ?_
             refine sqP_ 9 26 (fb 10 1023) (any_of HT_.out (by kernel_rfl)) ?_
             refine done_ (done_of HT_.out (by kernel_rfl)) ?_
             try go_wp2
             go_roundg k1
             case measure => have := HK1.out; omega
             case rel => exact ⟨(wrap64 (x5_1 + 1)), (by first | rfl | (simp; done) | (simp [*]; done)), H', ⟨by have := HK1.out; omega⟩, ⟨bb_⟩⟩
           · replace c8 := Bool.eq_false_iff.mpr c8
             subst c8
             have H1 : (some false) = some r := by rw [if_neg (show ¬ (false = true) by decide)] at H; exact H
             clear H
             have H := H1
             clear H1
             obtain rfl := Option.some.inj H
             try go_wp2
             have n0_ := Aside0.mk (below_drew1 HB.out)
             clear HB
             have HB := n0_
             clear n0_
             have p298 : 0 ≤ (x5_1 : Int) := of_decide_eq_true (by first | (with_reducible assumption) | assumption)
             have q298 : x5_1 < (l0.length : Int) := of_decide_eq_true (by first | (with_reducible assumption) | assumption)
             obtain ⟨ad298, e298, hx298_0, hx298_1, hx298_2, hx298_3, hx298_4, hx298_5, hx298_6⟩ := at_T65 HR0.out x5_1 p298 q298
             have hw298_6 := hx298_6
             have hw298_5 := hx298_5
             have hw298_4 := hx298_4
             have hw298_3 := hx298_3
             have hw298_2 := hx298_2
             have hw298_1 := hx298_1
             have hw298_0 := hx298_0
             cases e298
             replace hx298_0 := cel HB hx298_0
             replace hx298_1 := cel HB hx298_1
             replace hx298_2 := cel HB hx298_2
             replace hx298_3 := cel HB hx298_3
             replace hx298_4 := cel HB hx298_4
             replace hx298_5 := cel HB hx298_5
             replace hx298_6 := cel HB hx298_6
             replace p298 := eq_true p298
             replace q298 := eq_true q298
             have p299 : 0 ≤ (x5_1 : Int) := of_decide_eq_true (by first | (with_reducible assumption) | assumption)
             have q299 : x5_1 < (l1.length : Int) := of_decide_eq_true (by first | (with_reducible assumption) | assumption)
             obtain ⟨ad299, e299, hx299_0, hx299_1, hx299_2, hx299_3, hx299_4, hx299_5, hx299_6⟩ := at_T65 HR1.out x5_1 p299 q299
             have hw299_6 := hx299_6
             have hw299_5 := hx299_5
             have hw299_4 := hx299_4
             have hw299_3 := hx299_3
             have hw299_2 := hx299_2
             have hw299_1 := hx299_1
             have hw299_0 := hx299_0
             cases e299
             replace hx299_0 := cel HB hx299_0
             replace hx299_1 := cel HB hx299_1
             replace hx299_2 := cel HB hx299_2
             replace hx299_3 := cel HB hx299_3
             replace hx299_4 := cel HB hx299_4
             replace hx299_5 := cel HB hx299_5
             replace hx299_6 := cel HB hx299_6
             replace p299 := eq_true p299
             replace q299 := eq_true q299
             refine start_ (n := 10) (S := fun w' => w'.cell? (ad298.add ((x5_1).toNat * 7)) = some (.int .i64 ((rd_T65 l0 x5_1).f0)) ∧ w'.cell? ⟨(ad298.add ((x5_1).toNat * 7)).block, (ad298.add ((x5_1).toNat * 7)).off + 1, none⟩ = some (.int .i64 ((rd_T65 l0 x5_1).f1)) ∧ w'.cell? ⟨(ad298.add ((x5_1).toNat * 7)).block, (ad298.add ((x5_1).toNat * 7)).off + 2, none⟩ = some (.string ((rd_T65 l0 x5_1).f2)) ∧ w'.cell? ⟨(ad298.add ((x5_1).toNat * 7)).block, (ad298.add ((x5_1).toNat * 7)).off + 3, none⟩ = some (.int .i64 ((rd_T65 l0 x5_1).f3)) ∧ w'.cell? ⟨(ad298.add ((x5_1).toNat * 7)).block, (ad298.add ((x5_1).toNat * 7)).off + 4, none⟩ = some (.bool ((rd_T65 l0 x5_1).f4)) ∧ w'.cell? ⟨(ad298.add ((x5_1).toNat * 7)).block, (ad298.add ((x5_1).toNat * 7)).off + 5, none⟩ = some (.bool ((rd_T65 l0 x5_1).f5)) ∧ w'.cell? ⟨(ad298.add ((x5_1).toNat * 7)).block, (ad298.add ((x5_1).toNat * 7)).off + 6, none⟩ = some (.bool ((rd_T65 l0 x5_1).f6)) ∧ w'.cell? (ad299.add ((x5_1).toNat * 7)) = some (.int .i64 ((rd_T65 l1 x5_1).f0)) ∧ w'.cell? ⟨(ad299.add ((x5_1).toNat * 7)).block, (ad299.add ((x5_1).toNat * 7)).off + 1, none⟩ = some (.int .i64 ((rd_T65 l1 x5_1).f1)) ∧ w'.cell? ⟨(ad299.add ((x5_1).toNat * 7)).block, (ad299.add ((x5_1).toNat * 7)).off + 2, none⟩ = some (.string ((rd_T65 l1 x5_1).f2)) ∧ w'.cell? ⟨(ad299.add ((x5_1).toNat * 7)).block, (ad299.add ((x5_1).toNat * 7)).off + 3, none⟩ = some (.int .i64 ((rd_T65 l1 x5_1).f3)) ∧ w'.cell? ⟨(ad299.add ((x5_1).toNat * 7)).block, (ad299.add ((x5_1).toNat * 7)).off + 4, none⟩ = some (.bool ((rd_T65 l1 x5_1).f4)) ∧ w'.cell? ⟨(ad299.add ((x5_1).toNat * 7)).block, (ad299.add ((x5_1).toNat * 7)).off + 5, none⟩ = some (.bool ((rd_T65 l1 x5_1).f5)) ∧ w'.cell? ⟨(ad299.add ((x5_1).toNat * 7)).block, (ad299.add ((x5_1).toNat * 7)).off + 6, none⟩ = some (.bool ((rd_T65 l1 x5_1).f6))) (ds := []) (fb 10 0) (by kernel_rfl) rfl rfl ⟨((HB.out.cell (World.block_lt_of_cell? w _ hw298_0)).trans hw298_0), ((HB.out.cell (World.block_lt_of_cell? w _ hw298_1)).trans hw298_1), ((HB.out.cell (World.block_lt_of_cell? w _ hw298_2)).trans hw298_2), ((HB.out.cell (World.block_lt_of_cell? w _ hw298_3)).trans hw298_3), ((HB.out.cell (World.block_lt_of_cell? w _ hw298_4)).trans hw298_4), ((HB.out.cell (World.block_lt_of_cell? w _ hw298_5)).trans hw298_5), ((HB.out.cell (World.block_lt_of_cell? w _ hw298_6)).trans hw298_6), ((HB.out.cell (World.block_lt_of_cell? w _ hw299_0)).trans hw299_0), ((HB.out.cell (World.block_lt_of_cell? w _ hw299_1)).trans hw299_1), ((HB.out.cell (World.block_lt_of_cell? w _ hw299_2)).trans hw299_2), ((HB.out.cell (World.block_lt_of_cell? w _ hw299_3)).trans hw299_3), ((HB.out.cell (World.block_lt_of_cell? w _ hw299_4)).trans hw299_4), ((HB.out.cell (World.block_lt_of_cell? w _ hw299_5)).trans hw299_5), ((HB.out.cell (World.block_lt_of_cell? w _ hw299_6)).trans hw299_6)⟩ (fun hHeld => ?_); refine with_tabW laws_eqEventS.tab6 laws_eqEventS.bits6 (fun HT_ HW_ => ?_)
             generalize wr.drew = w11 at HB hx298_0 hx298_1 hx298_2 hx298_3 hx298_4 hx298_5 hx298_6 hx299_0 hx299_1 hx299_2 hx299_3 hx299_4 hx299_5 hx299_6 hHeld ⊢
             refine sqP_ 0 17 (fb 10 1) (any_of HT_.out (by kernel_rfl)) ?_
             refine sqP_ 1 18 (fb 10 3) (any_of HT_.out (by kernel_rfl)) ?_
             refine sqP_ 2 19 (fb 10 7) (any_of HT_.out (by kernel_rfl)) ?_
             refine sqP_ 4 21 (fb 10 23) (any_of HT_.out (by kernel_rfl)) ?_
             refine sqP_ 5 22 (fb 10 55) (any_of HT_.out (by kernel_rfl)) ?_
             refine sqP_ 6 23 (fb 10 119) (any_of HT_.out (by kernel_rfl)) ?_
             refine sqT_ 3 20 (fb 10 127) (take_ofW HT_.out HW_.out (by kernel_rfl)) hHeld ?_
             refine sqT_ 7 24 (fb 10 255) (take_ofW HT_.out HW_.out (by kernel_rfl)) hHeld ?_
             refine one_ (i := 8) (N := some 25) (fb 10 511) rfl rfl (one_of HT_.out (by kernel_rfl)) (by decide) (fun K hK => ?_)
             refine goes_ Tryz.func115 (by kernel_rfl) rfl #[.agg #[.int .i64 ((rd_T65 l0 x5_1).f0), .int .i64 ((rd_T65 l0 x5_1).f1), .string ((rd_T65 l0 x5_1).f2), .int .i64 ((rd_T65 l0 x5_1).f3), .bool ((rd_T65 l0 x5_1).f4), .bool ((rd_T65 l0 x5_1).f5), .bool ((rd_T65 l0 x5_1).f6)], .agg #[.int .i64 ((rd_T65 l1 x5_1).f0), .int .i64 ((rd_T65 l1 x5_1).f1), .string ((rd_T65 l1 x5_1).f2), .int .i64 ((rd_T65 l1 x5_1).f3), .bool ((rd_T65 l1 x5_1).f4), .bool ((rd_T65 l1 x5_1).f5), .bool ((rd_T65 l1 x5_1).f6)]] (by rfl) rfl rfl (by (try simp only [List.map_toArray, List.map_cons, List.map_nil]); first | done | rfl | (simp only [List.length_drop, List.length_take]; rfl)) ?_
             with_reducible refine (laws_eqEvent.calls ((rd_T65 l0 x5_1).f0) ((rd_T65 l0 x5_1).f1) ((rd_T65 l0 x5_1).f2) ((rd_T65 l0 x5_1).f3) ((rd_T65 l0 x5_1).f4) ((rd_T65 l0 x5_1).f5) ((rd_T65 l0 x5_1).f6) ((rd_T65 l1 x5_1).f0) ((rd_T65 l1 x5_1).f1) ((rd_T65 l1 x5_1).f2) ((rd_T65 l1 x5_1).f3) ((rd_T65 l1 x5_1).f4) ((rd_T65 l1 x5_1).f5) ((rd_T65 l1 x5_1).f6) false _ A7.out).mono ?_
             rintro e w12 ⟨rfl, hb⟩
             refine ⟨_, rfl, ?_⟩
             have n0_ := Aside0.mk (bs_ hb)
             clear HB
             have HB := n0_
             clear n0_
             (try clear hb)
             (try clear hb2)
             (try clear hk)
             (try clear hi)
             refine hK.out _ _ ⟨((HB.out.cell (World.block_lt_of_cell? w _ hw298_0)).trans hw298_0), ((HB.out.cell (World.block_lt_of_cell? w _ hw298_1)).trans hw298_1), ((HB.out.cell (World.block_lt_of_cell? w _ hw298_2)).trans hw298_2), ((HB.out.cell (World.block_lt_of_cell? w _ hw298_3)).trans hw298_3), ((HB.out.cell (World.block_lt_of_cell? w _ hw298_4)).trans hw298_4), ((HB.out.cell (World.block_lt_of_cell? w _ hw298_5)).trans hw298_5), ((HB.out.cell (World.block_lt_of_cell? w _ hw298_6)).trans hw298_6), ((HB.out.cell (World.block_lt_of_cell? w _ hw299_0)).trans hw299_0), ((HB.out.cell (World.block_lt_of_cell? w _ hw299_1)).trans hw299_1), ((HB.out.cell (World.block_lt_of_cell? w _ hw299_2)).trans hw299_2), ((HB.out.cell (World.block_lt_of_cell? w _ hw299_3)).trans hw299_3), ((HB.out.cell (World.block_lt_of_cell? w _ hw299_4)).trans hw299_4), ((HB.out.cell (World.block_lt_of_cell? w _ hw299_5)).trans hw299_5), ((HB.out.cell (World.block_lt_of_cell? w _ hw299_6)).trans hw299_6)⟩ (fun hHeld => ?_)
             clear hK K
             refine sqN_ 25 ?_
             refine sqP_ 9 26 (fb 10 1023) (any_of HT_.out (by kernel_rfl)) ?_
             refine done_ (done_of HT_.out (by kernel_rfl)) ?_
             try go_wp2
             go_ret
             exact ⟨by first | rfl | (simp [errW_none, errW_some] <;> rfl) | (simp [*, errW_none, errW_some] <;> rfl), bb_⟩
         · rw [if_neg c6] at H
           exact absurd H (by simp)
       · rw [if_neg c5] at H
         exact absurd H (by simp)
     · rw [if_neg c4] at H
       have c4b0 : decide (x5_1 < (l0.length : Int)) = false := decide_eq_false c4
       clear c4
       obtain rfl := Option.some.inj H
       go_wp2
       go_ret
       exact ⟨by first | rfl | (simp [errW_none, errW_some] <;> rfl) | (simp [*, errW_none, errW_some] <;> rfl), bb_⟩
 · rw [if_neg c3] at H
   have c3b0 : ((l0.length : Int) == (l1.length : Int)) = false := beq_eq_false_iff_ne.mpr c3
   have c3b1 : ((l0.length : Int) != (l1.length : Int)) = true := bne_iff_ne.mpr c3
   have c3b2 : (l0.length == l1.length) = false := by first | simpa using c3 | (simp at c3 ⊢; omega)
   obtain rfl := Option.some.inj H
   go_enter Tryz.func58, Tryz.ntmps58
   go_wp2
   go_ret
   exact ⟨by first | rfl | (simp [errW_none, errW_some] <;> rfl) | (simp [*, errW_none, errW_some] <;> rfl), bb_⟩

end Go.Proofs.YtmfbkbbgokjhnaaGreat.F
namespace Go.Proofs.YtmfbkbbgokjhnaaGreat.F
open Go.RowKit Go.Proofs.YtmfbkbbgokjhnaaGreatW.PrintWords Go.Proofs.YtmfbkbbgokjhnaaGreatW.PrintLast Go.Proofs.YtmfbkbbgokjhnaaGreatW.PrintMore
attribute [local go_sem] max2_int min2_int max_two min_two max_three min_three max_four min_four   -- for this text's walks alone
set_option linter.unusedVariables false
set_option linter.unusedSimpArgs false

/-! ### laws_eqClause: function 116 -/
def laws_eqClause.f (a0_0 : ByteArray) (a0_1 : Int) (a0_2 : Int) (a0_3 : Int) (a0_4 : Int) (a0_5 : Int) (a0_6 : ByteArray) (a1_0 : ByteArray) (a1_1 : Int) (a1_2 : Int) (a1_3 : Int) (a1_4 : Int) (a1_5 : Int) (a1_6 : ByteArray) : Option (Bool) := if a0_0.toList = a1_0.toList then (if a0_1 = a1_1 then (if a0_2 = a1_2 then (if a0_3 = a1_3 then (if a0_4 = a1_4 then (if a0_5 = a1_5 then (if a0_6.toList = a1_6.toList then (some true) else (some false)) else (some false)) else (some false)) else (some false)) else (some false)) else (some false)) else (some false)
set_option maxHeartbeats 8000000 in
set_option maxRecDepth 100000 in
theorem laws_eqClause.calls (a0_0 : ByteArray) (a0_1 : Int) (a0_2 : Int) (a0_3 : Int) (a0_4 : Int) (a0_5 : Int) (a0_6 : ByteArray) (a1_0 : ByteArray) (a1_1 : Int) (a1_2 : Int) (a1_3 : Int) (a1_4 : Int) (a1_5 : Int) (a1_6 : ByteArray) (r : Bool) (w : World) (h : laws_eqClause.f a0_0 a0_1 a0_2 a0_3 a0_4 a0_5 a0_6 a1_0 a1_1 a1_2 a1_3 a1_4 a1_5 a1_6 = some r) :
 Calls Tryz.prog 116 #[.agg #[.string a0_0, .int .i64 a0_1, .int .i64 a0_2, .int .i64 a0_3, .int .i64 a0_4, .int .i64 a0_5, .string a0_6], .agg #[.string a1_0, .int .i64 a1_1, .int .i64 a1_2, .int .i64 a1_3, .int .i64 a1_4, .int .i64 a1_5, .string a1_6]] w fun e w' => e = .returned (.bool r) ∧ Below w.heap.size w w' := by
 have hu105 := Tryz.underlying105
 have HB := Aside0.mk (Below.refl w.heap.size w)
 have H : (if a0_0.toList = a1_0.toList then (if a0_1 = a1_1 then (if a0_2 = a1_2 then (if a0_3 = a1_3 then (if a0_4 = a1_4 then (if a0_5 = a1_5 then (if a0_6.toList = a1_6.toList then (some true) else (some false)) else (some false)) else (some false)) else (some false)) else (some false)) else (some false)) else (some false)) = some r := h
 clear h
 by_cases c3 : a0_0.toList = a1_0.toList
 rw [if_pos c3] at H
 have c3b0 : (a0_0.toList == a1_0.toList) = true := beq_iff_eq.mpr c3
 have c3b1 : (a0_0.toList != a1_0.toList) = false := bne_eq_false_iff_eq.mpr c3
 clear c3
 by_cases c4 : a0_1 = a1_1
 rw [if_pos c4] at H
 have c4b0 : (a0_1 == a1_1) = true := beq_iff_eq.mpr c4
 have c4b1 : (a0_1 != a1_1) = false := bne_eq_false_iff_eq.mpr c4
 clear c4
 by_cases c5 : a0_2 = a1_2
 rw [if_pos c5] at H
 have c5b0 : (a0_2 == a1_2) = true := beq_iff_eq.mpr c5
 have c5b1 : (a0_2 != a1_2) = false := bne_eq_false_iff_eq.mpr c5
 clear c5
 by_cases c6 : a0_3 = a1_3
 rw [if_pos c6] at H
 have c6b0 : (a0_3 == a1_3) = true := beq_iff_eq.mpr c6
 have c6b1 : (a0_3 != a1_3) = false := bne_eq_false_iff_eq.mpr c6
 clear c6
 by_cases c7 : a0_4 = a1_4
 rw [if_pos c7] at H
 have c7b0 : (a0_4 == a1_4) = true := beq_iff_eq.mpr c7
 have c7b1 : (a0_4 != a1_4) = false := bne_eq_false_iff_eq.mpr c7
 clear c7
 by_cases c8 : a0_5 = a1_5
 rw [if_pos c8] at H
 have c8b0 : (a0_5 == a1_5) = true := beq_iff_eq.mpr c8
 have c8b1 : (a0_5 != a1_5) = false := bne_eq_false_iff_eq.mpr c8
 clear c8
 by_cases c9 : a0_6.toList = a1_6.toList
 rw [if_pos c9] at H
 have c9b0 : (a0_6.toList == a1_6.toList) = true := beq_iff_eq.mpr c9
 have c9b1 : (a0_6.toList != a1_6.toList) = false := bne_eq_false_iff_eq.mpr c9
 clear c9
 obtain rfl := Option.some.inj H
 rotate_left
 rw [if_neg c9] at H
 have c9b0 : (a0_6.toList == a1_6.toList) = false := beq_eq_false_iff_ne.mpr c9
 have c9b1 : (a0_6.toList != a1_6.toList) = true := bne_iff_ne.mpr c9
 obtain rfl := Option.some.inj H
 rotate_left
 rw [if_neg c8] at H
 have c8b0 : (a0_5 == a1_5) = false := beq_eq_false_iff_ne.mpr c8
 have c8b1 : (a0_5 != a1_5) = true := bne_iff_ne.mpr c8
 obtain rfl := Option.some.inj H
 rotate_left
 rw [if_neg c7] at H
 have c7b0 : (a0_4 == a1_4) = false := beq_eq_false_iff_ne.mpr c7
 have c7b1 : (a0_4 != a1_4) = true := bne_iff_ne.mpr c7
 obtain rfl := Option.some.inj H
 rotate_left
 rw [if_neg c6] at H
 have c6b0 : (a0_3 == a1_3) = false := beq_eq_false_iff_ne.mpr c6
 have c6b1 : (a0_3 != a1_3) = true := bne_iff_ne.mpr c6
 obtain rfl := Option.some.inj H
 rotate_left
 rw [if_neg c5] at H
 have c5b0 : (a0_2 == a1_2) = false := beq_eq_false_iff_ne.mpr c5
 have c5b1 : (a0_2 != a1_2) = true := bne_iff_ne.mpr c5
 obtain rfl := Option.some.inj H
 rotate_left
 rw [if_neg c4] at H
 have c4b0 : (a0_1 == a1_1) = false := beq_eq_false_iff_ne.mpr c4
 have c4b1 : (a0_1 != a1_1) = true := bne_iff_ne.mpr c4
 obtain rfl := Option.some.inj H
 rotate_left
 rw [if_neg c3] at H
 have c3b0 : (a0_0.toList == a1_0.toList) = false := beq_eq_false_iff_ne.mpr c3
 have c3b1 : (a0_0.toList != a1_0.toList) = true := bne_iff_ne.mpr c3
 obtain rfl := Option.some.inj H
 rotate_left
 all_goals
  go_enter Tryz.func116, Tryz.ntmps116
  go_wp2_with (first | ((with_reducible refine gate_dst (N := 2) rfl ?_); refine box_event ?hg (N := 2) ?hd (cs := #[.string a0_0, .int .i64 a0_1, .int .i64 a0_2, .int .i64 a0_3, .int .i64 a0_4, .int .i64 a0_5, .string a0_6]) (t := 105) ?hr ?_; (case hd => rfl); (case hg => rfl); (case hr => first | (go_simp; done) | (go_simp; rfl)); intro gb301 hg w10 hbox hb; have n0_ := Aside0.mk (bs_ hb); have n1_ := Aside0.mk (hbox); have n2_ := Aside0.mk ((by rw [hg]; exact (bz_) : w.heap.size ≤ gb301)); have n3_ := Aside0.mk ((by rw [hg]; exact (bz_) : w.heap.size ≤ gb301)); clear HB; have HB := n0_; have BK301 := n1_; have GW301 := n2_; have GE301 := n3_; clear n0_ n1_ n2_ n3_; clear hb hbox hg) | ((with_reducible refine gate_dst (N := 3) rfl ?_); refine box_event ?hg (N := 3) ?hd (cs := #[.string a1_0, .int .i64 a1_1, .int .i64 a1_2, .int .i64 a1_3, .int .i64 a1_4, .int .i64 a1_5, .string a1_6]) (t := 105) ?hr ?_; (case hd => rfl); (case hg => rfl); (case hr => first | (go_simp; done) | (go_simp; rfl)); intro gb302 hg w11 hbox hb; have n0_ := Aside0.mk (blk_below (g := gb301) (o := .cells #[.string a0_0, .int .i64 a0_1, .int .i64 a0_2, .int .i64 a0_3, .int .i64 a0_4, .int .i64 a0_5, .string a0_6] 105 (0, 0)) (by (with_reducible repeat (first | refine blk_drewN ?_ _ | refine blk_drew ?_ | refine blk_alloc ?_ _)); exact BK301.out) hb); have n1_ := Aside0.mk (bs_ hb); have n2_ := Aside0.mk (hbox); have n3_ := Aside0.mk ((by rw [hg]; exact (bz_) : w.heap.size ≤ gb302)); have n4_ := Aside0.mk ((by rw [hg]; exact (bz_) : w.heap.size ≤ gb302)); have n5_ := Aside0.mk ((by rw [hg]; exact Nat.ne_of_lt (blk_lt (g := gb301) (o := .cells #[.string a0_0, .int .i64 a0_1, .int .i64 a0_2, .int .i64 a0_3, .int .i64 a0_4, .int .i64 a0_5, .string a0_6] 105 (0, 0)) (by (with_reducible repeat (first | refine blk_drewN ?_ _ | refine blk_drew ?_ | refine blk_alloc ?_ _)); exact BK301.out)) : gb301 ≠ gb302)); have n6_ := Aside0.mk ((by rw [hg]; exact Nat.ne_of_gt (blk_lt (g := gb301) (o := .cells #[.string a0_0, .int .i64 a0_1, .int .i64 a0_2, .int .i64 a0_3, .int .i64 a0_4, .int .i64 a0_5, .string a0_6] 105 (0, 0)) (by (with_reducible repeat (first | refine blk_drewN ?_ _ | refine blk_drew ?_ | refine blk_alloc ?_ _)); exact BK301.out)) : gb302 ≠ gb301)); clear BK301; clear HB; have BK301 := n0_; have HB := n1_; have BK302 := n2_; have GW302 := n3_; have GE302 := n4_; have NB301_302 := n5_; have NB302_301 := n6_; clear n0_ n1_ n2_ n3_ n4_ n5_ n6_; clear hb hbox hg; have hnb12 := NB301_302.out; have hnc12 := NB302_301.out; have hcz13_0 := bk BK301 0; have hcz13_1 := bk BK301 1; have hcz13_2 := bk BK301 2; have hcz13_3 := bk BK301 3; have hcz13_4 := bk BK301 4; have hcz13_5 := bk BK301 5; have hcz13_6 := bk BK301 6; have hfz13_0 := blk_frozen BK301.out 0; have hfz13_1 := blk_frozen BK301.out 1; have hfz13_2 := blk_frozen BK301.out 2; have hfz13_3 := blk_frozen BK301.out 3; have hfz13_4 := blk_frozen BK301.out 4; have hfz13_5 := blk_frozen BK301.out 5; have hfz13_6 := blk_frozen BK301.out 6; have hcz14_0 := bk BK302 0; have hcz14_1 := bk BK302 1; have hcz14_2 := bk BK302 2; have hcz14_3 := bk BK302 3; have hcz14_4 := bk BK302 4; have hcz14_5 := bk BK302 5; have hcz14_6 := bk BK302 6; have hfz14_0 := blk_frozen BK302.out 0; have hfz14_1 := blk_frozen BK302.out 1; have hfz14_2 := blk_frozen BK302.out 2; have hfz14_3 := blk_frozen BK302.out 3; have hfz14_4 := blk_frozen BK302.out 4; have hfz14_5 := blk_frozen BK302.out 5; have hfz14_6 := blk_frozen BK302.out 6))
  go_ret
  exact ⟨by first | rfl | (simp [errW_none, errW_some] <;> rfl) | (simp [*, errW_none, errW_some] <;> rfl), bb_⟩

end Go.Proofs.YtmfbkbbgokjhnaaGreat.F
namespace Go.Proofs.YtmfbkbbgokjhnaaGreat.F
open Go.RowKit Go.Proofs.YtmfbkbbgokjhnaaGreatW.PrintWords Go.Proofs.YtmfbkbbgokjhnaaGreatW.PrintLast Go.Proofs.YtmfbkbbgokjhnaaGreatW.PrintMore
attribute [local go_sem] max2_int min2_int max_two min_two max_three min_three max_four min_four   -- for this text's walks alone
set_option linter.unusedVariables false
set_option linter.unusedSimpArgs false

/-! ### laws_eqClauseS: function 59 -/
def laws_eqClauseS.l0 : Nat → List (S105) → List (S105) → Int → Option (Bool)
 | 0, _, _, _ => none
 | k + 1, x0, x1, x5 => if x5 < (x0.length : Int) then (if 0 ≤ x5 then (if x5 < (x1.length : Int) then ((laws_eqClause.f ((rd_T105 x0 x5).f0) ((rd_T105 x0 x5).f1) ((rd_T105 x0 x5).f2) ((rd_T105 x0 x5).f3) ((rd_T105 x0 x5).f4) ((rd_T105 x0 x5).f5) ((rd_T105 x0 x5).f6) ((rd_T105 x1 x5).f0) ((rd_T105 x1 x5).f1) ((rd_T105 x1 x5).f2) ((rd_T105 x1 x5).f3) ((rd_T105 x1 x5).f4) ((rd_T105 x1 x5).f5) ((rd_T105 x1 x5).f6)).bind fun t305 => (if t305 = true then (laws_eqClauseS.l0 k x0 x1 (wrap64 (x5 + 1))) else (some false))) else (none)) else (none)) else (some true)
def laws_eqClauseS.f (k : Nat) (l0 : List (S105)) (l1 : List (S105)) : Option (Bool) := if (l0.length : Int) = (l1.length : Int) then (laws_eqClauseS.l0 k l0 l1 0) else (some false)
theorem laws_eqClauseS.mono_l : ∀ k, (∀ y0 y1 y2, LeO (laws_eqClauseS.l0 k y0 y1 y2) (laws_eqClauseS.l0 (k + 1) y0 y1 y2))
 | 0 => fun _ _ _ r h => by simp [laws_eqClauseS.l0] at h
 | k + 1 => by
  have ih0 := laws_eqClauseS.mono_l k
  · intro y0 y1 y2
    unfold laws_eqClauseS.l0
    repeat' first
    | (with_reducible exact ih0 _ _ _)
    | (with_reducible exact LeO.refl _)
    | (with_reducible exact LeO.none _)
    | (with_reducible refine LeO.ite ?_ ?_)
    | (with_reducible refine LeO.bind ?_ (fun _ => ?_))
    | exact ih0 _ _ _
    | exact LeO.none _
    | refine LeO.ite ?_ ?_
    | refine LeO.bind ?_ (fun _ => ?_)
theorem laws_eqClauseS.mono : ∀ a0 a1 k, LeO (laws_eqClauseS.f k a0 a1) (laws_eqClauseS.f (k + 1) a0 a1) := by
 intro a0 a1 k
 have ih0 := laws_eqClauseS.mono_l k
 unfold laws_eqClauseS.f
 repeat' first
  | (with_reducible exact ih0 _ _ _)
  | (with_reducible exact LeO.refl _)
  | (with_reducible exact LeO.none _)
  | (with_reducible refine LeO.ite ?_ ?_)
  | (with_reducible refine LeO.bind ?_ (fun _ => ?_))
  | exact ih0 _ _ _
  | exact LeO.none _
  | refine LeO.ite ?_ ?_
  | refine LeO.bind ?_ (fun _ => ?_)
def laws_eqClauseS.T6 : Bool × List (List Nat × List Nat) := (true, [([], []), ([], []), ([0, 1], [0, 1]), ([2], [2]), ([], []), ([], []), ([4, 5], [4, 5]), ([6], [6]), ([3, 7], [3, 7]), ([8], [8])])
def laws_eqClauseS.B6 : List Nat := [0, 0, 3, 7, 0, 0, 48, 112, 255, 511]
theorem laws_eqClauseS.tab6 : rtab .any (opsOf Tryz.f59 6) = laws_eqClauseS.T6 := by kernel_rfl
theorem laws_eqClauseS.bits6 : waitsOk laws_eqClauseS.T6.2 laws_eqClauseS.B6 = true := by kernel_rfl
set_option maxHeartbeats 8000000 in
set_option maxRecDepth 100000 in
theorem laws_eqClauseS.calls (k : Nat) (A0 : Option Addr) (c0 : Nat) (l0 : List (S105)) (A1 : Option Addr) (c1 : Nat) (l1 : List (S105)) (r : Bool) (w : World) (hr0 : Kd.C k105 w A0 l0.length l0) (hc0 : l0.length ≤ c0) (hr1 : Kd.C k105 w A1 l1.length l1) (hc1 : l1.length ≤ c1) (h : laws_eqClauseS.f k l0 l1 = some r) :
 Calls Tryz.prog 59 #[.slice A0 l0.length c0, .slice A1 l1.length c1] w fun e w' => e = .returned (.bool r) ∧ Below w.heap.size w w' := by
 have hu105 := Tryz.underlying105
 have HR0 := Aside0.mk hr0
 have HC0 := Aside0.mk hc0
 clear hr0 hc0
 have HR1 := Aside0.mk hr1
 have HC1 := Aside0.mk hc1
 clear hr1 hc1
 have HB := Aside0.mk (Below.refl w.heap.size w)
 have H : (if (l0.length : Int) = (l1.length : Int) then (laws_eqClauseS.l0 k l0 l1 0) else (some false)) = some r := h
 clear h
 by_cases c3 : (l0.length : Int) = (l1.length : Int)
 · rw [if_pos c3] at H
   have c3b0 : ((l0.length : Int) == (l1.length : Int)) = true := beq_iff_eq.mpr c3
   have c3b1 : ((l0.length : Int) != (l1.length : Int)) = false := bne_eq_false_iff_eq.mpr c3
   have c3b2 : (l0.length == l1.length) = true := by first | simpa using c3 | (simp at c3 ⊢; omega)
   clear c3
   have H' := Aside0.mk H
   clear H
   go_enter Tryz.func59, Tryz.ntmps59
   go_wp2
   go_loopg [5] k (fun kq v5 w' => ∃ (x5_1 : Int), v5 = .int .i64 x5_1 ∧ Aside0 (laws_eqClauseS.l0 kq l0 l1 x5_1 = some r) ∧ Aside0 (kq ≤ k) ∧ Aside0 (Below w.heap.size w w'))
   case atStart => exact ⟨(0), (by first | rfl | (simp; done) | (simp [*]; done)), H', ⟨Nat.le_refl _⟩, ⟨bb_⟩⟩
   case round =>
    clear H'
    try clear c1
    try clear p2
    try clear c3
    try clear c3b0
    try clear c3b1
    try clear c3b2
    obtain ⟨x5_1, rfl, HA, HK1, HB⟩ := hrel
    cases gk with
    | zero => exact absurd HA.out (by simp [laws_eqClauseS.l0])
    | succ k1 =>
     have H := HA.out
     clear HA
     simp only [laws_eqClauseS.l0] at H
     by_cases c4 : x5_1 < (l0.length : Int)
     · rw [if_pos c4] at H
       have c4b0 : decide (x5_1 < (l0.length : Int)) = true := decide_eq_true c4
       clear c4
       by_cases c5 : 0 ≤ x5_1
       · rw [if_pos c5] at H
         have c5b0 : decide (0 ≤ x5_1) = true := decide_eq_true c5
         clear c5
         by_cases c6 : x5_1 < (l1.length : Int)
         · rw [if_pos c6] at H
           have c6b0 : decide (x5_1 < (l1.length : Int)) = true := decide_eq_true c6
           clear c6
           replace H := Option.bind_eq_some_iff.mp H
           obtain ⟨t305, A70, H⟩ := H
           replace H : (if t305 = true then (laws_eqClauseS.l0 k1 l0 l1 (wrap64 (x5_1 + 1))) else (some false)) = some r := H
           have A7 := Aside0.mk A70
           clear A70
           by_cases c8 : t305 = true
           · subst c8
             have H1 : (laws_eqClauseS.l0 k1 l0 l1 (wrap64 (x5_1 + 1))) = some r := by rw [if_pos rfl] at H; exact H
             clear H
             have H := H1
             clear H1
             have H' := Aside0.mk H
             clear H
             try go_wp2
             have n0_ := Aside0.mk (below_drew1 HB.out)
             clear HB
             have HB := n0_
             clear n0_
             have p303 : 0 ≤ (x5_1 : Int) := of_decide_eq_true (by first | (with_reducible assumption) | assumption)
             have q303 : x5_1 < (l0.length : Int) := of_decide_eq_true (by first | (with_reducible assumption) | assumption)
             obtain ⟨ad303, e303, hx303_0, hx303_1, hx303_2, hx303_3, hx303_4, hx303_5, hx303_6⟩ := at_T105 HR0.out x5_1 p303 q303
             have hw303_6 := hx303_6
             have hw303_5 := hx303_5
             have hw303_4 := hx303_4
             have hw303_3 := hx303_3
             have hw303_2 := hx303_2
             have hw303_1 := hx303_1
             have hw303_0 := hx303_0
             cases e303
             replace hx303_0 := cel HB hx303_0
             replace hx303_1 := cel HB hx303_1
             replace hx303_2 := cel HB hx303_2
             replace hx303_3 := cel HB hx303_3
             replace hx303_4 := cel HB hx303_4
             replace hx303_5 := cel HB hx303_5
             replace hx303_6 := cel HB hx303_6
             replace p303 := eq_true p303
             replace q303 := eq_true q303
             have p304 : 0 ≤ (x5_1 : Int) := of_decide_eq_true (by first | (with_reducible assumption) | assumption)
             have q304 : x5_1 < (l1.length : Int) := of_decide_eq_true (by first | (with_reducible assumption) | assumption)
             obtain ⟨ad304, e304, hx304_0, hx304_1, hx304_2, hx304_3, hx304_4, hx304_5, hx304_6⟩ := at_T105 HR1.out x5_1 p304 q304
             have hw304_6 := hx304_6
             have hw304_5 := hx304_5
             have hw304_4 := hx304_4
             have hw304_3 := hx304_3
             have hw304_2 := hx304_2
             have hw304_1 := hx304_1
             have hw304_0 := hx304_0
             cases e304
             replace hx304_0 := cel HB hx304_0
             replace hx304_1 := cel HB hx304_1
             replace hx304_2 := cel HB hx304_2
             replace hx304_3 := cel HB hx304_3
             replace hx304_4 := cel HB hx304_4
             replace hx304_5 := cel HB hx304_5
             replace hx304_6 := cel HB hx304_6
             replace p304 := eq_true p304
             replace q304 := eq_true q304
             refine start_ (n := 10) (S := fun w' => w'.cell? (ad303.add ((x5_1).toNat * 7)) = some (.string ((rd_T105 l0 x5_1).f0)) ∧ w'.cell? ⟨(ad303.add ((x5_1).toNat * 7)).block, (ad303.add ((x5_1).toNat * 7)).off + 1, none⟩ = some (.int .i64 ((rd_T105 l0 x5_1).f1)) ∧ w'.cell? ⟨(ad303.add ((x5_1).toNat * 7)).block, (ad303.add ((x5_1).toNat * 7)).off + 2, none⟩ = some (.int .i64 ((rd_T105 l0 x5_1).f2)) ∧ w'.cell? ⟨(ad303.add ((x5_1).toNat * 7)).block, (ad303.add ((x5_1).toNat * 7)).off + 3, none⟩ = some (.int .i64 ((rd_T105 l0 x5_1).f3)) ∧ w'.cell? ⟨(ad303.add ((x5_1).toNat * 7)).block, (ad303.add ((x5_1).toNat * 7)).off + 4, none⟩ = some (.int .i64 ((rd_T105 l0 x5_1).f4)) ∧ w'.cell? ⟨(ad303.add ((x5_1).toNat * 7)).block, (ad303.add ((x5_1).toNat * 7)).off + 5, none⟩ = some (.int .i64 ((rd_T105 l0 x5_1).f5)) ∧ w'.cell? ⟨(ad303.add ((x5_1).toNat * 7)).block, (ad303.add ((x5_1).toNat * 7)).off + 6, none⟩ = some (.string ((rd_T105 l0 x5_1).f6)) ∧ w'.cell? (ad304.add ((x5_1).toNat * 7)) = some (.string ((rd_T105 l1 x5_1).f0)) ∧ w'.cell? ⟨(ad304.add ((x5_1).toNat * 7)).block, (ad304.add ((x5_1).toNat * 7)).off + 1, none⟩ = some (.int .i64 ((rd_T105 l1 x5_1).f1)) ∧ w'.cell? ⟨(ad304.add ((x5_1).toNat * 7)).block, (ad304.add ((x5_1).toNat * 7)).off + 2, none⟩ = some (.int .i64 ((rd_T105 l1 x5_1).f2)) ∧ w'.cell? ⟨(ad304.add ((x5_1).toNat * 7)).block, (ad304.add ((x5_1).toNat * 7)).off + 3, none⟩ = some (.int .i64 ((rd_T105 l1 x5_1).f3)) ∧ w'.cell? ⟨(ad304.add ((x5_1).toNat * 7)).block, (ad304.add ((x5_1).toNat * 7)).off + 4, none⟩ = some (.int .i64 ((rd_T105 l1 x5_1).f4)) ∧ w'.cell? ⟨(ad304.add ((x5_1).toNat * 7)).block, (ad304.add ((x5_1).toNat * 7)).off + 5, none⟩ = some (.int .i64 ((rd_T105 l1 x5_1).f5)) ∧ w'.cell? ⟨(ad304.add ((x5_1).toNat * 7)).block, (ad304.add ((x5_1).toNat * 7)).off + 6, none⟩ = some (.string ((rd_T105 l1 x5_1).f6))) (ds := []) (fb 10 0) (by kernel_rfl) rfl rfl ⟨((HB.out.cell (World.block_lt_of_cell? w _ hw303_0)).trans hw303_0), ((HB.out.cell (World.block_lt_of_cell? w _ hw303_1)).trans hw303_1), ((HB.out.cell (World.block_lt_of_cell? w _ hw303_2)).trans hw303_2), ((HB.out.cell (World.block_lt_of_cell? w _ hw303_3)).trans hw303_3), ((HB.out.cell (World.block_lt_of_cell? w _ hw303_4)).trans hw303_4), ((HB.out.cell (World.block_lt_of_cell? w _ hw303_5)).trans hw303_5), ((HB.out.cell (World.block_lt_of_cell? w _ hw303_6)).trans hw303_6), ((HB.out.cell (World.block_lt_of_cell? w _ hw304_0)).trans hw304_0), ((HB.out.cell (World.block_lt_of_cell? w _ hw304_1)).trans hw304_1), ((HB.out.cell (World.block_lt_of_cell? w _ hw304_2)).trans hw304_2), ((HB.out.cell (World.block_lt_of_cell? w _ hw304_3)).trans hw304_3), ((HB.out.cell (World.block_lt_of_cell? w _ hw304_4)).trans hw304_4), ((HB.out.cell (World.block_lt_of_cell? w _ hw304_5)).trans hw304_5), ((HB.out.cell (World.block_lt_of_cell? w _ hw304_6)).trans hw304_6)⟩ (fun hHeld => ?_); refine with_tabW laws_eqClauseS.tab6 laws_eqClauseS.bits6 (fun HT_ HW_ => ?_)
             generalize wr.drew = w9 at HB hx303_0 hx303_1 hx303_2 hx303_3 hx303_4 hx303_5 hx303_6 hx304_0 hx304_1 hx304_2 hx304_3 hx304_4 hx304_5 hx304_6 hHeld ⊢
             refine sqP_ 0 17 (fb 10 1) (any_of HT_.out (by kernel_rfl)) ?_
             refine sqP_ 1 18 (fb 10 3) (any_of HT_.out (by kernel_rfl)) ?_
             refine sqP_ 2 19 (fb 10 7) (any_of HT_.out (by kernel_rfl)) ?_
             refine sqP_ 4 21 (fb 10 23) (any_of HT_.out (by kernel_rfl)) ?_
             refine sqP_ 5 22 (fb 10 55) (any_of HT_.out (by kernel_rfl)) ?_
             refine sqP_ 6 23 (fb 10 119) (any_of HT_.out (by kernel_rfl)) ?_
             refine sqT_ 3 20 (fb 10 127) (take_ofW HT_.out HW_.out (by kernel_rfl)) hHeld ?_
             refine sqT_ 7 24 (fb 10 255) (take_ofW HT_.out HW_.out (by kernel_rfl)) hHeld ?_
             refine one_ (i := 8) (N := some 25) (fb 10 511) rfl rfl (one_of HT_.out (by kernel_rfl)) (by decide) (fun K hK => ?_)
             refine goes_ Tryz.func116 (by kernel_rfl) rfl #[.agg #[.string ((rd_T105 l0 x5_1).f0), .int .i64 ((rd_T105 l0 x5_1).f1), .int .i64 ((rd_T105 l0 x5_1).f2), .int .i64 ((rd_T105 l0 x5_1).f3), .int .i64 ((rd_T105 l0 x5_1).f4), .int .i64 ((rd_T105 l0 x5_1).f5), .string ((rd_T105 l0 x5_1).f6)], .agg #[.string ((rd_T105 l1 x5_1).f0), .int .i64 ((rd_T105 l1 x5_1).f1), .int .i64 ((rd_T105 l1 x5_1).f2), .int .i64 ((rd_T105 l1 x5_1).f3), .int .i64 ((rd_T105 l1 x5_1).f4), .int .i64 ((rd_T105 l1 x5_1).f5), .string ((rd_T105 l1 x5_1).f6)]] (by rfl) rfl rfl (by (try simp only [List.map_toArray, List.map_cons, List.map_nil]); first | done | rfl | (simp only [List.length_drop, List.length_take]; rfl)) ?_
             with_reducible refine (laws_eqClause.calls ((rd_T105 l0 x5_1).f0) ((rd_T105 l0 x5_1).f1) ((rd_T105 l0 x5_1).f2) ((rd_T105 l0 x5_1).f3) ((rd_T105 l0 x5_1).f4) ((rd_T105 l0 x5_1).f5) ((rd_T105 l0 x5_1).f6) ((rd_T105 l1 x5_1).f0) ((rd_T105 l1 x5_1).f1) ((rd_T105 l1 x5_1).f2) ((rd_T105 l1 x5_1).f3) ((rd_T105 l1 x5_1).f4) ((rd_T105 l1 x5_1).f5) ((rd_T105 l1 x5_1).f6) true _ A7.out).mono ?_
             rintro e w10 ⟨rfl, hb⟩
             refine ⟨_, rfl, ?_⟩
             have n0_ := Aside0.mk (bs_ hb)
             clear HB
             have HB := n0_
             clear n0_
             (try clear hb)
             (try clear hb2)
             (try clear hk)
             (try clear hi)
             refine hK.out _ _ ⟨((HB.out.cell (World.block_lt_of_cell? w _ hw303_0)).trans hw303_0), ((HB.out.cell (World.block_lt_of_cell? w _ hw303_1)).trans hw303_1), ((HB.out.cell (World.block_lt_of_cell? w _ hw303_2)).trans hw303_2), ((HB.out.cell (World.block_lt_of_cell? w _ hw303_3)).trans hw303_3), ((HB.out.cell (World.block_lt_of_cell? w _ hw303_4)).trans hw303_4), ((HB.out.cell (World.block_lt_of_cell? w _ hw303_5)).trans hw303_5), ((HB.out.cell (World.block_lt_of_cell? w _ hw303_6)).trans hw303_6), ((HB.out.cell (World.block_lt_of_cell? w _ hw304_0)).trans hw304_0), ((HB.out.cell (World.block_lt_of_cell? w _ hw304_1)).trans hw304_1), ((HB.out.cell (World.block_lt_of_cell? w _ hw304_2)).trans hw304_2), ((HB.out.cell (World.block_lt_of_cell? w _ hw304_3)).trans hw304_3), ((HB.out.cell (World.block_lt_of_cell? w _ hw304_4)).trans hw304_4), ((HB.out.cell (World.block_lt_of_cell? w _ hw304_5)).trans hw304_5), ((HB.out.cell (World.block_lt_of_cell? w _ hw304_6)).trans hw304_6)⟩ (fun hHeld => ?_)
             clear hK K
             refine sqN_ 25 ?_
             refine sqP_ 9 26 (fb 10 1023) (any_of HT_.out (by kernel_rfl)) ?_
             refine done_ (done_of HT_.out (by kernel_rfl)) ?_
             try go_wp2
             go_roundg k1
             case measure => have := HK1.out; omega
             case rel => exact ⟨(wrap64 (x5_1 + 1)), (by first | rfl | (simp; done) | (simp [*]; done)), H', ⟨by have := HK1.out; omega⟩, ⟨bb_⟩⟩
           · replace c8 := Bool.eq_false_iff.mpr c8
             subst c8
             have H1 : (some false) = some r := by rw [if_neg (show ¬ (false = true) by decide)] at H; exact H
             clear H
             have H := H1
             clear H1
             obtain rfl := Option.some.inj H
             try go_wp2
             have n0_ := Aside0.mk (below_drew1 HB.out)
             clear HB
             have HB := n0_
             clear n0_
             have p303 : 0 ≤ (x5_1 : Int) := of_decide_eq_true (by first | (with_reducible assumption) | assumption)
             have q303 : x5_1 < (l0.length : Int) := of_decide_eq_true (by first | (with_reducible assumption) | assumption)
             obtain ⟨ad303, e303, hx303_0, hx303_1, hx303_2, hx303_3, hx303_4, hx303_5, hx303_6⟩ := at_T105 HR0.out x5_1 p303 q303
             have hw303_6 := hx303_6
             have hw303_5 := hx303_5
             have hw303_4 := hx303_4
             have hw303_3 := hx303_3
             have hw303_2 := hx303_2
             have hw303_1 := hx303_1
             have hw303_0 := hx303_0
             cases e303
             replace hx303_0 := cel HB hx303_0
             replace hx303_1 := cel HB hx303_1
             replace hx303_2 := cel HB hx303_2
             replace hx303_3 := cel HB hx303_3
             replace hx303_4 := cel HB hx303_4
             replace hx303_5 := cel HB hx303_5
             replace hx303_6 := cel HB hx303_6
             replace p303 := eq_true p303
             replace q303 := eq_true q303
             have p304 : 0 ≤ (x5_1 : Int) := of_decide_eq_true (by first | (with_reducible assumption) | assumption)
             have q304 : x5_1 < (l1.length : Int) := of_decide_eq_true (by first | (with_reducible assumption) | assumption)
             obtain ⟨ad304, e304, hx304_0, hx304_1, hx304_2, hx304_3, hx304_4, hx304_5, hx304_6⟩ := at_T105 HR1.out x5_1 p304 q304
             have hw304_6 := hx304_6
             have hw304_5 := hx304_5
             have hw304_4 := hx304_4
             have hw304_3 := hx304_3
             have hw304_2 := hx304_2
             have hw304_1 := hx304_1
             have hw304_0 := hx304_0
             cases e304
             replace hx304_0 := cel HB hx304_0
             replace hx304_1 := cel HB hx304_1
             replace hx304_2 := cel HB hx304_2
             replace hx304_3 := cel HB hx304_3
             replace hx304_4 := cel HB hx304_4
             replace hx304_5 := cel HB hx304_5
             replace hx304_6 := cel HB hx304_6
             replace p304 := eq_true p304
             replace q304 := eq_true q304
             refine start_ (n := 10) (S := fun w' => w'.cell? (ad303.add ((x5_1).toNat * 7)) = some (.string ((rd_T105 l0 x5_1).f0)) ∧ w'.cell? ⟨(ad303.add ((x5_1).toNat * 7)).block, (ad303.add ((x5_1).toNat * 7)).off + 1, none⟩ = some (.int .i64 ((rd_T105 l0 x5_1).f1)) ∧ w'.cell? ⟨(ad303.add ((x5_1).toNat * 7)).block, (ad303.add ((x5_1).toNat * 7)).off + 2, none⟩ = some (.int .i64 ((rd_T105 l0 x5_1).f2)) ∧ w'.cell? ⟨(ad303.add ((x5_1).toNat * 7)).block, (ad303.add ((x5_1).toNat * 7)).off + 3, none⟩ = some (.int .i64 ((rd_T105 l0 x5_1).f3)) ∧ w'.cell? ⟨(ad303.add ((x5_1).toNat * 7)).block, (ad303.add ((x5_1).toNat * 7)).off + 4, none⟩ = some (.int .i64 ((rd_T105 l0 x5_1).f4)) ∧ w'.cell? ⟨(ad303.add ((x5_1).toNat * 7)).block, (ad303.add ((x5_1).toNat * 7)).off + 5, none⟩ = some (.int .i64 ((rd_T105 l0 x5_1).f5)) ∧ w'.cell? ⟨(ad303.add ((x5_1).toNat * 7)).block, (ad303.add ((x5_1).toNat * 7)).off + 6, none⟩ = some (.string ((rd_T105 l0 x5_1).f6)) ∧ w'.cell? (ad304.add ((x5_1).toNat * 7)) = some (.string ((rd_T105 l1 x5_1).f0)) ∧ w'.cell? ⟨(ad304.add ((x5_1).toNat * 7)).block, (ad304.add ((x5_1).toNat * 7)).off + 1, none⟩ = some (.int .i64 ((rd_T105 l1 x5_1).f1)) ∧ w'.cell? ⟨(ad304.add ((x5_1).toNat * 7)).block, (ad304.add ((x5_1).toNat * 7)).off + 2, none⟩ = some (.int .i64 ((rd_T105 l1 x5_1).f2)) ∧ w'.cell? ⟨(ad304.add ((x5_1).toNat * 7)).block, (ad304.add ((x5_1).toNat * 7)).off + 3, none⟩ = some (.int .i64 ((rd_T105 l1 x5_1).f3)) ∧ w'.cell? ⟨(ad304.add ((x5_1).toNat * 7)).block, (ad304.add ((x5_1).toNat * 7)).off + 4, none⟩ = some (.int .i64 ((rd_T105 l1 x5_1).f4)) ∧ w'.cell? ⟨(ad304.add ((x5_1).toNat * 7)).block, (ad304.add ((x5_1).toNat * 7)).off + 5, none⟩ = some (.int .i64 ((rd_T105 l1 x5_1).f5)) ∧ w'.cell? ⟨(ad304.add ((x5_1).toNat * 7)).block, (ad304.add ((x5_1).toNat * 7)).off + 6, none⟩ = some (.string ((rd_T105 l1 x5_1).f6))) (ds := []) (fb 10 0) (by kernel_rfl) rfl rfl ⟨((HB.out.cell (World.block_lt_of_cell? w _ hw303_0)).trans hw303_0), ((HB.out.cell (World.block_lt_of_cell? w _ hw303_1)).trans hw303_1), ((HB.out.cell (World.block_lt_of_cell? w _ hw303_2)).trans hw303_2), ((HB.out.cell (World.block_lt_of_cell? w _ hw303_3)).trans hw303_3), ((HB.out.cell (World.block_lt_of_cell? w _ hw303_4)).trans hw303_4), ((HB.out.cell (World.block_lt_of_cell? w _ hw303_5)).trans hw303_5), ((HB.out.cell (World.block_lt_of_cell? w _ hw303_6)).trans hw303_6), ((HB.out.cell (World.block_lt_of_cell? w _ hw304_0)).trans hw304_0), ((HB.out.cell (World.block_lt_of_cell? w _ hw304_1)).trans hw304_1), ((HB.out.cell (World.block_lt_of_cell? w _ hw304_2)).trans hw304_2), ((HB.out.cell (World.block_lt_of_cell? w _ hw304_3)).trans hw304_3), ((HB.out.cell (World.block_lt_of_cell? w _ hw304_4)).trans hw304_4), ((HB.out.cell (World.block_lt_of_cell? w _ hw304_5)).trans hw304_5), ((HB.out.cell (World.block_lt_of_cell? w _ hw304_6)).trans hw304_6)⟩ (fun hHeld => ?_); refine with_tabW laws_eqClauseS.tab6 laws_eqClauseS.bits6 (fun HT_ HW_ => ?_)
             generalize wr.drew = w11 at HB hx303_0 hx303_1 hx303_2 hx303_3 hx303_4 hx303_5 hx303_6 hx304_0 hx304_1 hx304_2 hx304_3 hx304_4 hx304_5 hx304_6 hHeld ⊢
             refine sqP_ 0 17 (fb 10 1) (any_of HT_.out (by kernel_rfl)) ?_
             refine sqP_ 1 18 (fb 10 3) (any_of HT_.out (by kernel_rfl)) ?_
             refine sqP_ 2 19 (fb 10 7) (any_of HT_.out (by kernel_rfl)) ?_
             refine sqP_ 4 21 (fb 10 23) (any_of HT_.out (by kernel_rfl)) ?_
             refine sqP_ 5 22 (fb 10 55) (any_of HT_.out (by kernel_rfl)) ?_
             refine sqP_ 6 23 (fb 10 119) (any_of HT_.out (by kernel_rfl)) ?_
             refine sqT_ 3 20 (fb 10 127) (take_ofW HT_.out HW_.out (by kernel_rfl)) hHeld ?_
             refine sqT_ 7 24 (fb 10 255) (take_ofW HT_.out HW_.out (by kernel_rfl)) hHeld ?_
             refine one_ (i := 8) (N := some 25) (fb 10 511) rfl rfl (one_of HT_.out (by kernel_rfl)) (by decide) (fun K hK => ?_)
             refine goes_ Tryz.func116 (by kernel_rfl) rfl #[.agg #[.string ((rd_T105 l0 x5_1).f0), .int .i64 ((rd_T105 l0 x5_1).f1), .int .i64 ((rd_T105 l0 x5_1).f2), .int .i64 ((rd_T105 l0 x5_1).f3), .int .i64 ((rd_T105 l0 x5_1).f4), .int .i64 ((rd_T105 l0 x5_1).f5), .string ((rd_T105 l0 x5_1).f6)], .agg #[.string ((rd_T105 l1 x5_1).f0), .int .i64 ((rd_T105 l1 x5_1).f1), .int .i64 ((rd_T105 l1 x5_1).f2), .int .i64 ((rd_T105 l1 x5_1).f3), .int .i64 ((rd_T105 l1 x5_1).f4), .int .i64 ((rd_T105 l1 x5_1).f5), .string ((rd_T105 l1 x5_1).f6)]] (by rfl) rfl rfl (by (try simp only [List.map_toArray, List.map_cons, List.map_nil]); first | done | rfl | (simp only [List.length_drop, List.length_take]; rfl)) ?_
             with_reducible refine (laws_eqClause.calls ((rd_T105 l0 x5_1).f0) ((rd_T105 l0 x5_1).f1) ((rd_T105 l0 x5_1).f2) ((rd_T105 l0 x5_1).f3) ((rd_T105 l0 x5_1).f4) ((rd_T105 l0 x5_1).f5) ((rd_T105 l0 x5_1).f6) ((rd_T105 l1 x5_1).f0) ((rd_T105 l1 x5_1).f1) ((rd_T105 l1 x5_1).f2) ((rd_T105 l1 x5_1).f3) ((rd_T105 l1 x5_1).f4) ((rd_T105 l1 x5_1).f5) ((rd_T105 l1 x5_1).f6) false _ A7.out).mono ?_
             rintro e w12 ⟨rfl, hb⟩
             refine ⟨_, rfl, ?_⟩
             have n0_ := Aside0.mk (bs_ hb)
             clear HB
             have HB := n0_
             clear n0_
             (try clear hb)
             (try clear hb2)
             (try clear hk)
             (try clear hi)
             refine hK.out _ _ ⟨((HB.out.cell (World.block_lt_of_cell? w _ hw303_0)).trans hw303_0), ((HB.out.cell (World.block_lt_of_cell? w _ hw303_1)).trans hw303_1), ((HB.out.cell (World.block_lt_of_cell? w _ hw303_2)).trans hw303_2), ((HB.out.cell (World.block_lt_of_cell? w _ hw303_3)).trans hw303_3), ((HB.out.cell (World.block_lt_of_cell? w _ hw303_4)).trans hw303_4), ((HB.out.cell (World.block_lt_of_cell? w _ hw303_5)).trans hw303_5), ((HB.out.cell (World.block_lt_of_cell? w _ hw303_6)).trans hw303_6), ((HB.out.cell (World.block_lt_of_cell? w _ hw304_0)).trans hw304_0), ((HB.out.cell (World.block_lt_of_cell? w _ hw304_1)).trans hw304_1), ((HB.out.cell (World.block_lt_of_cell? w _ hw304_2)).trans hw304_2), ((HB.out.cell (World.block_lt_of_cell? w _ hw304_3)).trans hw304_3), ((HB.out.cell (World.block_lt_of_cell? w _ hw304_4)).trans hw304_4), ((HB.out.cell (World.block_lt_of_cell? w _ hw304_5)).trans hw304_5), ((HB.out.cell (World.block_lt_of_cell? w _ hw304_6)).trans hw304_6)⟩ (fun hHeld => ?_)
             clear hK K
             refine sqN_ 25 ?_
             refine sqP_ 9 26 (fb 10 1023) (any_of HT_.out (by kernel_rfl)) ?_
             refine done_ (done_of HT_.out (by kernel_rfl)) ?_
             try go_wp2
             go_ret
             exact ⟨by first | rfl | (simp [errW_none, errW_some] <;> rfl) | (simp [*, errW_none, errW_some] <;> rfl), bb_⟩
         · rw [if_neg c6] at H
           exact absurd H (by simp)
       · rw [if_neg c5] at H
         exact absurd H (by simp)
     · rw [if_neg c4] at H
       have c4b0 : decide (x5_1 < (l0.length : Int)) = false := decide_eq_false c4
       clear c4
       obtain rfl := Option.some.inj H
       go_wp2
       go_ret
       exact ⟨by first | rfl | (simp [errW_none, errW_some] <;> rfl) | (simp [*, errW_none, errW_some] <;> rfl), bb_⟩
 · rw [if_neg c3] at H
   have c3b0 : ((l0.length : Int) == (l1.length : Int)) = false := beq_eq_false_iff_ne.mpr c3
   have c3b1 : ((l0.length : Int) != (l1.length : Int)) = true := bne_iff_ne.mpr c3
   have c3b2 : (l0.length == l1.length) = false := by first | simpa using c3 | (simp at c3 ⊢; omega)
   obtain rfl := Option.some.inj H
   go_enter Tryz.func59, Tryz.ntmps59
   go_wp2
   go_ret
   exact ⟨by first | rfl | (simp [errW_none, errW_some] <;> rfl) | (simp [*, errW_none, errW_some] <;> rfl), bb_⟩

end Go.Proofs.YtmfbkbbgokjhnaaGreat.F
namespace Go.Proofs.YtmfbkbbgokjhnaaGreat.F
open Go.RowKit Go.Proofs.YtmfbkbbgokjhnaaGreatW.PrintWords Go.Proofs.YtmfbkbbgokjhnaaGreatW.PrintLast Go.Proofs.YtmfbkbbgokjhnaaGreatW.PrintMore
attribute [local go_sem] max2_int min2_int max_two min_two max_three min_three max_four min_four   -- for this text's walks alone
set_option linter.unusedVariables false
set_option linter.unusedSimpArgs false

/-! ### laws_eqBand: function 117 -/
def laws_eqBand.f (a0_0 : Int) (a0_1 : Int) (a1_0 : Int) (a1_1 : Int) : Option (Bool) := if a0_0 = a1_0 then (if a0_1 = a1_1 then (some true) else (some false)) else (some false)
set_option maxHeartbeats 8000000 in
set_option maxRecDepth 100000 in
theorem laws_eqBand.calls (a0_0 : Int) (a0_1 : Int) (a1_0 : Int) (a1_1 : Int) (r : Bool) (w : World) (h : laws_eqBand.f a0_0 a0_1 a1_0 a1_1 = some r) :
 Calls Tryz.prog 117 #[.agg #[.int .i64 a0_0, .int .i64 a0_1], .agg #[.int .i64 a1_0, .int .i64 a1_1]] w fun e w' => e = .returned (.bool r) ∧ Below w.heap.size w w' := by
 have hu109 := Tryz.underlying109
 have HB := Aside0.mk (Below.refl w.heap.size w)
 have H : (if a0_0 = a1_0 then (if a0_1 = a1_1 then (some true) else (some false)) else (some false)) = some r := h
 clear h
 by_cases c3 : a0_0 = a1_0
 rw [if_pos c3] at H
 have c3b0 : (a0_0 == a1_0) = true := beq_iff_eq.mpr c3
 have c3b1 : (a0_0 != a1_0) = false := bne_eq_false_iff_eq.mpr c3
 clear c3
 by_cases c4 : a0_1 = a1_1
 rw [if_pos c4] at H
 have c4b0 : (a0_1 == a1_1) = true := beq_iff_eq.mpr c4
 have c4b1 : (a0_1 != a1_1) = false := bne_eq_false_iff_eq.mpr c4
 clear c4
 obtain rfl := Option.some.inj H
 rotate_left
 rw [if_neg c4] at H
 have c4b0 : (a0_1 == a1_1) = false := beq_eq_false_iff_ne.mpr c4
 have c4b1 : (a0_1 != a1_1) = true := bne_iff_ne.mpr c4
 obtain rfl := Option.some.inj H
 rotate_left
 rw [if_neg c3] at H
 have c3b0 : (a0_0 == a1_0) = false := beq_eq_false_iff_ne.mpr c3
 have c3b1 : (a0_0 != a1_0) = true := bne_iff_ne.mpr c3
 obtain rfl := Option.some.inj H
 rotate_left
 all_goals
  go_enter Tryz.func117, Tryz.ntmps117
  go_wp2_with (first | ((with_reducible refine gate_dst (N := 2) rfl ?_); refine box_event ?hg (N := 2) ?hd (cs := #[.int .i64 a0_0, .int .i64 a0_1]) (t := 109) ?hr ?_; (case hd => rfl); (case hg => rfl); (case hr => first | (go_simp; done) | (go_simp; rfl)); intro gb306 hg w5 hbox hb; have n0_ := Aside0.mk (bs_ hb); have n1_ := Aside0.mk (hbox); have n2_ := Aside0.mk ((by rw [hg]; exact (bz_) : w.heap.size ≤ gb306)); have n3_ := Aside0.mk ((by rw [hg]; exact (bz_) : w.heap.size ≤ gb306)); clear HB; have HB := n0_; have BK306 := n1_; have GW306 := n2_; have GE306 := n3_; clear n0_ n1_ n2_ n3_; clear hb hbox hg) | ((with_reducible refine gate_dst (N := 3) rfl ?_); refine box_event ?hg (N := 3) ?hd (cs := #[.int .i64 a1_0, .int .i64 a1_1]) (t := 109) ?hr ?_; (case hd => rfl); (case hg => rfl); (case hr => first | (go_simp; done) | (go_simp; rfl)); intro gb307 hg w6 hbox hb; have n0_ := Aside0.mk (blk_below (g := gb306) (o := .cells #[.int .i64 a0_0, .int .i64 a0_1] 109 (0, 0)) (by (with_reducible repeat (first | refine blk_drewN ?_ _ | refine blk_drew ?_ | refine blk_alloc ?_ _)); exact BK306.out) hb); have n1_ := Aside0.mk (bs_ hb); have n2_ := Aside0.mk (hbox); have n3_ := Aside0.mk ((by rw [hg]; exact (bz_) : w.heap.size ≤ gb307)); have n4_ := Aside0.mk ((by rw [hg]; exact (bz_) : w.heap.size ≤ gb307)); have n5_ := Aside0.mk ((by rw [hg]; exact Nat.ne_of_lt (blk_lt (g := gb306) (o := .cells #[.int .i64 a0_0, .int .i64 a0_1] 109 (0, 0)) (by (with_reducible repeat (first | refine blk_drewN ?_ _ | refine blk_drew ?_ | refine blk_alloc ?_ _)); exact BK306.out)) : gb306 ≠ gb307)); have n6_ := Aside0.mk ((by rw [hg]; exact Nat.ne_of_gt (blk_lt (g := gb306) (o := .cells #[.int .i64 a0_0, .int .i64 a0_1] 109 (0, 0)) (by (with_reducible repeat (first | refine blk_drewN ?_ _ | refine blk_drew ?_ | refine blk_alloc ?_ _)); exact BK306.out)) : gb307 ≠ gb306)); clear BK306; clear HB; have BK306 := n0_; have HB := n1_; have BK307 := n2_; have GW307 := n3_; have GE307 := n4_; have NB306_307 := n5_; have NB307_306 := n6_; clear n0_ n1_ n2_ n3_ n4_ n5_ n6_; clear hb hbox hg; have hnb7 := NB306_307.out; have hnc7 := NB307_306.out; have hcz8_0 := bk BK306 0; have hcz8_1 := bk BK306 1; have hfz8_0 := blk_frozen BK306.out 0; have hfz8_1 := blk_frozen BK306.out 1; have hcz9_0 := bk BK307 0; have hcz9_1 := bk BK307 1; have hfz9_0 := blk_frozen BK307.out 0; have hfz9_1 := blk_frozen BK307.out 1))
  go_ret
  exact ⟨by first | rfl | (simp [errW_none, errW_some] <;> rfl) | (simp [*, errW_none, errW_some] <;> rfl), bb_⟩

end Go.Proofs.YtmfbkbbgokjhnaaGreat.F
