-- Written by this session's program (wip/bin/hp.py) over the kit's print: a function's Lean form, and a proof that the call does what it says.
import Derived.Test.YtmfbkbbgokjhnaaFx0
import Derived.Test.YtmfbkbbgokjhnaaSq
namespace Go.Proofs.Ytmfbkbbgokjhnaa.F
open Go.RowKit Go.Proofs.YtmfbkbbgokjhnaaW.PrintWords Go.Proofs.YtmfbkbbgokjhnaaW.PrintLast Go.Proofs.YtmfbkbbgokjhnaaW.PrintMore
attribute [local go_sem] max2_int min2_int max_two min_two max_three min_three max_four min_four   -- for this text's walks alone
set_option linter.unusedVariables false
set_option linter.unusedSimpArgs false

/-! ### laws_eqClauseS: function 22 -/
def laws_eqClauseS.l0 : Nat → List (S94) → List (S94) → Int → Option (Bool)
 | 0, _, _, _ => none
 | k + 1, x0, x1, x5 => if x5 < (x0.length : Int) then (if 0 ≤ x5 then (if x5 < (x1.length : Int) then ((laws_eqClause.f ((rd_T94 x0 x5).f0) ((rd_T94 x0 x5).f1) ((rd_T94 x0 x5).f2) ((rd_T94 x0 x5).f3) ((rd_T94 x0 x5).f4) ((rd_T94 x0 x5).f5) ((rd_T94 x0 x5).f6) ((rd_T94 x1 x5).f0) ((rd_T94 x1 x5).f1) ((rd_T94 x1 x5).f2) ((rd_T94 x1 x5).f3) ((rd_T94 x1 x5).f4) ((rd_T94 x1 x5).f5) ((rd_T94 x1 x5).f6)).bind fun t123 => (if t123 = true then (laws_eqClauseS.l0 k x0 x1 (wrap64 (x5 + 1))) else (some false))) else (none)) else (none)) else (some true)
def laws_eqClauseS.f (k : Nat) (l0 : List (S94)) (l1 : List (S94)) : Option (Bool) := if (l0.length : Int) = (l1.length : Int) then (laws_eqClauseS.l0 k l0 l1 0) else (some false)
theorem laws_eqClauseS.mono_l : ∀ k, (∀ y0 y1 y2, LeO (laws_eqClauseS.l0 k y0 y1 y2) (laws_eqClauseS.l0 (k + 1) y0 y1 y2))
 | 0 => fun _ _ _ r h => by simp [laws_eqClauseS.l0] at h
 | k + 1 => by
  have ih0 := laws_eqClauseS.mono_l k
  · intro y0 y1 y2
    unfold laws_eqClauseS.l0
    repeat' first
    | (with_reducible exact ih0 _ _ _)
    | (with_reducible exact LeO.refl _)
    | (with_reducible exact LeO.none _)
    | (with_reducible refine LeO.ite ?_ ?_)
    | (with_reducible refine LeO.bind ?_ (fun _ => ?_))
    | exact ih0 _ _ _
    | exact LeO.none _
    | refine LeO.ite ?_ ?_
    | refine LeO.bind ?_ (fun _ => ?_)
theorem laws_eqClauseS.mono : ∀ a0 a1 k, LeO (laws_eqClauseS.f k a0 a1) (laws_eqClauseS.f (k + 1) a0 a1) := by
 intro a0 a1 k
 have ih0 := laws_eqClauseS.mono_l k
 unfold laws_eqClauseS.f
 repeat' first
  | (with_reducible exact ih0 _ _ _)
  | (with_reducible exact LeO.refl _)
  | (with_reducible exact LeO.none _)
  | (with_reducible refine LeO.ite ?_ ?_)
  | (with_reducible refine LeO.bind ?_ (fun _ => ?_))
  | exact ih0 _ _ _
  | exact LeO.none _
  | refine LeO.ite ?_ ?_
  | refine LeO.bind ?_ (fun _ => ?_)
def laws_eqClauseS.T6 : Bool × List (List Nat × List Nat) := (true, [([], []), ([], []), ([0, 1], [0, 1]), ([2], [2]), ([], []), ([], []), ([4, 5], [4, 5]), ([6], [6]), ([3, 7], [3, 7]), ([8], [8])])
def laws_eqClauseS.B6 : List Nat := [0, 0, 3, 7, 0, 0, 48, 112, 255, 511]
theorem laws_eqClauseS.tab6 : rtab .any (opsOf Try.f22 6) = laws_eqClauseS.T6 := by kernel_rfl
theorem laws_eqClauseS.bits6 : waitsOk laws_eqClauseS.T6.2 laws_eqClauseS.B6 = true := by kernel_rfl
set_option maxHeartbeats 8000000 in
set_option maxRecDepth 100000 in
theorem laws_eqClauseS.calls (k : Nat) (A0 : Option Addr) (c0 : Nat) (l0 : List (S94)) (A1 : Option Addr) (c1 : Nat) (l1 : List (S94)) (r : Bool) (w : World) (hr0 : Kd.C k94 w A0 l0.length l0) (hc0 : l0.length ≤ c0) (hr1 : Kd.C k94 w A1 l1.length l1) (hc1 : l1.length ≤ c1) (h : laws_eqClauseS.f k l0 l1 = some r) :
 Calls Try.prog 22 #[.slice A0 l0.length c0, .slice A1 l1.length c1] w fun e w' => e = .returned (.bool r) ∧ Below w.heap.size w w' := by
 have hu94 := Try.underlying94
 have HR0 := Aside0.mk hr0
 have HC0 := Aside0.mk hc0
 clear hr0 hc0
 have HR1 := Aside0.mk hr1
 have HC1 := Aside0.mk hc1
 clear hr1 hc1
 have HB := Aside0.mk (Below.refl w.heap.size w)
 have H : (if (l0.length : Int) = (l1.length : Int) then (laws_eqClauseS.l0 k l0 l1 0) else (some false)) = some r := h
 clear h
 by_cases c3 : (l0.length : Int) = (l1.length : Int)
 · rw [if_pos c3] at H
   have c3b0 : ((l0.length : Int) == (l1.length : Int)) = true := beq_iff_eq.mpr c3
   have c3b1 : ((l0.length : Int) != (l1.length : Int)) = false := bne_eq_false_iff_eq.mpr c3
   have c3b2 : (l0.length == l1.length) = true := by first | simpa using c3 | (simp at c3 ⊢; omega)
   clear c3
   have H' := Aside0.mk H
   clear H
   go_enter Try.func22, Try.ntmps22
   go_wp2
   go_loopg [5] k (fun kq v5 w' => ∃ (x5_1 : Int), v5 = .int .i64 x5_1 ∧ Aside0 (laws_eqClauseS.l0 kq l0 l1 x5_1 = some r) ∧ Aside0 (kq ≤ k) ∧ Aside0 (Below w.heap.size w w'))
   case atStart => exact ⟨(0), (by first | rfl | (simp; done) | (simp [*]; done)), H', ⟨Nat.le_refl _⟩, ⟨bb_⟩⟩
   case round =>
    clear H'
    try clear c1
    try clear c2
    try clear p2
    try clear c3
    try clear c3b0
    try clear c3b1
    try clear c3b2
    obtain ⟨x5_1, rfl, HA, HK1, HB⟩ := hrel
    cases gk with
    | zero => exact absurd HA.out (by simp [laws_eqClauseS.l0])
    | succ k1 =>
     have H := HA.out
     clear HA
     simp only [laws_eqClauseS.l0] at H
     by_cases c4 : x5_1 < (l0.length : Int)
     · rw [if_pos c4] at H
       have c4b0 : decide (x5_1 < (l0.length : Int)) = true := decide_eq_true c4
       clear c4
       by_cases c5 : 0 ≤ x5_1
       · rw [if_pos c5] at H
         have c5b0 : decide (0 ≤ x5_1) = true := decide_eq_true c5
         clear c5
         by_cases c6 : x5_1 < (l1.length : Int)
         · rw [if_pos c6] at H
           have c6b0 : decide (x5_1 < (l1.length : Int)) = true := decide_eq_true c6
           clear c6
           replace H := Option.bind_eq_some_iff.mp H
           obtain ⟨t123, A70, H⟩ := H
           replace H : (if t123 = true then (laws_eqClauseS.l0 k1 l0 l1 (wrap64 (x5_1 + 1))) else (some false)) = some r := H
           have A7 := Aside0.mk A70
           clear A70
           by_cases c8 : t123 = true
           · subst c8
             have H1 : (laws_eqClauseS.l0 k1 l0 l1 (wrap64 (x5_1 + 1))) = some r := by rw [if_pos rfl] at H; exact H
             clear H
             have H := H1
             clear H1
             have H' := Aside0.mk H
             clear H
             try go_wp2
             have n0_ := Aside0.mk (below_drew1 HB.out)
             clear HB; revert n0_; intro HB
             have p121 : 0 ≤ (x5_1 : Int) := od_
             have q121 : x5_1 < (l0.length : Int) := od_
             obtain ⟨ad121, e121, hx121_0, hx121_1, hx121_2, hx121_3, hx121_4, hx121_5, hx121_6⟩ := at_T94 HR0.out x5_1 p121 q121
             have hw121_6 := hx121_6
             have hw121_5 := hx121_5
             have hw121_4 := hx121_4
             have hw121_3 := hx121_3
             have hw121_2 := hx121_2
             have hw121_1 := hx121_1
             have hw121_0 := hx121_0
             cases e121
             replace hx121_0 := cel HB hx121_0
             replace hx121_1 := cel HB hx121_1
             replace hx121_2 := cel HB hx121_2
             replace hx121_3 := cel HB hx121_3
             replace hx121_4 := cel HB hx121_4
             replace hx121_5 := cel HB hx121_5
             replace hx121_6 := cel HB hx121_6
             replace p121 := eq_true p121
             replace q121 := eq_true q121
             have p122 : 0 ≤ (x5_1 : Int) := od_
             have q122 : x5_1 < (l1.length : Int) := od_
             obtain ⟨ad122, e122, hx122_0, hx122_1, hx122_2, hx122_3, hx122_4, hx122_5, hx122_6⟩ := at_T94 HR1.out x5_1 p122 q122
             have hw122_6 := hx122_6
             have hw122_5 := hx122_5
             have hw122_4 := hx122_4
             have hw122_3 := hx122_3
             have hw122_2 := hx122_2
             have hw122_1 := hx122_1
             have hw122_0 := hx122_0
             cases e122
             replace hx122_0 := cel HB hx122_0
             replace hx122_1 := cel HB hx122_1
             replace hx122_2 := cel HB hx122_2
             replace hx122_3 := cel HB hx122_3
             replace hx122_4 := cel HB hx122_4
             replace hx122_5 := cel HB hx122_5
             replace hx122_6 := cel HB hx122_6
             replace p122 := eq_true p122
             replace q122 := eq_true q122
             refine start_ (n := 10) (S := fun w' => w'.cell? (ad121.add ((x5_1).toNat * 7)) = some (.string ((rd_T94 l0 x5_1).f0)) ∧ w'.cell? ⟨(ad121.add ((x5_1).toNat * 7)).block, (ad121.add ((x5_1).toNat * 7)).off + 1, none⟩ = some (.int .i64 ((rd_T94 l0 x5_1).f1)) ∧ w'.cell? ⟨(ad121.add ((x5_1).toNat * 7)).block, (ad121.add ((x5_1).toNat * 7)).off + 2, none⟩ = some (.int .i64 ((rd_T94 l0 x5_1).f2)) ∧ w'.cell? ⟨(ad121.add ((x5_1).toNat * 7)).block, (ad121.add ((x5_1).toNat * 7)).off + 3, none⟩ = some (.int .i64 ((rd_T94 l0 x5_1).f3)) ∧ w'.cell? ⟨(ad121.add ((x5_1).toNat * 7)).block, (ad121.add ((x5_1).toNat * 7)).off + 4, none⟩ = some (.int .i64 ((rd_T94 l0 x5_1).f4)) ∧ w'.cell? ⟨(ad121.add ((x5_1).toNat * 7)).block, (ad121.add ((x5_1).toNat * 7)).off + 5, none⟩ = some (.int .i64 ((rd_T94 l0 x5_1).f5)) ∧ w'.cell? ⟨(ad121.add ((x5_1).toNat * 7)).block, (ad121.add ((x5_1).toNat * 7)).off + 6, none⟩ = some (.string ((rd_T94 l0 x5_1).f6)) ∧ w'.cell? (ad122.add ((x5_1).toNat * 7)) = some (.string ((rd_T94 l1 x5_1).f0)) ∧ w'.cell? ⟨(ad122.add ((x5_1).toNat * 7)).block, (ad122.add ((x5_1).toNat * 7)).off + 1, none⟩ = some (.int .i64 ((rd_T94 l1 x5_1).f1)) ∧ w'.cell? ⟨(ad122.add ((x5_1).toNat * 7)).block, (ad122.add ((x5_1).toNat * 7)).off + 2, none⟩ = some (.int .i64 ((rd_T94 l1 x5_1).f2)) ∧ w'.cell? ⟨(ad122.add ((x5_1).toNat * 7)).block, (ad122.add ((x5_1).toNat * 7)).off + 3, none⟩ = some (.int .i64 ((rd_T94 l1 x5_1).f3)) ∧ w'.cell? ⟨(ad122.add ((x5_1).toNat * 7)).block, (ad122.add ((x5_1).toNat * 7)).off + 4, none⟩ = some (.int .i64 ((rd_T94 l1 x5_1).f4)) ∧ w'.cell? ⟨(ad122.add ((x5_1).toNat * 7)).block, (ad122.add ((x5_1).toNat * 7)).off + 5, none⟩ = some (.int .i64 ((rd_T94 l1 x5_1).f5)) ∧ w'.cell? ⟨(ad122.add ((x5_1).toNat * 7)).block, (ad122.add ((x5_1).toNat * 7)).off + 6, none⟩ = some (.string ((rd_T94 l1 x5_1).f6))) (ds := []) (fb 10 0) (by kernel_rfl) rfl rfl ⟨((HB.out.cell (World.block_lt_of_cell? w _ hw121_0)).trans hw121_0), ((HB.out.cell (World.block_lt_of_cell? w _ hw121_1)).trans hw121_1), ((HB.out.cell (World.block_lt_of_cell? w _ hw121_2)).trans hw121_2), ((HB.out.cell (World.block_lt_of_cell? w _ hw121_3)).trans hw121_3), ((HB.out.cell (World.block_lt_of_cell? w _ hw121_4)).trans hw121_4), ((HB.out.cell (World.block_lt_of_cell? w _ hw121_5)).trans hw121_5), ((HB.out.cell (World.block_lt_of_cell? w _ hw121_6)).trans hw121_6), ((HB.out.cell (World.block_lt_of_cell? w _ hw122_0)).trans hw122_0), ((HB.out.cell (World.block_lt_of_cell? w _ hw122_1)).trans hw122_1), ((HB.out.cell (World.block_lt_of_cell? w _ hw122_2)).trans hw122_2), ((HB.out.cell (World.block_lt_of_cell? w _ hw122_3)).trans hw122_3), ((HB.out.cell (World.block_lt_of_cell? w _ hw122_4)).trans hw122_4), ((HB.out.cell (World.block_lt_of_cell? w _ hw122_5)).trans hw122_5), ((HB.out.cell (World.block_lt_of_cell? w _ hw122_6)).trans hw122_6)⟩ (fun hHeld => ?_); refine with_tabW laws_eqClauseS.tab6 laws_eqClauseS.bits6 (fun HT_ HW_ => ?_)
             generalize wr.drew = w9 at HB hx121_0 hx121_1 hx121_2 hx121_3 hx121_4 hx121_5 hx121_6 hx122_0 hx122_1 hx122_2 hx122_3 hx122_4 hx122_5 hx122_6 hHeld ⊢
             refine sqP_ 0 17 (fb 10 1) (any_of HT_.out (by kernel_rfl)) ?_
             refine sqP_ 1 18 (fb 10 3) (any_of HT_.out (by kernel_rfl)) ?_
             refine sqP_ 2 19 (fb 10 7) (any_of HT_.out (by kernel_rfl)) ?_
             refine sqP_ 4 21 (fb 10 23) (any_of HT_.out (by kernel_rfl)) ?_
             refine sqP_ 5 22 (fb 10 55) (any_of HT_.out (by kernel_rfl)) ?_
             refine sqP_ 6 23 (fb 10 119) (any_of HT_.out (by kernel_rfl)) ?_
             refine sqT_ 3 20 (fb 10 127) (take_ofW HT_.out HW_.out (by kernel_rfl)) hHeld ?_
             refine sqT_ 7 24 (fb 10 255) (take_ofW HT_.out HW_.out (by kernel_rfl)) hHeld ?_
             refine one_ (i := 8) (N := some 25) (fb 10 511) rfl rfl (one_of HT_.out (by kernel_rfl)) (by decide) (fun K hK => ?_)
             refine goes_ Try.func62 (by kernel_rfl) rfl #[.agg #[.string ((rd_T94 l0 x5_1).f0), .int .i64 ((rd_T94 l0 x5_1).f1), .int .i64 ((rd_T94 l0 x5_1).f2), .int .i64 ((rd_T94 l0 x5_1).f3), .int .i64 ((rd_T94 l0 x5_1).f4), .int .i64 ((rd_T94 l0 x5_1).f5), .string ((rd_T94 l0 x5_1).f6)], .agg #[.string ((rd_T94 l1 x5_1).f0), .int .i64 ((rd_T94 l1 x5_1).f1), .int .i64 ((rd_T94 l1 x5_1).f2), .int .i64 ((rd_T94 l1 x5_1).f3), .int .i64 ((rd_T94 l1 x5_1).f4), .int .i64 ((rd_T94 l1 x5_1).f5), .string ((rd_T94 l1 x5_1).f6)]] (by rfl) rfl rfl (by (try simp only [List.map_toArray, List.map_cons, List.map_nil]); first | done | rfl | (simp only [List.length_drop, List.length_take]; rfl)) ?_
             with_reducible refine (laws_eqClause.calls ((rd_T94 l0 x5_1).f0) ((rd_T94 l0 x5_1).f1) ((rd_T94 l0 x5_1).f2) ((rd_T94 l0 x5_1).f3) ((rd_T94 l0 x5_1).f4) ((rd_T94 l0 x5_1).f5) ((rd_T94 l0 x5_1).f6) ((rd_T94 l1 x5_1).f0) ((rd_T94 l1 x5_1).f1) ((rd_T94 l1 x5_1).f2) ((rd_T94 l1 x5_1).f3) ((rd_T94 l1 x5_1).f4) ((rd_T94 l1 x5_1).f5) ((rd_T94 l1 x5_1).f6) true _ A7.out).mono ?_
             rintro e w10 ⟨rfl, hb⟩
             refine ⟨_, rfl, ?_⟩
             have n0_ := Aside0.mk (bs_ hb)
             clear HB; revert n0_; intro HB
             (try clear hb)
             (try clear hb2)
             (try clear hk)
             (try clear hi)
             refine hK.out _ _ ⟨((HB.out.cell (World.block_lt_of_cell? w _ hw121_0)).trans hw121_0), ((HB.out.cell (World.block_lt_of_cell? w _ hw121_1)).trans hw121_1), ((HB.out.cell (World.block_lt_of_cell? w _ hw121_2)).trans hw121_2), ((HB.out.cell (World.block_lt_of_cell? w _ hw121_3)).trans hw121_3), ((HB.out.cell (World.block_lt_of_cell? w _ hw121_4)).trans hw121_4), ((HB.out.cell (World.block_lt_of_cell? w _ hw121_5)).trans hw121_5), ((HB.out.cell (World.block_lt_of_cell? w _ hw121_6)).trans hw121_6), ((HB.out.cell (World.block_lt_of_cell? w _ hw122_0)).trans hw122_0), ((HB.out.cell (World.block_lt_of_cell? w _ hw122_1)).trans hw122_1), ((HB.out.cell (World.block_lt_of_cell? w _ hw122_2)).trans hw122_2), ((HB.out.cell (World.block_lt_of_cell? w _ hw122_3)).trans hw122_3), ((HB.out.cell (World.block_lt_of_cell? w _ hw122_4)).trans hw122_4), ((HB.out.cell (World.block_lt_of_cell? w _ hw122_5)).trans hw122_5), ((HB.out.cell (World.block_lt_of_cell? w _ hw122_6)).trans hw122_6)⟩ (fun hHeld => ?_)
             clear hK K
             refine sqN_ 25 ?_
             refine sqP_ 9 26 (fb 10 1023) (any_of HT_.out (by kernel_rfl)) ?_
             refine done_ (done_of HT_.out (by kernel_rfl)) ?_
             try go_wp2
             go_roundg k1
             case measure => have := HK1.out; omega
             case rel => exact ⟨(wrap64 (x5_1 + 1)), (by first | rfl | (simp; done) | (simp [*]; done)), H', ⟨by have := HK1.out; omega⟩, ⟨bb_⟩⟩
           · replace c8 := Bool.eq_false_iff.mpr c8
             subst c8
             have H1 : (some false) = some r := by rw [if_neg (show ¬ (false = true) by decide)] at H; exact H
             clear H
             have H := H1
             clear H1
             obtain rfl := Option.some.inj H
             try go_wp2
             have n0_ := Aside0.mk (below_drew1 HB.out)
             clear HB; revert n0_; intro HB
             have p121 : 0 ≤ (x5_1 : Int) := od_
             have q121 : x5_1 < (l0.length : Int) := od_
             obtain ⟨ad121, e121, hx121_0, hx121_1, hx121_2, hx121_3, hx121_4, hx121_5, hx121_6⟩ := at_T94 HR0.out x5_1 p121 q121
             have hw121_6 := hx121_6
             have hw121_5 := hx121_5
             have hw121_4 := hx121_4
             have hw121_3 := hx121_3
             have hw121_2 := hx121_2
             have hw121_1 := hx121_1
             have hw121_0 := hx121_0
             cases e121
             replace hx121_0 := cel HB hx121_0
             replace hx121_1 := cel HB hx121_1
             replace hx121_2 := cel HB hx121_2
             replace hx121_3 := cel HB hx121_3
             replace hx121_4 := cel HB hx121_4
             replace hx121_5 := cel HB hx121_5
             replace hx121_6 := cel HB hx121_6
             replace p121 := eq_true p121
             replace q121 := eq_true q121
             have p122 : 0 ≤ (x5_1 : Int) := od_
             have q122 : x5_1 < (l1.length : Int) := od_
             obtain ⟨ad122, e122, hx122_0, hx122_1, hx122_2, hx122_3, hx122_4, hx122_5, hx122_6⟩ := at_T94 HR1.out x5_1 p122 q122
             have hw122_6 := hx122_6
             have hw122_5 := hx122_5
             have hw122_4 := hx122_4
             have hw122_3 := hx122_3
             have hw122_2 := hx122_2
             have hw122_1 := hx122_1
             have hw122_0 := hx122_0
             cases e122
             replace hx122_0 := cel HB hx122_0
             replace hx122_1 := cel HB hx122_1
             replace hx122_2 := cel HB hx122_2
             replace hx122_3 := cel HB hx122_3
             replace hx122_4 := cel HB hx122_4
             replace hx122_5 := cel HB hx122_5
             replace hx122_6 := cel HB hx122_6
             replace p122 := eq_true p122
             replace q122 := eq_true q122
             refine start_ (n := 10) (S := fun w' => w'.cell? (ad121.add ((x5_1).toNat * 7)) = some (.string ((rd_T94 l0 x5_1).f0)) ∧ w'.cell? ⟨(ad121.add ((x5_1).toNat * 7)).block, (ad121.add ((x5_1).toNat * 7)).off + 1, none⟩ = some (.int .i64 ((rd_T94 l0 x5_1).f1)) ∧ w'.cell? ⟨(ad121.add ((x5_1).toNat * 7)).block, (ad121.add ((x5_1).toNat * 7)).off + 2, none⟩ = some (.int .i64 ((rd_T94 l0 x5_1).f2)) ∧ w'.cell? ⟨(ad121.add ((x5_1).toNat * 7)).block, (ad121.add ((x5_1).toNat * 7)).off + 3, none⟩ = some (.int .i64 ((rd_T94 l0 x5_1).f3)) ∧ w'.cell? ⟨(ad121.add ((x5_1).toNat * 7)).block, (ad121.add ((x5_1).toNat * 7)).off + 4, none⟩ = some (.int .i64 ((rd_T94 l0 x5_1).f4)) ∧ w'.cell? ⟨(ad121.add ((x5_1).toNat * 7)).block, (ad121.add ((x5_1).toNat * 7)).off + 5, none⟩ = some (.int .i64 ((rd_T94 l0 x5_1).f5)) ∧ w'.cell? ⟨(ad121.add ((x5_1).toNat * 7)).block, (ad121.add ((x5_1).toNat * 7)).off + 6, none⟩ = some (.string ((rd_T94 l0 x5_1).f6)) ∧ w'.cell? (ad122.add ((x5_1).toNat * 7)) = some (.string ((rd_T94 l1 x5_1).f0)) ∧ w'.cell? ⟨(ad122.add ((x5_1).toNat * 7)).block, (ad122.add ((x5_1).toNat * 7)).off + 1, none⟩ = some (.int .i64 ((rd_T94 l1 x5_1).f1)) ∧ w'.cell? ⟨(ad122.add ((x5_1).toNat * 7)).block, (ad122.add ((x5_1).toNat * 7)).off + 2, none⟩ = some (.int .i64 ((rd_T94 l1 x5_1).f2)) ∧ w'.cell? ⟨(ad122.add ((x5_1).toNat * 7)).block, (ad122.add ((x5_1).toNat * 7)).off + 3, none⟩ = some (.int .i64 ((rd_T94 l1 x5_1).f3)) ∧ w'.cell? ⟨(ad122.add ((x5_1).toNat * 7)).block, (ad122.add ((x5_1).toNat * 7)).off + 4, none⟩ = some (.int .i64 ((rd_T94 l1 x5_1).f4)) ∧ w'.cell? ⟨(ad122.add ((x5_1).toNat * 7)).block, (ad122.add ((x5_1).toNat * 7)).off + 5, none⟩ = some (.int .i64 ((rd_T94 l1 x5_1).f5)) ∧ w'.cell? ⟨(ad122.add ((x5_1).toNat * 7)).block, (ad122.add ((x5_1).toNat * 7)).off + 6, none⟩ = some (.string ((rd_T94 l1 x5_1).f6))) (ds := []) (fb 10 0) (by kernel_rfl) rfl rfl ⟨((HB.out.cell (World.block_lt_of_cell? w _ hw121_0)).trans hw121_0), ((HB.out.cell (World.block_lt_of_cell? w _ hw121_1)).trans hw121_1), ((HB.out.cell (World.block_lt_of_cell? w _ hw121_2)).trans hw121_2), ((HB.out.cell (World.block_lt_of_cell? w _ hw121_3)).trans hw121_3), ((HB.out.cell (World.block_lt_of_cell? w _ hw121_4)).trans hw121_4), ((HB.out.cell (World.block_lt_of_cell? w _ hw121_5)).trans hw121_5), ((HB.out.cell (World.block_lt_of_cell? w _ hw121_6)).trans hw121_6), ((HB.out.cell (World.block_lt_of_cell? w _ hw122_0)).trans hw122_0), ((HB.out.cell (World.block_lt_of_cell? w _ hw122_1)).trans hw122_1), ((HB.out.cell (World.block_lt_of_cell? w _ hw122_2)).trans hw122_2), ((HB.out.cell (World.block_lt_of_cell? w _ hw122_3)).trans hw122_3), ((HB.out.cell (World.block_lt_of_cell? w _ hw122_4)).trans hw122_4), ((HB.out.cell (World.block_lt_of_cell? w _ hw122_5)).trans hw122_5), ((HB.out.cell (World.block_lt_of_cell? w _ hw122_6)).trans hw122_6)⟩ (fun hHeld => ?_); refine with_tabW laws_eqClauseS.tab6 laws_eqClauseS.bits6 (fun HT_ HW_ => ?_)
             generalize wr.drew = w11 at HB hx121_0 hx121_1 hx121_2 hx121_3 hx121_4 hx121_5 hx121_6 hx122_0 hx122_1 hx122_2 hx122_3 hx122_4 hx122_5 hx122_6 hHeld ⊢
             refine sqP_ 0 17 (fb 10 1) (any_of HT_.out (by kernel_rfl)) ?_
             refine sqP_ 1 18 (fb 10 3) (any_of HT_.out (by kernel_rfl)) ?_
             refine sqP_ 2 19 (fb 10 7) (any_of HT_.out (by kernel_rfl)) ?_
             refine sqP_ 4 21 (fb 10 23) (any_of HT_.out (by kernel_rfl)) ?_
             refine sqP_ 5 22 (fb 10 55) (any_of HT_.out (by kernel_rfl)) ?_
             refine sqP_ 6 23 (fb 10 119) (any_of HT_.out (by kernel_rfl)) ?_
             refine sqT_ 3 20 (fb 10 127) (take_ofW HT_.out HW_.out (by kernel_rfl)) hHeld ?_
             refine sqT_ 7 24 (fb 10 255) (take_ofW HT_.out HW_.out (by kernel_rfl)) hHeld ?_
             refine one_ (i := 8) (N := some 25) (fb 10 511) rfl rfl (one_of HT_.out (by kernel_rfl)) (by decide) (fun K hK => ?_)
             refine goes_ Try.func62 (by kernel_rfl) rfl #[.agg #[.string ((rd_T94 l0 x5_1).f0), .int .i64 ((rd_T94 l0 x5_1).f1), .int .i64 ((rd_T94 l0 x5_1).f2), .int .i64 ((rd_T94 l0 x5_1).f3), .int .i64 ((rd_T94 l0 x5_1).f4), .int .i64 ((rd_T94 l0 x5_1).f5), .string ((rd_T94 l0 x5_1).f6)], .agg #[.string ((rd_T94 l1 x5_1).f0), .int .i64 ((rd_T94 l1 x5_1).f1), .int .i64 ((rd_T94 l1 x5_1).f2), .int .i64 ((rd_T94 l1 x5_1).f3), .int .i64 ((rd_T94 l1 x5_1).f4), .int .i64 ((rd_T94 l1 x5_1).f5), .string ((rd_T94 l1 x5_1).f6)]] (by rfl) rfl rfl (by (try simp only [List.map_toArray, List.map_cons, List.map_nil]); first | done | rfl | (simp only [List.length_drop, List.length_take]; rfl)) ?_
             with_reducible refine (laws_eqClause.calls ((rd_T94 l0 x5_1).f0) ((rd_T94 l0 x5_1).f1) ((rd_T94 l0 x5_1).f2) ((rd_T94 l0 x5_1).f3) ((rd_T94 l0 x5_1).f4) ((rd_T94 l0 x5_1).f5) ((rd_T94 l0 x5_1).f6) ((rd_T94 l1 x5_1).f0) ((rd_T94 l1 x5_1).f1) ((rd_T94 l1 x5_1).f2) ((rd_T94 l1 x5_1).f3) ((rd_T94 l1 x5_1).f4) ((rd_T94 l1 x5_1).f5) ((rd_T94 l1 x5_1).f6) false _ A7.out).mono ?_
             rintro e w12 ⟨rfl, hb⟩
             refine ⟨_, rfl, ?_⟩
             have n0_ := Aside0.mk (bs_ hb)
             clear HB; revert n0_; intro HB
             (try clear hb)
             (try clear hb2)
             (try clear hk)
             (try clear hi)
             refine hK.out _ _ ⟨((HB.out.cell (World.block_lt_of_cell? w _ hw121_0)).trans hw121_0), ((HB.out.cell (World.block_lt_of_cell? w _ hw121_1)).trans hw121_1), ((HB.out.cell (World.block_lt_of_cell? w _ hw121_2)).trans hw121_2), ((HB.out.cell (World.block_lt_of_cell? w _ hw121_3)).trans hw121_3), ((HB.out.cell (World.block_lt_of_cell? w _ hw121_4)).trans hw121_4), ((HB.out.cell (World.block_lt_of_cell? w _ hw121_5)).trans hw121_5), ((HB.out.cell (World.block_lt_of_cell? w _ hw121_6)).trans hw121_6), ((HB.out.cell (World.block_lt_of_cell? w _ hw122_0)).trans hw122_0), ((HB.out.cell (World.block_lt_of_cell? w _ hw122_1)).trans hw122_1), ((HB.out.cell (World.block_lt_of_cell? w _ hw122_2)).trans hw122_2), ((HB.out.cell (World.block_lt_of_cell? w _ hw122_3)).trans hw122_3), ((HB.out.cell (World.block_lt_of_cell? w _ hw122_4)).trans hw122_4), ((HB.out.cell (World.block_lt_of_cell? w _ hw122_5)).trans hw122_5), ((HB.out.cell (World.block_lt_of_cell? w _ hw122_6)).trans hw122_6)⟩ (fun hHeld => ?_)
             clear hK K
             refine sqN_ 25 ?_
             refine sqP_ 9 26 (fb 10 1023) (any_of HT_.out (by kernel_rfl)) ?_
             refine done_ (done_of HT_.out (by kernel_rfl)) ?_
             try go_wp2
             go_ret
             exact ⟨by first | rfl | (simp [errW_none, errW_some] <;> rfl) | (simp [*, errW_none, errW_some] <;> rfl), bb_⟩
         · rw [if_neg c6] at H
           exact absurd H (by simp)
       · rw [if_neg c5] at H
         exact absurd H (by simp)
     · rw [if_neg c4] at H
       have c4b0 : decide (x5_1 < (l0.length : Int)) = false := decide_eq_false c4
       clear c4
       obtain rfl := Option.some.inj H
       go_wp2
       go_ret
       exact ⟨by first | rfl | (simp [errW_none, errW_some] <;> rfl) | (simp [*, errW_none, errW_some] <;> rfl), bb_⟩
 · rw [if_neg c3] at H
   have c3b0 : ((l0.length : Int) == (l1.length : Int)) = false := beq_eq_false_iff_ne.mpr c3
   have c3b1 : ((l0.length : Int) != (l1.length : Int)) = true := bne_iff_ne.mpr c3
   have c3b2 : (l0.length == l1.length) = false := by first | simpa using c3 | (simp at c3 ⊢; omega)
   obtain rfl := Option.some.inj H
   go_enter Try.func22, Try.ntmps22
   go_wp2
   go_ret
   exact ⟨by first | rfl | (simp [errW_none, errW_some] <;> rfl) | (simp [*, errW_none, errW_some] <;> rfl), bb_⟩

end Go.Proofs.Ytmfbkbbgokjhnaa.F
namespace Go.Proofs.Ytmfbkbbgokjhnaa.F
open Go.RowKit Go.Proofs.YtmfbkbbgokjhnaaW.PrintWords Go.Proofs.YtmfbkbbgokjhnaaW.PrintLast Go.Proofs.YtmfbkbbgokjhnaaW.PrintMore
attribute [local go_sem] max2_int min2_int max_two min_two max_three min_three max_four min_four   -- for this text's walks alone
set_option linter.unusedVariables false
set_option linter.unusedSimpArgs false

/-! ### laws_szEvent: function 15 -/
def laws_szEvent.f (a0_0 : Int) (a0_1 : Int) (a0_2 : ByteArray) (a0_3 : Int) (a0_4 : Bool) (a0_5 : Bool) (a0_6 : Bool) (a1 : Int) : Option (Int) := if (wrap64 (a1 - (a0_2.size : Int))) < 0 then (some (-1)) else (some (wrap64 (a1 - (a0_2.size : Int))))
set_option maxHeartbeats 8000000 in
set_option maxRecDepth 100000 in
theorem laws_szEvent.calls (a0_0 : Int) (a0_1 : Int) (a0_2 : ByteArray) (a0_3 : Int) (a0_4 : Bool) (a0_5 : Bool) (a0_6 : Bool) (a1 : Int) (r : Int) (w : World) (h : laws_szEvent.f a0_0 a0_1 a0_2 a0_3 a0_4 a0_5 a0_6 a1 = some r) :
 Calls Try.prog 15 #[.agg #[.int .i64 a0_0, .int .i64 a0_1, .string a0_2, .int .i64 a0_3, .bool a0_4, .bool a0_5, .bool a0_6], .int .i64 a1] w fun e w' => e = .returned (.int .i64 r) ∧ Below w.heap.size w w' := by
 have hu32 := Try.underlying32
 have HB := Aside0.mk (Below.refl w.heap.size w)
 have H : (if (wrap64 (a1 - (a0_2.size : Int))) < 0 then (some (-1)) else (some (wrap64 (a1 - (a0_2.size : Int))))) = some r := h
 clear h
 by_cases c3 : (wrap64 (a1 - (a0_2.size : Int))) < 0
 rw [if_pos c3] at H
 have c3b0 : decide ((wrap64 (a1 - (a0_2.size : Int))) < 0) = true := decide_eq_true c3
 clear c3
 obtain rfl := Option.some.inj H
 rotate_left
 rw [if_neg c3] at H
 have c3b0 : decide ((wrap64 (a1 - (a0_2.size : Int))) < 0) = false := decide_eq_false c3
 clear c3
 obtain rfl := Option.some.inj H
 rotate_left
 all_goals
  go_enter Try.func15, Try.ntmps15
  go_wp2_with (first | ((with_reducible refine gate_dst (N := 2) rfl ?_); refine bx_ 2 #[.int .i64 a0_0, .int .i64 a0_1, .string a0_2, .int .i64 a0_3, .bool a0_4, .bool a0_5, .bool a0_6] 32 ?_; intro gb124 hg w4 hbox hb; have n0_ := Aside0.mk (bs_ hb); have n1_ := Aside0.mk (hbox); have n2_ := Aside0.mk ((by rw [hg]; exact (bz_) : w.heap.size ≤ gb124)); have n3_ := Aside0.mk ((by rw [hg]; exact (bz_) : w.heap.size ≤ gb124)); clear HB; revert n0_ n1_ n2_ n3_; intro HB BK124 GW124 GE124; clear hb hbox hg; have hcz5_0 := bk BK124 0; have hcz5_1 := bk BK124 1; have hcz5_2 := bk BK124 2; have hcz5_3 := bk BK124 3; have hcz5_4 := bk BK124 4; have hcz5_5 := bk BK124 5; have hcz5_6 := bk BK124 6; have hfz5_0 := blk_frozen BK124.out 0; have hfz5_1 := blk_frozen BK124.out 1; have hfz5_2 := blk_frozen BK124.out 2; have hfz5_3 := blk_frozen BK124.out 3; have hfz5_4 := blk_frozen BK124.out 4; have hfz5_5 := blk_frozen BK124.out 5; have hfz5_6 := blk_frozen BK124.out 6))
  go_ret
  exact ⟨by first | rfl | (simp [errW_none, errW_some] <;> rfl) | (simp [*, errW_none, errW_some] <;> rfl), bb_⟩

/-! ### laws_szEventS: function 24 -/
def laws_szEventS.l0 : Nat → List (S32) → Int → Int → Option (Int)
 | 0, _, _, _ => none
 | k + 1, x0, x1, x5 => if x5 < (x0.length : Int) then (if 0 ≤ x5 then ((laws_szEvent.f ((rd_T32 x0 x5).f0) ((rd_T32 x0 x5).f1) ((rd_T32 x0 x5).f2) ((rd_T32 x0 x5).f3) ((rd_T32 x0 x5).f4) ((rd_T32 x0 x5).f5) ((rd_T32 x0 x5).f6) x1).bind fun t126 => (if t126 < 0 then (some (-1)) else (laws_szEventS.l0 k x0 t126 (wrap64 (x5 + 1))))) else (none)) else (some x1)
def laws_szEventS.f (k : Nat) (l0 : List (S32)) (a1 : Int) : Option (Int) := if (wrap64 (a1 - (l0.length : Int))) < 0 then (some (-1)) else (laws_szEventS.l0 k l0 (wrap64 (a1 - (l0.length : Int))) 0)
theorem laws_szEventS.mono_l : ∀ k, (∀ y0 y1 y2, LeO (laws_szEventS.l0 k y0 y1 y2) (laws_szEventS.l0 (k + 1) y0 y1 y2))
 | 0 => fun _ _ _ r h => by simp [laws_szEventS.l0] at h
 | k + 1 => by
  have ih0 := laws_szEventS.mono_l k
  · intro y0 y1 y2
    unfold laws_szEventS.l0
    repeat' first
    | (with_reducible exact ih0 _ _ _)
    | (with_reducible exact LeO.refl _)
    | (with_reducible exact LeO.none _)
    | (with_reducible refine LeO.ite ?_ ?_)
    | (with_reducible refine LeO.bind ?_ (fun _ => ?_))
    | exact ih0 _ _ _
    | exact LeO.none _
    | refine LeO.ite ?_ ?_
    | refine LeO.bind ?_ (fun _ => ?_)
theorem laws_szEventS.mono : ∀ a0 a1 k, LeO (laws_szEventS.f k a0 a1) (laws_szEventS.f (k + 1) a0 a1) := by
 intro a0 a1 k
 have ih0 := laws_szEventS.mono_l k
 unfold laws_szEventS.f
 repeat' first
  | (with_reducible exact ih0 _ _ _)
  | (with_reducible exact LeO.refl _)
  | (with_reducible exact LeO.none _)
  | (with_reducible refine LeO.ite ?_ ?_)
  | (with_reducible refine LeO.bind ?_ (fun _ => ?_))
  | exact ih0 _ _ _
  | exact LeO.none _
  | refine LeO.ite ?_ ?_
  | refine LeO.bind ?_ (fun _ => ?_)
set_option maxHeartbeats 8000000 in
set_option maxRecDepth 100000 in
theorem laws_szEventS.calls (k : Nat) (A0 : Option Addr) (c0 : Nat) (l0 : List (S32)) (a1 : Int) (r : Int) (w : World) (hr0 : Kd.C k32 w A0 l0.length l0) (hc0 : l0.length ≤ c0) (h : laws_szEventS.f k l0 a1 = some r) :
 Calls Try.prog 24 #[.slice A0 l0.length c0, .int .i64 a1] w fun e w' => e = .returned (.int .i64 r) ∧ Below w.heap.size w w' := by
 have hu32 := Try.underlying32
 have HR0 := Aside0.mk hr0
 have HC0 := Aside0.mk hc0
 clear hr0 hc0
 have HB := Aside0.mk (Below.refl w.heap.size w)
 have H : (if (wrap64 (a1 - (l0.length : Int))) < 0 then (some (-1)) else (laws_szEventS.l0 k l0 (wrap64 (a1 - (l0.length : Int))) 0)) = some r := h
 clear h
 by_cases c3 : (wrap64 (a1 - (l0.length : Int))) < 0
 · rw [if_pos c3] at H
   have c3b0 : decide ((wrap64 (a1 - (l0.length : Int))) < 0) = true := decide_eq_true c3
   clear c3
   obtain rfl := Option.some.inj H
   go_enter Try.func24, Try.ntmps24
   go_wp2
   go_ret
   exact ⟨by first | rfl | (simp [errW_none, errW_some] <;> rfl) | (simp [*, errW_none, errW_some] <;> rfl), bb_⟩
 · rw [if_neg c3] at H
   have c3b0 : decide ((wrap64 (a1 - (l0.length : Int))) < 0) = false := decide_eq_false c3
   clear c3
   have H' := Aside0.mk H
   clear H
   go_enter Try.func24, Try.ntmps24
   go_wp2
   go_loopg [1, 5] k (fun kq v1 v5 w' => ∃ (x1_1 : Int) (x5_1 : Int), v1 = .int .i64 x1_1 ∧ v5 = .int .i64 x5_1 ∧ Aside0 (laws_szEventS.l0 kq l0 x1_1 x5_1 = some r) ∧ Aside0 (kq ≤ k) ∧ Aside0 (Below w.heap.size w w'))
   case atStart => exact ⟨(wrap64 (a1 - (l0.length : Int))), (0), (by first | rfl | (simp; done) | (simp [*]; done)), (by first | rfl | (simp; done) | (simp [*]; done)), H', ⟨Nat.le_refl _⟩, ⟨bb_⟩⟩
   case round =>
    clear H'
    try clear c2
    try clear p2
    try clear c3
    try clear c3b0
    obtain ⟨x1_1, x5_1, rfl, rfl, HA, HK1, HB⟩ := hrel
    cases gk with
    | zero => exact absurd HA.out (by simp [laws_szEventS.l0])
    | succ k1 =>
     have H := HA.out
     clear HA
     simp only [laws_szEventS.l0] at H
     by_cases c4 : x5_1 < (l0.length : Int)
     · rw [if_pos c4] at H
       have c4b0 : decide (x5_1 < (l0.length : Int)) = true := decide_eq_true c4
       clear c4
       by_cases c5 : 0 ≤ x5_1
       · rw [if_pos c5] at H
         have c5b0 : decide (0 ≤ x5_1) = true := decide_eq_true c5
         clear c5
         replace H := Option.bind_eq_some_iff.mp H
         obtain ⟨t126, A60, H⟩ := H
         replace H : (if t126 < 0 then (some (-1)) else (laws_szEventS.l0 k1 l0 t126 (wrap64 (x5_1 + 1)))) = some r := H
         have A6 := Aside0.mk A60
         clear A60
         by_cases c7 : t126 < 0
         · rw [if_pos c7] at H
           have c7b0 : decide (t126 < 0) = true := decide_eq_true c7
           clear c7
           obtain rfl := Option.some.inj H
           have p125 : 0 ≤ (x5_1 : Int) := od_
           have q125 : x5_1 < (l0.length : Int) := od_
           obtain ⟨ad125, e125, hx125_0, hx125_1, hx125_2, hx125_3, hx125_4, hx125_5, hx125_6⟩ := at_T32 HR0.out x5_1 p125 q125
           cases e125
           replace hx125_0 := cel HB hx125_0
           replace hx125_1 := cel HB hx125_1
           replace hx125_2 := cel HB hx125_2
           replace hx125_3 := cel HB hx125_3
           replace hx125_4 := cel HB hx125_4
           replace hx125_5 := cel HB hx125_5
           replace hx125_6 := cel HB hx125_6
           replace p125 := eq_true p125
           replace q125 := eq_true q125
           go_wp2_with (first | ((with_reducible refine gate_callee (f := 15) rfl ?_); refine gl_ 23 Try.func15 #[.agg #[.int .i64 ((rd_T32 l0 x5_1).f0), .int .i64 ((rd_T32 l0 x5_1).f1), .string ((rd_T32 l0 x5_1).f2), .int .i64 ((rd_T32 l0 x5_1).f3), .bool ((rd_T32 l0 x5_1).f4), .bool ((rd_T32 l0 x5_1).f5), .bool ((rd_T32 l0 x5_1).f6)], .int .i64 x1_1] ?_; (with_reducible refine (laws_szEvent.calls ((rd_T32 l0 x5_1).f0) ((rd_T32 l0 x5_1).f1) ((rd_T32 l0 x5_1).f2) ((rd_T32 l0 x5_1).f3) ((rd_T32 l0 x5_1).f4) ((rd_T32 l0 x5_1).f5) ((rd_T32 l0 x5_1).f6) x1_1 t126 _ A6.out).mono ?_); rintro e w8 ⟨rfl, hb⟩; refine ⟨_, rfl, ?_⟩; have n0_ := Aside0.mk (bs_ hb); clear HB; revert n0_; intro HB; (try clear hb); (try clear hb2); (try clear hk); (try clear hi)))
           go_ret
           exact ⟨by first | rfl | (simp [errW_none, errW_some] <;> rfl) | (simp [*, errW_none, errW_some] <;> rfl), bb_⟩
         · rw [if_neg c7] at H
           have c7b0 : decide (t126 < 0) = false := decide_eq_false c7
           clear c7
           have H' := Aside0.mk H
           clear H
           have p125 : 0 ≤ (x5_1 : Int) := od_
           have q125 : x5_1 < (l0.length : Int) := od_
           obtain ⟨ad125, e125, hx125_0, hx125_1, hx125_2, hx125_3, hx125_4, hx125_5, hx125_6⟩ := at_T32 HR0.out x5_1 p125 q125
           cases e125
           replace hx125_0 := cel HB hx125_0
           replace hx125_1 := cel HB hx125_1
           replace hx125_2 := cel HB hx125_2
           replace hx125_3 := cel HB hx125_3
           replace hx125_4 := cel HB hx125_4
           replace hx125_5 := cel HB hx125_5
           replace hx125_6 := cel HB hx125_6
           replace p125 := eq_true p125
           replace q125 := eq_true q125
           go_wp2_with (first | ((with_reducible refine gate_callee (f := 15) rfl ?_); refine gl_ 23 Try.func15 #[.agg #[.int .i64 ((rd_T32 l0 x5_1).f0), .int .i64 ((rd_T32 l0 x5_1).f1), .string ((rd_T32 l0 x5_1).f2), .int .i64 ((rd_T32 l0 x5_1).f3), .bool ((rd_T32 l0 x5_1).f4), .bool ((rd_T32 l0 x5_1).f5), .bool ((rd_T32 l0 x5_1).f6)], .int .i64 x1_1] ?_; (with_reducible refine (laws_szEvent.calls ((rd_T32 l0 x5_1).f0) ((rd_T32 l0 x5_1).f1) ((rd_T32 l0 x5_1).f2) ((rd_T32 l0 x5_1).f3) ((rd_T32 l0 x5_1).f4) ((rd_T32 l0 x5_1).f5) ((rd_T32 l0 x5_1).f6) x1_1 t126 _ A6.out).mono ?_); rintro e w9 ⟨rfl, hb⟩; refine ⟨_, rfl, ?_⟩; have n0_ := Aside0.mk (bs_ hb); clear HB; revert n0_; intro HB; (try clear hb); (try clear hb2); (try clear hk); (try clear hi)))
           go_roundg k1
           case measure => have := HK1.out; omega
           case rel => exact ⟨(t126), (wrap64 (x5_1 + 1)), (by first | rfl | (simp; done) | (simp [*]; done)), (by first | rfl | (simp; done) | (simp [*]; done)), H', ⟨by have := HK1.out; omega⟩, ⟨bb_⟩⟩
       · rw [if_neg c5] at H
         exact absurd H (by simp)
     · rw [if_neg c4] at H
       have c4b0 : decide (x5_1 < (l0.length : Int)) = false := decide_eq_false c4
       clear c4
       obtain rfl := Option.some.inj H
       go_wp2
       go_ret
       exact ⟨by first | rfl | (simp [errW_none, errW_some] <;> rfl) | (simp [*, errW_none, errW_some] <;> rfl), bb_⟩

/-! ### laws_toEvent: function 19 -/
def laws_toEvent.f (a0_0 : Int) (a0_1 : Int) (a0_2 : ByteArray) (a0_3 : Int) (a0_4 : Bool) (a0_5 : Bool) (a0_6 : Bool) : Option (Int × Int × ByteArray × Int × Bool × Bool × Bool) := some (a0_0, a0_1, a0_2, a0_3, a0_4, a0_5, a0_6)
set_option maxHeartbeats 8000000 in
set_option maxRecDepth 100000 in
theorem laws_toEvent.calls (a0_0 : Int) (a0_1 : Int) (a0_2 : ByteArray) (a0_3 : Int) (a0_4 : Bool) (a0_5 : Bool) (a0_6 : Bool) (r1 : Int) (r2 : Int) (r3 : ByteArray) (r4 : Int) (r5 : Bool) (r6 : Bool) (r7 : Bool) (w : World) (h : laws_toEvent.f a0_0 a0_1 a0_2 a0_3 a0_4 a0_5 a0_6 = some (r1, r2, r3, r4, r5, r6, r7)) :
 Calls Try.prog 19 #[.agg #[.int .i64 a0_0, .int .i64 a0_1, .string a0_2, .int .i64 a0_3, .bool a0_4, .bool a0_5, .bool a0_6]] w fun e w' => e = .returned (.agg #[.int .i64 r1, .int .i64 r2, .string r3, .int .i64 r4, .bool r5, .bool r6, .bool r7]) ∧ Below w.heap.size w w' := by
 have hu32 := Try.underlying32
 have hu43 := Try.underlying43
 have HB := Aside0.mk (Below.refl w.heap.size w)
 have H : (some (a0_0, a0_1, a0_2, a0_3, a0_4, a0_5, a0_6)) = some (r1, r2, r3, r4, r5, r6, r7) := h
 clear h
 simp only [Option.some.injEq, Prod.mk.injEq] at H
 obtain ⟨rfl, rfl, rfl, rfl, rfl, rfl, rfl⟩ := H
 go_enter Try.func19, Try.ntmps19
 go_wp2_with (first | ((with_reducible refine gate_dst (N := 1) rfl ?_); refine bx_ 1 #[.int .i64 a0_0, .int .i64 a0_1, .string a0_2, .int .i64 a0_3, .bool a0_4, .bool a0_5, .bool a0_6] 32 ?_; intro gb127 hg w2 hbox hb; have n0_ := Aside0.mk (bs_ hb); have n1_ := Aside0.mk (hbox); have n2_ := Aside0.mk ((by rw [hg]; exact (bz_) : w.heap.size ≤ gb127)); have n3_ := Aside0.mk ((by rw [hg]; exact (bz_) : w.heap.size ≤ gb127)); clear HB; revert n0_ n1_ n2_ n3_; intro HB BK127 GW127 GE127; clear hb hbox hg) | ((with_reducible refine gate_dst (N := 2) rfl ?_); refine bx_ 2 #[.int .i64 0, .int .i64 0, .string (⟨#[]⟩ : ByteArray), .int .i64 0, .bool false, .bool false, .bool false] 43 ?_; intro gb128 hg w3 hbox hb; have n0_ := Aside0.mk (bkb BK127 hb); have n1_ := Aside0.mk (bs_ hb); have n2_ := Aside0.mk (hbox); have n3_ := Aside0.mk ((by rw [hg]; exact (bz_) : w.heap.size ≤ gb128)); have n4_ := Aside0.mk ((by rw [hg]; exact (bz_) : w.heap.size ≤ gb128)); have n5_ := Aside0.mk ((by rw [hg]; exact Nat.ne_of_lt (blk_lt (g := gb127) (o := .cells #[.int .i64 a0_0, .int .i64 a0_1, .string a0_2, .int .i64 a0_3, .bool a0_4, .bool a0_5, .bool a0_6] 32 (0, 0)) (by (with_reducible repeat (first | refine blk_drewN ?_ _ | refine blk_drew ?_ | refine blk_alloc ?_ _)); exact BK127.out)) : gb127 ≠ gb128)); have n6_ := Aside0.mk ((by rw [hg]; exact Nat.ne_of_gt (blk_lt (g := gb127) (o := .cells #[.int .i64 a0_0, .int .i64 a0_1, .string a0_2, .int .i64 a0_3, .bool a0_4, .bool a0_5, .bool a0_6] 32 (0, 0)) (by (with_reducible repeat (first | refine blk_drewN ?_ _ | refine blk_drew ?_ | refine blk_alloc ?_ _)); exact BK127.out)) : gb128 ≠ gb127)); clear BK127 HB; revert n0_ n1_ n2_ n3_ n4_ n5_ n6_; intro BK127 HB BK128 GW128 GE128 NB127_128 NB128_127; clear hb hbox hg) | ((with_reducible refine gate_dst (N := 3) rfl ?_); refine bx_ 3 #[.int .i64 0, .int .i64 0, .string (⟨#[]⟩ : ByteArray), .int .i64 0, .bool false, .bool false, .bool false] 43 ?_; intro gb129 hg w4 hbox hb; have n0_ := Aside0.mk (bkb BK127 hb); have n1_ := Aside0.mk (bkb BK128 hb); have n2_ := Aside0.mk (bs_ hb); have n3_ := Aside0.mk (hbox); have n4_ := Aside0.mk ((by rw [hg]; exact (bz_) : w.heap.size ≤ gb129)); have n5_ := Aside0.mk ((by rw [hg]; exact (bz_) : w.heap.size ≤ gb129)); have n6_ := Aside0.mk ((by rw [hg]; exact Nat.ne_of_lt (blk_lt (g := gb127) (o := .cells #[.int .i64 a0_0, .int .i64 a0_1, .string a0_2, .int .i64 a0_3, .bool a0_4, .bool a0_5, .bool a0_6] 32 (0, 0)) (by (with_reducible repeat (first | refine blk_drewN ?_ _ | refine blk_drew ?_ | refine blk_alloc ?_ _)); exact BK127.out)) : gb127 ≠ gb129)); have n7_ := Aside0.mk ((by rw [hg]; exact Nat.ne_of_gt (blk_lt (g := gb127) (o := .cells #[.int .i64 a0_0, .int .i64 a0_1, .string a0_2, .int .i64 a0_3, .bool a0_4, .bool a0_5, .bool a0_6] 32 (0, 0)) (by (with_reducible repeat (first | refine blk_drewN ?_ _ | refine blk_drew ?_ | refine blk_alloc ?_ _)); exact BK127.out)) : gb129 ≠ gb127)); have n8_ := Aside0.mk ((by rw [hg]; exact Nat.ne_of_lt (blk_lt (g := gb128) (o := .cells #[.int .i64 0, .int .i64 0, .string (⟨#[]⟩ : ByteArray), .int .i64 0, .bool false, .bool false, .bool false] 43 (0, 0)) (by (with_reducible repeat (first | refine blk_drewN ?_ _ | refine blk_drew ?_ | refine blk_alloc ?_ _)); exact BK128.out)) : gb128 ≠ gb129)); have n9_ := Aside0.mk ((by rw [hg]; exact Nat.ne_of_gt (blk_lt (g := gb128) (o := .cells #[.int .i64 0, .int .i64 0, .string (⟨#[]⟩ : ByteArray), .int .i64 0, .bool false, .bool false, .bool false] 43 (0, 0)) (by (with_reducible repeat (first | refine blk_drewN ?_ _ | refine blk_drew ?_ | refine blk_alloc ?_ _)); exact BK128.out)) : gb129 ≠ gb128)); clear BK127 BK128 HB; revert n0_ n1_ n2_ n3_ n4_ n5_ n6_ n7_ n8_ n9_; intro BK127 BK128 HB BK129 GW129 GE129 NB127_129 NB129_127 NB128_129 NB129_128; clear hb hbox hg; have hnb5 := NB127_128.out; have hnc5 := NB128_127.out; have hnb6 := NB127_129.out; have hnc6 := NB129_127.out; have hcz7_0 := bk BK127 0; have hcz7_1 := bk BK127 1; have hcz7_2 := bk BK127 2; have hcz7_3 := bk BK127 3; have hcz7_4 := bk BK127 4; have hcz7_5 := bk BK127 5; have hcz7_6 := bk BK127 6; have hfz7_0 := blk_frozen BK127.out 0; have hfz7_1 := blk_frozen BK127.out 1; have hfz7_2 := blk_frozen BK127.out 2; have hfz7_3 := blk_frozen BK127.out 3; have hfz7_4 := blk_frozen BK127.out 4; have hfz7_5 := blk_frozen BK127.out 5; have hfz7_6 := blk_frozen BK127.out 6; have hnb8 := NB129_128.out; have hnc8 := NB128_129.out; have hcz9_0 := bk BK129 0; have hcz9_1 := bk BK129 1; have hcz9_2 := bk BK129 2; have hcz9_3 := bk BK129 3; have hcz9_4 := bk BK129 4; have hcz9_5 := bk BK129 5; have hcz9_6 := bk BK129 6; have hfz9_0 := blk_frozen BK129.out 0; have hfz9_1 := blk_frozen BK129.out 1; have hfz9_2 := blk_frozen BK129.out 2; have hfz9_3 := blk_frozen BK129.out 3; have hfz9_4 := blk_frozen BK129.out 4; have hfz9_5 := blk_frozen BK129.out 5; have hfz9_6 := blk_frozen BK129.out 6; have hcz10_0 := bk BK128 0; have hcz10_1 := bk BK128 1; have hcz10_2 := bk BK128 2; have hcz10_3 := bk BK128 3; have hcz10_4 := bk BK128 4; have hcz10_5 := bk BK128 5; have hcz10_6 := bk BK128 6; have hfz10_0 := blk_frozen BK128.out 0; have hfz10_1 := blk_frozen BK128.out 1; have hfz10_2 := blk_frozen BK128.out 2; have hfz10_3 := blk_frozen BK128.out 3; have hfz10_4 := blk_frozen BK128.out 4; have hfz10_5 := blk_frozen BK128.out 5; have hfz10_6 := blk_frozen BK128.out 6))
 refine bodyPost_ret (results_cell_row rfl _ _ gb128 43 #[.int .i64 a0_0, .int .i64 a0_1, .string a0_2, .int .i64 a0_3, .bool a0_4, .bool a0_5, .bool a0_6] (0, 0) _ rfl (by (with_reducible repeat (first | refine blk_drewN ?_ _ | refine blk_drew ?_ | refine blk_alloc ?_ _)); refine blk_put (cs := #[.int .i64 a0_0, .int .i64 a0_1, .string a0_2, .int .i64 a0_3, .bool a0_4, .bool a0_5, .bool false]) ?_ 6 _ rfl; (with_reducible repeat (first | refine blk_drewN ?_ _ | refine blk_drew ?_ | refine blk_alloc ?_ _)); refine blk_put (cs := #[.int .i64 a0_0, .int .i64 a0_1, .string a0_2, .int .i64 a0_3, .bool a0_4, .bool false, .bool false]) ?_ 5 _ rfl; (with_reducible repeat (first | refine blk_drewN ?_ _ | refine blk_drew ?_ | refine blk_alloc ?_ _)); refine blk_put (cs := #[.int .i64 a0_0, .int .i64 a0_1, .string a0_2, .int .i64 a0_3, .bool false, .bool false, .bool false]) ?_ 4 _ rfl; (with_reducible repeat (first | refine blk_drewN ?_ _ | refine blk_drew ?_ | refine blk_alloc ?_ _)); refine blk_put (cs := #[.int .i64 a0_0, .int .i64 a0_1, .string a0_2, .int .i64 0, .bool false, .bool false, .bool false]) ?_ 3 _ rfl; (with_reducible repeat (first | refine blk_drewN ?_ _ | refine blk_drew ?_ | refine blk_alloc ?_ _)); refine blk_put (cs := #[.int .i64 a0_0, .int .i64 a0_1, .string (⟨#[]⟩ : ByteArray), .int .i64 0, .bool false, .bool false, .bool false]) ?_ 2 _ rfl; (with_reducible repeat (first | refine blk_drewN ?_ _ | refine blk_drew ?_ | refine blk_alloc ?_ _)); refine blk_put (cs := #[.int .i64 a0_0, .int .i64 0, .string (⟨#[]⟩ : ByteArray), .int .i64 0, .bool false, .bool false, .bool false]) ?_ 1 _ rfl; (with_reducible repeat (first | refine blk_drewN ?_ _ | refine blk_drew ?_ | refine blk_alloc ?_ _)); refine blk_put (cs := #[.int .i64 0, .int .i64 0, .string (⟨#[]⟩ : ByteArray), .int .i64 0, .bool false, .bool false, .bool false]) ?_ 0 _ rfl; (with_reducible repeat (first | refine blk_drewN ?_ _ | refine blk_drew ?_ | refine blk_alloc ?_ _)); refine blk_far ?_ NB128_129.out _; (with_reducible repeat (first | refine blk_drewN ?_ _ | refine blk_drew ?_ | refine blk_alloc ?_ _)); refine blk_far ?_ NB128_129.out _; (with_reducible repeat (first | refine blk_drewN ?_ _ | refine blk_drew ?_ | refine blk_alloc ?_ _)); refine blk_far ?_ NB128_129.out _; (with_reducible repeat (first | refine blk_drewN ?_ _ | refine blk_drew ?_ | refine blk_alloc ?_ _)); refine blk_far ?_ NB128_129.out _; (with_reducible repeat (first | refine blk_drewN ?_ _ | refine blk_drew ?_ | refine blk_alloc ?_ _)); refine blk_far ?_ NB128_129.out _; (with_reducible repeat (first | refine blk_drewN ?_ _ | refine blk_drew ?_ | refine blk_alloc ?_ _)); refine blk_far ?_ NB128_129.out _; (with_reducible repeat (first | refine blk_drewN ?_ _ | refine blk_drew ?_ | refine blk_alloc ?_ _)); refine blk_far ?_ NB128_129.out _; (with_reducible repeat (first | refine blk_drewN ?_ _ | refine blk_drew ?_ | refine blk_alloc ?_ _)); exact BK128.out) Try.underlying43 rfl (by kernel_rfl)) rfl ?_
 exact ⟨by first | rfl | (simp [errW_none, errW_some] <;> rfl) | (simp [*, errW_none, errW_some] <;> rfl), bb_⟩

/-! ### laws_toEventS: function 27 -/
def laws_toEventS.l0 : Nat → List (S32) → List (S43) → Int → Option ((List (S43)))
 | 0, _, _, _ => none
 | k + 1, x0, x3, x4 => if x4 < (x0.length : Int) then (if 0 ≤ x4 then ((laws_toEvent.f ((rd_T32 x0 x4).f0) ((rd_T32 x0 x4).f1) ((rd_T32 x0 x4).f2) ((rd_T32 x0 x4).f3) ((rd_T32 x0 x4).f4) ((rd_T32 x0 x4).f5) ((rd_T32 x0 x4).f6)).bind fun bt134 => (if x4 < (x3.length : Int) then (laws_toEventS.l0 k x0 (x3.set (x4 : Int).toNat (⟨bt134.1, bt134.2.1, bt134.2.2.1, bt134.2.2.2.1, bt134.2.2.2.2.1, bt134.2.2.2.2.2.1, bt134.2.2.2.2.2.2⟩ : S43)) (wrap64 (x4 + 1))) else (none))) else (none)) else (some x3)
def laws_toEventS.f (k : Nat) (l0 : List (S32)) : Option ((List (S43))) := if 0 ≤ (l0.length : Int) then (if ((l0.length : Int) : Int).toNat ≤ 5864062014805 then (laws_toEventS.l0 k l0 (List.replicate ((l0.length : Int) : Int).toNat z43) 0) else (none)) else (none)
theorem laws_toEventS.mono_l : ∀ k, (∀ y0 y1 y2, LeO (laws_toEventS.l0 k y0 y1 y2) (laws_toEventS.l0 (k + 1) y0 y1 y2))
 | 0 => fun _ _ _ r h => by simp [laws_toEventS.l0] at h
 | k + 1 => by
  have ih0 := laws_toEventS.mono_l k
  · intro y0 y1 y2
    unfold laws_toEventS.l0
    repeat' first
    | (with_reducible exact ih0 _ _ _)
    | (with_reducible exact LeO.refl _)
    | (with_reducible exact LeO.none _)
    | (with_reducible refine LeO.ite ?_ ?_)
    | (with_reducible refine LeO.bind ?_ (fun _ => ?_))
    | exact ih0 _ _ _
    | exact LeO.none _
    | refine LeO.ite ?_ ?_
    | refine LeO.bind ?_ (fun _ => ?_)
theorem laws_toEventS.mono : ∀ a0 k, LeO (laws_toEventS.f k a0) (laws_toEventS.f (k + 1) a0) := by
 intro a0 k
 have ih0 := laws_toEventS.mono_l k
 unfold laws_toEventS.f
 repeat' first
  | (with_reducible exact ih0 _ _ _)
  | (with_reducible exact LeO.refl _)
  | (with_reducible exact LeO.none _)
  | (with_reducible refine LeO.ite ?_ ?_)
  | (with_reducible refine LeO.bind ?_ (fun _ => ?_))
  | exact ih0 _ _ _
  | exact LeO.none _
  | refine LeO.ite ?_ ?_
  | refine LeO.bind ?_ (fun _ => ?_)
set_option maxHeartbeats 8000000 in
set_option maxRecDepth 100000 in
theorem laws_toEventS.calls (k : Nat) (A0 : Option Addr) (c0 : Nat) (l0 : List (S32)) (r : List (S43)) (w : World) (hr0 : Kd.C k32 w A0 l0.length l0) (hc0 : l0.length ≤ c0) (h : laws_toEventS.f k l0 = some r) :
 Calls Try.prog 27 #[.slice A0 l0.length c0] w fun e w' => ∃ v0_ : Value, e = .returned (v0_) ∧ Kd.R k43 43 w' w.heap.size (fun _ => True) v0_ r ∧ Below w.heap.size w w' := by
 have hu32 := Try.underlying32
 have hu43 := Try.underlying43
 have HR0 := Aside0.mk hr0
 have HC0 := Aside0.mk hc0
 clear hr0 hc0
 have HB := Aside0.mk (Below.refl w.heap.size w)
 have H : (if 0 ≤ (l0.length : Int) then (if ((l0.length : Int) : Int).toNat ≤ 5864062014805 then (laws_toEventS.l0 k l0 (List.replicate ((l0.length : Int) : Int).toNat z43) 0) else (none)) else (none)) = some r := h
 clear h
 by_cases c2 : 0 ≤ (l0.length : Int)
 · rw [if_pos c2] at H
   have c2b0 := eq_true c2
   have c2b1 : decide (0 ≤ (l0.length : Int)) = true := decide_eq_true c2
   clear c2
   by_cases c3 : ((l0.length : Int) : Int).toNat ≤ 5864062014805
   · rw [if_pos c3] at H
     have c3b0 := eq_true c3
     have c3b1 : decide (((l0.length : Int) : Int).toNat ≤ 5864062014805) = true := decide_eq_true c3
     clear c3
     obtain ⟨y130, hy130⟩ : ∃ y_ : List (S43), y_ = (List.replicate ((l0.length : Int) : Int).toNat z43) := ⟨_, rfl⟩
     replace H : (laws_toEventS.l0 k l0 y130 0) = some r := by first | (rw [hy130]; with_reducible exact H) | (have H2_ := (Option.bind_some _ _).symm.trans H; rw [hy130]; with_reducible exact H2_) | (have H2_ := (Option.bind_some _ _).symm.trans H; with_reducible exact H2_) | with_reducible exact H | (rw [hy130]; exact H) | exact H
     have Ny130 := Aside0.mk hy130
     clear hy130
     have H' := Aside0.mk H
     clear H
     go_enter Try.func27, Try.ntmps27
     go_wp2_with (first | ((with_reducible refine gate_dst (N := 7) rfl ?_); refine Kd.R_make k43 _ 43 rfl (N := 7) rfl 55 _ _ rfl (l0.length : Int) rfl rfl Try.underlying55 (.agg #[(.int .i64 0), (.int .i64 0), (.string ⟨#[]⟩), (.int .i64 0), (.bool false), (.bool false), (.bool false)]) 48 info43 rfl (by decide) (by omega) z43 (ok := fun _ => True) (okp := fun _ => True) (k43_mkM _ _ _ z43 ) (fun _ hk => hk) trivial (od_) (Nat.le_trans (Nat.mul_le_mul_right _ (od_ : (l0.length : Int).toNat ≤ 5864062014805)) (by omega)) (Below.refl _ _) (Nat.le_refl _) ?_; intro v131 w4 ho5 hb hg_ hnew_; clear hg_ hnew_; (first | rw [← Ny130.out] at ho5 | (simp only [Int.reduceToNat] at ho5; rw [← Ny130.out] at ho5)); have n0_ := Aside0.mk (Kd.R_lower ho5 (bz_)); have n1_ := Aside0.mk (bs_ hb); clear HB; revert n0_ n1_; intro HO132 HB; clear hb ho5))
     go_loopg [4] k (fun kq v4 w' => ∃ (x3_1 : List (S43)) (x4_1 : Int), v4 = .int .i64 x4_1 ∧ Aside0 (laws_toEventS.l0 kq l0 x3_1 x4_1 = some r) ∧ Aside0 (kq ≤ k) ∧ Aside0 (Kd.R k43 43 w' w.heap.size (fun _ => True) v131 x3_1) ∧ Aside0 (Below w.heap.size w w'))
     case atStart => exact ⟨(y130), (0), (by first | rfl | (simp; done) | (simp [*]; done)), H', ⟨Nat.le_refl _⟩, ⟨by (with_reducible repeat (first | apply Kd.R_alloc | apply Kd.R_drewN | apply Kd.R_drew)); exact HO132.out⟩, ⟨bb_⟩⟩
     case round =>
      clear H'
      try clear c2
      try clear c2b0
      try clear c2b1
      try clear p2
      try clear c3
      try clear c3b0
      try clear c3b1
      obtain ⟨x3_1, x4_1, rfl, HA, HK1, HO_3, HB⟩ := hrel
      cases gk with
      | zero => exact absurd HA.out (by simp [laws_toEventS.l0])
      | succ k1 =>
       have H := HA.out
       clear HA
       simp only [laws_toEventS.l0] at H
       by_cases c6 : x4_1 < (l0.length : Int)
       · rw [if_pos c6] at H
         have c6b0 : decide (x4_1 < (l0.length : Int)) = true := decide_eq_true c6
         clear c6
         by_cases c7 : 0 ≤ x4_1
         · rw [if_pos c7] at H
           have c7b0 : decide (0 ≤ x4_1) = true := decide_eq_true c7
           clear c7
           replace H := Option.bind_eq_some_iff.mp H
           obtain ⟨⟨t134, t135, t136, t137, t138, t139, t140⟩, A80, H⟩ := H
           replace H : (if x4_1 < (x3_1.length : Int) then (laws_toEventS.l0 k1 l0 (x3_1.set (x4_1 : Int).toNat (⟨t134, t135, t136, t137, t138, t139, t140⟩ : S43)) (wrap64 (x4_1 + 1))) else (none)) = some r := H
           have A8 := Aside0.mk A80
           clear A80
           by_cases c9 : x4_1 < (x3_1.length : Int)
           · rw [if_pos c9] at H
             have c9b0 : decide (x4_1 < (x3_1.length : Int)) = true := decide_eq_true c9
             clear c9
             obtain ⟨y141, hy141⟩ : ∃ y_ : List (S43), y_ = (x3_1.set (x4_1 : Int).toNat (⟨t134, t135, t136, t137, t138, t139, t140⟩ : S43)) := ⟨_, rfl⟩
             replace H : (laws_toEventS.l0 k1 l0 y141 (wrap64 (x4_1 + 1))) = some r := by first | (rw [hy141]; with_reducible exact H) | (have H2_ := (Option.bind_some _ _).symm.trans H; rw [hy141]; with_reducible exact H2_) | (have H2_ := (Option.bind_some _ _).symm.trans H; with_reducible exact H2_) | with_reducible exact H | (rw [hy141]; exact H) | exact H
             have Ny141 := Aside0.mk hy141
             clear hy141
             have H' := Aside0.mk H
             clear H
             have p133 : 0 ≤ (x4_1 : Int) := od_
             have q133 : x4_1 < (l0.length : Int) := od_
             obtain ⟨ad133, e133, hx133_0, hx133_1, hx133_2, hx133_3, hx133_4, hx133_5, hx133_6⟩ := at_T32 HR0.out x4_1 p133 q133
             cases e133
             replace hx133_0 := cel HB hx133_0
             replace hx133_1 := cel HB hx133_1
             replace hx133_2 := cel HB hx133_2
             replace hx133_3 := cel HB hx133_3
             replace hx133_4 := cel HB hx133_4
             replace hx133_5 := cel HB hx133_5
             replace hx133_6 := cel HB hx133_6
             replace p133 := eq_true p133
             replace q133 := eq_true q133
             go_wp2_with (first | ((with_reducible refine gate_callee (f := 19) rfl ?_); refine gl_ 20 Try.func19 #[.agg #[.int .i64 ((rd_T32 l0 x4_1).f0), .int .i64 ((rd_T32 l0 x4_1).f1), .string ((rd_T32 l0 x4_1).f2), .int .i64 ((rd_T32 l0 x4_1).f3), .bool ((rd_T32 l0 x4_1).f4), .bool ((rd_T32 l0 x4_1).f5), .bool ((rd_T32 l0 x4_1).f6)]] ?_; (with_reducible refine (laws_toEvent.calls ((rd_T32 l0 x4_1).f0) ((rd_T32 l0 x4_1).f1) ((rd_T32 l0 x4_1).f2) ((rd_T32 l0 x4_1).f3) ((rd_T32 l0 x4_1).f4) ((rd_T32 l0 x4_1).f5) ((rd_T32 l0 x4_1).f6) t134 t135 t136 t137 t138 t139 t140 _ A8.out).mono ?_); rintro e w11 ⟨rfl, hb⟩; refine ⟨_, rfl, ?_⟩; have n0_ := Aside0.mk (Kd.R_below (rm_ HO_3) hb); have n1_ := Aside0.mk (bs_ hb); clear HO_3 HB; revert n0_ n1_; intro HO_3 HB; (try clear hb); (try clear hb2); (try clear hk); (try clear hi); have p10 : 0 ≤ (x4_1 : Int) := od_; have q10 : (x4_1 : Int) < ((x3_1.length : Int) : Int) := od_; obtain ⟨go10, co10, eo10, gb10, gl10, cl10, HG10⟩ := Kd.R_form HO_3.out (by omega); (first | cases eo10 | (injection eo10 with ea_ en_ ec_; (first | subst ea_ | (injection ea_ with ea_; subst ea_)); subst ec_; clear en_)); have GB10 := Aside0.mk gb10; have GG10 := Aside0.mk HG10; clear gb10 gl10 HG10; obtain ⟨ce10, hcl10, hM10, hcc10, hfr10⟩ := Kd.R_elem HO_3.out z43 (x4_1 : Int) p10 q10; obtain rfl := k43_openM hM10; have hx10_0 : w11.cell? ⟨go10, (x4_1 : Int).toNat * 7, none⟩ = some (.int .i64 ((rd_T43 x3_1 x4_1).f0)) := hcc10 0 _ rfl; have hx10_1 : w11.cell? ⟨go10, (x4_1 : Int).toNat * 7 + 1, none⟩ = some (.int .i64 ((rd_T43 x3_1 x4_1).f1)) := hcc10 1 _ rfl; have hx10_2 : w11.cell? ⟨go10, (x4_1 : Int).toNat * 7 + 2, none⟩ = some (.string ((rd_T43 x3_1 x4_1).f2)) := hcc10 2 _ rfl; have hx10_3 : w11.cell? ⟨go10, (x4_1 : Int).toNat * 7 + 3, none⟩ = some (.int .i64 ((rd_T43 x3_1 x4_1).f3)) := hcc10 3 _ rfl; have hx10_4 : w11.cell? ⟨go10, (x4_1 : Int).toNat * 7 + 4, none⟩ = some (.bool ((rd_T43 x3_1 x4_1).f4)) := hcc10 4 _ rfl; have hx10_5 : w11.cell? ⟨go10, (x4_1 : Int).toNat * 7 + 5, none⟩ = some (.bool ((rd_T43 x3_1 x4_1).f5)) := hcc10 5 _ rfl; have hx10_6 : w11.cell? ⟨go10, (x4_1 : Int).toNat * 7 + 6, none⟩ = some (.bool ((rd_T43 x3_1 x4_1).f6)) := hcc10 6 _ rfl; have hf10_0 : w11.frozen? ⟨go10, (x4_1 : Int).toNat * 7, none⟩ = false := hfr10 0; have hf10_1 : w11.frozen? ⟨go10, (x4_1 : Int).toNat * 7 + 1, none⟩ = false := hfr10 1; have hf10_2 : w11.frozen? ⟨go10, (x4_1 : Int).toNat * 7 + 2, none⟩ = false := hfr10 2; have hf10_3 : w11.frozen? ⟨go10, (x4_1 : Int).toNat * 7 + 3, none⟩ = false := hfr10 3; have hf10_4 : w11.frozen? ⟨go10, (x4_1 : Int).toNat * 7 + 4, none⟩ = false := hfr10 4; have hf10_5 : w11.frozen? ⟨go10, (x4_1 : Int).toNat * 7 + 5, none⟩ = false := hfr10 5; have hf10_6 : w11.frozen? ⟨go10, (x4_1 : Int).toNat * 7 + 6, none⟩ = false := hfr10 6; clear hcl10 hcc10 hfr10 hM10; replace p10 := eq_true p10; replace q10 := eq_true q10; have HX12 := Aside0.mk (show Kd.R k43 43 w11 w.heap.size (fun _ => True) (.slice (some ⟨go10, 0, none⟩) x3_1.length co10) x3_1 from (rm_ HO_3)); obtain ⟨ce12, hcl12, hM12, hcc12, hfr12⟩ := Kd.R_elem HX12.out z43 (x4_1 : Int) (od_) (by have h_ : (x4_1 : Int) < ((x3_1.length : Int) : Int) := od_; first | exact h_ | (have e_ := (Kd.R_reads' HO_3.out).1; omega) | simpa using h_); obtain rfl := k43_openM hM12; have HP12 := Kd.R_seg HX12.out (x4_1 : Int) (od_) (by have h_ : (x4_1 : Int) < ((x3_1.length : Int) : Int) := od_; first | exact h_ | (have e_ := (Kd.R_reads' HO_3.out).1; omega) | simpa using h_) (seg := [.int .i64 t134, .int .i64 t135, .string t136, .int .i64 t137, .bool t138, .bool t139, .bool t140]) (j := 0) hcl12 hcc12 (show 7 ≤ 7 from by decide) (x' := (⟨t134, t135, t136, t137, t138, t139, t140⟩ : S43)) (k43_mkM _ _ _ (⟨t134, t135, t136, t137, t138, t139, t140⟩ : S43) ) (fun _ hk => hk); have hx12_0 := hcc12 0 _ rfl; (try simp only [show (k43).sz = 7 from rfl, Nat.mul_one, Nat.add_zero] at hx12_0); have hf12_0 := hfr12 0; (try simp only [show (k43).sz = 7 from rfl, Nat.mul_one, Nat.add_zero] at hf12_0); have hx12_1 := hcc12 1 _ rfl; (try simp only [show (k43).sz = 7 from rfl, Nat.mul_one, Nat.add_zero] at hx12_1); have hf12_1 := hfr12 1; (try simp only [show (k43).sz = 7 from rfl, Nat.mul_one, Nat.add_zero] at hf12_1); have hx12_2 := hcc12 2 _ rfl; (try simp only [show (k43).sz = 7 from rfl, Nat.mul_one, Nat.add_zero] at hx12_2); have hf12_2 := hfr12 2; (try simp only [show (k43).sz = 7 from rfl, Nat.mul_one, Nat.add_zero] at hf12_2); have hx12_3 := hcc12 3 _ rfl; (try simp only [show (k43).sz = 7 from rfl, Nat.mul_one, Nat.add_zero] at hx12_3); have hf12_3 := hfr12 3; (try simp only [show (k43).sz = 7 from rfl, Nat.mul_one, Nat.add_zero] at hf12_3); have hx12_4 := hcc12 4 _ rfl; (try simp only [show (k43).sz = 7 from rfl, Nat.mul_one, Nat.add_zero] at hx12_4); have hf12_4 := hfr12 4; (try simp only [show (k43).sz = 7 from rfl, Nat.mul_one, Nat.add_zero] at hf12_4); have hx12_5 := hcc12 5 _ rfl; (try simp only [show (k43).sz = 7 from rfl, Nat.mul_one, Nat.add_zero] at hx12_5); have hf12_5 := hfr12 5; (try simp only [show (k43).sz = 7 from rfl, Nat.mul_one, Nat.add_zero] at hf12_5); have hx12_6 := hcc12 6 _ rfl; (try simp only [show (k43).sz = 7 from rfl, Nat.mul_one, Nat.add_zero] at hx12_6); have hf12_6 := hfr12 6; (try simp only [show (k43).sz = 7 from rfl, Nat.mul_one, Nat.add_zero] at hf12_6); clear hcl12 hcc12 hfr12 hM12) | ((with_reducible refine gate_store (t := 43) (p := 21) rfl ?_); refine store_event (t := 43) (p := 21) (v := ?vo_w13) (w1 := (((((((w11.setCell ⟨go10, (x4_1 : Int).toNat * 7, none⟩ (.int .i64 t134)).setCell ⟨go10, (x4_1 : Int).toNat * 7 + 1, none⟩ (.int .i64 t135)).setCell ⟨go10, (x4_1 : Int).toNat * 7 + 2, none⟩ (.string t136)).setCell ⟨go10, (x4_1 : Int).toNat * 7 + 3, none⟩ (.int .i64 t137)).setCell ⟨go10, (x4_1 : Int).toNat * 7 + 4, none⟩ (.bool t138)).setCell ⟨go10, (x4_1 : Int).toNat * 7 + 5, none⟩ (.bool t139)).setCell ⟨go10, (x4_1 : Int).toNat * 7 + 6, none⟩ (.bool t140))) ?hg ?ho ?hn ?hr ?_; (case ho => rfl); (case hg => rfl); (case hn => rfl); (case hr => first | (go_simp; done) | (go_simp; rfl)); intro w13 hw; have hg : w11.grownBy w13 (some go10) := (by rw [hw]; exact HP12.2); have hp_ : Kd.R k43 43 w13 w.heap.size (fun _ => True) (.slice (some ⟨go10, 0, none⟩) x3_1.length co10) y141 := (by rw [hw, Ny141.out]; exact HP12.1); clear HP12; have n0_ := Aside0.mk (hp_); have n1_ := Aside0.mk ((by rw [hw]; exact below_set (below_set (below_set (below_set (below_set (below_set (below_set (HB.out) GB10.out) GB10.out) GB10.out) GB10.out) GB10.out) GB10.out) GB10.out : Below w.heap.size w w13)); clear HO_3 HB; revert n0_ n1_; intro HO_3 HB; clear hg hw hp_))
             go_roundg k1
             case measure => have := HK1.out; omega
             case rel => exact ⟨(y141), (wrap64 (x4_1 + 1)), (by first | rfl | (simp; done) | (simp [*]; done)), H', ⟨by have := HK1.out; omega⟩, ⟨by (with_reducible repeat (first | apply Kd.R_alloc | apply Kd.R_drewN | apply Kd.R_drew)); exact HO_3.out⟩, ⟨bb_⟩⟩
           · rw [if_neg c9] at H
             exact absurd H (by simp)
         · rw [if_neg c7] at H
           exact absurd H (by simp)
       · rw [if_neg c6] at H
         have c6b0 : decide (x4_1 < (l0.length : Int)) = false := decide_eq_false c6
         clear c6
         obtain rfl := Option.some.inj H
         go_wp2
         go_ret
         exact ⟨_, by first | rfl | (simp [errW_none, errW_some] <;> rfl) | (simp [*, errW_none, errW_some] <;> rfl), by (with_reducible repeat (first | apply Kd.R_alloc | apply Kd.R_drewN | apply Kd.R_drew)); exact HO_3.out, bb_⟩
   · rw [if_neg c3] at H
     exact absurd H (by simp)
 · rw [if_neg c2] at H
   exact absurd H (by simp)

end Go.Proofs.Ytmfbkbbgokjhnaa.F
