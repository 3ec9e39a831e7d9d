-- Written by this session's program (wip/bin/hp.py) over the kit's print: a function's Lean form, and a proof that the call does what it says.
import Derived.Test.YtmfbkbbgokjhnaaFx0
import Derived.Test.YtmfbkbbgokjhnaaSq
import Derived.Test.YtmfbkbbgokjhnaaFx8
import Derived.Test.YtmfbkbbgokjhnaaFx5
namespace Go.Proofs.Ytmfbkbbgokjhnaa.F
open Go.RowKit Go.Proofs.YtmfbkbbgokjhnaaW.PrintWords Go.Proofs.YtmfbkbbgokjhnaaW.PrintLast Go.Proofs.YtmfbkbbgokjhnaaW.PrintMore
attribute [local go_sem] max2_int min2_int max_two min_two max_three min_three max_four min_four   -- for this text's walks alone
set_option linter.unusedVariables false
set_option linter.unusedSimpArgs false

/-! ### spec_l09First: function 97 -/
def spec_l09First.l0 : Nat → List (S94) → Int → Int → Int → ByteArray → Int → Bool → Bool → Bool → Option (Int)
 | 0, _, _, _, _, _, _, _, _, _ => none
 | k + 1, x0, x1, x160000, x160001, x160002, x160003, x160004, x160005, x160006 => if 0 ≤ x1 then (if x1 < (x0.length : Int) then ((spec_l09Matches.f ((rd_T94 x0 x1).f0) ((rd_T94 x0 x1).f1) ((rd_T94 x0 x1).f2) ((rd_T94 x0 x1).f3) ((rd_T94 x0 x1).f4) ((rd_T94 x0 x1).f5) ((rd_T94 x0 x1).f6) x160000 x160001 x160002 x160003 x160004 x160005 x160006).bind fun t161 => (if t161 = true then (some x1) else (spec_l09First.l0 k x0 (wrap64 (x1 + 1)) x160000 x160001 x160002 x160003 x160004 x160005 x160006))) else (none)) else (none)
def spec_l09First.f (k : Nat) (l0 : List (S94)) (a1 : Int) (a2_0 : Int) (a2_1 : Int) (a2_2 : ByteArray) (a2_3 : Int) (a2_4 : Bool) (a2_5 : Bool) (a2_6 : Bool) : Option (Int) := spec_l09First.l0 k l0 a1 a2_0 a2_1 a2_2 a2_3 a2_4 a2_5 a2_6
theorem spec_l09First.mono_l : ∀ k, (∀ y0 y1 y2 y3 y4 y5 y6 y7 y8, LeO (spec_l09First.l0 k y0 y1 y2 y3 y4 y5 y6 y7 y8) (spec_l09First.l0 (k + 1) y0 y1 y2 y3 y4 y5 y6 y7 y8))
 | 0 => fun _ _ _ _ _ _ _ _ _ r h => by simp [spec_l09First.l0] at h
 | k + 1 => by
  have ih0 := spec_l09First.mono_l k
  · intro y0 y1 y2 y3 y4 y5 y6 y7 y8
    unfold spec_l09First.l0
    repeat' first
    | (with_reducible exact ih0 _ _ _ _ _ _ _ _ _)
    | (with_reducible exact LeO.refl _)
    | (with_reducible exact LeO.none _)
    | (with_reducible refine LeO.ite ?_ ?_)
    | (with_reducible refine LeO.bind ?_ (fun _ => ?_))
    | exact ih0 _ _ _ _ _ _ _ _ _
    | exact LeO.none _
    | refine LeO.ite ?_ ?_
    | refine LeO.bind ?_ (fun _ => ?_)
theorem spec_l09First.mono : ∀ a0 a1 a2 a3 a4 a5 a6 a7 a8 k, LeO (spec_l09First.f k a0 a1 a2 a3 a4 a5 a6 a7 a8) (spec_l09First.f (k + 1) a0 a1 a2 a3 a4 a5 a6 a7 a8) := by
 intro a0 a1 a2 a3 a4 a5 a6 a7 a8 k
 have ih0 := spec_l09First.mono_l k
 unfold spec_l09First.f
 repeat' first
  | (with_reducible exact ih0 _ _ _ _ _ _ _ _ _)
  | (with_reducible exact LeO.refl _)
  | (with_reducible exact LeO.none _)
  | (with_reducible refine LeO.ite ?_ ?_)
  | (with_reducible refine LeO.bind ?_ (fun _ => ?_))
  | exact ih0 _ _ _ _ _ _ _ _ _
  | exact LeO.none _
  | refine LeO.ite ?_ ?_
  | refine LeO.bind ?_ (fun _ => ?_)
set_option maxHeartbeats 8000000 in
set_option maxRecDepth 100000 in
theorem spec_l09First.calls (k : Nat) (A0 : Option Addr) (c0 : Nat) (l0 : List (S94)) (a1 : Int) (a2_0 : Int) (a2_1 : Int) (a2_2 : ByteArray) (a2_3 : Int) (a2_4 : Bool) (a2_5 : Bool) (a2_6 : Bool) (r : Int) (w : World) (hr0 : Kd.C k94 w A0 l0.length l0) (hc0 : l0.length ≤ c0) (h : spec_l09First.f k l0 a1 a2_0 a2_1 a2_2 a2_3 a2_4 a2_5 a2_6 = some r) :
 Calls Try.prog 97 #[.slice A0 l0.length c0, .int .i64 a1, .agg #[.int .i64 a2_0, .int .i64 a2_1, .string a2_2, .int .i64 a2_3, .bool a2_4, .bool a2_5, .bool a2_6]] w fun e w' => e = .returned (.int .i64 r) ∧ Below w.heap.size w w' := by
 have hu43 := Try.underlying43
 have hu94 := Try.underlying94
 have HR0 := Aside0.mk hr0
 have HC0 := Aside0.mk hc0
 clear hr0 hc0
 have HB := Aside0.mk (Below.refl w.heap.size w)
 have H : (spec_l09First.l0 k l0 a1 a2_0 a2_1 a2_2 a2_3 a2_4 a2_5 a2_6) = some r := h
 clear h
 have H' := Aside0.mk H
 clear H
 go_enter Try.func97, Try.ntmps97
 go_wp2_with (first | ((with_reducible refine gate_dst (N := 5) rfl ?_); refine bx_ 5 #[.int .i64 a2_0, .int .i64 a2_1, .string a2_2, .int .i64 a2_3, .bool a2_4, .bool a2_5, .bool a2_6] 43 ?_; intro gb159 hg w4 hbox hb; have n0_ := Aside0.mk (bs_ hb); have n1_ := Aside0.mk (hbox); have n2_ := Aside0.mk ((by rw [hg]; exact (bz_) : w.heap.size ≤ gb159)); have n3_ := Aside0.mk ((by rw [hg]; exact (bz_) : w.heap.size ≤ gb159)); clear HB; revert n0_ n1_ n2_ n3_; intro HB BK159 GW159 GE159; clear hb hbox hg))
 go_loopg [1] k (fun kq v1 w' => ∃ (x1_1 : Int), v1 = .int .i64 x1_1 ∧ Aside0 (spec_l09First.l0 kq l0 x1_1 a2_0 a2_1 a2_2 a2_3 a2_4 a2_5 a2_6 = some r) ∧ Aside0 (kq ≤ k) ∧ Aside0 (w'.heap[gb159]? = some (.cells #[.int .i64 a2_0, .int .i64 a2_1, .string a2_2, .int .i64 a2_3, .bool a2_4, .bool a2_5, .bool a2_6] 43 (0, 0))) ∧ Aside0 (Below w.heap.size w w'))
 case atStart => exact ⟨(a1), (by first | rfl | (simp; done) | (simp [*]; done)), H', ⟨Nat.le_refl _⟩, ⟨by (with_reducible repeat (first | refine blk_drewN ?_ _ | refine blk_drew ?_ | refine blk_alloc ?_ _)); exact BK159.out⟩, ⟨bb_⟩⟩
 case round =>
  clear H'
  try clear p2
  obtain ⟨x1_1, rfl, HA, HK1, BK159, HB⟩ := hrel
  cases gk with
  | zero => exact absurd HA.out (by simp [spec_l09First.l0])
  | succ k1 =>
   have H := HA.out
   clear HA
   simp only [spec_l09First.l0] at H
   by_cases c5 : 0 ≤ x1_1
   · rw [if_pos c5] at H
     have c5b0 : decide (0 ≤ x1_1) = true := decide_eq_true c5
     clear c5
     by_cases c6 : x1_1 < (l0.length : Int)
     · rw [if_pos c6] at H
       have c6b0 : decide (x1_1 < (l0.length : Int)) = true := decide_eq_true c6
       clear c6
       replace H := Option.bind_eq_some_iff.mp H
       obtain ⟨t161, A70, H⟩ := H
       replace H : (if t161 = true then (some x1_1) else (spec_l09First.l0 k1 l0 (wrap64 (x1_1 + 1)) a2_0 a2_1 a2_2 a2_3 a2_4 a2_5 a2_6)) = some r := H
       have A7 := Aside0.mk A70
       clear A70
       by_cases c8 : t161 = true
       · subst c8
         have H1 : (some x1_1) = some r := by rw [if_pos rfl] at H; exact H
         clear H
         have H := H1
         clear H1
         obtain rfl := Option.some.inj H
         try go_wp2
         have n0_ := Aside0.mk (blk_drew BK159.out)
         have n1_ := Aside0.mk (below_drew1 HB.out)
         clear BK159 HB; revert n0_ n1_; intro BK159 HB
         have p160 : 0 ≤ (x1_1 : Int) := od_
         have q160 : x1_1 < (l0.length : Int) := od_
         obtain ⟨ad160, e160, hx160_0, hx160_1, hx160_2, hx160_3, hx160_4, hx160_5, hx160_6⟩ := at_T94 HR0.out x1_1 p160 q160
         have hw160_6 := hx160_6
         have hw160_5 := hx160_5
         have hw160_4 := hx160_4
         have hw160_3 := hx160_3
         have hw160_2 := hx160_2
         have hw160_1 := hx160_1
         have hw160_0 := hx160_0
         cases e160
         replace hx160_0 := cel HB hx160_0
         replace hx160_1 := cel HB hx160_1
         replace hx160_2 := cel HB hx160_2
         replace hx160_3 := cel HB hx160_3
         replace hx160_4 := cel HB hx160_4
         replace hx160_5 := cel HB hx160_5
         replace hx160_6 := cel HB hx160_6
         replace p160 := eq_true p160
         replace q160 := eq_true q160
         refine start_ (n := 7) (S := fun w' => w'.cell? ⟨gb159, 0, none⟩ = some (.int .i64 a2_0) ∧ w'.cell? ⟨gb159, 1, none⟩ = some (.int .i64 a2_1) ∧ w'.cell? ⟨gb159, 2, none⟩ = some (.string a2_2) ∧ w'.cell? ⟨gb159, 3, none⟩ = some (.int .i64 a2_3) ∧ w'.cell? ⟨gb159, 4, none⟩ = some (.bool a2_4) ∧ w'.cell? ⟨gb159, 5, none⟩ = some (.bool a2_5) ∧ w'.cell? ⟨gb159, 6, none⟩ = some (.bool a2_6) ∧ w'.cell? (ad160.add ((x1_1).toNat * 7)) = some (.string ((rd_T94 l0 x1_1).f0)) ∧ w'.cell? ⟨(ad160.add ((x1_1).toNat * 7)).block, (ad160.add ((x1_1).toNat * 7)).off + 1, none⟩ = some (.int .i64 ((rd_T94 l0 x1_1).f1)) ∧ w'.cell? ⟨(ad160.add ((x1_1).toNat * 7)).block, (ad160.add ((x1_1).toNat * 7)).off + 2, none⟩ = some (.int .i64 ((rd_T94 l0 x1_1).f2)) ∧ w'.cell? ⟨(ad160.add ((x1_1).toNat * 7)).block, (ad160.add ((x1_1).toNat * 7)).off + 3, none⟩ = some (.int .i64 ((rd_T94 l0 x1_1).f3)) ∧ w'.cell? ⟨(ad160.add ((x1_1).toNat * 7)).block, (ad160.add ((x1_1).toNat * 7)).off + 4, none⟩ = some (.int .i64 ((rd_T94 l0 x1_1).f4)) ∧ w'.cell? ⟨(ad160.add ((x1_1).toNat * 7)).block, (ad160.add ((x1_1).toNat * 7)).off + 5, none⟩ = some (.int .i64 ((rd_T94 l0 x1_1).f5)) ∧ w'.cell? ⟨(ad160.add ((x1_1).toNat * 7)).block, (ad160.add ((x1_1).toNat * 7)).off + 6, none⟩ = some (.string ((rd_T94 l0 x1_1).f6))) (ds := []) (fb 7 0) (by kernel_rfl) rfl rfl ⟨(blk_cell BK159.out 0).trans rfl, (blk_cell BK159.out 1).trans rfl, (blk_cell BK159.out 2).trans rfl, (blk_cell BK159.out 3).trans rfl, (blk_cell BK159.out 4).trans rfl, (blk_cell BK159.out 5).trans rfl, (blk_cell BK159.out 6).trans rfl, ((HB.out.cell (World.block_lt_of_cell? w _ hw160_0)).trans hw160_0), ((HB.out.cell (World.block_lt_of_cell? w _ hw160_1)).trans hw160_1), ((HB.out.cell (World.block_lt_of_cell? w _ hw160_2)).trans hw160_2), ((HB.out.cell (World.block_lt_of_cell? w _ hw160_3)).trans hw160_3), ((HB.out.cell (World.block_lt_of_cell? w _ hw160_4)).trans hw160_4), ((HB.out.cell (World.block_lt_of_cell? w _ hw160_5)).trans hw160_5), ((HB.out.cell (World.block_lt_of_cell? w _ hw160_6)).trans hw160_6)⟩ (fun hHeld => ?_)
         generalize wr.drew = w9 at BK159 HB hx160_0 hx160_1 hx160_2 hx160_3 hx160_4 hx160_5 hx160_6 hHeld ⊢
         refine sqP_ 0 7 (fb 7 1) (by kernel_rfl) ?_
         refine sqP_ 1 8 (fb 7 3) (by kernel_rfl) ?_
         refine sqP_ 2 9 (fb 7 7) (by kernel_rfl) ?_
         refine sqT_ 3 10 (fb 7 15) (by kernel_rfl) hHeld ?_
         refine sqT_ 4 11 (fb 7 31) (by kernel_rfl) hHeld ?_
         refine one_ (i := 5) (N := some 12) (fb 7 63) rfl rfl (by kernel_rfl) (by decide) (fun K hK => ?_)
         refine goes_ Try.func117 (by kernel_rfl) rfl #[.agg #[.string ((rd_T94 l0 x1_1).f0), .int .i64 ((rd_T94 l0 x1_1).f1), .int .i64 ((rd_T94 l0 x1_1).f2), .int .i64 ((rd_T94 l0 x1_1).f3), .int .i64 ((rd_T94 l0 x1_1).f4), .int .i64 ((rd_T94 l0 x1_1).f5), .string ((rd_T94 l0 x1_1).f6)], .agg #[.int .i64 a2_0, .int .i64 a2_1, .string a2_2, .int .i64 a2_3, .bool a2_4, .bool a2_5, .bool a2_6]] (by rfl) rfl rfl (by (try simp only [List.map_toArray, List.map_cons, List.map_nil]); first | done | rfl | (simp only [List.length_drop, List.length_take]; rfl)) ?_
         with_reducible refine (spec_l09Matches.calls ((rd_T94 l0 x1_1).f0) ((rd_T94 l0 x1_1).f1) ((rd_T94 l0 x1_1).f2) ((rd_T94 l0 x1_1).f3) ((rd_T94 l0 x1_1).f4) ((rd_T94 l0 x1_1).f5) ((rd_T94 l0 x1_1).f6) a2_0 a2_1 a2_2 a2_3 a2_4 a2_5 a2_6 true _ A7.out).mono ?_
         rintro e w10 ⟨rfl, hb⟩
         refine ⟨_, rfl, ?_⟩
         have n0_ := Aside0.mk (bkb BK159 hb)
         have n1_ := Aside0.mk (bs_ hb)
         clear BK159 HB; revert n0_ n1_; intro BK159 HB
         (try clear hb)
         (try clear hb2)
         (try clear hk)
         (try clear hi)
         refine hK.out _ _ ⟨(blk_cell BK159.out 0).trans rfl, (blk_cell BK159.out 1).trans rfl, (blk_cell BK159.out 2).trans rfl, (blk_cell BK159.out 3).trans rfl, (blk_cell BK159.out 4).trans rfl, (blk_cell BK159.out 5).trans rfl, (blk_cell BK159.out 6).trans rfl, ((HB.out.cell (World.block_lt_of_cell? w _ hw160_0)).trans hw160_0), ((HB.out.cell (World.block_lt_of_cell? w _ hw160_1)).trans hw160_1), ((HB.out.cell (World.block_lt_of_cell? w _ hw160_2)).trans hw160_2), ((HB.out.cell (World.block_lt_of_cell? w _ hw160_3)).trans hw160_3), ((HB.out.cell (World.block_lt_of_cell? w _ hw160_4)).trans hw160_4), ((HB.out.cell (World.block_lt_of_cell? w _ hw160_5)).trans hw160_5), ((HB.out.cell (World.block_lt_of_cell? w _ hw160_6)).trans hw160_6)⟩ (fun hHeld => ?_)
         clear hK K
         refine sqN_ 12 ?_
         refine sqP_ 6 13 (fb 7 127) (by kernel_rfl) ?_
         refine done_ (by kernel_rfl) ?_
         try go_wp2
         go_ret
         exact ⟨by first | rfl | (simp [errW_none, errW_some] <;> rfl) | (simp [*, errW_none, errW_some] <;> rfl), bb_⟩
       · replace c8 := Bool.eq_false_iff.mpr c8
         subst c8
         have H1 : (spec_l09First.l0 k1 l0 (wrap64 (x1_1 + 1)) a2_0 a2_1 a2_2 a2_3 a2_4 a2_5 a2_6) = some r := by rw [if_neg (show ¬ (false = true) by decide)] at H; exact H
         clear H
         have H := H1
         clear H1
         have H' := Aside0.mk H
         clear H
         try go_wp2
         have n0_ := Aside0.mk (blk_drew BK159.out)
         have n1_ := Aside0.mk (below_drew1 HB.out)
         clear BK159 HB; revert n0_ n1_; intro BK159 HB
         have p160 : 0 ≤ (x1_1 : Int) := od_
         have q160 : x1_1 < (l0.length : Int) := od_
         obtain ⟨ad160, e160, hx160_0, hx160_1, hx160_2, hx160_3, hx160_4, hx160_5, hx160_6⟩ := at_T94 HR0.out x1_1 p160 q160
         have hw160_6 := hx160_6
         have hw160_5 := hx160_5
         have hw160_4 := hx160_4
         have hw160_3 := hx160_3
         have hw160_2 := hx160_2
         have hw160_1 := hx160_1
         have hw160_0 := hx160_0
         cases e160
         replace hx160_0 := cel HB hx160_0
         replace hx160_1 := cel HB hx160_1
         replace hx160_2 := cel HB hx160_2
         replace hx160_3 := cel HB hx160_3
         replace hx160_4 := cel HB hx160_4
         replace hx160_5 := cel HB hx160_5
         replace hx160_6 := cel HB hx160_6
         replace p160 := eq_true p160
         replace q160 := eq_true q160
         refine start_ (n := 7) (S := fun w' => w'.cell? ⟨gb159, 0, none⟩ = some (.int .i64 a2_0) ∧ w'.cell? ⟨gb159, 1, none⟩ = some (.int .i64 a2_1) ∧ w'.cell? ⟨gb159, 2, none⟩ = some (.string a2_2) ∧ w'.cell? ⟨gb159, 3, none⟩ = some (.int .i64 a2_3) ∧ w'.cell? ⟨gb159, 4, none⟩ = some (.bool a2_4) ∧ w'.cell? ⟨gb159, 5, none⟩ = some (.bool a2_5) ∧ w'.cell? ⟨gb159, 6, none⟩ = some (.bool a2_6) ∧ w'.cell? (ad160.add ((x1_1).toNat * 7)) = some (.string ((rd_T94 l0 x1_1).f0)) ∧ w'.cell? ⟨(ad160.add ((x1_1).toNat * 7)).block, (ad160.add ((x1_1).toNat * 7)).off + 1, none⟩ = some (.int .i64 ((rd_T94 l0 x1_1).f1)) ∧ w'.cell? ⟨(ad160.add ((x1_1).toNat * 7)).block, (ad160.add ((x1_1).toNat * 7)).off + 2, none⟩ = some (.int .i64 ((rd_T94 l0 x1_1).f2)) ∧ w'.cell? ⟨(ad160.add ((x1_1).toNat * 7)).block, (ad160.add ((x1_1).toNat * 7)).off + 3, none⟩ = some (.int .i64 ((rd_T94 l0 x1_1).f3)) ∧ w'.cell? ⟨(ad160.add ((x1_1).toNat * 7)).block, (ad160.add ((x1_1).toNat * 7)).off + 4, none⟩ = some (.int .i64 ((rd_T94 l0 x1_1).f4)) ∧ w'.cell? ⟨(ad160.add ((x1_1).toNat * 7)).block, (ad160.add ((x1_1).toNat * 7)).off + 5, none⟩ = some (.int .i64 ((rd_T94 l0 x1_1).f5)) ∧ w'.cell? ⟨(ad160.add ((x1_1).toNat * 7)).block, (ad160.add ((x1_1).toNat * 7)).off + 6, none⟩ = some (.string ((rd_T94 l0 x1_1).f6))) (ds := []) (fb 7 0) (by kernel_rfl) rfl rfl ⟨(blk_cell BK159.out 0).trans rfl, (blk_cell BK159.out 1).trans rfl, (blk_cell BK159.out 2).trans rfl, (blk_cell BK159.out 3).trans rfl, (blk_cell BK159.out 4).trans rfl, (blk_cell BK159.out 5).trans rfl, (blk_cell BK159.out 6).trans rfl, ((HB.out.cell (World.block_lt_of_cell? w _ hw160_0)).trans hw160_0), ((HB.out.cell (World.block_lt_of_cell? w _ hw160_1)).trans hw160_1), ((HB.out.cell (World.block_lt_of_cell? w _ hw160_2)).trans hw160_2), ((HB.out.cell (World.block_lt_of_cell? w _ hw160_3)).trans hw160_3), ((HB.out.cell (World.block_lt_of_cell? w _ hw160_4)).trans hw160_4), ((HB.out.cell (World.block_lt_of_cell? w _ hw160_5)).trans hw160_5), ((HB.out.cell (World.block_lt_of_cell? w _ hw160_6)).trans hw160_6)⟩ (fun hHeld => ?_)
         generalize wr.drew = w11 at BK159 HB hx160_0 hx160_1 hx160_2 hx160_3 hx160_4 hx160_5 hx160_6 hHeld ⊢
         refine sqP_ 0 7 (fb 7 1) (by kernel_rfl) ?_
         refine sqP_ 1 8 (fb 7 3) (by kernel_rfl) ?_
         refine sqP_ 2 9 (fb 7 7) (by kernel_rfl) ?_
         refine sqT_ 3 10 (fb 7 15) (by kernel_rfl) hHeld ?_
         refine sqT_ 4 11 (fb 7 31) (by kernel_rfl) hHeld ?_
         refine one_ (i := 5) (N := some 12) (fb 7 63) rfl rfl (by kernel_rfl) (by decide) (fun K hK => ?_)
         refine goes_ Try.func117 (by kernel_rfl) rfl #[.agg #[.string ((rd_T94 l0 x1_1).f0), .int .i64 ((rd_T94 l0 x1_1).f1), .int .i64 ((rd_T94 l0 x1_1).f2), .int .i64 ((rd_T94 l0 x1_1).f3), .int .i64 ((rd_T94 l0 x1_1).f4), .int .i64 ((rd_T94 l0 x1_1).f5), .string ((rd_T94 l0 x1_1).f6)], .agg #[.int .i64 a2_0, .int .i64 a2_1, .string a2_2, .int .i64 a2_3, .bool a2_4, .bool a2_5, .bool a2_6]] (by rfl) rfl rfl (by (try simp only [List.map_toArray, List.map_cons, List.map_nil]); first | done | rfl | (simp only [List.length_drop, List.length_take]; rfl)) ?_
         with_reducible refine (spec_l09Matches.calls ((rd_T94 l0 x1_1).f0) ((rd_T94 l0 x1_1).f1) ((rd_T94 l0 x1_1).f2) ((rd_T94 l0 x1_1).f3) ((rd_T94 l0 x1_1).f4) ((rd_T94 l0 x1_1).f5) ((rd_T94 l0 x1_1).f6) a2_0 a2_1 a2_2 a2_3 a2_4 a2_5 a2_6 false _ A7.out).mono ?_
         rintro e w12 ⟨rfl, hb⟩
         refine ⟨_, rfl, ?_⟩
         have n0_ := Aside0.mk (bkb BK159 hb)
         have n1_ := Aside0.mk (bs_ hb)
         clear BK159 HB; revert n0_ n1_; intro BK159 HB
         (try clear hb)
         (try clear hb2)
         (try clear hk)
         (try clear hi)
         refine hK.out _ _ ⟨(blk_cell BK159.out 0).trans rfl, (blk_cell BK159.out 1).trans rfl, (blk_cell BK159.out 2).trans rfl, (blk_cell BK159.out 3).trans rfl, (blk_cell BK159.out 4).trans rfl, (blk_cell BK159.out 5).trans rfl, (blk_cell BK159.out 6).trans rfl, ((HB.out.cell (World.block_lt_of_cell? w _ hw160_0)).trans hw160_0), ((HB.out.cell (World.block_lt_of_cell? w _ hw160_1)).trans hw160_1), ((HB.out.cell (World.block_lt_of_cell? w _ hw160_2)).trans hw160_2), ((HB.out.cell (World.block_lt_of_cell? w _ hw160_3)).trans hw160_3), ((HB.out.cell (World.block_lt_of_cell? w _ hw160_4)).trans hw160_4), ((HB.out.cell (World.block_lt_of_cell? w _ hw160_5)).trans hw160_5), ((HB.out.cell (World.block_lt_of_cell? w _ hw160_6)).trans hw160_6)⟩ (fun hHeld => ?_)
         clear hK K
         refine sqN_ 12 ?_
         refine sqP_ 6 13 (fb 7 127) (by kernel_rfl) ?_
         refine done_ (by kernel_rfl) ?_
         try go_wp2
         go_roundg k1
         case measure => have := HK1.out; omega
         case rel => exact ⟨(wrap64 (x1_1 + 1)), (by first | rfl | (simp; done) | (simp [*]; done)), H', ⟨by have := HK1.out; omega⟩, ⟨by (with_reducible repeat (first | refine blk_drewN ?_ _ | refine blk_drew ?_ | refine blk_alloc ?_ _)); exact BK159.out⟩, ⟨bb_⟩⟩
     · rw [if_neg c6] at H
       exact absurd H (by simp)
   · rw [if_neg c5] at H
     exact absurd H (by simp)

end Go.Proofs.Ytmfbkbbgokjhnaa.F
namespace Go.Proofs.Ytmfbkbbgokjhnaa.F
open Go.RowKit Go.Proofs.YtmfbkbbgokjhnaaW.PrintWords Go.Proofs.YtmfbkbbgokjhnaaW.PrintLast Go.Proofs.YtmfbkbbgokjhnaaW.PrintMore
attribute [local go_sem] max2_int min2_int max_two min_two max_three min_three max_four min_four   -- for this text's walks alone
set_option linter.unusedVariables false
set_option linter.unusedSimpArgs false

/-! ### spec_l12Right: function 57 -/
def spec_l12Right.l0 : Nat → List S94 → Int → Int → Int → Int → ByteArray → Int → Bool → Bool → Bool → Int → List ByteArray → Option Bool
 | 0, _, _, _, _, _, _, _, _, _, _, _, _ => none
 | k + 1, l0, x7, x8, a1_0, a1_1, a1_2, a1_3, a1_4, a1_5, a1_6, a2_0, l2_1 => if x8 < (l2_1.length : Int) then ((spec_l09First.f k l0 x7 a1_0 a1_1 a1_2 a1_3 a1_4 a1_5 a1_6).bind fun t => (if 0 ≤ t then (if t < (l0.length : Int) then (if 0 ≤ x8 then (if (rd_T94 l0 t).f0.toList = (rdOf ByteArray.empty l2_1 x8).toList then (if x8 = (l2_1.length : Int) - 1 then (if (rd_T94 l0 t).f5 = 3 then some false else some ((rd_T94 l0 t).f5 == a2_0)) else (if (rd_T94 l0 t).f5 = 3 then ((spec_l09Find.f k l0 (rd_T94 l0 t).f6).bind fun u => spec_l12Right.l0 k l0 u (x8 + 1) a1_0 a1_1 a1_2 a1_3 a1_4 a1_5 a1_6 a2_0 l2_1) else some false)) else some false) else none) else none) else none)) else some false
def spec_l12Right.f (k : Nat) (l0 : List S94) (a1_0 a1_1 : Int) (a1_2 : ByteArray) (a1_3 : Int) (a1_4 a1_5 a1_6 : Bool) (a2_0 : Int) (l2_1 : List ByteArray) : Option Bool := spec_l12Right.l0 k l0 0 0 a1_0 a1_1 a1_2 a1_3 a1_4 a1_5 a1_6 a2_0 l2_1
theorem spec_l12Right.mono_l : ∀ k, (∀ y0 y1 y2 y3 y4 y5 y6 y7 y8 y9 y10 y11, LeO (spec_l12Right.l0 k y0 y1 y2 y3 y4 y5 y6 y7 y8 y9 y10 y11) (spec_l12Right.l0 (k + 1) y0 y1 y2 y3 y4 y5 y6 y7 y8 y9 y10 y11))
 | 0 => fun _ _ _ _ _ _ _ _ _ _ _ _ r h => by simp [spec_l12Right.l0] at h
 | k + 1 => by
  have ih0 := spec_l12Right.mono_l k
  intro y0 y1 y2 y3 y4 y5 y6 y7 y8 y9 y10 y11
  unfold spec_l12Right.l0
  repeat' first
   | (with_reducible exact ih0 _ _ _ _ _ _ _ _ _ _ _ _)
   | (with_reducible exact spec_l09Find.mono _ _ _)
   | (with_reducible exact spec_l09First.mono _ _ _ _ _ _ _ _ _ _)
   | (with_reducible exact LeO.refl _)
   | (with_reducible refine LeO.ite ?_ ?_)
   | (with_reducible refine LeO.bind ?_ (fun _ => ?_))
theorem spec_l12Right.mono : ∀ a0 a1 a2 a3 a4 a5 a6 a7 a8 a9 k, LeO (spec_l12Right.f k a0 a1 a2 a3 a4 a5 a6 a7 a8 a9) (spec_l12Right.f (k + 1) a0 a1 a2 a3 a4 a5 a6 a7 a8 a9) :=
 fun _ _ _ _ _ _ _ _ _ _ k => spec_l12Right.mono_l k _ _ _ _ _ _ _ _ _ _ _ _
set_option maxHeartbeats 8000000 in
set_option maxRecDepth 100000 in
theorem spec_l12Right.calls (k : Nat) (A0 : Option Addr) (c0 : Nat) (l0 : List S94) (a1_0 : Int) (a1_1 : Int) (a1_2 : ByteArray) (a1_3 : Int) (a1_4 : Bool) (a1_5 : Bool) (a1_6 : Bool) (a2_0 : Int) (A2_1 : Option Addr) (c2_1 : Nat) (l2_1 : List ByteArray) (r : Bool) (w : World) (hr0 : Kd.C k94 w A0 l0.length l0) (hc0 : l0.length ≤ c0) (hr2_1 : Kd.C Kd.string w A2_1 l2_1.length l2_1) (hc2_1 : l2_1.length ≤ c2_1) (h : spec_l12Right.f k l0 a1_0 a1_1 a1_2 a1_3 a1_4 a1_5 a1_6 a2_0 l2_1 = some r) :
 Calls Try.prog 57 #[.slice A0 l0.length c0, .agg #[.int .i64 a1_0, .int .i64 a1_1, .string a1_2, .int .i64 a1_3, .bool a1_4, .bool a1_5, .bool a1_6], .agg #[.int .i64 a2_0, .slice A2_1 l2_1.length c2_1]] w fun e w' => e = .returned (.bool r) ∧ Below w.heap.size w w' := by
 have hu43 := Try.underlying43
 have hu45 := Try.underlying45
 have hu94 := Try.underlying94
 have hbig0 : l0.length ≤ 9223372036854775807 := hr0.2.1
 have hbig2 : l2_1.length ≤ 9223372036854775807 := hr2_1.2.1
 have HR0 := Aside0.mk hr0
 have HC0 := Aside0.mk hc0
 have HR2 := Aside0.mk hr2_1
 have H' := Aside0.mk h
 clear hr0 hc0 hr2_1 hc2_1 h
 have B0 := Aside0.mk (below_alloc (below_alloc (Below.refl w.heap.size w) (.cells #[.int .i64 a1_0, .int .i64 a1_1, .string a1_2, .int .i64 a1_3, .bool a1_4, .bool a1_5, .bool a1_6] 43)) (.cells #[.int .i64 a2_0, .slice A2_1 l2_1.length c2_1] 45))
 have K4 := Aside0.mk (blk_alloc (blk_new w (.cells #[.int .i64 a1_0, .int .i64 a1_1, .string a1_2, .int .i64 a1_3, .bool a1_4, .bool a1_5, .bool a1_6] 43)) (.cells #[.int .i64 a2_0, .slice A2_1 l2_1.length c2_1] 45))
 have K5 := Aside0.mk (blk_new (w.alloc (.cells #[.int .i64 a1_0, .int .i64 a1_1, .string a1_2, .int .i64 a1_3, .bool a1_4, .bool a1_5, .bool a1_6] 43)) (.cells #[.int .i64 a2_0, .slice A2_1 l2_1.length c2_1] 45))
 have hsz : (w.alloc (.cells #[.int .i64 a1_0, .int .i64 a1_1, .string a1_2, .int .i64 a1_3, .bool a1_4, .bool a1_5, .bool a1_6] 43)).heap.size = w.heap.size + 1 := by simp
 rw [hsz] at K5
 go_enter Try.func57, Try.ntmps57
 go_wp2
 go_loopg [7, 8] k (fun kq v7 v8 wr => ∃ x7 x8 : Int, v7 = .int .i64 x7 ∧ v8 = .int .i64 x8 ∧ Aside0 (spec_l12Right.l0 kq l0 x7 x8 a1_0 a1_1 a1_2 a1_3 a1_4 a1_5 a1_6 a2_0 l2_1 = some r) ∧ Aside0 (wr.heap[w.heap.size]? = some (.cells #[.int .i64 a1_0, .int .i64 a1_1, .string a1_2, .int .i64 a1_3, .bool a1_4, .bool a1_5, .bool a1_6] 43 (0, 0))) ∧ Aside0 (wr.heap[w.heap.size + 1]? = some (.cells #[.int .i64 a2_0, .slice A2_1 l2_1.length c2_1] 45 (0, 0))) ∧ Aside0 (Below w.heap.size w wr))
 case atStart => exact ⟨0, 0, rfl, rfl, H', K4, K5, B0⟩
 case round =>
  clear H' B0 K4 K5 hsz
  obtain ⟨x7, x8, rfl, rfl, HA, BK4, BK5, HB⟩ := hrel
  cases gk with
  | zero => exact absurd HA.out (by simp [spec_l12Right.l0])
  | succ k1 =>
  have H := HA.out
  clear HA
  simp only [spec_l12Right.l0] at H
  have d1 := bk BK5 1
  by_cases c1 : x8 < (l2_1.length : Int)
  case neg =>
   rw [if_neg c1] at H
   obtain rfl := Option.some.inj H
   have c1b : decide (x8 < (l2_1.length : Int)) = false := decide_eq_false c1
   clear H
   go_wp2
   go_ret
   exact ⟨rfl, HB.out⟩
  rw [if_pos c1] at H
  obtain ⟨t, A7, H⟩ := Option.bind_eq_some_iff.mp H
  by_cases c2 : 0 ≤ t
  case neg => rw [if_neg c2] at H; cases H
  rw [if_pos c2] at H
  by_cases c3 : t < (l0.length : Int)
  case neg => rw [if_neg c3] at H; cases H
  rw [if_pos c3] at H
  by_cases c4 : 0 ≤ x8
  case neg => rw [if_neg c4] at H; cases H
  rw [if_pos c4] at H
  have HF := Aside0.mk (fun (W : World) (hW : Below w.heap.size w W) => spec_l09First.calls k1 A0 c0 l0 x7 a1_0 a1_1 a1_2 a1_3 a1_4 a1_5 a1_6 t W (Kd.C_below HR0.out hW) HC0.out A7)
  clear A7
  have o1 := at_T94 HR0.out t c2 c3
  have o2 := Kd.at_string HR2.out x8 c4 c1
  have HG := Aside0.mk (fun (W : World) (hW : Below w.heap.size w W) (u : Int) (hu : spec_l09Find.f k1 l0 (rd_T94 l0 t).f6 = some u) => spec_l09Find.calls k1 A0 c0 l0 _ u W (Kd.C_below HR0.out hW) HC0.out hu)
  generalize rd_T94 l0 t = c at o1 H HG
  generalize rdOf ByteArray.empty l2_1 x8 = s at o2 H
  obtain ⟨f0, f1, f2, f3, f4, f5, f6⟩ := c
  simp only at o1 H HG
  obtain ⟨ad, e_ad, hx0, hx1, hx2, hx3, hx4, hx5, hx6⟩ := o1
  cases e_ad
  obtain ⟨ag, e_ag, hs0⟩ := o2
  cases e_ag
  have HX := Aside0.mk (And.intro hx0 (And.intro hx1 (And.intro hx2 (And.intro hx3 (And.intro hx4 (And.intro hx5 (And.intro hx6 hs0)))))))
  clear hx0 hx1 hx2 hx3 hx4 hx5 hx6 hs0
  have c1b : decide (x8 < (l2_1.length : Int)) = true := decide_eq_true c1
  have e0 := bk BK4 0
  have e1 := bk BK4 1
  have e2 := bk BK4 2
  have e3 := bk BK4 3
  have e4 := bk BK4 4
  have e5 := bk BK4 5
  have e6 := bk BK4 6
  have HH := Aside0.mk H
  clear H
  go_upto_region 6 with (go_at_call 97; refine (HF.out _ (by first | exact HB.out | exact below_drew HB.out)).mono ?_; rintro e w3 ⟨rfl, hb⟩; have HB3 := Aside0.mk (below_then (show Below w.heap.size w _ by first | exact HB.out | exact below_drew HB.out) (by first | exact HB.out.size | exact (below_drew HB.out).size) (by first | exact hb | exact hb.below)); have K43 := Aside0.mk (blk_below (by first | exact BK4.out | exact blk_drew BK4.out) (by first | exact hb | exact hb.below)); have K53 := Aside0.mk (blk_below (by first | exact BK5.out | exact blk_drew BK5.out) (by first | exact hb | exact hb.below)); clear hb)
  clear e0 e1 e2 e3 e4 e5 e6 d1 HF HB BK4 BK5
  have hx0 := cel HB3 HX.out.1
  have hx1 := cel HB3 HX.out.2.1
  have hx2 := cel HB3 HX.out.2.2.1
  have hx3 := cel HB3 HX.out.2.2.2.1
  have hx4 := cel HB3 HX.out.2.2.2.2.1
  have hx5 := cel HB3 HX.out.2.2.2.2.2.1
  have hx6 := cel HB3 HX.out.2.2.2.2.2.2.1
  go_upto_region 7 with fail
  have B4 := Aside0.mk (below_alloc HB3.out (.cells #[.string f0, .int .i64 f1, .int .i64 f2, .int .i64 f3, .int .i64 f4, .int .i64 f5, .string f6] 94))
  have K44 := Aside0.mk (blk_alloc K43.out (.cells #[.string f0, .int .i64 f1, .int .i64 f2, .int .i64 f3, .int .i64 f4, .int .i64 f5, .string f6] 94))
  have K54 := Aside0.mk (blk_alloc K53.out (.cells #[.string f0, .int .i64 f1, .int .i64 f2, .int .i64 f3, .int .i64 f4, .int .i64 f5, .string f6] 94))
  have K10 := Aside0.mk (blk_new w3 (.cells #[.string f0, .int .i64 f1, .int .i64 f2, .int .i64 f3, .int .i64 f4, .int .i64 f5, .string f6] 94))
  clear hx0 hx1 hx2 hx3 hx4 hx5 hx6 HB3 K43 K53
  generalize hb10 : w3.heap.size = b10 at *
  generalize w3.alloc (.cells #[.string f0, .int .i64 f1, .int .i64 f2, .int .i64 f3, .int .i64 f4, .int .i64 f5, .string f6] 94) = w4 at *
  have sw : IntKind.i64.wrap ((l2_1.length : Int) - 1) = (l2_1.length : Int) - 1 := IntWalk.i64_in _ (by omega)
  have sx : IntKind.i64.wrap (x8 + 1) = x8 + 1 := IntWalk.i64_in _ (by omega)
  by_cases c5 : f0.toList = s.toList
  case neg =>
   have H := HH.out
   rw [if_neg c5] at H
   obtain rfl := Option.some.inj H
   have c5b : (f0.toList != s.toList) = true := bne_iff_ne.mpr c5
   have c5c : (f0.toList == s.toList) = false := beq_eq_false_iff_ne.mpr c5
   clear H HH
   refine start_ (n := 8) (S := fun w' => w'.cell? ⟨b10, 0, none⟩ = some (.string f0) ∧ w'.cell? ⟨w.heap.size + 1, 1, none⟩ = some (.slice (some ag) l2_1.length c2_1) ∧ w'.cell? (ag.add x8.toNat) = some (.string s)) (ds := []) (fb 8 0) (by kernel_rfl) rfl rfl ⟨(blk_cell (blk_drew K10.out) 0).trans rfl, (blk_cell (blk_drew K54.out) 1).trans rfl, ((below_drew B4.out).cell (World.block_lt_of_cell? w _ HX.out.2.2.2.2.2.2.2)).trans HX.out.2.2.2.2.2.2.2⟩ (fun hHeld => ?_)
   refine sqP_ 0 27 (fb 8 1) (by kernel_rfl) ?_
   refine sqP_ 2 29 (fb 8 5) (by kernel_rfl) ?_
   refine sqP_ 4 31 (fb 8 21) (by kernel_rfl) ?_
   refine sqT_ 1 28 (fb 8 23) (by kernel_rfl) hHeld ?_
   refine sqT_ 3 30 (fb 8 31) (by kernel_rfl) hHeld ?_
   refine sqP_ 5 32 (fb 8 63) (by kernel_rfl) ?_
   refine sqT_ 6 33 (fb 8 127) (by kernel_rfl) hHeld ?_
   refine sqP_ 7 34 (fb 8 255) (by kernel_rfl) ?_
   refine done_ (by kernel_rfl) ?_
   have k0 := blk_cell (blk_drew K10.out) 5
   have HB4 := Aside0.mk (below_drew B4.out)
   have K45 := Aside0.mk (blk_drew K44.out)
   have K55 := Aside0.mk (blk_drew K54.out)
   have K11 := Aside0.mk (blk_drew K10.out)
   clear k0 B4 K44 K54 K10
   generalize w4.drew = w5 at *
   have g0 := bk K11 5
   have g1 := bk K11 6
   have g2 := bk K55 0
   have g3 := bk K55 1
   go_wp2
   go_ret
   exact ⟨rfl, HB4.out⟩
  have c5b : (f0.toList != s.toList) = false := bne_eq_false_iff_eq.mpr c5
  have c5c : (f0.toList == s.toList) = true := beq_iff_eq.mpr c5
  have H := HH.out
  rw [if_pos c5] at H
  clear HH c5
  have HH := Aside0.mk H
  clear H
  refine start_ (n := 8) (S := fun w' => w'.cell? ⟨b10, 0, none⟩ = some (.string f0) ∧ w'.cell? ⟨w.heap.size + 1, 1, none⟩ = some (.slice (some ag) l2_1.length c2_1) ∧ w'.cell? (ag.add x8.toNat) = some (.string s)) (ds := []) (fb 8 0) (by kernel_rfl) rfl rfl ⟨(blk_cell (blk_drew K10.out) 0).trans rfl, (blk_cell (blk_drew K54.out) 1).trans rfl, ((below_drew B4.out).cell (World.block_lt_of_cell? w _ HX.out.2.2.2.2.2.2.2)).trans HX.out.2.2.2.2.2.2.2⟩ (fun hHeld => ?_)
  refine sqP_ 0 27 (fb 8 1) (by kernel_rfl) ?_
  refine sqP_ 2 29 (fb 8 5) (by kernel_rfl) ?_
  refine sqP_ 4 31 (fb 8 21) (by kernel_rfl) ?_
  refine sqT_ 1 28 (fb 8 23) (by kernel_rfl) hHeld ?_
  refine sqT_ 3 30 (fb 8 31) (by kernel_rfl) hHeld ?_
  refine sqP_ 5 32 (fb 8 63) (by kernel_rfl) ?_
  refine sqT_ 6 33 (fb 8 127) (by kernel_rfl) hHeld ?_
  refine sqP_ 7 34 (fb 8 255) (by kernel_rfl) ?_
  refine done_ (by kernel_rfl) ?_
  have k0 := blk_cell (blk_drew K10.out) 5
  have HB4 := Aside0.mk (below_drew B4.out)
  have K45 := Aside0.mk (blk_drew K44.out)
  have K55 := Aside0.mk (blk_drew K54.out)
  have K11 := Aside0.mk (blk_drew K10.out)
  clear k0 B4 K44 K54 K10
  generalize w4.drew = w5 at *
  have g0 := bk K11 5
  have g1 := bk K11 6
  have g2 := bk K55 0
  have g3 := bk K55 1
  have H := HH.out
  clear HH
  by_cases c6 : x8 = (l2_1.length : Int) - 1
  · rw [if_pos c6] at H
    have c6b : (x8 == (l2_1.length : Int) - 1) = true := beq_iff_eq.mpr c6
    have c6c : decide (x8 = (l2_1.length : Int) - 1) = true := decide_eq_true c6
    clear c6
    by_cases c7 : f5 = 3
    · rw [if_pos c7] at H
      obtain rfl := Option.some.inj H
      clear H
      have c7b : (f5 != 3) = false := bne_eq_false_iff_eq.mpr c7
      have c7c : (f5 == 3) = true := beq_iff_eq.mpr c7
      clear c7
      go_wp2
      go_ret
      exact ⟨rfl, HB4.out⟩
    · rw [if_neg c7] at H
      obtain rfl := Option.some.inj H
      clear H
      have c7b : (f5 != 3) = true := bne_iff_ne.mpr c7
      have c7c : (f5 == 3) = false := beq_eq_false_iff_ne.mpr c7
      clear c7
      go_wp2
      go_ret
      exact ⟨rfl, HB4.out⟩
  · rw [if_neg c6] at H
    have c6b : (x8 == (l2_1.length : Int) - 1) = false := beq_eq_false_iff_ne.mpr c6
    have c6c : decide (x8 = (l2_1.length : Int) - 1) = false := decide_eq_false c6
    clear c6
    by_cases c7 : f5 = 3
    · rw [if_pos c7] at H
      obtain ⟨u, A8, H⟩ := Option.bind_eq_some_iff.mp H
      have HN := Aside0.mk H
      have HU := Aside0.mk (fun (W : World) (hW : Below w.heap.size w W) => HG.out W hW u A8)
      clear H A8 HG
      have c7b : (f5 != 3) = false := bne_eq_false_iff_eq.mpr c7
      have c7c : (f5 == 3) = true := beq_iff_eq.mpr c7
      clear c7
      go_wp2_with (go_at_call 94; refine (HU.out _ (by first | exact HB4.out | exact below_drew HB4.out)).mono ?_; rintro e w6 ⟨rfl, hb⟩; have HB6 := Aside0.mk (below_then (show Below w.heap.size w _ by first | exact HB4.out | exact below_drew HB4.out) (by first | exact HB4.out.size | exact (below_drew HB4.out).size) (by first | exact hb | exact hb.below)); have K46 := Aside0.mk (blk_below (by first | exact K45.out | exact blk_drew K45.out) (by first | exact hb | exact hb.below)); have K56 := Aside0.mk (blk_below (by first | exact K55.out | exact blk_drew K55.out) (by first | exact hb | exact hb.below)); clear hb)
      go_roundg k1
      case measure => omega
      case rel => exact ⟨u, x8 + 1, rfl, by first | rfl | go_num, HN, K46, K56, HB6⟩
    · rw [if_neg c7] at H
      obtain rfl := Option.some.inj H
      clear H
      have c7b : (f5 != 3) = true := bne_iff_ne.mpr c7
      have c7c : (f5 == 3) = false := beq_eq_false_iff_ne.mpr c7
      clear c7
      go_wp2
      go_ret
      exact ⟨rfl, HB4.out⟩

end Go.Proofs.Ytmfbkbbgokjhnaa.F
namespace Go.Proofs.Ytmfbkbbgokjhnaa.F
open Go.RowKit Go.Proofs.YtmfbkbbgokjhnaaW.PrintWords Go.Proofs.YtmfbkbbgokjhnaaW.PrintLast Go.Proofs.YtmfbkbbgokjhnaaW.PrintMore
attribute [local go_sem] max2_int min2_int max_two min_two max_three min_three max_four min_four   -- for this text's walks alone
set_option linter.unusedVariables false
set_option linter.unusedSimpArgs false

/-! ### spec_IsAmount: function 77 -/
def spec_IsAmount.f (a0 : Int) : Option (Bool) := (spec_l01In.f a0 0 1000000000).bind fun t162 => (some t162)
set_option maxHeartbeats 8000000 in
set_option maxRecDepth 100000 in
theorem spec_IsAmount.calls (a0 : Int) (r : Bool) (w : World) (h : spec_IsAmount.f a0 = some r) :
 Calls Try.prog 77 #[.int .i64 a0] w fun e w' => e = .returned (.bool r) ∧ Drawn0 w w' := by
 have H : ((spec_l01In.f a0 0 1000000000).bind fun t162 => (some t162)) = some r := h
 clear h
 replace H := Option.bind_eq_some_iff.mp H
 obtain ⟨t162, A20, H⟩ := H
 replace H : (some t162) = some r := H
 have A2 := Aside0.mk A20
 clear A20
 obtain rfl := Option.some.inj H
 go_enter Try.func77, Try.ntmps77
 go_wp2_with (first | ((with_reducible refine gate_callee (f := 92) rfl ?_); refine gl_ 4 Try.func92 #[.int .i64 a0, .int .i64 0, .int .i64 1000000000] ?_; (with_reducible refine (spec_l01In.calls a0 0 1000000000 t162 _ A2.out).mono ?_); rintro e w' ⟨rfl, ⟨nd, rfl⟩⟩; refine ⟨_, rfl, ?_⟩))
 go_ret
 exact ⟨by first | rfl | (simp; done) | (simp [*]; done), by repeat (first | exact Drawn0.refl _ | apply Drawn0.step)⟩

/-! ### spec_l02Is: function 95 -/
def spec_l02Is.f (a0 : Int) : Option (Bool) := (spec_l01In.f a0 0 36524).bind fun t163 => (some t163)
set_option maxHeartbeats 8000000 in
set_option maxRecDepth 100000 in
theorem spec_l02Is.calls (a0 : Int) (r : Bool) (w : World) (h : spec_l02Is.f a0 = some r) :
 Calls Try.prog 95 #[.int .i64 a0] w fun e w' => e = .returned (.bool r) ∧ Drawn0 w w' := by
 have H : ((spec_l01In.f a0 0 36524).bind fun t163 => (some t163)) = some r := h
 clear h
 replace H := Option.bind_eq_some_iff.mp H
 obtain ⟨t163, A20, H⟩ := H
 replace H : (some t163) = some r := H
 have A2 := Aside0.mk A20
 clear A20
 obtain rfl := Option.some.inj H
 go_enter Try.func95, Try.ntmps95
 go_wp2_with (first | ((with_reducible refine gate_callee (f := 92) rfl ?_); refine gl_ 4 Try.func92 #[.int .i64 a0, .int .i64 0, .int .i64 36524] ?_; (with_reducible refine (spec_l01In.calls a0 0 36524 t163 _ A2.out).mono ?_); rintro e w' ⟨rfl, ⟨nd, rfl⟩⟩; refine ⟨_, rfl, ?_⟩))
 go_ret
 exact ⟨by first | rfl | (simp; done) | (simp [*]; done), by repeat (first | exact Drawn0.refl _ | apply Drawn0.step)⟩

/-! ### spec_IsEvent: function 56 -/
def spec_IsEvent.f (k : Nat) (a0_0 : Int) (a0_1 : Int) (a0_2 : ByteArray) (a0_3 : Int) (a0_4 : Bool) (a0_5 : Bool) (a0_6 : Bool) : Option (Bool) := (spec_l02Is.f a0_0).bind fun t165 => (if t165 = true then ((spec_l01In.f a0_1 0 6).bind fun t166 => (if t166 = true then ((spec_IsPartyCode.f k a0_2).bind fun t167 => (if t167 = true then ((spec_IsAmount.f a0_3).bind fun t168 => (some t168)) else (some false))) else (some false))) else (some false))
theorem spec_IsEvent.mono : ∀ a0 a1 a2 a3 a4 a5 a6 k, LeO (spec_IsEvent.f k a0 a1 a2 a3 a4 a5 a6) (spec_IsEvent.f (k + 1) a0 a1 a2 a3 a4 a5 a6) := by
 intro a0 a1 a2 a3 a4 a5 a6 k
 unfold spec_IsEvent.f
 repeat' first
  | (with_reducible exact spec_IsPartyCode.mono _ _)
  | (with_reducible exact LeO.refl _)
  | (with_reducible exact LeO.none _)
  | (with_reducible refine LeO.ite ?_ ?_)
  | (with_reducible refine LeO.bind ?_ (fun _ => ?_))
  | exact spec_IsPartyCode.mono _ _
  | exact LeO.none _
  | refine LeO.ite ?_ ?_
  | refine LeO.bind ?_ (fun _ => ?_)
set_option maxHeartbeats 8000000 in
set_option maxRecDepth 100000 in
theorem spec_IsEvent.calls (k : Nat) (a0_0 : Int) (a0_1 : Int) (a0_2 : ByteArray) (a0_3 : Int) (a0_4 : Bool) (a0_5 : Bool) (a0_6 : Bool) (r : Bool) (w : World) (h : spec_IsEvent.f k a0_0 a0_1 a0_2 a0_3 a0_4 a0_5 a0_6 = some r) :
 Calls Try.prog 56 #[.agg #[.int .i64 a0_0, .int .i64 a0_1, .string a0_2, .int .i64 a0_3, .bool a0_4, .bool a0_5, .bool a0_6]] w fun e w' => e = .returned (.bool r) ∧ Below w.heap.size w w' := by
 have hu43 := Try.underlying43
 have HB := Aside0.mk (Below.refl w.heap.size w)
 have H : ((spec_l02Is.f a0_0).bind fun t165 => (if t165 = true then ((spec_l01In.f a0_1 0 6).bind fun t166 => (if t166 = true then ((spec_IsPartyCode.f k a0_2).bind fun t167 => (if t167 = true then ((spec_IsAmount.f a0_3).bind fun t168 => (some t168)) else (some false))) else (some false))) else (some false))) = some r := h
 clear h
 replace H := Option.bind_eq_some_iff.mp H
 obtain ⟨t165, A20, H⟩ := H
 replace H : (if t165 = true then ((spec_l01In.f a0_1 0 6).bind fun t166 => (if t166 = true then ((spec_IsPartyCode.f k a0_2).bind fun t167 => (if t167 = true then ((spec_IsAmount.f a0_3).bind fun t168 => (some t168)) else (some false))) else (some false))) else (some false)) = some r := H
 have A2 := Aside0.mk A20
 clear A20
 by_cases c3 : t165 = true
 subst c3
 have H1 : ((spec_l01In.f a0_1 0 6).bind fun t166 => (if t166 = true then ((spec_IsPartyCode.f k a0_2).bind fun t167 => (if t167 = true then ((spec_IsAmount.f a0_3).bind fun t168 => (some t168)) else (some false))) else (some false))) = some r := by rw [if_pos rfl] at H; exact H
 clear H
 have H := H1
 clear H1
 replace H := Option.bind_eq_some_iff.mp H
 obtain ⟨t166, A40, H⟩ := H
 replace H : (if t166 = true then ((spec_IsPartyCode.f k a0_2).bind fun t167 => (if t167 = true then ((spec_IsAmount.f a0_3).bind fun t168 => (some t168)) else (some false))) else (some false)) = some r := H
 have A4 := Aside0.mk A40
 clear A40
 by_cases c5 : t166 = true
 subst c5
 have H1 : ((spec_IsPartyCode.f k a0_2).bind fun t167 => (if t167 = true then ((spec_IsAmount.f a0_3).bind fun t168 => (some t168)) else (some false))) = some r := by rw [if_pos rfl] at H; exact H
 clear H
 have H := H1
 clear H1
 replace H := Option.bind_eq_some_iff.mp H
 obtain ⟨t167, A60, H⟩ := H
 replace H : (if t167 = true then ((spec_IsAmount.f a0_3).bind fun t168 => (some t168)) else (some false)) = some r := H
 have A6 := Aside0.mk A60
 clear A60
 by_cases c7 : t167 = true
 subst c7
 have H1 : ((spec_IsAmount.f a0_3).bind fun t168 => (some t168)) = some r := by rw [if_pos rfl] at H; exact H
 clear H
 have H := H1
 clear H1
 replace H := Option.bind_eq_some_iff.mp H
 obtain ⟨t168, A80, H⟩ := H
 replace H : (some t168) = some r := H
 have A8 := Aside0.mk A80
 clear A80
 obtain rfl := Option.some.inj H
 rotate_left
 replace c7 := Bool.eq_false_iff.mpr c7
 subst c7
 have H1 : (some false) = some r := by rw [if_neg (show ¬ (false = true) by decide)] at H; exact H
 clear H
 have H := H1
 clear H1
 obtain rfl := Option.some.inj H
 rotate_left
 replace c5 := Bool.eq_false_iff.mpr c5
 subst c5
 have H1 : (some false) = some r := by rw [if_neg (show ¬ (false = true) by decide)] at H; exact H
 clear H
 have H := H1
 clear H1
 obtain rfl := Option.some.inj H
 rotate_left
 replace c3 := Bool.eq_false_iff.mpr c3
 subst c3
 have H1 : (some false) = some r := by rw [if_neg (show ¬ (false = true) by decide)] at H; exact H
 clear H
 have H := H1
 clear H1
 obtain rfl := Option.some.inj H
 rotate_left
 all_goals
  go_enter Try.func56, Try.ntmps56
  go_wp2_with (first | ((with_reducible refine gate_dst (N := 1) rfl ?_); refine bx_ 1 #[.int .i64 a0_0, .int .i64 a0_1, .string a0_2, .int .i64 a0_3, .bool a0_4, .bool a0_5, .bool a0_6] 43 ?_; intro gb164 hg w9 hbox hb; have n0_ := Aside0.mk (bs_ hb); have n1_ := Aside0.mk (hbox); have n2_ := Aside0.mk ((by rw [hg]; exact (bz_) : w.heap.size ≤ gb164)); have n3_ := Aside0.mk ((by rw [hg]; exact (bz_) : w.heap.size ≤ gb164)); clear HB; revert n0_ n1_ n2_ n3_; intro HB BK164 GW164 GE164; clear hb hbox hg; have hcz10_0 := bk BK164 0; have hcz10_1 := bk BK164 1; have hcz10_2 := bk BK164 2; have hcz10_3 := bk BK164 3; have hcz10_4 := bk BK164 4; have hcz10_5 := bk BK164 5; have hcz10_6 := bk BK164 6; have hfz10_0 := blk_frozen BK164.out 0; have hfz10_1 := blk_frozen BK164.out 1; have hfz10_2 := blk_frozen BK164.out 2; have hfz10_3 := blk_frozen BK164.out 3; have hfz10_4 := blk_frozen BK164.out 4; have hfz10_5 := blk_frozen BK164.out 5; have hfz10_6 := blk_frozen BK164.out 6) | ((with_reducible refine gate_callee (f := 95) rfl ?_); refine gl_ 5 Try.func95 #[.int .i64 a0_0] ?_; (with_reducible refine (spec_l02Is.calls a0_0 _ _ A2.out).mono ?_); rintro e w' ⟨rfl, ⟨nd, rfl⟩⟩; refine ⟨_, rfl, ?_⟩) | (go_at_call 92; (with_reducible refine (spec_l01In.calls a0_1 0 6 _ _ A4.out).mono ?_); rintro e w' ⟨rfl, ⟨nd, rfl⟩⟩) | (go_at_call 96; (with_reducible refine (spec_IsPartyCode.calls k a0_2 _ _ A6.out).mono ?_); rintro e w' ⟨rfl, ⟨nd, rfl⟩⟩) | (go_at_call 77; (with_reducible refine (spec_IsAmount.calls a0_3 t168 _ A8.out).mono ?_); rintro e w' ⟨rfl, ⟨nd, rfl⟩⟩))
  go_ret
  exact ⟨by first | rfl | (simp [errW_none, errW_some] <;> rfl) | (simp [*, errW_none, errW_some] <;> rfl), bb_⟩

end Go.Proofs.Ytmfbkbbgokjhnaa.F
