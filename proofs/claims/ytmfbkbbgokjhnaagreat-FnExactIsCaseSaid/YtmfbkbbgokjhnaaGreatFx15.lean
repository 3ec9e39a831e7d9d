-- Written by this session's program (wip/bin/hp.py) over the kit's print: a function's Lean form, and a proof that the call does what it says.
import Derived.Test.YtmfbkbbgokjhnaaGreatFx0
import Derived.Test.YtmfbkbbgokjhnaaGreatSq
import Derived.Test.YtmfbkbbgokjhnaaGreatFx4
import Derived.Test.YtmfbkbbgokjhnaaGreatFx7
import Derived.Test.YtmfbkbbgokjhnaaGreatFx11
import Derived.Test.YtmfbkbbgokjhnaaGreatFx13
namespace Go.Proofs.YtmfbkbbgokjhnaaGreat.F
open Go.RowKit Go.Proofs.YtmfbkbbgokjhnaaGreatW.PrintWords Go.Proofs.YtmfbkbbgokjhnaaGreatW.PrintLast Go.Proofs.YtmfbkbbgokjhnaaGreatW.PrintMore
attribute [local go_sem] max2_int min2_int max_two min_two max_three min_three max_four min_four   -- for this text's walks alone
set_option linter.unusedVariables false
set_option linter.unusedSimpArgs false

/-! ### spec_IsCase: function 10 -/
def spec_IsCase.f (k : Nat) (l0 : List S103) (l1 : List S65) (l2 : List S105) (l3 : List S109) (l4 : List S111) (a5 a6 : Int) : Option Bool := (spec_IsManifest.f k l0).bind fun t0 => if t0 = true then ((spec_IsLog.f k l1).bind fun t1 => if t1 = true then ((spec_IsRulebook.f k l2).bind fun t2 => if t2 = true then ((spec_IsScale.f k l3).bind fun t3 => if t3 = true then ((spec_IsSchedule.f k l4).bind fun t4 => if t4 = true then ((spec_l08Fits.f k l1 l0).bind fun t5 => if t5 = true then ((spec_l04Points.f a5).bind fun t6 => if t6 = true then ((spec_l02Is.f a6).bind fun t7 => if t7 = true then (if l1.length = 0 then some true else some (decide ((rd_T65 l1 ((l1.length : Int) - 1)).f0 ≤ a6))) else some false) else some false) else some false) else some false) else some false) else some false) else some false) else some false
theorem spec_IsCase.mono : ∀ l0 l1 l2 l3 l4 a5 a6 k, LeO (spec_IsCase.f k l0 l1 l2 l3 l4 a5 a6) (spec_IsCase.f (k + 1) l0 l1 l2 l3 l4 a5 a6) := by
 intro l0 l1 l2 l3 l4 a5 a6 k
 unfold spec_IsCase.f
 repeat' first
  | (with_reducible exact spec_IsManifest.mono _ _)
  | (with_reducible exact spec_IsLog.mono _ _)
  | (with_reducible exact spec_IsRulebook.mono _ _)
  | (with_reducible exact spec_IsScale.mono _ _)
  | (with_reducible exact spec_IsSchedule.mono _ _)
  | (with_reducible exact spec_l08Fits.mono _ _ _)
  | (with_reducible exact LeO.refl _)
  | (with_reducible refine LeO.ite ?_ ?_)
  | (with_reducible refine LeO.bind ?_ fun _ => ?_)
set_option maxHeartbeats 8000000 in
set_option maxRecDepth 100000 in
theorem spec_IsCase.calls (k : Nat) (A0_0 : Option Addr) (c0_0 : Nat) (l0_0 : List S103) (A0_1 : Option Addr) (c0_1 : Nat) (l0_1 : List S65) (A0_2 : Option Addr) (c0_2 : Nat) (l0_2 : List S105) (A0_3 : Option Addr) (c0_3 : Nat) (l0_3 : List S109) (A0_4 : Option Addr) (c0_4 : Nat) (l0_4 : List S111) (a0_5 : Int) (a0_6 : Int) (r : Bool) (w : World) (hr0_0 : Kd.C k103 w A0_0 l0_0.length l0_0) (hc0_0 : l0_0.length ≤ c0_0) (hr0_1 : Kd.C k65 w A0_1 l0_1.length l0_1) (hc0_1 : l0_1.length ≤ c0_1) (hr0_2 : Kd.C k105 w A0_2 l0_2.length l0_2) (hc0_2 : l0_2.length ≤ c0_2) (hr0_3 : Kd.C k109 w A0_3 l0_3.length l0_3) (hc0_3 : l0_3.length ≤ c0_3) (hr0_4 : Kd.C k111 w A0_4 l0_4.length l0_4) (hc0_4 : l0_4.length ≤ c0_4) (h : spec_IsCase.f k l0_0 l0_1 l0_2 l0_3 l0_4 a0_5 a0_6 = some r) :
 Calls Tryz.prog 10 #[.agg #[.slice A0_0 l0_0.length c0_0, .slice A0_1 l0_1.length c0_1, .slice A0_2 l0_2.length c0_2, .slice A0_3 l0_3.length c0_3, .slice A0_4 l0_4.length c0_4, .int .i64 a0_5, .int .i64 a0_6]] w fun e w' => e = .returned (.bool r) ∧ Below w.heap.size w w' := by
 have hu := Tryz.underlying37
 have HB0 := Aside0.mk (below_alloc (Below.refl w.heap.size w) (.cells #[.slice A0_0 l0_0.length c0_0, .slice A0_1 l0_1.length c0_1, .slice A0_2 l0_2.length c0_2, .slice A0_3 l0_3.length c0_3, .slice A0_4 l0_4.length c0_4, .int .i64 a0_5, .int .i64 a0_6] 37))
 have BK0 := Aside0.mk (blk_new w (.cells #[.slice A0_0 l0_0.length c0_0, .slice A0_1 l0_1.length c0_1, .slice A0_2 l0_2.length c0_2, .slice A0_3 l0_3.length c0_3, .slice A0_4 l0_4.length c0_4, .int .i64 a0_5, .int .i64 a0_6] 37))
 have hbig0 : l0_0.length ≤ 9223372036854775807 := hr0_0.2.1
 have hbig1 : l0_1.length ≤ 9223372036854775807 := hr0_1.2.1
 have hbig2 : l0_2.length ≤ 9223372036854775807 := hr0_2.2.1
 have hbig3 : l0_3.length ≤ 9223372036854775807 := hr0_3.2.1
 have hbig4 : l0_4.length ≤ 9223372036854775807 := hr0_4.2.1
 unfold spec_IsCase.f at h
 rcases e0 : spec_IsManifest.f k l0_0 with _ | t0
 · rw [e0] at h; cases h
 rw [e0, Option.bind_some] at h
 have H0 := Aside0.mk (fun (W : World) (hW : Below w.heap.size w W) => spec_IsManifest.calls k A0_0 c0_0 l0_0 t0 W (Kd.C_below hr0_0 hW) hc0_0 e0)
 clear e0
 cases t0 with
 | false =>
  rw [if_neg (by simp)] at h
  obtain rfl := Option.some.inj h
  clear h hr0_0 hc0_0 hr0_1 hc0_1 hr0_2 hc0_2 hr0_3 hc0_3 hr0_4 hc0_4
  go_enter Tryz.func10, Tryz.ntmps10
  go_wp2_with (first | (go_at_call 34; refine (H0.out _ (by first | exact HB0.out | exact below_drew HB0.out)).mono ?_; rintro e w1 ⟨rfl, hb⟩; have BK1 := Aside0.mk (blk_below (by first | exact BK0.out | exact blk_drew BK0.out) (by first | exact hb | exact hb.below)); have HB1 := Aside0.mk (below_then (show Below w.heap.size w _ by first | exact HB0.out | exact below_drew HB0.out) (by first | exact HB0.out.size | exact (below_drew HB0.out).size) (by first | exact hb | exact hb.below)); clear hb))
  go_ret
  exact ⟨by first | rfl | simp, HB1.out⟩
 | true =>
 rw [if_pos rfl] at h
 rcases e1 : spec_IsLog.f k l0_1 with _ | t1
 · rw [e1] at h; cases h
 rw [e1, Option.bind_some] at h
 have H1 := Aside0.mk (fun (W : World) (hW : Below w.heap.size w W) => spec_IsLog.calls k A0_1 c0_1 l0_1 t1 W (Kd.C_below hr0_1 hW) hc0_1 e1)
 clear e1
 cases t1 with
 | false =>
  rw [if_neg (by simp)] at h
  obtain rfl := Option.some.inj h
  clear h hr0_0 hc0_0 hr0_1 hc0_1 hr0_2 hc0_2 hr0_3 hc0_3 hr0_4 hc0_4
  go_enter Tryz.func10, Tryz.ntmps10
  go_wp2_with (first | (go_at_call 34; refine (H0.out _ (by first | exact HB0.out | exact below_drew HB0.out)).mono ?_; rintro e w1 ⟨rfl, hb⟩; have BK1 := Aside0.mk (blk_below (by first | exact BK0.out | exact blk_drew BK0.out) (by first | exact hb | exact hb.below)); have HB1 := Aside0.mk (below_then (show Below w.heap.size w _ by first | exact HB0.out | exact below_drew HB0.out) (by first | exact HB0.out.size | exact (below_drew HB0.out).size) (by first | exact hb | exact hb.below)); clear hb; have g1_1 := (blk_cell BK1.out 1).trans rfl) | (go_at_call 35; refine (H1.out _ (by first | exact HB1.out | exact below_drew HB1.out)).mono ?_; rintro e w2 ⟨rfl, hb⟩; have BK2 := Aside0.mk (blk_below (by first | exact BK1.out | exact blk_drew BK1.out) (by first | exact hb | exact hb.below)); have HB2 := Aside0.mk (below_then (show Below w.heap.size w _ by first | exact HB1.out | exact below_drew HB1.out) (by first | exact HB1.out.size | exact (below_drew HB1.out).size) (by first | exact hb | exact hb.below)); clear hb))
  go_ret
  exact ⟨by first | rfl | simp, HB2.out⟩
 | true =>
 rw [if_pos rfl] at h
 rcases e2 : spec_IsRulebook.f k l0_2 with _ | t2
 · rw [e2] at h; cases h
 rw [e2, Option.bind_some] at h
 have H2 := Aside0.mk (fun (W : World) (hW : Below w.heap.size w W) => spec_IsRulebook.calls k A0_2 c0_2 l0_2 t2 W (Kd.C_below hr0_2 hW) hc0_2 e2)
 clear e2
 cases t2 with
 | false =>
  rw [if_neg (by simp)] at h
  obtain rfl := Option.some.inj h
  clear h hr0_0 hc0_0 hr0_1 hc0_1 hr0_2 hc0_2 hr0_3 hc0_3 hr0_4 hc0_4
  go_enter Tryz.func10, Tryz.ntmps10
  go_wp2_with (first | (go_at_call 34; refine (H0.out _ (by first | exact HB0.out | exact below_drew HB0.out)).mono ?_; rintro e w1 ⟨rfl, hb⟩; have BK1 := Aside0.mk (blk_below (by first | exact BK0.out | exact blk_drew BK0.out) (by first | exact hb | exact hb.below)); have HB1 := Aside0.mk (below_then (show Below w.heap.size w _ by first | exact HB0.out | exact below_drew HB0.out) (by first | exact HB0.out.size | exact (below_drew HB0.out).size) (by first | exact hb | exact hb.below)); clear hb; have g1_1 := (blk_cell BK1.out 1).trans rfl) | (go_at_call 35; refine (H1.out _ (by first | exact HB1.out | exact below_drew HB1.out)).mono ?_; rintro e w2 ⟨rfl, hb⟩; have BK2 := Aside0.mk (blk_below (by first | exact BK1.out | exact blk_drew BK1.out) (by first | exact hb | exact hb.below)); have HB2 := Aside0.mk (below_then (show Below w.heap.size w _ by first | exact HB1.out | exact below_drew HB1.out) (by first | exact HB1.out.size | exact (below_drew HB1.out).size) (by first | exact hb | exact hb.below)); clear hb; have g2_2 := (blk_cell BK2.out 2).trans rfl) | (go_at_call 36; refine (H2.out _ (by first | exact HB2.out | exact below_drew HB2.out)).mono ?_; rintro e w3 ⟨rfl, hb⟩; have BK3 := Aside0.mk (blk_below (by first | exact BK2.out | exact blk_drew BK2.out) (by first | exact hb | exact hb.below)); have HB3 := Aside0.mk (below_then (show Below w.heap.size w _ by first | exact HB2.out | exact below_drew HB2.out) (by first | exact HB2.out.size | exact (below_drew HB2.out).size) (by first | exact hb | exact hb.below)); clear hb))
  go_ret
  exact ⟨by first | rfl | simp, HB3.out⟩
 | true =>
 rw [if_pos rfl] at h
 rcases e3 : spec_IsScale.f k l0_3 with _ | t3
 · rw [e3] at h; cases h
 rw [e3, Option.bind_some] at h
 have H3 := Aside0.mk (fun (W : World) (hW : Below w.heap.size w W) => spec_IsScale.calls k A0_3 c0_3 l0_3 t3 W (Kd.C_below hr0_3 hW) hc0_3 e3)
 clear e3
 cases t3 with
 | false =>
  rw [if_neg (by simp)] at h
  obtain rfl := Option.some.inj h
  clear h hr0_0 hc0_0 hr0_1 hc0_1 hr0_2 hc0_2 hr0_3 hc0_3 hr0_4 hc0_4
  go_enter Tryz.func10, Tryz.ntmps10
  go_wp2_with (first | (go_at_call 34; refine (H0.out _ (by first | exact HB0.out | exact below_drew HB0.out)).mono ?_; rintro e w1 ⟨rfl, hb⟩; have BK1 := Aside0.mk (blk_below (by first | exact BK0.out | exact blk_drew BK0.out) (by first | exact hb | exact hb.below)); have HB1 := Aside0.mk (below_then (show Below w.heap.size w _ by first | exact HB0.out | exact below_drew HB0.out) (by first | exact HB0.out.size | exact (below_drew HB0.out).size) (by first | exact hb | exact hb.below)); clear hb; have g1_1 := (blk_cell BK1.out 1).trans rfl) | (go_at_call 35; refine (H1.out _ (by first | exact HB1.out | exact below_drew HB1.out)).mono ?_; rintro e w2 ⟨rfl, hb⟩; have BK2 := Aside0.mk (blk_below (by first | exact BK1.out | exact blk_drew BK1.out) (by first | exact hb | exact hb.below)); have HB2 := Aside0.mk (below_then (show Below w.heap.size w _ by first | exact HB1.out | exact below_drew HB1.out) (by first | exact HB1.out.size | exact (below_drew HB1.out).size) (by first | exact hb | exact hb.below)); clear hb; have g2_2 := (blk_cell BK2.out 2).trans rfl) | (go_at_call 36; refine (H2.out _ (by first | exact HB2.out | exact below_drew HB2.out)).mono ?_; rintro e w3 ⟨rfl, hb⟩; have BK3 := Aside0.mk (blk_below (by first | exact BK2.out | exact blk_drew BK2.out) (by first | exact hb | exact hb.below)); have HB3 := Aside0.mk (below_then (show Below w.heap.size w _ by first | exact HB2.out | exact below_drew HB2.out) (by first | exact HB2.out.size | exact (below_drew HB2.out).size) (by first | exact hb | exact hb.below)); clear hb; have g3_3 := (blk_cell BK3.out 3).trans rfl) | (go_at_call 37; refine (H3.out _ (by first | exact HB3.out | exact below_drew HB3.out)).mono ?_; rintro e w4 ⟨rfl, hb⟩; have BK4 := Aside0.mk (blk_below (by first | exact BK3.out | exact blk_drew BK3.out) (by first | exact hb | exact hb.below)); have HB4 := Aside0.mk (below_then (show Below w.heap.size w _ by first | exact HB3.out | exact below_drew HB3.out) (by first | exact HB3.out.size | exact (below_drew HB3.out).size) (by first | exact hb | exact hb.below)); clear hb))
  go_ret
  exact ⟨by first | rfl | simp, HB4.out⟩
 | true =>
 rw [if_pos rfl] at h
 rcases e4 : spec_IsSchedule.f k l0_4 with _ | t4
 · rw [e4] at h; cases h
 rw [e4, Option.bind_some] at h
 have H4 := Aside0.mk (fun (W : World) (hW : Below w.heap.size w W) => spec_IsSchedule.calls k A0_4 c0_4 l0_4 t4 W (Kd.C_below hr0_4 hW) hc0_4 e4)
 clear e4
 cases t4 with
 | false =>
  rw [if_neg (by simp)] at h
  obtain rfl := Option.some.inj h
  clear h hr0_0 hc0_0 hr0_1 hc0_1 hr0_2 hc0_2 hr0_3 hc0_3 hr0_4 hc0_4
  go_enter Tryz.func10, Tryz.ntmps10
  go_wp2_with (first | (go_at_call 34; refine (H0.out _ (by first | exact HB0.out | exact below_drew HB0.out)).mono ?_; rintro e w1 ⟨rfl, hb⟩; have BK1 := Aside0.mk (blk_below (by first | exact BK0.out | exact blk_drew BK0.out) (by first | exact hb | exact hb.below)); have HB1 := Aside0.mk (below_then (show Below w.heap.size w _ by first | exact HB0.out | exact below_drew HB0.out) (by first | exact HB0.out.size | exact (below_drew HB0.out).size) (by first | exact hb | exact hb.below)); clear hb; have g1_1 := (blk_cell BK1.out 1).trans rfl) | (go_at_call 35; refine (H1.out _ (by first | exact HB1.out | exact below_drew HB1.out)).mono ?_; rintro e w2 ⟨rfl, hb⟩; have BK2 := Aside0.mk (blk_below (by first | exact BK1.out | exact blk_drew BK1.out) (by first | exact hb | exact hb.below)); have HB2 := Aside0.mk (below_then (show Below w.heap.size w _ by first | exact HB1.out | exact below_drew HB1.out) (by first | exact HB1.out.size | exact (below_drew HB1.out).size) (by first | exact hb | exact hb.below)); clear hb; have g2_2 := (blk_cell BK2.out 2).trans rfl) | (go_at_call 36; refine (H2.out _ (by first | exact HB2.out | exact below_drew HB2.out)).mono ?_; rintro e w3 ⟨rfl, hb⟩; have BK3 := Aside0.mk (blk_below (by first | exact BK2.out | exact blk_drew BK2.out) (by first | exact hb | exact hb.below)); have HB3 := Aside0.mk (below_then (show Below w.heap.size w _ by first | exact HB2.out | exact below_drew HB2.out) (by first | exact HB2.out.size | exact (below_drew HB2.out).size) (by first | exact hb | exact hb.below)); clear hb; have g3_3 := (blk_cell BK3.out 3).trans rfl) | (go_at_call 37; refine (H3.out _ (by first | exact HB3.out | exact below_drew HB3.out)).mono ?_; rintro e w4 ⟨rfl, hb⟩; have BK4 := Aside0.mk (blk_below (by first | exact BK3.out | exact blk_drew BK3.out) (by first | exact hb | exact hb.below)); have HB4 := Aside0.mk (below_then (show Below w.heap.size w _ by first | exact HB3.out | exact below_drew HB3.out) (by first | exact HB3.out.size | exact (below_drew HB3.out).size) (by first | exact hb | exact hb.below)); clear hb; have g4_4 := (blk_cell BK4.out 4).trans rfl) | (go_at_call 38; refine (H4.out _ (by first | exact HB4.out | exact below_drew HB4.out)).mono ?_; rintro e w5 ⟨rfl, hb⟩; have BK5 := Aside0.mk (blk_below (by first | exact BK4.out | exact blk_drew BK4.out) (by first | exact hb | exact hb.below)); have HB5 := Aside0.mk (below_then (show Below w.heap.size w _ by first | exact HB4.out | exact below_drew HB4.out) (by first | exact HB4.out.size | exact (below_drew HB4.out).size) (by first | exact hb | exact hb.below)); clear hb))
  go_ret
  exact ⟨by first | rfl | simp, HB5.out⟩
 | true =>
 rw [if_pos rfl] at h
 rcases e5 : spec_l08Fits.f k l0_1 l0_0 with _ | t5
 · rw [e5] at h; cases h
 rw [e5, Option.bind_some] at h
 have H5 := Aside0.mk (fun (W : World) (hW : Below w.heap.size w W) => spec_l08Fits.calls k A0_1 c0_1 l0_1 A0_0 c0_0 l0_0 t5 W (Kd.C_below hr0_1 hW) hc0_1 (Kd.C_below hr0_0 hW) hc0_0 e5)
 clear e5
 cases t5 with
 | false =>
  rw [if_neg (by simp)] at h
  obtain rfl := Option.some.inj h
  clear h hr0_0 hc0_0 hr0_1 hc0_1 hr0_2 hc0_2 hr0_3 hc0_3 hr0_4 hc0_4
  go_enter Tryz.func10, Tryz.ntmps10
  go_wp2_with (first | (go_at_call 34; refine (H0.out _ (by first | exact HB0.out | exact below_drew HB0.out)).mono ?_; rintro e w1 ⟨rfl, hb⟩; have BK1 := Aside0.mk (blk_below (by first | exact BK0.out | exact blk_drew BK0.out) (by first | exact hb | exact hb.below)); have HB1 := Aside0.mk (below_then (show Below w.heap.size w _ by first | exact HB0.out | exact below_drew HB0.out) (by first | exact HB0.out.size | exact (below_drew HB0.out).size) (by first | exact hb | exact hb.below)); clear hb; have g1_1 := (blk_cell BK1.out 1).trans rfl) | (go_at_call 35; refine (H1.out _ (by first | exact HB1.out | exact below_drew HB1.out)).mono ?_; rintro e w2 ⟨rfl, hb⟩; have BK2 := Aside0.mk (blk_below (by first | exact BK1.out | exact blk_drew BK1.out) (by first | exact hb | exact hb.below)); have HB2 := Aside0.mk (below_then (show Below w.heap.size w _ by first | exact HB1.out | exact below_drew HB1.out) (by first | exact HB1.out.size | exact (below_drew HB1.out).size) (by first | exact hb | exact hb.below)); clear hb; have g2_2 := (blk_cell BK2.out 2).trans rfl) | (go_at_call 36; refine (H2.out _ (by first | exact HB2.out | exact below_drew HB2.out)).mono ?_; rintro e w3 ⟨rfl, hb⟩; have BK3 := Aside0.mk (blk_below (by first | exact BK2.out | exact blk_drew BK2.out) (by first | exact hb | exact hb.below)); have HB3 := Aside0.mk (below_then (show Below w.heap.size w _ by first | exact HB2.out | exact below_drew HB2.out) (by first | exact HB2.out.size | exact (below_drew HB2.out).size) (by first | exact hb | exact hb.below)); clear hb; have g3_3 := (blk_cell BK3.out 3).trans rfl) | (go_at_call 37; refine (H3.out _ (by first | exact HB3.out | exact below_drew HB3.out)).mono ?_; rintro e w4 ⟨rfl, hb⟩; have BK4 := Aside0.mk (blk_below (by first | exact BK3.out | exact blk_drew BK3.out) (by first | exact hb | exact hb.below)); have HB4 := Aside0.mk (below_then (show Below w.heap.size w _ by first | exact HB3.out | exact below_drew HB3.out) (by first | exact HB3.out.size | exact (below_drew HB3.out).size) (by first | exact hb | exact hb.below)); clear hb; have g4_4 := (blk_cell BK4.out 4).trans rfl) | (go_at_call 38; refine (H4.out _ (by first | exact HB4.out | exact below_drew HB4.out)).mono ?_; rintro e w5 ⟨rfl, hb⟩; have BK5 := Aside0.mk (blk_below (by first | exact BK4.out | exact blk_drew BK4.out) (by first | exact hb | exact hb.below)); have HB5 := Aside0.mk (below_then (show Below w.heap.size w _ by first | exact HB4.out | exact below_drew HB4.out) (by first | exact HB4.out.size | exact (below_drew HB4.out).size) (by first | exact hb | exact hb.below)); clear hb; have g5_1 := (blk_cell BK5.out 1).trans rfl; have g5_0 := (blk_cell BK5.out 0).trans rfl) | (go_at_call 39; refine (H5.out _ (by first | exact HB5.out | exact below_drew HB5.out)).mono ?_; rintro e w6 ⟨rfl, hb⟩; have BK6 := Aside0.mk (blk_below (by first | exact BK5.out | exact blk_drew BK5.out) (by first | exact hb | exact hb.below)); have HB6 := Aside0.mk (below_then (show Below w.heap.size w _ by first | exact HB5.out | exact below_drew HB5.out) (by first | exact HB5.out.size | exact (below_drew HB5.out).size) (by first | exact hb | exact hb.below)); clear hb))
  go_ret
  exact ⟨by first | rfl | simp, HB6.out⟩
 | true =>
 rw [if_pos rfl] at h
 rcases e6 : spec_l04Points.f a0_5 with _ | t6
 · rw [e6] at h; cases h
 rw [e6, Option.bind_some] at h
 have H6 := Aside0.mk (fun (W : World) (hW : Below w.heap.size w W) => spec_l04Points.calls a0_5 t6 W  e6)
 clear e6
 cases t6 with
 | false =>
  rw [if_neg (by simp)] at h
  obtain rfl := Option.some.inj h
  clear h hr0_0 hc0_0 hr0_1 hc0_1 hr0_2 hc0_2 hr0_3 hc0_3 hr0_4 hc0_4
  go_enter Tryz.func10, Tryz.ntmps10
  go_wp2_with (first | (go_at_call 34; refine (H0.out _ (by first | exact HB0.out | exact below_drew HB0.out)).mono ?_; rintro e w1 ⟨rfl, hb⟩; have BK1 := Aside0.mk (blk_below (by first | exact BK0.out | exact blk_drew BK0.out) (by first | exact hb | exact hb.below)); have HB1 := Aside0.mk (below_then (show Below w.heap.size w _ by first | exact HB0.out | exact below_drew HB0.out) (by first | exact HB0.out.size | exact (below_drew HB0.out).size) (by first | exact hb | exact hb.below)); clear hb; have g1_1 := (blk_cell BK1.out 1).trans rfl) | (go_at_call 35; refine (H1.out _ (by first | exact HB1.out | exact below_drew HB1.out)).mono ?_; rintro e w2 ⟨rfl, hb⟩; have BK2 := Aside0.mk (blk_below (by first | exact BK1.out | exact blk_drew BK1.out) (by first | exact hb | exact hb.below)); have HB2 := Aside0.mk (below_then (show Below w.heap.size w _ by first | exact HB1.out | exact below_drew HB1.out) (by first | exact HB1.out.size | exact (below_drew HB1.out).size) (by first | exact hb | exact hb.below)); clear hb; have g2_2 := (blk_cell BK2.out 2).trans rfl) | (go_at_call 36; refine (H2.out _ (by first | exact HB2.out | exact below_drew HB2.out)).mono ?_; rintro e w3 ⟨rfl, hb⟩; have BK3 := Aside0.mk (blk_below (by first | exact BK2.out | exact blk_drew BK2.out) (by first | exact hb | exact hb.below)); have HB3 := Aside0.mk (below_then (show Below w.heap.size w _ by first | exact HB2.out | exact below_drew HB2.out) (by first | exact HB2.out.size | exact (below_drew HB2.out).size) (by first | exact hb | exact hb.below)); clear hb; have g3_3 := (blk_cell BK3.out 3).trans rfl) | (go_at_call 37; refine (H3.out _ (by first | exact HB3.out | exact below_drew HB3.out)).mono ?_; rintro e w4 ⟨rfl, hb⟩; have BK4 := Aside0.mk (blk_below (by first | exact BK3.out | exact blk_drew BK3.out) (by first | exact hb | exact hb.below)); have HB4 := Aside0.mk (below_then (show Below w.heap.size w _ by first | exact HB3.out | exact below_drew HB3.out) (by first | exact HB3.out.size | exact (below_drew HB3.out).size) (by first | exact hb | exact hb.below)); clear hb; have g4_4 := (blk_cell BK4.out 4).trans rfl) | (go_at_call 38; refine (H4.out _ (by first | exact HB4.out | exact below_drew HB4.out)).mono ?_; rintro e w5 ⟨rfl, hb⟩; have BK5 := Aside0.mk (blk_below (by first | exact BK4.out | exact blk_drew BK4.out) (by first | exact hb | exact hb.below)); have HB5 := Aside0.mk (below_then (show Below w.heap.size w _ by first | exact HB4.out | exact below_drew HB4.out) (by first | exact HB4.out.size | exact (below_drew HB4.out).size) (by first | exact hb | exact hb.below)); clear hb; have g5_1 := (blk_cell BK5.out 1).trans rfl; have g5_0 := (blk_cell BK5.out 0).trans rfl) | (go_at_call 39; refine (H5.out _ (by first | exact HB5.out | exact below_drew HB5.out)).mono ?_; rintro e w6 ⟨rfl, hb⟩; have BK6 := Aside0.mk (blk_below (by first | exact BK5.out | exact blk_drew BK5.out) (by first | exact hb | exact hb.below)); have HB6 := Aside0.mk (below_then (show Below w.heap.size w _ by first | exact HB5.out | exact below_drew HB5.out) (by first | exact HB5.out.size | exact (below_drew HB5.out).size) (by first | exact hb | exact hb.below)); clear hb; have g6_5 := (blk_cell BK6.out 5).trans rfl) | (go_at_call 40; refine (H6.out _ (by first | exact HB6.out | exact below_drew HB6.out)).mono ?_; rintro e w7 ⟨rfl, hb⟩; have BK7 := Aside0.mk (blk_below (by first | exact BK6.out | exact blk_drew BK6.out) (by first | exact hb | exact hb.below)); have HB7 := Aside0.mk (below_then (show Below w.heap.size w _ by first | exact HB6.out | exact below_drew HB6.out) (by first | exact HB6.out.size | exact (below_drew HB6.out).size) (by first | exact hb | exact hb.below)); clear hb))
  go_ret
  exact ⟨by first | rfl | simp, HB7.out⟩
 | true =>
 rw [if_pos rfl] at h
 rcases e7 : spec_l02Is.f a0_6 with _ | t7
 · rw [e7] at h; cases h
 rw [e7, Option.bind_some] at h
 have H7 := Aside0.mk (fun (W : World) (hW : Below w.heap.size w W) => spec_l02Is.calls a0_6 t7 W  e7)
 clear e7
 cases t7 with
 | false =>
  rw [if_neg (by simp)] at h
  obtain rfl := Option.some.inj h
  clear h hr0_0 hc0_0 hr0_1 hc0_1 hr0_2 hc0_2 hr0_3 hc0_3 hr0_4 hc0_4
  go_enter Tryz.func10, Tryz.ntmps10
  go_wp2_with (first | (go_at_call 34; refine (H0.out _ (by first | exact HB0.out | exact below_drew HB0.out)).mono ?_; rintro e w1 ⟨rfl, hb⟩; have BK1 := Aside0.mk (blk_below (by first | exact BK0.out | exact blk_drew BK0.out) (by first | exact hb | exact hb.below)); have HB1 := Aside0.mk (below_then (show Below w.heap.size w _ by first | exact HB0.out | exact below_drew HB0.out) (by first | exact HB0.out.size | exact (below_drew HB0.out).size) (by first | exact hb | exact hb.below)); clear hb; have g1_1 := (blk_cell BK1.out 1).trans rfl) | (go_at_call 35; refine (H1.out _ (by first | exact HB1.out | exact below_drew HB1.out)).mono ?_; rintro e w2 ⟨rfl, hb⟩; have BK2 := Aside0.mk (blk_below (by first | exact BK1.out | exact blk_drew BK1.out) (by first | exact hb | exact hb.below)); have HB2 := Aside0.mk (below_then (show Below w.heap.size w _ by first | exact HB1.out | exact below_drew HB1.out) (by first | exact HB1.out.size | exact (below_drew HB1.out).size) (by first | exact hb | exact hb.below)); clear hb; have g2_2 := (blk_cell BK2.out 2).trans rfl) | (go_at_call 36; refine (H2.out _ (by first | exact HB2.out | exact below_drew HB2.out)).mono ?_; rintro e w3 ⟨rfl, hb⟩; have BK3 := Aside0.mk (blk_below (by first | exact BK2.out | exact blk_drew BK2.out) (by first | exact hb | exact hb.below)); have HB3 := Aside0.mk (below_then (show Below w.heap.size w _ by first | exact HB2.out | exact below_drew HB2.out) (by first | exact HB2.out.size | exact (below_drew HB2.out).size) (by first | exact hb | exact hb.below)); clear hb; have g3_3 := (blk_cell BK3.out 3).trans rfl) | (go_at_call 37; refine (H3.out _ (by first | exact HB3.out | exact below_drew HB3.out)).mono ?_; rintro e w4 ⟨rfl, hb⟩; have BK4 := Aside0.mk (blk_below (by first | exact BK3.out | exact blk_drew BK3.out) (by first | exact hb | exact hb.below)); have HB4 := Aside0.mk (below_then (show Below w.heap.size w _ by first | exact HB3.out | exact below_drew HB3.out) (by first | exact HB3.out.size | exact (below_drew HB3.out).size) (by first | exact hb | exact hb.below)); clear hb; have g4_4 := (blk_cell BK4.out 4).trans rfl) | (go_at_call 38; refine (H4.out _ (by first | exact HB4.out | exact below_drew HB4.out)).mono ?_; rintro e w5 ⟨rfl, hb⟩; have BK5 := Aside0.mk (blk_below (by first | exact BK4.out | exact blk_drew BK4.out) (by first | exact hb | exact hb.below)); have HB5 := Aside0.mk (below_then (show Below w.heap.size w _ by first | exact HB4.out | exact below_drew HB4.out) (by first | exact HB4.out.size | exact (below_drew HB4.out).size) (by first | exact hb | exact hb.below)); clear hb; have g5_1 := (blk_cell BK5.out 1).trans rfl; have g5_0 := (blk_cell BK5.out 0).trans rfl) | (go_at_call 39; refine (H5.out _ (by first | exact HB5.out | exact below_drew HB5.out)).mono ?_; rintro e w6 ⟨rfl, hb⟩; have BK6 := Aside0.mk (blk_below (by first | exact BK5.out | exact blk_drew BK5.out) (by first | exact hb | exact hb.below)); have HB6 := Aside0.mk (below_then (show Below w.heap.size w _ by first | exact HB5.out | exact below_drew HB5.out) (by first | exact HB5.out.size | exact (below_drew HB5.out).size) (by first | exact hb | exact hb.below)); clear hb; have g6_5 := (blk_cell BK6.out 5).trans rfl) | (go_at_call 40; refine (H6.out _ (by first | exact HB6.out | exact below_drew HB6.out)).mono ?_; rintro e w7 ⟨rfl, hb⟩; have BK7 := Aside0.mk (blk_below (by first | exact BK6.out | exact blk_drew BK6.out) (by first | exact hb | exact hb.below)); have HB7 := Aside0.mk (below_then (show Below w.heap.size w _ by first | exact HB6.out | exact below_drew HB6.out) (by first | exact HB6.out.size | exact (below_drew HB6.out).size) (by first | exact hb | exact hb.below)); clear hb; have g7_6 := (blk_cell BK7.out 6).trans rfl) | (go_at_call 41; refine (H7.out _ (by first | exact HB7.out | exact below_drew HB7.out)).mono ?_; rintro e w8 ⟨rfl, hb⟩; have BK8 := Aside0.mk (blk_below (by first | exact BK7.out | exact blk_drew BK7.out) (by first | exact hb | exact hb.below)); have HB8 := Aside0.mk (below_then (show Below w.heap.size w _ by first | exact HB7.out | exact below_drew HB7.out) (by first | exact HB7.out.size | exact (below_drew HB7.out).size) (by first | exact hb | exact hb.below)); clear hb))
  go_ret
  exact ⟨by first | rfl | simp, HB8.out⟩
 | true =>
 rw [if_pos rfl] at h
 have HR := Aside0.mk hr0_1
 clear hr0_0 hc0_0 hr0_1 hc0_1 hr0_2 hc0_2 hr0_3 hc0_3 hr0_4 hc0_4
 by_cases hn : l0_1.length = 0
 · rw [if_pos hn] at h
   obtain rfl := Option.some.inj h
   clear h
   have hz : decide ((l0_1.length : Int) = 0) = true := by simp [hn]
   have hz3 : ((l0_1.length : Int) == 0) = true := by simp [hn]
   clear hn hz
   go_enter Tryz.func10, Tryz.ntmps10
   go_wp2_with (first | (go_at_call 34; refine (H0.out _ (by first | exact HB0.out | exact below_drew HB0.out)).mono ?_; rintro e w1 ⟨rfl, hb⟩; have BK1 := Aside0.mk (blk_below (by first | exact BK0.out | exact blk_drew BK0.out) (by first | exact hb | exact hb.below)); have HB1 := Aside0.mk (below_then (show Below w.heap.size w _ by first | exact HB0.out | exact below_drew HB0.out) (by first | exact HB0.out.size | exact (below_drew HB0.out).size) (by first | exact hb | exact hb.below)); clear hb; have g1_1 := (blk_cell BK1.out 1).trans rfl) | (go_at_call 35; refine (H1.out _ (by first | exact HB1.out | exact below_drew HB1.out)).mono ?_; rintro e w2 ⟨rfl, hb⟩; have BK2 := Aside0.mk (blk_below (by first | exact BK1.out | exact blk_drew BK1.out) (by first | exact hb | exact hb.below)); have HB2 := Aside0.mk (below_then (show Below w.heap.size w _ by first | exact HB1.out | exact below_drew HB1.out) (by first | exact HB1.out.size | exact (below_drew HB1.out).size) (by first | exact hb | exact hb.below)); clear hb; have g2_2 := (blk_cell BK2.out 2).trans rfl) | (go_at_call 36; refine (H2.out _ (by first | exact HB2.out | exact below_drew HB2.out)).mono ?_; rintro e w3 ⟨rfl, hb⟩; have BK3 := Aside0.mk (blk_below (by first | exact BK2.out | exact blk_drew BK2.out) (by first | exact hb | exact hb.below)); have HB3 := Aside0.mk (below_then (show Below w.heap.size w _ by first | exact HB2.out | exact below_drew HB2.out) (by first | exact HB2.out.size | exact (below_drew HB2.out).size) (by first | exact hb | exact hb.below)); clear hb; have g3_3 := (blk_cell BK3.out 3).trans rfl) | (go_at_call 37; refine (H3.out _ (by first | exact HB3.out | exact below_drew HB3.out)).mono ?_; rintro e w4 ⟨rfl, hb⟩; have BK4 := Aside0.mk (blk_below (by first | exact BK3.out | exact blk_drew BK3.out) (by first | exact hb | exact hb.below)); have HB4 := Aside0.mk (below_then (show Below w.heap.size w _ by first | exact HB3.out | exact below_drew HB3.out) (by first | exact HB3.out.size | exact (below_drew HB3.out).size) (by first | exact hb | exact hb.below)); clear hb; have g4_4 := (blk_cell BK4.out 4).trans rfl) | (go_at_call 38; refine (H4.out _ (by first | exact HB4.out | exact below_drew HB4.out)).mono ?_; rintro e w5 ⟨rfl, hb⟩; have BK5 := Aside0.mk (blk_below (by first | exact BK4.out | exact blk_drew BK4.out) (by first | exact hb | exact hb.below)); have HB5 := Aside0.mk (below_then (show Below w.heap.size w _ by first | exact HB4.out | exact below_drew HB4.out) (by first | exact HB4.out.size | exact (below_drew HB4.out).size) (by first | exact hb | exact hb.below)); clear hb; have g5_1 := (blk_cell BK5.out 1).trans rfl; have g5_0 := (blk_cell BK5.out 0).trans rfl) | (go_at_call 39; refine (H5.out _ (by first | exact HB5.out | exact below_drew HB5.out)).mono ?_; rintro e w6 ⟨rfl, hb⟩; have BK6 := Aside0.mk (blk_below (by first | exact BK5.out | exact blk_drew BK5.out) (by first | exact hb | exact hb.below)); have HB6 := Aside0.mk (below_then (show Below w.heap.size w _ by first | exact HB5.out | exact below_drew HB5.out) (by first | exact HB5.out.size | exact (below_drew HB5.out).size) (by first | exact hb | exact hb.below)); clear hb; have g6_5 := (blk_cell BK6.out 5).trans rfl) | (go_at_call 40; refine (H6.out _ (by first | exact HB6.out | exact below_drew HB6.out)).mono ?_; rintro e w7 ⟨rfl, hb⟩; have BK7 := Aside0.mk (blk_below (by first | exact BK6.out | exact blk_drew BK6.out) (by first | exact hb | exact hb.below)); have HB7 := Aside0.mk (below_then (show Below w.heap.size w _ by first | exact HB6.out | exact below_drew HB6.out) (by first | exact HB6.out.size | exact (below_drew HB6.out).size) (by first | exact hb | exact hb.below)); clear hb; have g7_6 := (blk_cell BK7.out 6).trans rfl) | (go_at_call 41; refine (H7.out _ (by first | exact HB7.out | exact below_drew HB7.out)).mono ?_; rintro e w8 ⟨rfl, hb⟩; have BK8 := Aside0.mk (blk_below (by first | exact BK7.out | exact blk_drew BK7.out) (by first | exact hb | exact hb.below)); have HB8 := Aside0.mk (below_then (show Below w.heap.size w _ by first | exact HB7.out | exact below_drew HB7.out) (by first | exact HB7.out.size | exact (below_drew HB7.out).size) (by first | exact hb | exact hb.below)); clear hb; have g8_1 := (blk_cell BK8.out 1).trans rfl; have g8_6 := (blk_cell BK8.out 6).trans rfl))
   refine start_ (n := 19) (S := fun w' => w'.cell? ⟨w.heap.size, 1, none⟩ = some (.slice A0_1 l0_1.length c0_1) ∧ w'.cell? ⟨w.heap.size, 6, none⟩ = some (.int .i64 a0_6)) (ds := []) (fb 19 0) (by kernel_rfl) rfl rfl ⟨(blk_cell (blk_drew BK8.out) 1).trans rfl, (blk_cell (blk_drew BK8.out) 6).trans rfl⟩ (fun hHeld => ?_)
   refine sqP_ 0 51 (fb 19 1) (by kernel_rfl) ?_
   refine sqT_ 1 52 (fb 19 3) (by kernel_rfl) hHeld ?_
   refine sqP_ 2 53 (fb 19 7) (by kernel_rfl) ?_
   refine sqP_ 3 54 (fb 19 15) (by kernel_rfl) ?_
   refine sqP_ 4 55 (fb 19 31) (by kernel_rfl) ?_
   refine sqO_ 5 56 (fb 19 63) (by kernel_rfl) ?_
   refine sqO_ 6 57 (fb 19 127) (by kernel_rfl) ?_
   refine sqO_ 7 58 (fb 19 255) (by kernel_rfl) ?_
   refine sqO_ 8 59 (fb 19 511) (by kernel_rfl) ?_
   refine sqO_ 9 60 (fb 19 1023) (by kernel_rfl) ?_
   refine sqO_ 10 61 (fb 19 2047) (by kernel_rfl) ?_
   refine sqO_ 11 62 (fb 19 4095) (by kernel_rfl) ?_
   refine sqO_ 12 63 (fb 19 8191) (by kernel_rfl) ?_
   refine sqO_ 13 64 (fb 19 16383) (by kernel_rfl) ?_
   refine sqO_ 14 65 (fb 19 32767) (by kernel_rfl) ?_
   refine sqO_ 15 66 (fb 19 65535) (by kernel_rfl) ?_
   refine sqO_ 16 67 (fb 19 131071) (by kernel_rfl) ?_
   refine sqP_ 17 68 (fb 19 262143) (by kernel_rfl) ?_
   refine sqP_ 18 2 (fb 19 524287) (by kernel_rfl) ?_
   refine done_ (by kernel_rfl) ?_
   go_wp2
   go_ret
   exact ⟨by first | rfl | simp, below_drew HB8.out⟩
 · rw [if_neg hn, show ((l0_1.length : Int) - 1) = ((l0_1.length - 1 : Nat) : Int) by omega] at h
   have o1 := at_T65 HR.out ((l0_1.length - 1 : Nat) : Int) (by omega) (by omega)
   generalize rd_T65 l0_1 ((l0_1.length - 1 : Nat) : Int) = x at o1 h
   rw [Int.toNat_natCast] at o1
   obtain ⟨f0, f1, f2, f3, f4, f5, f6⟩ := x
   simp only at o1 h
   obtain rfl := Option.some.inj h
   clear h
   obtain ⟨ad, e_ad, hx0, _, _, _, _, _, _⟩ := o1
   cases e_ad
   have HX := Aside0.mk hx0
   clear hx0
   have hz : decide ((l0_1.length : Int) = 0) = false := by simp [hn]
   have hz3 : ((l0_1.length : Int) == 0) = false := by simp [hn]
   have s1 : IntKind.i64.wrap ((l0_1.length : Int) - 1) = (l0_1.length : Int) - 1 := IntWalk.i64_in _ (by omega)
   have s2 : 0 ≤ (l0_1.length : Int) - 1 := by omega
   have s3 : ((l0_1.length : Int) - 1).toNat = l0_1.length - 1 := by omega
   have s4 : (l0_1.length : Int) - 1 < (l0_1.length : Int) := by omega
   have s6 : 1 ≤ (l0_1.length : Int) := by omega
   have s5 : wrap64 ((l0_1.length : Int) - 1) = (l0_1.length : Int) - 1 := by unfold wrap64; omega
   clear hn hz
   go_enter Tryz.func10, Tryz.ntmps10
   go_wp2_with (first | (go_at_call 34; refine (H0.out _ (by first | exact HB0.out | exact below_drew HB0.out)).mono ?_; rintro e w1 ⟨rfl, hb⟩; have BK1 := Aside0.mk (blk_below (by first | exact BK0.out | exact blk_drew BK0.out) (by first | exact hb | exact hb.below)); have HB1 := Aside0.mk (below_then (show Below w.heap.size w _ by first | exact HB0.out | exact below_drew HB0.out) (by first | exact HB0.out.size | exact (below_drew HB0.out).size) (by first | exact hb | exact hb.below)); clear hb; have g1_1 := (blk_cell BK1.out 1).trans rfl) | (go_at_call 35; refine (H1.out _ (by first | exact HB1.out | exact below_drew HB1.out)).mono ?_; rintro e w2 ⟨rfl, hb⟩; have BK2 := Aside0.mk (blk_below (by first | exact BK1.out | exact blk_drew BK1.out) (by first | exact hb | exact hb.below)); have HB2 := Aside0.mk (below_then (show Below w.heap.size w _ by first | exact HB1.out | exact below_drew HB1.out) (by first | exact HB1.out.size | exact (below_drew HB1.out).size) (by first | exact hb | exact hb.below)); clear hb; have g2_2 := (blk_cell BK2.out 2).trans rfl) | (go_at_call 36; refine (H2.out _ (by first | exact HB2.out | exact below_drew HB2.out)).mono ?_; rintro e w3 ⟨rfl, hb⟩; have BK3 := Aside0.mk (blk_below (by first | exact BK2.out | exact blk_drew BK2.out) (by first | exact hb | exact hb.below)); have HB3 := Aside0.mk (below_then (show Below w.heap.size w _ by first | exact HB2.out | exact below_drew HB2.out) (by first | exact HB2.out.size | exact (below_drew HB2.out).size) (by first | exact hb | exact hb.below)); clear hb; have g3_3 := (blk_cell BK3.out 3).trans rfl) | (go_at_call 37; refine (H3.out _ (by first | exact HB3.out | exact below_drew HB3.out)).mono ?_; rintro e w4 ⟨rfl, hb⟩; have BK4 := Aside0.mk (blk_below (by first | exact BK3.out | exact blk_drew BK3.out) (by first | exact hb | exact hb.below)); have HB4 := Aside0.mk (below_then (show Below w.heap.size w _ by first | exact HB3.out | exact below_drew HB3.out) (by first | exact HB3.out.size | exact (below_drew HB3.out).size) (by first | exact hb | exact hb.below)); clear hb; have g4_4 := (blk_cell BK4.out 4).trans rfl) | (go_at_call 38; refine (H4.out _ (by first | exact HB4.out | exact below_drew HB4.out)).mono ?_; rintro e w5 ⟨rfl, hb⟩; have BK5 := Aside0.mk (blk_below (by first | exact BK4.out | exact blk_drew BK4.out) (by first | exact hb | exact hb.below)); have HB5 := Aside0.mk (below_then (show Below w.heap.size w _ by first | exact HB4.out | exact below_drew HB4.out) (by first | exact HB4.out.size | exact (below_drew HB4.out).size) (by first | exact hb | exact hb.below)); clear hb; have g5_1 := (blk_cell BK5.out 1).trans rfl; have g5_0 := (blk_cell BK5.out 0).trans rfl) | (go_at_call 39; refine (H5.out _ (by first | exact HB5.out | exact below_drew HB5.out)).mono ?_; rintro e w6 ⟨rfl, hb⟩; have BK6 := Aside0.mk (blk_below (by first | exact BK5.out | exact blk_drew BK5.out) (by first | exact hb | exact hb.below)); have HB6 := Aside0.mk (below_then (show Below w.heap.size w _ by first | exact HB5.out | exact below_drew HB5.out) (by first | exact HB5.out.size | exact (below_drew HB5.out).size) (by first | exact hb | exact hb.below)); clear hb; have g6_5 := (blk_cell BK6.out 5).trans rfl) | (go_at_call 40; refine (H6.out _ (by first | exact HB6.out | exact below_drew HB6.out)).mono ?_; rintro e w7 ⟨rfl, hb⟩; have BK7 := Aside0.mk (blk_below (by first | exact BK6.out | exact blk_drew BK6.out) (by first | exact hb | exact hb.below)); have HB7 := Aside0.mk (below_then (show Below w.heap.size w _ by first | exact HB6.out | exact below_drew HB6.out) (by first | exact HB6.out.size | exact (below_drew HB6.out).size) (by first | exact hb | exact hb.below)); clear hb; have g7_6 := (blk_cell BK7.out 6).trans rfl) | (go_at_call 41; refine (H7.out _ (by first | exact HB7.out | exact below_drew HB7.out)).mono ?_; rintro e w8 ⟨rfl, hb⟩; have BK8 := Aside0.mk (blk_below (by first | exact BK7.out | exact blk_drew BK7.out) (by first | exact hb | exact hb.below)); have HB8 := Aside0.mk (below_then (show Below w.heap.size w _ by first | exact HB7.out | exact below_drew HB7.out) (by first | exact HB7.out.size | exact (below_drew HB7.out).size) (by first | exact hb | exact hb.below)); clear hb; have g8_1 := (blk_cell BK8.out 1).trans rfl; have g8_6 := (blk_cell BK8.out 6).trans rfl))
   refine start_ (n := 19) (S := fun w' => w'.cell? ⟨w.heap.size, 1, none⟩ = some (.slice (some ad) l0_1.length c0_1) ∧ w'.cell? ⟨w.heap.size, 6, none⟩ = some (.int .i64 a0_6) ∧ w'.cell? (ad.add ((l0_1.length - 1) * 7)) = some (.int .i64 f0)) (ds := []) (fb 19 0) (by kernel_rfl) rfl rfl ⟨(blk_cell (blk_drew BK8.out) 1).trans rfl, (blk_cell (blk_drew BK8.out) 6).trans rfl, ((below_drew HB8.out).cell (World.block_lt_of_cell? w _ HX.out)).trans HX.out⟩ (fun hHeld => ?_)
   refine sqP_ 0 51 (fb 19 1) (by kernel_rfl) ?_
   refine sqT_ 1 52 (fb 19 3) (by kernel_rfl) hHeld ?_
   refine sqP_ 2 53 (fb 19 7) (by kernel_rfl) ?_
   refine sqP_ 3 54 (fb 19 15) (by kernel_rfl) ?_
   refine sqP_ 4 55 (fb 19 31) (by kernel_rfl) ?_
   refine sqP_ 5 56 (fb 19 63) (by kernel_rfl) ?_
   refine sqP_ 7 58 (fb 19 191) (by kernel_rfl) ?_
   refine sqP_ 14 65 (fb 19 16575) (by kernel_rfl) ?_
   refine sqT_ 6 57 (fb 19 16639) (by kernel_rfl) hHeld ?_
   refine sqT_ 8 59 (fb 19 16895) (by kernel_rfl) hHeld ?_
   refine sqP_ 9 60 (fb 19 17407) (by kernel_rfl) ?_
   refine sqP_ 10 61 (fb 19 18431) (by kernel_rfl) ?_
   refine sqP_ 11 62 (fb 19 20479) (by kernel_rfl) ?_
   refine sqP_ 12 63 (fb 19 24575) (by kernel_rfl) ?_
   refine sqT_ 13 64 (fb 19 32767) (by kernel_rfl) hHeld ?_
   refine sqT_ 15 66 (fb 19 65535) (by kernel_rfl) hHeld ?_
   refine sqP_ 16 67 (fb 19 131071) (by kernel_rfl) ?_
   refine sqP_ 17 68 (fb 19 262143) (by kernel_rfl) ?_
   refine sqP_ 18 2 (fb 19 524287) (by kernel_rfl) ?_
   refine done_ (by kernel_rfl) ?_
   go_wp2
   go_ret
   exact ⟨by first | rfl | simp, below_drew HB8.out⟩

end Go.Proofs.YtmfbkbbgokjhnaaGreat.F
