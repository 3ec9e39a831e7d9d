-- Written by this session's program (wip/bin/hp.py) over the kit's print: a function's Lean form, and a proof that the call does what it says.
import Derived.Test.YtmfbkbbgokjhnaaFx0
import Derived.Test.YtmfbkbbgokjhnaaSq
import Derived.Test.YtmfbkbbgokjhnaaFx12
import Derived.Test.YtmfbkbbgokjhnaaFx8
namespace Go.Proofs.Ytmfbkbbgokjhnaa.F
open Go.RowKit Go.Proofs.YtmfbkbbgokjhnaaW.PrintWords Go.Proofs.YtmfbkbbgokjhnaaW.PrintLast Go.Proofs.YtmfbkbbgokjhnaaW.PrintMore
attribute [local go_sem] max2_int min2_int max_two min_two max_three min_three max_four min_four   -- for this text's walks alone
set_option linter.unusedVariables false
set_option linter.unusedSimpArgs false

/-! ### spec_l09First: function 97 -/
def spec_l09First.l0 : Nat → List (S94) → Int → Int → Int → ByteArray → Int → Bool → Bool → Bool → Option (Int)
 | 0, _, _, _, _, _, _, _, _, _ => none
 | k + 1, x0, x1, x186000, x186001, x186002, x186003, x186004, x186005, x186006 => if 0 ≤ x1 then (if x1 < (x0.length : Int) then ((spec_l09Matches.f ((rd_T94 x0 x1).f0) ((rd_T94 x0 x1).f1) ((rd_T94 x0 x1).f2) ((rd_T94 x0 x1).f3) ((rd_T94 x0 x1).f4) ((rd_T94 x0 x1).f5) ((rd_T94 x0 x1).f6) x186000 x186001 x186002 x186003 x186004 x186005 x186006).bind fun t187 => (if t187 = true then (some x1) else (spec_l09First.l0 k x0 (wrap64 (x1 + 1)) x186000 x186001 x186002 x186003 x186004 x186005 x186006))) else (none)) else (none)
def spec_l09First.f (k : Nat) (l0 : List (S94)) (a1 : Int) (a2_0 : Int) (a2_1 : Int) (a2_2 : ByteArray) (a2_3 : Int) (a2_4 : Bool) (a2_5 : Bool) (a2_6 : Bool) : Option (Int) := spec_l09First.l0 k l0 a1 a2_0 a2_1 a2_2 a2_3 a2_4 a2_5 a2_6
theorem spec_l09First.mono_l : ∀ k, (∀ y0 y1 y2 y3 y4 y5 y6 y7 y8, LeO (spec_l09First.l0 k y0 y1 y2 y3 y4 y5 y6 y7 y8) (spec_l09First.l0 (k + 1) y0 y1 y2 y3 y4 y5 y6 y7 y8))
 | 0 => fun _ _ _ _ _ _ _ _ _ r h => by simp [spec_l09First.l0] at h
 | k + 1 => by
  have ih0 := spec_l09First.mono_l k
  · intro y0 y1 y2 y3 y4 y5 y6 y7 y8
    unfold spec_l09First.l0
    repeat' first
    | (with_reducible exact ih0 _ _ _ _ _ _ _ _ _)
    | (with_reducible exact LeO.refl _)
    | (with_reducible exact LeO.none _)
    | (with_reducible refine LeO.ite ?_ ?_)
    | (with_reducible refine LeO.bind ?_ (fun _ => ?_))
    | exact ih0 _ _ _ _ _ _ _ _ _
    | exact LeO.none _
    | refine LeO.ite ?_ ?_
    | refine LeO.bind ?_ (fun _ => ?_)
theorem spec_l09First.mono : ∀ a0 a1 a2 a3 a4 a5 a6 a7 a8 k, LeO (spec_l09First.f k a0 a1 a2 a3 a4 a5 a6 a7 a8) (spec_l09First.f (k + 1) a0 a1 a2 a3 a4 a5 a6 a7 a8) := by
 intro a0 a1 a2 a3 a4 a5 a6 a7 a8 k
 have ih0 := spec_l09First.mono_l k
 unfold spec_l09First.f
 repeat' first
  | (with_reducible exact ih0 _ _ _ _ _ _ _ _ _)
  | (with_reducible exact LeO.refl _)
  | (with_reducible exact LeO.none _)
  | (with_reducible refine LeO.ite ?_ ?_)
  | (with_reducible refine LeO.bind ?_ (fun _ => ?_))
  | exact ih0 _ _ _ _ _ _ _ _ _
  | exact LeO.none _
  | refine LeO.ite ?_ ?_
  | refine LeO.bind ?_ (fun _ => ?_)
set_option maxHeartbeats 8000000 in
set_option maxRecDepth 100000 in
theorem spec_l09First.calls (k : Nat) (A0 : Option Addr) (c0 : Nat) (l0 : List (S94)) (a1 : Int) (a2_0 : Int) (a2_1 : Int) (a2_2 : ByteArray) (a2_3 : Int) (a2_4 : Bool) (a2_5 : Bool) (a2_6 : Bool) (r : Int) (w : World) (hr0 : Kd.C k94 w A0 l0.length l0) (hc0 : l0.length ≤ c0) (h : spec_l09First.f k l0 a1 a2_0 a2_1 a2_2 a2_3 a2_4 a2_5 a2_6 = some r) :
 Calls Try.prog 97 #[.slice A0 l0.length c0, .int .i64 a1, .agg #[.int .i64 a2_0, .int .i64 a2_1, .string a2_2, .int .i64 a2_3, .bool a2_4, .bool a2_5, .bool a2_6]] w fun e w' => e = .returned (.int .i64 r) ∧ Below w.heap.size w w' := by
 have hu43 := Try.underlying43
 have hu94 := Try.underlying94
 have HR0 := Aside0.mk hr0
 have HC0 := Aside0.mk hc0
 clear hr0 hc0
 have HB := Aside0.mk (Below.refl w.heap.size w)
 have H : (spec_l09First.l0 k l0 a1 a2_0 a2_1 a2_2 a2_3 a2_4 a2_5 a2_6) = some r := h
 clear h
 have H' := Aside0.mk H
 clear H
 go_enter Try.func97, Try.ntmps97
 go_wp2_with (first | ((with_reducible refine gate_dst (N := 5) rfl ?_); refine bx_ 5 #[.int .i64 a2_0, .int .i64 a2_1, .string a2_2, .int .i64 a2_3, .bool a2_4, .bool a2_5, .bool a2_6] 43 ?_; intro gb185 hg w4 hbox hb; have n0_ := Aside0.mk (bs_ hb); have n1_ := Aside0.mk (hbox); have n2_ := Aside0.mk ((by rw [hg]; exact (bz_) : w.heap.size ≤ gb185)); have n3_ := Aside0.mk ((by rw [hg]; exact (bz_) : w.heap.size ≤ gb185)); clear HB; revert n0_ n1_ n2_ n3_; intro HB BK185 GW185 GE185; clear hb hbox hg))
 go_loopg [1] k (fun kq v1 w' => ∃ (x1_1 : Int), v1 = .int .i64 x1_1 ∧ Aside0 (spec_l09First.l0 kq l0 x1_1 a2_0 a2_1 a2_2 a2_3 a2_4 a2_5 a2_6 = some r) ∧ Aside0 (kq ≤ k) ∧ Aside0 (w'.heap[gb185]? = some (.cells #[.int .i64 a2_0, .int .i64 a2_1, .string a2_2, .int .i64 a2_3, .bool a2_4, .bool a2_5, .bool a2_6] 43 (0, 0))) ∧ Aside0 (Below w.heap.size w w'))
 case atStart => exact ⟨(a1), (by first | rfl | (simp; done) | (simp [*]; done)), H', ⟨Nat.le_refl _⟩, ⟨by (with_reducible repeat (first | refine blk_drewN ?_ _ | refine blk_drew ?_ | refine blk_alloc ?_ _)); exact BK185.out⟩, ⟨bb_⟩⟩
 case round =>
  clear H'
  try clear p2
  obtain ⟨x1_1, rfl, HA, HK1, BK185, HB⟩ := hrel
  cases gk with
  | zero => exact absurd HA.out (by simp [spec_l09First.l0])
  | succ k1 =>
   have H := HA.out
   clear HA
   simp only [spec_l09First.l0] at H
   by_cases c5 : 0 ≤ x1_1
   · rw [if_pos c5] at H
     have c5b0 : decide (0 ≤ x1_1) = true := decide_eq_true c5
     clear c5
     by_cases c6 : x1_1 < (l0.length : Int)
     · rw [if_pos c6] at H
       have c6b0 : decide (x1_1 < (l0.length : Int)) = true := decide_eq_true c6
       clear c6
       replace H := Option.bind_eq_some_iff.mp H
       obtain ⟨t187, A70, H⟩ := H
       replace H : (if t187 = true then (some x1_1) else (spec_l09First.l0 k1 l0 (wrap64 (x1_1 + 1)) a2_0 a2_1 a2_2 a2_3 a2_4 a2_5 a2_6)) = some r := H
       have A7 := Aside0.mk A70
       clear A70
       by_cases c8 : t187 = true
       · subst c8
         have H1 : (some x1_1) = some r := by rw [if_pos rfl] at H; exact H
         clear H
         have H := H1
         clear H1
         obtain rfl := Option.some.inj H
         try go_wp2
         have n0_ := Aside0.mk (blk_drew BK185.out)
         have n1_ := Aside0.mk (below_drew1 HB.out)
         clear BK185 HB; revert n0_ n1_; intro BK185 HB
         have p186 : 0 ≤ (x1_1 : Int) := od_
         have q186 : x1_1 < (l0.length : Int) := od_
         obtain ⟨ad186, e186, hx186_0, hx186_1, hx186_2, hx186_3, hx186_4, hx186_5, hx186_6⟩ := at_T94 HR0.out x1_1 p186 q186
         have hw186_6 := hx186_6
         have hw186_5 := hx186_5
         have hw186_4 := hx186_4
         have hw186_3 := hx186_3
         have hw186_2 := hx186_2
         have hw186_1 := hx186_1
         have hw186_0 := hx186_0
         cases e186
         replace hx186_0 := cel HB hx186_0
         replace hx186_1 := cel HB hx186_1
         replace hx186_2 := cel HB hx186_2
         replace hx186_3 := cel HB hx186_3
         replace hx186_4 := cel HB hx186_4
         replace hx186_5 := cel HB hx186_5
         replace hx186_6 := cel HB hx186_6
         replace p186 := eq_true p186
         replace q186 := eq_true q186
         refine start_ (n := 7) (S := fun w' => w'.cell? ⟨gb185, 0, none⟩ = some (.int .i64 a2_0) ∧ w'.cell? ⟨gb185, 1, none⟩ = some (.int .i64 a2_1) ∧ w'.cell? ⟨gb185, 2, none⟩ = some (.string a2_2) ∧ w'.cell? ⟨gb185, 3, none⟩ = some (.int .i64 a2_3) ∧ w'.cell? ⟨gb185, 4, none⟩ = some (.bool a2_4) ∧ w'.cell? ⟨gb185, 5, none⟩ = some (.bool a2_5) ∧ w'.cell? ⟨gb185, 6, none⟩ = some (.bool a2_6) ∧ w'.cell? (ad186.add ((x1_1).toNat * 7)) = some (.string ((rd_T94 l0 x1_1).f0)) ∧ w'.cell? ⟨(ad186.add ((x1_1).toNat * 7)).block, (ad186.add ((x1_1).toNat * 7)).off + 1, none⟩ = some (.int .i64 ((rd_T94 l0 x1_1).f1)) ∧ w'.cell? ⟨(ad186.add ((x1_1).toNat * 7)).block, (ad186.add ((x1_1).toNat * 7)).off + 2, none⟩ = some (.int .i64 ((rd_T94 l0 x1_1).f2)) ∧ w'.cell? ⟨(ad186.add ((x1_1).toNat * 7)).block, (ad186.add ((x1_1).toNat * 7)).off + 3, none⟩ = some (.int .i64 ((rd_T94 l0 x1_1).f3)) ∧ w'.cell? ⟨(ad186.add ((x1_1).toNat * 7)).block, (ad186.add ((x1_1).toNat * 7)).off + 4, none⟩ = some (.int .i64 ((rd_T94 l0 x1_1).f4)) ∧ w'.cell? ⟨(ad186.add ((x1_1).toNat * 7)).block, (ad186.add ((x1_1).toNat * 7)).off + 5, none⟩ = some (.int .i64 ((rd_T94 l0 x1_1).f5)) ∧ w'.cell? ⟨(ad186.add ((x1_1).toNat * 7)).block, (ad186.add ((x1_1).toNat * 7)).off + 6, none⟩ = some (.string ((rd_T94 l0 x1_1).f6))) (ds := []) (fb 7 0) (by kernel_rfl) rfl rfl ⟨(blk_cell BK185.out 0).trans rfl, (blk_cell BK185.out 1).trans rfl, (blk_cell BK185.out 2).trans rfl, (blk_cell BK185.out 3).trans rfl, (blk_cell BK185.out 4).trans rfl, (blk_cell BK185.out 5).trans rfl, (blk_cell BK185.out 6).trans rfl, ((HB.out.cell (World.block_lt_of_cell? w _ hw186_0)).trans hw186_0), ((HB.out.cell (World.block_lt_of_cell? w _ hw186_1)).trans hw186_1), ((HB.out.cell (World.block_lt_of_cell? w _ hw186_2)).trans hw186_2), ((HB.out.cell (World.block_lt_of_cell? w _ hw186_3)).trans hw186_3), ((HB.out.cell (World.block_lt_of_cell? w _ hw186_4)).trans hw186_4), ((HB.out.cell (World.block_lt_of_cell? w _ hw186_5)).trans hw186_5), ((HB.out.cell (World.block_lt_of_cell? w _ hw186_6)).trans hw186_6)⟩ (fun hHeld => ?_)
         generalize wr.drew = w9 at BK185 HB hx186_0 hx186_1 hx186_2 hx186_3 hx186_4 hx186_5 hx186_6 hHeld ⊢
         refine sqP_ 0 7 (fb 7 1) (by kernel_rfl) ?_
         refine sqP_ 1 8 (fb 7 3) (by kernel_rfl) ?_
         refine sqP_ 2 9 (fb 7 7) (by kernel_rfl) ?_
         refine sqT_ 3 10 (fb 7 15) (by kernel_rfl) hHeld ?_
         refine sqT_ 4 11 (fb 7 31) (by kernel_rfl) hHeld ?_
         refine one_ (i := 5) (N := some 12) (fb 7 63) rfl rfl (by kernel_rfl) (by decide) (fun K hK => ?_)
         refine goes_ Try.func117 (by kernel_rfl) rfl #[.agg #[.string ((rd_T94 l0 x1_1).f0), .int .i64 ((rd_T94 l0 x1_1).f1), .int .i64 ((rd_T94 l0 x1_1).f2), .int .i64 ((rd_T94 l0 x1_1).f3), .int .i64 ((rd_T94 l0 x1_1).f4), .int .i64 ((rd_T94 l0 x1_1).f5), .string ((rd_T94 l0 x1_1).f6)], .agg #[.int .i64 a2_0, .int .i64 a2_1, .string a2_2, .int .i64 a2_3, .bool a2_4, .bool a2_5, .bool a2_6]] (by rfl) rfl rfl (by (try simp only [List.map_toArray, List.map_cons, List.map_nil]); first | done | rfl | (simp only [List.length_drop, List.length_take]; rfl)) ?_
         with_reducible refine (spec_l09Matches.calls ((rd_T94 l0 x1_1).f0) ((rd_T94 l0 x1_1).f1) ((rd_T94 l0 x1_1).f2) ((rd_T94 l0 x1_1).f3) ((rd_T94 l0 x1_1).f4) ((rd_T94 l0 x1_1).f5) ((rd_T94 l0 x1_1).f6) a2_0 a2_1 a2_2 a2_3 a2_4 a2_5 a2_6 true _ A7.out).mono ?_
         rintro e w10 ⟨rfl, hb⟩
         refine ⟨_, rfl, ?_⟩
         have n0_ := Aside0.mk (bkb BK185 hb)
         have n1_ := Aside0.mk (bs_ hb)
         clear BK185 HB; revert n0_ n1_; intro BK185 HB
         (try clear hb)
         (try clear hb2)
         (try clear hk)
         (try clear hi)
         refine hK.out _ _ ⟨(blk_cell BK185.out 0).trans rfl, (blk_cell BK185.out 1).trans rfl, (blk_cell BK185.out 2).trans rfl, (blk_cell BK185.out 3).trans rfl, (blk_cell BK185.out 4).trans rfl, (blk_cell BK185.out 5).trans rfl, (blk_cell BK185.out 6).trans rfl, ((HB.out.cell (World.block_lt_of_cell? w _ hw186_0)).trans hw186_0), ((HB.out.cell (World.block_lt_of_cell? w _ hw186_1)).trans hw186_1), ((HB.out.cell (World.block_lt_of_cell? w _ hw186_2)).trans hw186_2), ((HB.out.cell (World.block_lt_of_cell? w _ hw186_3)).trans hw186_3), ((HB.out.cell (World.block_lt_of_cell? w _ hw186_4)).trans hw186_4), ((HB.out.cell (World.block_lt_of_cell? w _ hw186_5)).trans hw186_5), ((HB.out.cell (World.block_lt_of_cell? w _ hw186_6)).trans hw186_6)⟩ (fun hHeld => ?_)
         clear hK K
         refine sqN_ 12 ?_
         refine sqP_ 6 13 (fb 7 127) (by kernel_rfl) ?_
         refine done_ (by kernel_rfl) ?_
         try go_wp2
         go_ret
         exact ⟨by first | rfl | (simp [errW_none, errW_some] <;> rfl) | (simp [*, errW_none, errW_some] <;> rfl), bb_⟩
       · replace c8 := Bool.eq_false_iff.mpr c8
         subst c8
         have H1 : (spec_l09First.l0 k1 l0 (wrap64 (x1_1 + 1)) a2_0 a2_1 a2_2 a2_3 a2_4 a2_5 a2_6) = some r := by rw [if_neg (show ¬ (false = true) by decide)] at H; exact H
         clear H
         have H := H1
         clear H1
         have H' := Aside0.mk H
         clear H
         try go_wp2
         have n0_ := Aside0.mk (blk_drew BK185.out)
         have n1_ := Aside0.mk (below_drew1 HB.out)
         clear BK185 HB; revert n0_ n1_; intro BK185 HB
         have p186 : 0 ≤ (x1_1 : Int) := od_
         have q186 : x1_1 < (l0.length : Int) := od_
         obtain ⟨ad186, e186, hx186_0, hx186_1, hx186_2, hx186_3, hx186_4, hx186_5, hx186_6⟩ := at_T94 HR0.out x1_1 p186 q186
         have hw186_6 := hx186_6
         have hw186_5 := hx186_5
         have hw186_4 := hx186_4
         have hw186_3 := hx186_3
         have hw186_2 := hx186_2
         have hw186_1 := hx186_1
         have hw186_0 := hx186_0
         cases e186
         replace hx186_0 := cel HB hx186_0
         replace hx186_1 := cel HB hx186_1
         replace hx186_2 := cel HB hx186_2
         replace hx186_3 := cel HB hx186_3
         replace hx186_4 := cel HB hx186_4
         replace hx186_5 := cel HB hx186_5
         replace hx186_6 := cel HB hx186_6
         replace p186 := eq_true p186
         replace q186 := eq_true q186
         refine start_ (n := 7) (S := fun w' => w'.cell? ⟨gb185, 0, none⟩ = some (.int .i64 a2_0) ∧ w'.cell? ⟨gb185, 1, none⟩ = some (.int .i64 a2_1) ∧ w'.cell? ⟨gb185, 2, none⟩ = some (.string a2_2) ∧ w'.cell? ⟨gb185, 3, none⟩ = some (.int .i64 a2_3) ∧ w'.cell? ⟨gb185, 4, none⟩ = some (.bool a2_4) ∧ w'.cell? ⟨gb185, 5, none⟩ = some (.bool a2_5) ∧ w'.cell? ⟨gb185, 6, none⟩ = some (.bool a2_6) ∧ w'.cell? (ad186.add ((x1_1).toNat * 7)) = some (.string ((rd_T94 l0 x1_1).f0)) ∧ w'.cell? ⟨(ad186.add ((x1_1).toNat * 7)).block, (ad186.add ((x1_1).toNat * 7)).off + 1, none⟩ = some (.int .i64 ((rd_T94 l0 x1_1).f1)) ∧ w'.cell? ⟨(ad186.add ((x1_1).toNat * 7)).block, (ad186.add ((x1_1).toNat * 7)).off + 2, none⟩ = some (.int .i64 ((rd_T94 l0 x1_1).f2)) ∧ w'.cell? ⟨(ad186.add ((x1_1).toNat * 7)).block, (ad186.add ((x1_1).toNat * 7)).off + 3, none⟩ = some (.int .i64 ((rd_T94 l0 x1_1).f3)) ∧ w'.cell? ⟨(ad186.add ((x1_1).toNat * 7)).block, (ad186.add ((x1_1).toNat * 7)).off + 4, none⟩ = some (.int .i64 ((rd_T94 l0 x1_1).f4)) ∧ w'.cell? ⟨(ad186.add ((x1_1).toNat * 7)).block, (ad186.add ((x1_1).toNat * 7)).off + 5, none⟩ = some (.int .i64 ((rd_T94 l0 x1_1).f5)) ∧ w'.cell? ⟨(ad186.add ((x1_1).toNat * 7)).block, (ad186.add ((x1_1).toNat * 7)).off + 6, none⟩ = some (.string ((rd_T94 l0 x1_1).f6))) (ds := []) (fb 7 0) (by kernel_rfl) rfl rfl ⟨(blk_cell BK185.out 0).trans rfl, (blk_cell BK185.out 1).trans rfl, (blk_cell BK185.out 2).trans rfl, (blk_cell BK185.out 3).trans rfl, (blk_cell BK185.out 4).trans rfl, (blk_cell BK185.out 5).trans rfl, (blk_cell BK185.out 6).trans rfl, ((HB.out.cell (World.block_lt_of_cell? w _ hw186_0)).trans hw186_0), ((HB.out.cell (World.block_lt_of_cell? w _ hw186_1)).trans hw186_1), ((HB.out.cell (World.block_lt_of_cell? w _ hw186_2)).trans hw186_2), ((HB.out.cell (World.block_lt_of_cell? w _ hw186_3)).trans hw186_3), ((HB.out.cell (World.block_lt_of_cell? w _ hw186_4)).trans hw186_4), ((HB.out.cell (World.block_lt_of_cell? w _ hw186_5)).trans hw186_5), ((HB.out.cell (World.block_lt_of_cell? w _ hw186_6)).trans hw186_6)⟩ (fun hHeld => ?_)
         generalize wr.drew = w11 at BK185 HB hx186_0 hx186_1 hx186_2 hx186_3 hx186_4 hx186_5 hx186_6 hHeld ⊢
         refine sqP_ 0 7 (fb 7 1) (by kernel_rfl) ?_
         refine sqP_ 1 8 (fb 7 3) (by kernel_rfl) ?_
         refine sqP_ 2 9 (fb 7 7) (by kernel_rfl) ?_
         refine sqT_ 3 10 (fb 7 15) (by kernel_rfl) hHeld ?_
         refine sqT_ 4 11 (fb 7 31) (by kernel_rfl) hHeld ?_
         refine one_ (i := 5) (N := some 12) (fb 7 63) rfl rfl (by kernel_rfl) (by decide) (fun K hK => ?_)
         refine goes_ Try.func117 (by kernel_rfl) rfl #[.agg #[.string ((rd_T94 l0 x1_1).f0), .int .i64 ((rd_T94 l0 x1_1).f1), .int .i64 ((rd_T94 l0 x1_1).f2), .int .i64 ((rd_T94 l0 x1_1).f3), .int .i64 ((rd_T94 l0 x1_1).f4), .int .i64 ((rd_T94 l0 x1_1).f5), .string ((rd_T94 l0 x1_1).f6)], .agg #[.int .i64 a2_0, .int .i64 a2_1, .string a2_2, .int .i64 a2_3, .bool a2_4, .bool a2_5, .bool a2_6]] (by rfl) rfl rfl (by (try simp only [List.map_toArray, List.map_cons, List.map_nil]); first | done | rfl | (simp only [List.length_drop, List.length_take]; rfl)) ?_
         with_reducible refine (spec_l09Matches.calls ((rd_T94 l0 x1_1).f0) ((rd_T94 l0 x1_1).f1) ((rd_T94 l0 x1_1).f2) ((rd_T94 l0 x1_1).f3) ((rd_T94 l0 x1_1).f4) ((rd_T94 l0 x1_1).f5) ((rd_T94 l0 x1_1).f6) a2_0 a2_1 a2_2 a2_3 a2_4 a2_5 a2_6 false _ A7.out).mono ?_
         rintro e w12 ⟨rfl, hb⟩
         refine ⟨_, rfl, ?_⟩
         have n0_ := Aside0.mk (bkb BK185 hb)
         have n1_ := Aside0.mk (bs_ hb)
         clear BK185 HB; revert n0_ n1_; intro BK185 HB
         (try clear hb)
         (try clear hb2)
         (try clear hk)
         (try clear hi)
         refine hK.out _ _ ⟨(blk_cell BK185.out 0).trans rfl, (blk_cell BK185.out 1).trans rfl, (blk_cell BK185.out 2).trans rfl, (blk_cell BK185.out 3).trans rfl, (blk_cell BK185.out 4).trans rfl, (blk_cell BK185.out 5).trans rfl, (blk_cell BK185.out 6).trans rfl, ((HB.out.cell (World.block_lt_of_cell? w _ hw186_0)).trans hw186_0), ((HB.out.cell (World.block_lt_of_cell? w _ hw186_1)).trans hw186_1), ((HB.out.cell (World.block_lt_of_cell? w _ hw186_2)).trans hw186_2), ((HB.out.cell (World.block_lt_of_cell? w _ hw186_3)).trans hw186_3), ((HB.out.cell (World.block_lt_of_cell? w _ hw186_4)).trans hw186_4), ((HB.out.cell (World.block_lt_of_cell? w _ hw186_5)).trans hw186_5), ((HB.out.cell (World.block_lt_of_cell? w _ hw186_6)).trans hw186_6)⟩ (fun hHeld => ?_)
         clear hK K
         refine sqN_ 12 ?_
         refine sqP_ 6 13 (fb 7 127) (by kernel_rfl) ?_
         refine done_ (by kernel_rfl) ?_
         try go_wp2
         go_roundg k1
         case measure => have := HK1.out; omega
         case rel => exact ⟨(wrap64 (x1_1 + 1)), (by first | rfl | (simp; done) | (simp [*]; done)), H', ⟨by have := HK1.out; omega⟩, ⟨by (with_reducible repeat (first | refine blk_drewN ?_ _ | refine blk_drew ?_ | refine blk_alloc ?_ _)); exact BK185.out⟩, ⟨bb_⟩⟩
     · rw [if_neg c6] at H
       exact absurd H (by simp)
   · rw [if_neg c5] at H
     exact absurd H (by simp)

end Go.Proofs.Ytmfbkbbgokjhnaa.F
namespace Go.Proofs.Ytmfbkbbgokjhnaa.F
open Go.RowKit Go.Proofs.YtmfbkbbgokjhnaaW.PrintWords Go.Proofs.YtmfbkbbgokjhnaaW.PrintLast Go.Proofs.YtmfbkbbgokjhnaaW.PrintMore
attribute [local go_sem] max2_int min2_int max_two min_two max_three min_three max_four min_four   -- for this text's walks alone
set_option linter.unusedVariables false
set_option linter.unusedSimpArgs false

/-! ### spec_l09Chain: function 103 -/
def spec_l09Chain.l0 : Nat → List (S94) → List Int → Int → Int → Int → ByteArray → Int → Bool → Bool → Bool → Option (List Int)
 | 0, _, _, _, _, _, _, _, _, _, _ => none
 | k + 1, x0, x5, x6, x189000, x189001, x189002, x189003, x189004, x189005, x189006 => (spec_l09First.f k x0 x6 x189000 x189001 x189002 x189003 x189004 x189005 x189006).bind fun t192 => (if x5.length < 17592186044416 then ((some (x5 ++ [t192] : List Int)).bind fun y193 => (if 0 ≤ t192 then (if t192 < (x0.length : Int) then (if ((rd_T94 x0 t192).f5) = 3 then ((spec_l09Find.f k x0 ((rd_T94 x0 t192).f6)).bind fun t198 => (spec_l09Chain.l0 k x0 y193 t198 x189000 x189001 x189002 x189003 x189004 x189005 x189006)) else (some y193)) else (none)) else (none))) else (none))
def spec_l09Chain.f (k : Nat) (l0 : List (S94)) (a1_0 : Int) (a1_1 : Int) (a1_2 : ByteArray) (a1_3 : Int) (a1_4 : Bool) (a1_5 : Bool) (a1_6 : Bool) : Option (List Int) := spec_l09Chain.l0 k l0 (([] : List Int)) 0 a1_0 a1_1 a1_2 a1_3 a1_4 a1_5 a1_6
theorem spec_l09Chain.mono_l : ∀ k, (∀ y0 y1 y2 y3 y4 y5 y6 y7 y8 y9, LeO (spec_l09Chain.l0 k y0 y1 y2 y3 y4 y5 y6 y7 y8 y9) (spec_l09Chain.l0 (k + 1) y0 y1 y2 y3 y4 y5 y6 y7 y8 y9))
 | 0 => fun _ _ _ _ _ _ _ _ _ _ r h => by simp [spec_l09Chain.l0] at h
 | k + 1 => by
  have ih0 := spec_l09Chain.mono_l k
  · intro y0 y1 y2 y3 y4 y5 y6 y7 y8 y9
    unfold spec_l09Chain.l0
    repeat' first
    | (with_reducible exact ih0 _ _ _ _ _ _ _ _ _ _)
    | (with_reducible exact spec_l09Find.mono _ _ _)
    | (with_reducible exact spec_l09First.mono _ _ _ _ _ _ _ _ _ _)
    | (with_reducible exact LeO.refl _)
    | (with_reducible exact LeO.none _)
    | (with_reducible refine LeO.ite ?_ ?_)
    | (with_reducible refine LeO.bind ?_ (fun _ => ?_))
    | exact ih0 _ _ _ _ _ _ _ _ _ _
    | exact spec_l09Find.mono _ _ _
    | exact spec_l09First.mono _ _ _ _ _ _ _ _ _ _
    | exact LeO.none _
    | refine LeO.ite ?_ ?_
    | refine LeO.bind ?_ (fun _ => ?_)
theorem spec_l09Chain.mono : ∀ a0 a1 a2 a3 a4 a5 a6 a7 k, LeO (spec_l09Chain.f k a0 a1 a2 a3 a4 a5 a6 a7) (spec_l09Chain.f (k + 1) a0 a1 a2 a3 a4 a5 a6 a7) := by
 intro a0 a1 a2 a3 a4 a5 a6 a7 k
 have ih0 := spec_l09Chain.mono_l k
 unfold spec_l09Chain.f
 repeat' first
  | (with_reducible exact ih0 _ _ _ _ _ _ _ _ _ _)
  | (with_reducible exact spec_l09Find.mono _ _ _)
  | (with_reducible exact spec_l09First.mono _ _ _ _ _ _ _ _ _ _)
  | (with_reducible exact LeO.refl _)
  | (with_reducible exact LeO.none _)
  | (with_reducible refine LeO.ite ?_ ?_)
  | (with_reducible refine LeO.bind ?_ (fun _ => ?_))
  | exact ih0 _ _ _ _ _ _ _ _ _ _
  | exact spec_l09Find.mono _ _ _
  | exact spec_l09First.mono _ _ _ _ _ _ _ _ _ _
  | exact LeO.none _
  | refine LeO.ite ?_ ?_
  | refine LeO.bind ?_ (fun _ => ?_)
set_option maxHeartbeats 8000000 in
set_option maxRecDepth 100000 in
theorem spec_l09Chain.calls (k : Nat) (A0 : Option Addr) (c0 : Nat) (l0 : List (S94)) (a1_0 : Int) (a1_1 : Int) (a1_2 : ByteArray) (a1_3 : Int) (a1_4 : Bool) (a1_5 : Bool) (a1_6 : Bool) (r : List Int) (w : World) (hr0 : Kd.C k94 w A0 l0.length l0) (hc0 : l0.length ≤ c0) (h : spec_l09Chain.f k l0 a1_0 a1_1 a1_2 a1_3 a1_4 a1_5 a1_6 = some r) :
 Calls Try.prog 103 #[.slice A0 l0.length c0, .agg #[.int .i64 a1_0, .int .i64 a1_1, .string a1_2, .int .i64 a1_3, .bool a1_4, .bool a1_5, .bool a1_6]] w fun e w' => ∃ v0_ : Value, e = .returned (v0_) ∧ Kd.R (Kd.int .i64) 2 w' w.heap.size (fun _ => True) v0_ r ∧ Below w.heap.size w w' := by
 have hu43 := Try.underlying43
 have HR0 := Aside0.mk hr0
 have HC0 := Aside0.mk hc0
 clear hr0 hc0
 have HB := Aside0.mk (Below.refl w.heap.size w)
 have H : (spec_l09Chain.l0 k l0 (([] : List Int)) 0 a1_0 a1_1 a1_2 a1_3 a1_4 a1_5 a1_6) = some r := h
 clear h
 obtain ⟨y189, hy189⟩ : ∃ y_ : List Int, y_ = (([] : List Int)) := ⟨_, rfl⟩
 replace H : (spec_l09Chain.l0 k l0 y189 0 a1_0 a1_1 a1_2 a1_3 a1_4 a1_5 a1_6) = some r := by first | (rw [hy189]; with_reducible exact H) | (have H2_ := (Option.bind_some _ _).symm.trans H; rw [hy189]; with_reducible exact H2_) | (have H2_ := (Option.bind_some _ _).symm.trans H; with_reducible exact H2_) | with_reducible exact H | (rw [hy189]; exact H) | exact H
 have Ny189 := Aside0.mk hy189
 clear hy189
 have H' := Aside0.mk H
 clear H
 go_enter Try.func103, Try.ntmps103
 go_wp2_with (first | ((with_reducible refine gate_dst (N := 3) rfl ?_); refine bx_ 3 #[.int .i64 a1_0, .int .i64 a1_1, .string a1_2, .int .i64 a1_3, .bool a1_4, .bool a1_5, .bool a1_6] 43 ?_; intro gb188 hg w3 hbox hb; have n0_ := Aside0.mk (bs_ hb); have n1_ := Aside0.mk (hbox); have n2_ := Aside0.mk ((by rw [hg]; exact (bz_) : w.heap.size ≤ gb188)); have n3_ := Aside0.mk ((by rw [hg]; exact (bz_) : w.heap.size ≤ gb188)); clear HB; revert n0_ n1_ n2_ n3_; intro HB BK188 GW188 GE188; clear hb hbox hg) | ((with_reducible refine gate_dst (N := 7) rfl ?_); refine Kd.R_lit (Kd.int .i64) _ 2 ?hg (N := 7) ?hd (xs := ([] : List Int)) (inner := []) (ok := fun _ => True) (okp := fun _ => True) ?hr ?hp (fun _ hk => hk) trivial (Below.refl _ _) (Nat.le_refl _) (by simp) ?_; (case hd => rfl); (case hg => rfl); (case hr => first | (go_simp; done) | (go_simp; rfl)); (case hp => exact (Reps.none _ _)); intro v190 w4 ho5 hb hg_ hnew_; clear hg_ hnew_; (first | rw [← Ny189.out] at ho5 | (simp only [Int.reduceToNat] at ho5; rw [← Ny189.out] at ho5)); have n0_ := Aside0.mk (Kd.R_lower ho5 (bz_)); have n1_ := Aside0.mk (bkb BK188 hb); have n2_ := Aside0.mk (bs_ hb); clear BK188 HB; revert n0_ n1_ n2_; intro HO191 BK188 HB; clear hb ho5))
 go_loopg [5, 6] k (fun kq v5 v6 w' => ∃ (x5_1 : List Int) (x6_1 : Int), v6 = .int .i64 x6_1 ∧ Aside0 (spec_l09Chain.l0 kq l0 x5_1 x6_1 a1_0 a1_1 a1_2 a1_3 a1_4 a1_5 a1_6 = some r) ∧ Aside0 (kq ≤ k) ∧ Aside0 (Kd.R (Kd.int .i64) 2 w' w.heap.size (fun _ => True) v5 x5_1) ∧ Aside0 (w'.heap[gb188]? = some (.cells #[.int .i64 a1_0, .int .i64 a1_1, .string a1_2, .int .i64 a1_3, .bool a1_4, .bool a1_5, .bool a1_6] 43 (0, 0))) ∧ Aside0 (Below w.heap.size w w'))
 case atStart => exact ⟨(y189), (0), (by first | rfl | (simp; done) | (simp [*]; done)), H', ⟨Nat.le_refl _⟩, ⟨by (with_reducible repeat (first | apply Kd.R_alloc | apply Kd.R_drewN | apply Kd.R_drew)); exact HO191.out⟩, ⟨by (with_reducible repeat (first | refine blk_drewN ?_ _ | refine blk_drew ?_ | refine blk_alloc ?_ _)); exact BK188.out⟩, ⟨bb_⟩⟩
 case round =>
  clear H'
  try clear c1
  try clear p2
  obtain ⟨x5_1, x6_1, rfl, HA, HK1, HO_5, BK188, HB⟩ := hrel
  cases gk with
  | zero => exact absurd HA.out (by simp [spec_l09Chain.l0])
  | succ k1 =>
   have H := HA.out
   clear HA
   simp only [spec_l09Chain.l0] at H
   replace H := Option.bind_eq_some_iff.mp H
   obtain ⟨t192, A60, H⟩ := H
   replace H : (if x5_1.length < 17592186044416 then ((some (x5_1 ++ [t192] : List Int)).bind fun y193 => (if 0 ≤ t192 then (if t192 < (l0.length : Int) then (if ((rd_T94 l0 t192).f5) = 3 then ((spec_l09Find.f k1 l0 ((rd_T94 l0 t192).f6)).bind fun t198 => (spec_l09Chain.l0 k1 l0 y193 t198 a1_0 a1_1 a1_2 a1_3 a1_4 a1_5 a1_6)) else (some y193)) else (none)) else (none))) else (none)) = some r := H
   have A6 := Aside0.mk A60
   clear A60
   by_cases c7 : x5_1.length < 17592186044416
   · rw [if_pos c7] at H
     have LMc7 := Aside0.mk c7
     clear c7
     obtain ⟨y193, hy193⟩ : ∃ y_ : List Int, y_ = (x5_1 ++ [t192]) := ⟨_, rfl⟩
     replace H : (if 0 ≤ t192 then (if t192 < (l0.length : Int) then (if ((rd_T94 l0 t192).f5) = 3 then ((spec_l09Find.f k1 l0 ((rd_T94 l0 t192).f6)).bind fun t198 => (spec_l09Chain.l0 k1 l0 y193 t198 a1_0 a1_1 a1_2 a1_3 a1_4 a1_5 a1_6)) else (some y193)) else (none)) else (none)) = some r := by first | (rw [hy193]; with_reducible exact H) | (have H2_ := (Option.bind_some _ _).symm.trans H; rw [hy193]; with_reducible exact H2_) | (have H2_ := (Option.bind_some _ _).symm.trans H; with_reducible exact H2_) | with_reducible exact H | (rw [hy193]; exact H) | exact H
     have Ny193 := Aside0.mk hy193
     clear hy193
     by_cases c8 : 0 ≤ t192
     · rw [if_pos c8] at H
       have c8b0 : decide (0 ≤ t192) = true := decide_eq_true c8
       clear c8
       by_cases c9 : t192 < (l0.length : Int)
       · rw [if_pos c9] at H
         have c9b0 : decide (t192 < (l0.length : Int)) = true := decide_eq_true c9
         clear c9
         by_cases c10 : ((rd_T94 l0 t192).f5) = 3
         · rw [if_pos c10] at H
           have c10b0 : (((rd_T94 l0 t192).f5) == 3) = true := beq_iff_eq.mpr c10
           have c10b1 : (((rd_T94 l0 t192).f5) != 3) = false := bne_eq_false_iff_eq.mpr c10
           clear c10
           replace H := Option.bind_eq_some_iff.mp H
           obtain ⟨t198, A110, H⟩ := H
           replace H : (spec_l09Chain.l0 k1 l0 y193 t198 a1_0 a1_1 a1_2 a1_3 a1_4 a1_5 a1_6) = some r := H
           have A11 := Aside0.mk A110
           clear A110
           have H' := Aside0.mk H
           clear H
           have hcz12_0 := bk BK188 0
           have hcz12_1 := bk BK188 1
           have hcz12_2 := bk BK188 2
           have hcz12_3 := bk BK188 3
           have hcz12_4 := bk BK188 4
           have hcz12_5 := bk BK188 5
           have hcz12_6 := bk BK188 6
           have hfz12_0 := blk_frozen BK188.out 0
           have hfz12_1 := blk_frozen BK188.out 1
           have hfz12_2 := blk_frozen BK188.out 2
           have hfz12_3 := blk_frozen BK188.out 3
           have hfz12_4 := blk_frozen BK188.out 4
           have hfz12_5 := blk_frozen BK188.out 5
           have hfz12_6 := blk_frozen BK188.out 6
           go_wp2_with (first | ((with_reducible refine gate_callee (f := 97) rfl ?_); refine gl_ 11 Try.func97 #[.slice A0 l0.length c0, .int .i64 x6_1, .agg #[.int .i64 a1_0, .int .i64 a1_1, .string a1_2, .int .i64 a1_3, .bool a1_4, .bool a1_5, .bool a1_6]] ?_; (with_reducible refine (spec_l09First.calls k1 _ _ l0 x6_1 a1_0 a1_1 a1_2 a1_3 a1_4 a1_5 a1_6 t192 _ ?side1 ?side2 A6.out).mono ?_); (case side1 => repeat (first | exact (Kd.C_below HR0.out HB.out) | (with_reducible refine Kd.C_alloc ?_ _) | (with_reducible refine Kd.C_drewN ?_ _) | (with_reducible refine Kd.C_drew ?_))); (case side2 => exact HC0.out); rintro e w13 ⟨rfl, hb⟩; refine ⟨_, rfl, ?_⟩; have n0_ := Aside0.mk (Kd.R_below (rm_ HO_5) hb); have n1_ := Aside0.mk (bkb BK188 hb); have n2_ := Aside0.mk (bs_ hb); clear HO_5 BK188 HB; revert n0_ n1_ n2_; intro HO_5 BK188 HB; (try clear hb); (try clear hb2); (try clear hk); (try clear hi)) | ((with_reducible refine gate_builtin (b := .append) (xs := #[.tmp 12, .tmp 14]) rfl ?_); at_builtin; refine Kd.R_append (Kd.int .i64) (w0 := w) w.heap.size rfl (.tmp 12) (.tmp 14) 69 2 (.int .i64 0) 8 rfl Try.underlying69 info2 rfl (by decide) (by omega) u5 x5_1 t192 [.int .i64 t192] (fun _ => True) (fun _ => False) rfl rfl ?aP (fun _ hk => hk.elim) ?aF ?aO ?aB ?aS ?aL ?_; (case aP => exact rfl); (case aB => exact bb_); (case aF => exact (fun _ _ => trivial)); (case aO => exact (rm_ HO_5)); (case aS => exact (bz_)); (case aL => have := LMc7.out; omega); intro v194 w14 ho hb hg hat; rw [← Ny193.out] at ho; have n0_ := Aside0.mk (blk_grown (g := gb188) (o := .cells #[.int .i64 a1_0, .int .i64 a1_1, .string a1_2, .int .i64 a1_3, .bool a1_4, .bool a1_5, .bool a1_6] 43 (0, 0)) (by (with_reducible repeat (first | refine blk_drewN ?_ _ | refine blk_drew ?_ | refine blk_alloc ?_ _)); exact BK188.out) hg (Kd.R_ne HO_5.out BK188.out (by decide))); have n1_ := Aside0.mk (hb); have n2_ := Aside0.mk (ho); clear BK188 HB HO_5; revert n0_ n1_ n2_; intro BK188 HB HO195; clear ho hb hg hat; have p196 : 0 ≤ (t192 : Int) := od_; have q196 : t192 < (l0.length : Int) := od_; obtain ⟨ad196, e196, hx196_0, hx196_1, hx196_2, hx196_3, hx196_4, hx196_5, hx196_6⟩ := at_T94 HR0.out t192 p196 q196; cases e196; replace hx196_0 := cel HB hx196_0; replace hx196_1 := cel HB hx196_1; replace hx196_2 := cel HB hx196_2; replace hx196_3 := cel HB hx196_3; replace hx196_4 := cel HB hx196_4; replace hx196_5 := cel HB hx196_5; replace hx196_6 := cel HB hx196_6; replace p196 := eq_true p196; replace q196 := eq_true q196; have p197 : 0 ≤ (t192 : Int) := od_; have q197 : t192 < (l0.length : Int) := od_; obtain ⟨ad197, e197, hx197_0, hx197_1, hx197_2, hx197_3, hx197_4, hx197_5, hx197_6⟩ := at_T94 HR0.out t192 p197 q197; obtain rfl : ad196 = ad197 := (by injection e197); replace hx197_0 := cel HB hx197_0; replace hx197_1 := cel HB hx197_1; replace hx197_2 := cel HB hx197_2; replace hx197_3 := cel HB hx197_3; replace hx197_4 := cel HB hx197_4; replace hx197_5 := cel HB hx197_5; replace hx197_6 := cel HB hx197_6; replace p197 := eq_true p197; replace q197 := eq_true q197) | ((with_reducible refine gate_callee (f := 94) rfl ?_); refine gl_ 29 Try.func94 #[.slice (some ad196) l0.length c0, .string ((rd_T94 l0 t192).f6)] ?_; (with_reducible refine (spec_l09Find.calls k1 _ _ l0 ((rd_T94 l0 t192).f6) t198 _ ?side1 ?side2 A11.out).mono ?_); (case side1 => repeat (first | exact (Kd.C_below HR0.out HB.out) | (with_reducible refine Kd.C_alloc ?_ _) | (with_reducible refine Kd.C_drewN ?_ _) | (with_reducible refine Kd.C_drew ?_))); (case side2 => exact HC0.out); rintro e w' ⟨rfl, ⟨nd, rfl⟩⟩; refine ⟨_, rfl, ?_⟩))
           go_roundg k1
           case measure => have := HK1.out; omega
           case rel => exact ⟨(y193), (t198), (by first | rfl | (simp; done) | (simp [*]; done)), H', ⟨by have := HK1.out; omega⟩, ⟨by (with_reducible repeat (first | apply Kd.R_alloc | apply Kd.R_drewN | apply Kd.R_drew)); exact HO195.out⟩, ⟨by (with_reducible repeat (first | refine blk_drewN ?_ _ | refine blk_drew ?_ | refine blk_alloc ?_ _)); exact BK188.out⟩, ⟨bb_⟩⟩
         · rw [if_neg c10] at H
           have c10b0 : (((rd_T94 l0 t192).f5) == 3) = false := beq_eq_false_iff_ne.mpr c10
           have c10b1 : (((rd_T94 l0 t192).f5) != 3) = true := bne_iff_ne.mpr c10
           obtain rfl := Option.some.inj H
           have hcz15_0 := bk BK188 0
           have hcz15_1 := bk BK188 1
           have hcz15_2 := bk BK188 2
           have hcz15_3 := bk BK188 3
           have hcz15_4 := bk BK188 4
           have hcz15_5 := bk BK188 5
           have hcz15_6 := bk BK188 6
           have hfz15_0 := blk_frozen BK188.out 0
           have hfz15_1 := blk_frozen BK188.out 1
           have hfz15_2 := blk_frozen BK188.out 2
           have hfz15_3 := blk_frozen BK188.out 3
           have hfz15_4 := blk_frozen BK188.out 4
           have hfz15_5 := blk_frozen BK188.out 5
           have hfz15_6 := blk_frozen BK188.out 6
           go_wp2_with (first | ((with_reducible refine gate_callee (f := 97) rfl ?_); refine gl_ 11 Try.func97 #[.slice A0 l0.length c0, .int .i64 x6_1, .agg #[.int .i64 a1_0, .int .i64 a1_1, .string a1_2, .int .i64 a1_3, .bool a1_4, .bool a1_5, .bool a1_6]] ?_; (with_reducible refine (spec_l09First.calls k1 _ _ l0 x6_1 a1_0 a1_1 a1_2 a1_3 a1_4 a1_5 a1_6 t192 _ ?side1 ?side2 A6.out).mono ?_); (case side1 => repeat (first | exact (Kd.C_below HR0.out HB.out) | (with_reducible refine Kd.C_alloc ?_ _) | (with_reducible refine Kd.C_drewN ?_ _) | (with_reducible refine Kd.C_drew ?_))); (case side2 => exact HC0.out); rintro e w16 ⟨rfl, hb⟩; refine ⟨_, rfl, ?_⟩; have n0_ := Aside0.mk (Kd.R_below (rm_ HO_5) hb); have n1_ := Aside0.mk (bkb BK188 hb); have n2_ := Aside0.mk (bs_ hb); clear HO_5 BK188 HB; revert n0_ n1_ n2_; intro HO_5 BK188 HB; (try clear hb); (try clear hb2); (try clear hk); (try clear hi)) | ((with_reducible refine gate_builtin (b := .append) (xs := #[.tmp 12, .tmp 14]) rfl ?_); at_builtin; refine Kd.R_append (Kd.int .i64) (w0 := w) w.heap.size rfl (.tmp 12) (.tmp 14) 69 2 (.int .i64 0) 8 rfl Try.underlying69 info2 rfl (by decide) (by omega) u5 x5_1 t192 [.int .i64 t192] (fun _ => True) (fun _ => False) rfl rfl ?aP (fun _ hk => hk.elim) ?aF ?aO ?aB ?aS ?aL ?_; (case aP => exact rfl); (case aB => exact bb_); (case aF => exact (fun _ _ => trivial)); (case aO => exact (rm_ HO_5)); (case aS => exact (bz_)); (case aL => have := LMc7.out; omega); intro v194 w17 ho hb hg hat; rw [← Ny193.out] at ho; have n0_ := Aside0.mk (blk_grown (g := gb188) (o := .cells #[.int .i64 a1_0, .int .i64 a1_1, .string a1_2, .int .i64 a1_3, .bool a1_4, .bool a1_5, .bool a1_6] 43 (0, 0)) (by (with_reducible repeat (first | refine blk_drewN ?_ _ | refine blk_drew ?_ | refine blk_alloc ?_ _)); exact BK188.out) hg (Kd.R_ne HO_5.out BK188.out (by decide))); have n1_ := Aside0.mk (hb); have n2_ := Aside0.mk (ho); clear BK188 HB HO_5; revert n0_ n1_ n2_; intro BK188 HB HO195; clear ho hb hg hat; have p196 : 0 ≤ (t192 : Int) := od_; have q196 : t192 < (l0.length : Int) := od_; obtain ⟨ad196, e196, hx196_0, hx196_1, hx196_2, hx196_3, hx196_4, hx196_5, hx196_6⟩ := at_T94 HR0.out t192 p196 q196; cases e196; replace hx196_0 := cel HB hx196_0; replace hx196_1 := cel HB hx196_1; replace hx196_2 := cel HB hx196_2; replace hx196_3 := cel HB hx196_3; replace hx196_4 := cel HB hx196_4; replace hx196_5 := cel HB hx196_5; replace hx196_6 := cel HB hx196_6; replace p196 := eq_true p196; replace q196 := eq_true q196))
           go_ret
           exact ⟨_, by first | rfl | (simp [errW_none, errW_some] <;> rfl) | (simp [*, errW_none, errW_some] <;> rfl), by (with_reducible repeat (first | apply Kd.R_alloc | apply Kd.R_drewN | apply Kd.R_drew)); exact HO195.out, bb_⟩
       · rw [if_neg c9] at H
         exact absurd H (by simp)
     · rw [if_neg c8] at H
       exact absurd H (by simp)
   · rw [if_neg c7] at H
     exact absurd H (by simp)

/-! ### spec_l10Result: function 71 -/
def spec_l10Result.f (k : Nat) (l0 : List (S94)) (a1_0 : Int) (a1_1 : Int) (a1_2 : ByteArray) (a1_3 : Int) (a1_4 : Bool) (a1_5 : Bool) (a1_6 : Bool) : Option (Int) := (spec_l09Chain.f k l0 a1_0 a1_1 a1_2 a1_3 a1_4 a1_5 a1_6).bind fun t200 => (if 0 ≤ (wrap64 ((t200.length : Int) - 1)) then (if (wrap64 ((t200.length : Int) - 1)) < (t200.length : Int) then (if 0 ≤ (rd t200 (wrap64 ((t200.length : Int) - 1))) then (if (rd t200 (wrap64 ((t200.length : Int) - 1))) < (l0.length : Int) then (some ((rd_T94 l0 (rd t200 (wrap64 ((t200.length : Int) - 1)))).f5)) else (none)) else (none)) else (none)) else (none))
theorem spec_l10Result.mono : ∀ a0 a1 a2 a3 a4 a5 a6 a7 k, LeO (spec_l10Result.f k a0 a1 a2 a3 a4 a5 a6 a7) (spec_l10Result.f (k + 1) a0 a1 a2 a3 a4 a5 a6 a7) := by
 intro a0 a1 a2 a3 a4 a5 a6 a7 k
 unfold spec_l10Result.f
 repeat' first
  | (with_reducible exact spec_l09Chain.mono _ _ _ _ _ _ _ _ _)
  | (with_reducible exact LeO.refl _)
  | (with_reducible exact LeO.none _)
  | (with_reducible refine LeO.ite ?_ ?_)
  | (with_reducible refine LeO.bind ?_ (fun _ => ?_))
  | exact spec_l09Chain.mono _ _ _ _ _ _ _ _ _
  | exact LeO.none _
  | refine LeO.ite ?_ ?_
  | refine LeO.bind ?_ (fun _ => ?_)
set_option maxHeartbeats 8000000 in
set_option maxRecDepth 100000 in
theorem spec_l10Result.calls (k : Nat) (A0 : Option Addr) (c0 : Nat) (l0 : List (S94)) (a1_0 : Int) (a1_1 : Int) (a1_2 : ByteArray) (a1_3 : Int) (a1_4 : Bool) (a1_5 : Bool) (a1_6 : Bool) (r : Int) (w : World) (hr0 : Kd.C k94 w A0 l0.length l0) (hc0 : l0.length ≤ c0) (h : spec_l10Result.f k l0 a1_0 a1_1 a1_2 a1_3 a1_4 a1_5 a1_6 = some r) :
 Calls Try.prog 71 #[.slice A0 l0.length c0, .agg #[.int .i64 a1_0, .int .i64 a1_1, .string a1_2, .int .i64 a1_3, .bool a1_4, .bool a1_5, .bool a1_6]] w fun e w' => e = .returned (.int .i64 r) ∧ Below w.heap.size w w' := by
 have hu43 := Try.underlying43
 have HR0 := Aside0.mk hr0
 have HC0 := Aside0.mk hc0
 clear hr0 hc0
 have HB := Aside0.mk (Below.refl w.heap.size w)
 have H : ((spec_l09Chain.f k l0 a1_0 a1_1 a1_2 a1_3 a1_4 a1_5 a1_6).bind fun t200 => (if 0 ≤ (wrap64 ((t200.length : Int) - 1)) then (if (wrap64 ((t200.length : Int) - 1)) < (t200.length : Int) then (if 0 ≤ (rd t200 (wrap64 ((t200.length : Int) - 1))) then (if (rd t200 (wrap64 ((t200.length : Int) - 1))) < (l0.length : Int) then (some ((rd_T94 l0 (rd t200 (wrap64 ((t200.length : Int) - 1)))).f5)) else (none)) else (none)) else (none)) else (none))) = some r := h
 clear h
 replace H := Option.bind_eq_some_iff.mp H
 obtain ⟨t200, A30, H⟩ := H
 replace H : (if 0 ≤ (wrap64 ((t200.length : Int) - 1)) then (if (wrap64 ((t200.length : Int) - 1)) < (t200.length : Int) then (if 0 ≤ (rd t200 (wrap64 ((t200.length : Int) - 1))) then (if (rd t200 (wrap64 ((t200.length : Int) - 1))) < (l0.length : Int) then (some ((rd_T94 l0 (rd t200 (wrap64 ((t200.length : Int) - 1)))).f5)) else (none)) else (none)) else (none)) else (none)) = some r := H
 have A3 := Aside0.mk A30
 clear A30
 obtain ⟨ji4, hji4⟩ : ∃ j_ : Int, (wrap64 ((t200.length : Int) - 1)) = j_ := ⟨_, rfl⟩
 replace H : (if 0 ≤ (ji4) then (if (ji4) < (t200.length : Int) then (if 0 ≤ (rd t200 (ji4)) then (if (rd t200 (ji4)) < (l0.length : Int) then (some ((rd_T94 l0 (rd t200 (ji4))).f5)) else (none)) else (none)) else (none)) else (none)) = some r := by first | (rw [hji4] at H; exact H) | (simp only [hji4] at H ⊢; exact H)
 (try rw [hji4] at A3)
 have hji4w : (IntKind.i64.wrap ((t200.length : Int) - 1)) = ji4 := (i64_w _).trans hji4
 by_cases c5 : 0 ≤ (ji4)
 · rw [if_pos c5] at H
   have c5b0 : decide (0 ≤ (ji4)) = true := decide_eq_true c5
   clear c5
   by_cases c6 : (ji4) < (t200.length : Int)
   · rw [if_pos c6] at H
     have c6b0 : decide ((ji4) < (t200.length : Int)) = true := decide_eq_true c6
     clear c6
     by_cases c7 : 0 ≤ (rd t200 (ji4))
     · rw [if_pos c7] at H
       have c7b0 : decide (0 ≤ (rd t200 (ji4))) = true := decide_eq_true c7
       clear c7
       by_cases c8 : (rd t200 (ji4)) < (l0.length : Int)
       · rw [if_pos c8] at H
         have c8b0 : decide ((rd t200 (ji4)) < (l0.length : Int)) = true := decide_eq_true c8
         clear c8
         obtain rfl := Option.some.inj H
         go_enter Try.func71, Try.ntmps71
         go_wp2_with (first | ((with_reducible refine gate_dst (N := 3) rfl ?_); refine bx_ 3 #[.int .i64 a1_0, .int .i64 a1_1, .string a1_2, .int .i64 a1_3, .bool a1_4, .bool a1_5, .bool a1_6] 43 ?_; intro gb199 hg w9 hbox hb; have n0_ := Aside0.mk (bs_ hb); have n1_ := Aside0.mk (hbox); have n2_ := Aside0.mk ((by rw [hg]; exact (bz_) : w.heap.size ≤ gb199)); have n3_ := Aside0.mk ((by rw [hg]; exact (bz_) : w.heap.size ≤ gb199)); clear HB; revert n0_ n1_ n2_ n3_; intro HB BK199 GW199 GE199; clear hb hbox hg; have hcz10_0 := bk BK199 0; have hcz10_1 := bk BK199 1; have hcz10_2 := bk BK199 2; have hcz10_3 := bk BK199 3; have hcz10_4 := bk BK199 4; have hcz10_5 := bk BK199 5; have hcz10_6 := bk BK199 6; have hfz10_0 := blk_frozen BK199.out 0; have hfz10_1 := blk_frozen BK199.out 1; have hfz10_2 := blk_frozen BK199.out 2; have hfz10_3 := blk_frozen BK199.out 3; have hfz10_4 := blk_frozen BK199.out 4; have hfz10_5 := blk_frozen BK199.out 5; have hfz10_6 := blk_frozen BK199.out 6) | ((with_reducible refine gate_callee (f := 103) rfl ?_); refine gl_ 8 Try.func103 #[.slice A0 l0.length c0, .agg #[.int .i64 a1_0, .int .i64 a1_1, .string a1_2, .int .i64 a1_3, .bool a1_4, .bool a1_5, .bool a1_6]] ?_; (with_reducible refine (spec_l09Chain.calls k _ _ l0 a1_0 a1_1 a1_2 a1_3 a1_4 a1_5 a1_6 t200 _ ?side1 ?side2 A3.out).mono ?_); (case side1 => repeat (first | exact (Kd.C_below HR0.out HB.out) | (with_reducible refine Kd.C_alloc ?_ _) | (with_reducible refine Kd.C_drewN ?_ _) | (with_reducible refine Kd.C_drew ?_))); (case side2 => exact HC0.out); rintro e w11 ⟨v201, rfl, ho0, hb⟩; refine ⟨_, rfl, ?_⟩; have n0_ := Aside0.mk (Kd.R_lower ho0 (bz_)); have n1_ := Aside0.mk (bkb BK199 hb); have n2_ := Aside0.mk (bs_ hb); clear BK199 HB; revert n0_ n1_ n2_; intro HO202 BK199 HB; (try clear hb); (try clear hb2); (try clear hk); (try clear hi); (try clear ho0); obtain ⟨Ao12, co12, eo12⟩ := Kd.R_slice HO202.out; subst eo12; have p203 : 0 ≤ ((ji4) : Int) := od_; have q203 : (ji4) < (t200.length : Int) := od_; obtain ⟨ad203, e203, hx203_0⟩ := Kd.at_int (Kd.R_reads' HO202.out).2.2 (ji4) p203 q203; cases e203; replace p203 := eq_true p203; replace q203 := eq_true q203; have p204 : 0 ≤ ((rd t200 (ji4)) : Int) := od_; have q204 : (rd t200 (ji4)) < (l0.length : Int) := od_; obtain ⟨ad204, e204, hx204_0, hx204_1, hx204_2, hx204_3, hx204_4, hx204_5, hx204_6⟩ := at_T94 HR0.out (rd t200 (ji4)) p204 q204; cases e204; replace hx204_0 := cel HB hx204_0; replace hx204_1 := cel HB hx204_1; replace hx204_2 := cel HB hx204_2; replace hx204_3 := cel HB hx204_3; replace hx204_4 := cel HB hx204_4; replace hx204_5 := cel HB hx204_5; replace hx204_6 := cel HB hx204_6; replace p204 := eq_true p204; replace q204 := eq_true q204))
         go_ret
         exact ⟨by first | rfl | (simp [errW_none, errW_some] <;> rfl) | (simp only [← hji4]; first | rfl | (simp [errW_none, errW_some] <;> rfl)) | (simp [*, errW_none, errW_some] <;> rfl), bb_⟩
       · rw [if_neg c8] at H
         exact absurd H (by simp)
     · rw [if_neg c7] at H
       exact absurd H (by simp)
   · rw [if_neg c6] at H
     exact absurd H (by simp)
 · rw [if_neg c5] at H
   exact absurd H (by simp)

end Go.Proofs.Ytmfbkbbgokjhnaa.F
