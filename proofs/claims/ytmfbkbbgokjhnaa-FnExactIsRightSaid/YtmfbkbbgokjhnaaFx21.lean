-- Written by this session's program (wip/bin/hp.py) over the kit's print: a function's Lean form, and a proof that the call does what it says.
import Derived.Test.YtmfbkbbgokjhnaaFx0
import Derived.Test.YtmfbkbbgokjhnaaSq
import Derived.Test.YtmfbkbbgokjhnaaFx9
import Derived.Test.YtmfbkbbgokjhnaaFx10
import Derived.Test.YtmfbkbbgokjhnaaFx17
import Derived.Test.YtmfbkbbgokjhnaaFx20
namespace Go.Proofs.Ytmfbkbbgokjhnaa.F
open Go.RowKit Go.Proofs.YtmfbkbbgokjhnaaW.PrintWords Go.Proofs.YtmfbkbbgokjhnaaW.PrintLast Go.Proofs.YtmfbkbbgokjhnaaW.PrintMore
attribute [local go_sem] max2_int min2_int max_two min_two max_three min_three max_four min_four   -- for this text's walks alone
set_option linter.unusedVariables false
set_option linter.unusedSimpArgs false

/-! ### laws_FnExactIsRight: function 4 -/
def laws_FnExactIsRight.j0 : Nat → List (S89) → List (S94) → Bool → Int → List ByteArray → Int → List ByteArray → Option (Bool)
 | 0, _, _, _, _, _, _, _ => none
 | k + 1, x0, x10, x58, x257000, x257001, x284000, x284001 => if x58 = true then (some false) else ((laws_toClauseS.f k x0).bind fun t293 => ((laws_eqClauseS.f k x10 t293).bind fun t296 => (if t296 = true then ((laws_toDecision.f k x257000 x257001).bind fun bt297 => ((laws_eqDecision.f k x284000 x284001 bt297.1 bt297.2).bind fun t301 => (if t301 = true then (some true) else (some false)))) else (some false))))
def laws_FnExactIsRight.f (k : Nat) (l0 : List (S89)) (a1_0 : Int) (a1_1 : Int) (a1_2 : ByteArray) (a1_3 : Int) (a1_4 : Bool) (a1_5 : Bool) (a1_6 : Bool) (a2_0 : Int) (l2_1 : List ByteArray) : Option (Bool) := (laws_szClauseS.f k l0 1048576).bind fun t257 => (if t257 < 0 then (some true) else ((laws_szEvent.f a1_0 a1_1 a1_2 a1_3 a1_4 a1_5 a1_6 t257).bind fun t258 => (if t258 < 0 then (some true) else ((laws_szDecision.f k a2_0 l2_1 t258).bind fun t259 => (if t259 < 0 then (some true) else ((laws_toClauseS.f k l0).bind fun t260 => ((laws_toEvent.f a1_0 a1_1 a1_2 a1_3 a1_4 a1_5 a1_6).bind fun bt263 => ((laws_toDecision.f k a2_0 l2_1).bind fun bt270 => ((spec_IsRight.f k t260 bt263.1 bt263.2.1 bt263.2.2.1 bt263.2.2.2.1 bt263.2.2.2.2.1 bt263.2.2.2.2.2.1 bt263.2.2.2.2.2.2 bt270.1 bt270.2).bind fun bt274 => ((laws_toClauseS.f k l0).bind fun t276 => ((laws_toDecision.f k a2_0 l2_1).bind fun bt279 => ((laws_toEvent.f a1_0 a1_1 a1_2 a1_3 a1_4 a1_5 a1_6).bind fun bt284 => ((impl_IsRight.f k t276 bt284.1 bt284.2.1 bt284.2.2.1 bt284.2.2.2.1 bt284.2.2.2.2.1 bt284.2.2.2.2.2.1 bt284.2.2.2.2.2.2 bt279.1 bt279.2).bind fun bt291 => (if (bt291.1 != bt274.1) = true then (laws_FnExactIsRight.j0 k l0 t276 true a2_0 l2_1 bt279.1 bt279.2) else (laws_FnExactIsRight.j0 k l0 t276 (bt291.2 != bt274.2) a2_0 l2_1 bt279.1 bt279.2)))))))))))))))
theorem laws_FnExactIsRight.mono_l : ∀ k, (∀ y0 y1 y2 y3 y4 y5 y6, LeO (laws_FnExactIsRight.j0 k y0 y1 y2 y3 y4 y5 y6) (laws_FnExactIsRight.j0 (k + 1) y0 y1 y2 y3 y4 y5 y6))
 | 0 => fun _ _ _ _ _ _ _ r h => by simp [laws_FnExactIsRight.j0] at h
 | k + 1 => by
  have ih0 := laws_FnExactIsRight.mono_l k
  · intro y0 y1 y2 y3 y4 y5 y6
    unfold laws_FnExactIsRight.j0
    repeat' first
    | (with_reducible exact ih0 _ _ _ _ _ _ _)
    | (with_reducible exact impl_IsRight.mono _ _ _ _ _ _ _ _ _ _ _)
    | (with_reducible exact laws_eqClauseS.mono _ _ _)
    | (with_reducible exact laws_eqDecision.mono _ _ _ _ _)
    | (with_reducible exact laws_szClauseS.mono _ _ _)
    | (with_reducible exact laws_szDecision.mono _ _ _ _)
    | (with_reducible exact laws_toClauseS.mono _ _)
    | (with_reducible exact laws_toDecision.mono _ _ _)
    | (with_reducible exact spec_IsRight.mono _ _ _ _ _ _ _ _ _ _ _)
    | (with_reducible exact LeO.refl _)
    | (with_reducible exact LeO.none _)
    | (with_reducible refine LeO.ite ?_ ?_)
    | (with_reducible refine LeO.bind ?_ (fun _ => ?_))
    | exact ih0 _ _ _ _ _ _ _
    | exact impl_IsRight.mono _ _ _ _ _ _ _ _ _ _ _
    | exact laws_eqClauseS.mono _ _ _
    | exact laws_eqDecision.mono _ _ _ _ _
    | exact laws_szClauseS.mono _ _ _
    | exact laws_szDecision.mono _ _ _ _
    | exact laws_toClauseS.mono _ _
    | exact laws_toDecision.mono _ _ _
    | exact spec_IsRight.mono _ _ _ _ _ _ _ _ _ _ _
    | exact LeO.none _
    | refine LeO.ite ?_ ?_
    | refine LeO.bind ?_ (fun _ => ?_)
theorem laws_FnExactIsRight.mono : ∀ a0 a1 a2 a3 a4 a5 a6 a7 a8 a9 k, LeO (laws_FnExactIsRight.f k a0 a1 a2 a3 a4 a5 a6 a7 a8 a9) (laws_FnExactIsRight.f (k + 1) a0 a1 a2 a3 a4 a5 a6 a7 a8 a9) := by
 intro a0 a1 a2 a3 a4 a5 a6 a7 a8 a9 k
 have ih0 := laws_FnExactIsRight.mono_l k
 unfold laws_FnExactIsRight.f
 repeat' first
  | (with_reducible exact ih0 _ _ _ _ _ _ _)
  | (with_reducible exact impl_IsRight.mono _ _ _ _ _ _ _ _ _ _ _)
  | (with_reducible exact laws_eqClauseS.mono _ _ _)
  | (with_reducible exact laws_eqDecision.mono _ _ _ _ _)
  | (with_reducible exact laws_szClauseS.mono _ _ _)
  | (with_reducible exact laws_szDecision.mono _ _ _ _)
  | (with_reducible exact laws_toClauseS.mono _ _)
  | (with_reducible exact laws_toDecision.mono _ _ _)
  | (with_reducible exact spec_IsRight.mono _ _ _ _ _ _ _ _ _ _ _)
  | (with_reducible exact LeO.refl _)
  | (with_reducible exact LeO.none _)
  | (with_reducible refine LeO.ite ?_ ?_)
  | (with_reducible refine LeO.bind ?_ (fun _ => ?_))
  | exact ih0 _ _ _ _ _ _ _
  | exact impl_IsRight.mono _ _ _ _ _ _ _ _ _ _ _
  | exact laws_eqClauseS.mono _ _ _
  | exact laws_eqDecision.mono _ _ _ _ _
  | exact laws_szClauseS.mono _ _ _
  | exact laws_szDecision.mono _ _ _ _
  | exact laws_toClauseS.mono _ _
  | exact laws_toDecision.mono _ _ _
  | exact spec_IsRight.mono _ _ _ _ _ _ _ _ _ _ _
  | exact LeO.none _
  | refine LeO.ite ?_ ?_
  | refine LeO.bind ?_ (fun _ => ?_)
def laws_FnExactIsRight.T11 : Bool × List (List Nat × List Nat) := (true, [([], []), ([0], [0]), ([], []), ([2, 1], [2]), ([], []), ([4, 3], [4]), ([1, 3, 5, 5], [1, 3, 5]), ([6], [6]), ([7], [7]), ([7], [7]), ([8, 6, 0, 1, 2, 3, 4, 5, 6, 7, 8], [8]), ([9, 10, 0, 1, 2, 3, 4, 5, 6, 7, 8, 9, 10], [9])])
def laws_FnExactIsRight.B11 : List Nat := [0, 1, 0, 7, 0, 31, 63, 127, 255, 255, 511, 2047]
theorem laws_FnExactIsRight.tab11 : rtab .any (opsOf Try.f4 11) = laws_FnExactIsRight.T11 := by kernel_rfl
theorem laws_FnExactIsRight.bits11 : waitsOk laws_FnExactIsRight.T11.2 laws_FnExactIsRight.B11 = true := by kernel_rfl
def laws_FnExactIsRight.T14 : Bool × List (List Nat × List Nat) := (true, [([], []), ([], []), ([1], [1]), ([], []), ([0, 2, 3, 2], [0, 2, 3]), ([4], [4]), ([5], [5]), ([5], [5]), ([6, 4, 0, 1, 2, 3, 4, 5, 6], [6]), ([7, 8, 0, 1, 2, 3, 4, 5, 6, 7, 8], [7])])
def laws_FnExactIsRight.B14 : List Nat := [0, 0, 2, 0, 15, 31, 63, 63, 127, 511]
theorem laws_FnExactIsRight.tab14 : rtab .any (opsOf Try.f4 14) = laws_FnExactIsRight.T14 := by kernel_rfl
theorem laws_FnExactIsRight.bits14 : waitsOk laws_FnExactIsRight.T14.2 laws_FnExactIsRight.B14 = true := by kernel_rfl
set_option maxHeartbeats 8000000 in
set_option maxRecDepth 100000 in
theorem laws_FnExactIsRight.calls (k : Nat) (A0 : Option Addr) (c0 : Nat) (l0 : List (S89)) (a1_0 : Int) (a1_1 : Int) (a1_2 : ByteArray) (a1_3 : Int) (a1_4 : Bool) (a1_5 : Bool) (a1_6 : Bool) (a2_0 : Int) (A2_1 : Option Addr) (c2_1 : Nat) (l2_1 : List ByteArray) (r : Bool) (hrt : Aside0 (r = true)) (w : World) (hr0 : Kd.C k89 w A0 l0.length l0) (hc0 : l0.length ≤ c0) (hr2_1 : Kd.C Kd.string w A2_1 l2_1.length l2_1) (hc2_1 : l2_1.length ≤ c2_1) (h : laws_FnExactIsRight.f k l0 a1_0 a1_1 a1_2 a1_3 a1_4 a1_5 a1_6 a2_0 l2_1 = some r) :
 Calls Try.prog 4 #[.slice A0 l0.length c0, .agg #[.int .i64 a1_0, .int .i64 a1_1, .string a1_2, .int .i64 a1_3, .bool a1_4, .bool a1_5, .bool a1_6], .agg #[.int .i64 a2_0, .slice A2_1 l2_1.length c2_1]] w fun e w' => e = .returned (.bool r) ∧ Below w.heap.size w w' := by
 have hu32 := Try.underlying32
 have hu35 := Try.underlying35
 have hu45 := Try.underlying45
 have HR0 := Aside0.mk hr0
 have HC0 := Aside0.mk hc0
 clear hr0 hc0
 have HR2_1 := Aside0.mk hr2_1
 have HC2_1 := Aside0.mk hc2_1
 clear hr2_1 hc2_1
 have HB := Aside0.mk (Below.refl w.heap.size w)
 have H : ((laws_szClauseS.f k l0 1048576).bind fun t257 => (if t257 < 0 then (some true) else ((laws_szEvent.f a1_0 a1_1 a1_2 a1_3 a1_4 a1_5 a1_6 t257).bind fun t258 => (if t258 < 0 then (some true) else ((laws_szDecision.f k a2_0 l2_1 t258).bind fun t259 => (if t259 < 0 then (some true) else ((laws_toClauseS.f k l0).bind fun t260 => ((laws_toEvent.f a1_0 a1_1 a1_2 a1_3 a1_4 a1_5 a1_6).bind fun bt263 => ((laws_toDecision.f k a2_0 l2_1).bind fun bt270 => ((spec_IsRight.f k t260 bt263.1 bt263.2.1 bt263.2.2.1 bt263.2.2.2.1 bt263.2.2.2.2.1 bt263.2.2.2.2.2.1 bt263.2.2.2.2.2.2 bt270.1 bt270.2).bind fun bt274 => ((laws_toClauseS.f k l0).bind fun t276 => ((laws_toDecision.f k a2_0 l2_1).bind fun bt279 => ((laws_toEvent.f a1_0 a1_1 a1_2 a1_3 a1_4 a1_5 a1_6).bind fun bt284 => ((impl_IsRight.f k t276 bt284.1 bt284.2.1 bt284.2.2.1 bt284.2.2.2.1 bt284.2.2.2.2.1 bt284.2.2.2.2.2.1 bt284.2.2.2.2.2.2 bt279.1 bt279.2).bind fun bt291 => (if (bt291.1 != bt274.1) = true then (laws_FnExactIsRight.j0 k l0 t276 true a2_0 l2_1 bt279.1 bt279.2) else (laws_FnExactIsRight.j0 k l0 t276 (bt291.2 != bt274.2) a2_0 l2_1 bt279.1 bt279.2)))))))))))))))) = some r := h
 clear h
 replace H := Option.bind_eq_some_iff.mp H
 obtain ⟨t257, A40, H⟩ := H
 replace H : (if t257 < 0 then (some true) else ((laws_szEvent.f a1_0 a1_1 a1_2 a1_3 a1_4 a1_5 a1_6 t257).bind fun t258 => (if t258 < 0 then (some true) else ((laws_szDecision.f k a2_0 l2_1 t258).bind fun t259 => (if t259 < 0 then (some true) else ((laws_toClauseS.f k l0).bind fun t260 => ((laws_toEvent.f a1_0 a1_1 a1_2 a1_3 a1_4 a1_5 a1_6).bind fun bt263 => ((laws_toDecision.f k a2_0 l2_1).bind fun bt270 => ((spec_IsRight.f k t260 bt263.1 bt263.2.1 bt263.2.2.1 bt263.2.2.2.1 bt263.2.2.2.2.1 bt263.2.2.2.2.2.1 bt263.2.2.2.2.2.2 bt270.1 bt270.2).bind fun bt274 => ((laws_toClauseS.f k l0).bind fun t276 => ((laws_toDecision.f k a2_0 l2_1).bind fun bt279 => ((laws_toEvent.f a1_0 a1_1 a1_2 a1_3 a1_4 a1_5 a1_6).bind fun bt284 => ((impl_IsRight.f k t276 bt284.1 bt284.2.1 bt284.2.2.1 bt284.2.2.2.1 bt284.2.2.2.2.1 bt284.2.2.2.2.2.1 bt284.2.2.2.2.2.2 bt279.1 bt279.2).bind fun bt291 => (if (bt291.1 != bt274.1) = true then (laws_FnExactIsRight.j0 k l0 t276 true a2_0 l2_1 bt279.1 bt279.2) else (laws_FnExactIsRight.j0 k l0 t276 (bt291.2 != bt274.2) a2_0 l2_1 bt279.1 bt279.2))))))))))))))) = some r := H
 have A4 := Aside0.mk A40
 clear A40
 by_cases c5 : t257 < 0
 · rw [if_pos c5] at H
   have c5b0 : decide (t257 < 0) = true := decide_eq_true c5
   clear c5
   obtain rfl := Option.some.inj H
   go_enter Try.func4, Try.ntmps4
   go_wp2_with (first | ((with_reducible refine gate_dst (N := 4) rfl ?_); refine box_event ?hg (N := 4) ?hd (cs := #[.int .i64 a1_0, .int .i64 a1_1, .string a1_2, .int .i64 a1_3, .bool a1_4, .bool a1_5, .bool a1_6]) (t := 32) ?hr ?_; (case hd => rfl); (case hg => rfl); (case hr => first | (go_simp; done) | (go_simp; rfl)); intro gb255 hg w6 hbox hb; have n0_ := Aside0.mk (bs_ hb); have n1_ := Aside0.mk (hbox); have n2_ := Aside0.mk ((by rw [hg]; exact (bz_) : w.heap.size ≤ gb255)); have n3_ := Aside0.mk ((by rw [hg]; exact (bz_) : w.heap.size ≤ gb255)); clear HB; have HB := n0_; have BK255 := n1_; have GW255 := n2_; have GE255 := n3_; clear n0_ n1_ n2_ n3_; clear hb hbox hg) | ((with_reducible refine gate_dst (N := 5) rfl ?_); refine box_event ?hg (N := 5) ?hd (cs := #[.int .i64 a2_0, .slice A2_1 l2_1.length c2_1]) (t := 35) ?hr ?_; (case hd => rfl); (case hg => rfl); (case hr => first | (go_simp; done) | (go_simp; rfl)); intro gb256 hg w7 hbox hb; have n0_ := Aside0.mk (blk_below (g := gb255) (o := .cells #[.int .i64 a1_0, .int .i64 a1_1, .string a1_2, .int .i64 a1_3, .bool a1_4, .bool a1_5, .bool a1_6] 32 (0, 0)) (by (with_reducible repeat (first | refine blk_drewN ?_ _ | refine blk_drew ?_ | refine blk_alloc ?_ _)); exact BK255.out) hb); have n1_ := Aside0.mk (bs_ hb); have n2_ := Aside0.mk (hbox); have n3_ := Aside0.mk ((by rw [hg]; exact (bz_) : w.heap.size ≤ gb256)); have n4_ := Aside0.mk ((by rw [hg]; exact (bz_) : w.heap.size ≤ gb256)); have n5_ := Aside0.mk ((by rw [hg]; exact Nat.ne_of_lt (blk_lt (g := gb255) (o := .cells #[.int .i64 a1_0, .int .i64 a1_1, .string a1_2, .int .i64 a1_3, .bool a1_4, .bool a1_5, .bool a1_6] 32 (0, 0)) (by (with_reducible repeat (first | refine blk_drewN ?_ _ | refine blk_drew ?_ | refine blk_alloc ?_ _)); exact BK255.out)) : gb255 ≠ gb256)); have n6_ := Aside0.mk ((by rw [hg]; exact Nat.ne_of_gt (blk_lt (g := gb255) (o := .cells #[.int .i64 a1_0, .int .i64 a1_1, .string a1_2, .int .i64 a1_3, .bool a1_4, .bool a1_5, .bool a1_6] 32 (0, 0)) (by (with_reducible repeat (first | refine blk_drewN ?_ _ | refine blk_drew ?_ | refine blk_alloc ?_ _)); exact BK255.out)) : gb256 ≠ gb255)); clear BK255; clear HB; have BK255 := n0_; have HB := n1_; have BK256 := n2_; have GW256 := n3_; have GE256 := n4_; have NB255_256 := n5_; have NB256_255 := n6_; clear n0_ n1_ n2_ n3_ n4_ n5_ n6_; clear hb hbox hg) | ((with_reducible refine gate_callee (f := 14) rfl ?_); refine goesL_ (some 16) rfl rfl Try.func14 (by kernel_rfl) rfl #[.slice A0 l0.length c0, .int .i64 1048576] rfl (by (try simp only [List.map_toArray, List.map_cons, List.map_nil]); first | done | rfl | (simp only [List.length_drop, List.length_take]; rfl)) ?_; (with_reducible refine (laws_szClauseS.calls k _ _ l0 1048576 t257 _ ?side1 ?side2 A4.out).mono ?_); (case side1 => repeat (first | exact (Kd.C_below HR0.out HB.out) | (with_reducible refine Kd.C_alloc ?_ _) | (with_reducible refine Kd.C_drewN ?_ _) | (with_reducible refine Kd.C_drew ?_))); (case side2 => exact HC0.out); rintro e w8 ⟨rfl, hb⟩; refine ⟨_, rfl, ?_⟩; have n0_ := Aside0.mk (blk_below (g := gb255) (o := .cells #[.int .i64 a1_0, .int .i64 a1_1, .string a1_2, .int .i64 a1_3, .bool a1_4, .bool a1_5, .bool a1_6] 32 (0, 0)) (by (with_reducible repeat (first | refine blk_drewN ?_ _ | refine blk_drew ?_ | refine blk_alloc ?_ _)); exact BK255.out) hb); have n1_ := Aside0.mk (blk_below (g := gb256) (o := .cells #[.int .i64 a2_0, .slice A2_1 l2_1.length c2_1] 35 (0, 0)) (by (with_reducible repeat (first | refine blk_drewN ?_ _ | refine blk_drew ?_ | refine blk_alloc ?_ _)); exact BK256.out) hb); have n2_ := Aside0.mk (bs_ hb); clear BK255; clear BK256; clear HB; have BK255 := n0_; have BK256 := n1_; have HB := n2_; clear n0_ n1_ n2_; (try clear hb); (try clear hb2); (try clear hk); (try clear hi)))
   go_ret
   exact ⟨by first | rfl | (simp [errW_none, errW_some] <;> rfl) | (simp [*, errW_none, errW_some] <;> rfl), bb_⟩
 · rw [if_neg c5] at H
   have c5b0 : decide (t257 < 0) = false := decide_eq_false c5
   clear c5
   replace H := Option.bind_eq_some_iff.mp H
   obtain ⟨t258, A90, H⟩ := H
   replace H : (if t258 < 0 then (some true) else ((laws_szDecision.f k a2_0 l2_1 t258).bind fun t259 => (if t259 < 0 then (some true) else ((laws_toClauseS.f k l0).bind fun t260 => ((laws_toEvent.f a1_0 a1_1 a1_2 a1_3 a1_4 a1_5 a1_6).bind fun bt263 => ((laws_toDecision.f k a2_0 l2_1).bind fun bt270 => ((spec_IsRight.f k t260 bt263.1 bt263.2.1 bt263.2.2.1 bt263.2.2.2.1 bt263.2.2.2.2.1 bt263.2.2.2.2.2.1 bt263.2.2.2.2.2.2 bt270.1 bt270.2).bind fun bt274 => ((laws_toClauseS.f k l0).bind fun t276 => ((laws_toDecision.f k a2_0 l2_1).bind fun bt279 => ((laws_toEvent.f a1_0 a1_1 a1_2 a1_3 a1_4 a1_5 a1_6).bind fun bt284 => ((impl_IsRight.f k t276 bt284.1 bt284.2.1 bt284.2.2.1 bt284.2.2.2.1 bt284.2.2.2.2.1 bt284.2.2.2.2.2.1 bt284.2.2.2.2.2.2 bt279.1 bt279.2).bind fun bt291 => (if (bt291.1 != bt274.1) = true then (laws_FnExactIsRight.j0 k l0 t276 true a2_0 l2_1 bt279.1 bt279.2) else (laws_FnExactIsRight.j0 k l0 t276 (bt291.2 != bt274.2) a2_0 l2_1 bt279.1 bt279.2))))))))))))) = some r := H
   have A9 := Aside0.mk A90
   clear A90
   by_cases c10 : t258 < 0
   · rw [if_pos c10] at H
     have c10b0 : decide (t258 < 0) = true := decide_eq_true c10
     clear c10
     obtain rfl := Option.some.inj H
     go_enter Try.func4, Try.ntmps4
     go_wp2_with (first | ((with_reducible refine gate_dst (N := 4) rfl ?_); refine box_event ?hg (N := 4) ?hd (cs := #[.int .i64 a1_0, .int .i64 a1_1, .string a1_2, .int .i64 a1_3, .bool a1_4, .bool a1_5, .bool a1_6]) (t := 32) ?hr ?_; (case hd => rfl); (case hg => rfl); (case hr => first | (go_simp; done) | (go_simp; rfl)); intro gb255 hg w11 hbox hb; have n0_ := Aside0.mk (bs_ hb); have n1_ := Aside0.mk (hbox); have n2_ := Aside0.mk ((by rw [hg]; exact (bz_) : w.heap.size ≤ gb255)); have n3_ := Aside0.mk ((by rw [hg]; exact (bz_) : w.heap.size ≤ gb255)); clear HB; have HB := n0_; have BK255 := n1_; have GW255 := n2_; have GE255 := n3_; clear n0_ n1_ n2_ n3_; clear hb hbox hg) | ((with_reducible refine gate_dst (N := 5) rfl ?_); refine box_event ?hg (N := 5) ?hd (cs := #[.int .i64 a2_0, .slice A2_1 l2_1.length c2_1]) (t := 35) ?hr ?_; (case hd => rfl); (case hg => rfl); (case hr => first | (go_simp; done) | (go_simp; rfl)); intro gb256 hg w12 hbox hb; have n0_ := Aside0.mk (blk_below (g := gb255) (o := .cells #[.int .i64 a1_0, .int .i64 a1_1, .string a1_2, .int .i64 a1_3, .bool a1_4, .bool a1_5, .bool a1_6] 32 (0, 0)) (by (with_reducible repeat (first | refine blk_drewN ?_ _ | refine blk_drew ?_ | refine blk_alloc ?_ _)); exact BK255.out) hb); have n1_ := Aside0.mk (bs_ hb); have n2_ := Aside0.mk (hbox); have n3_ := Aside0.mk ((by rw [hg]; exact (bz_) : w.heap.size ≤ gb256)); have n4_ := Aside0.mk ((by rw [hg]; exact (bz_) : w.heap.size ≤ gb256)); have n5_ := Aside0.mk ((by rw [hg]; exact Nat.ne_of_lt (blk_lt (g := gb255) (o := .cells #[.int .i64 a1_0, .int .i64 a1_1, .string a1_2, .int .i64 a1_3, .bool a1_4, .bool a1_5, .bool a1_6] 32 (0, 0)) (by (with_reducible repeat (first | refine blk_drewN ?_ _ | refine blk_drew ?_ | refine blk_alloc ?_ _)); exact BK255.out)) : gb255 ≠ gb256)); have n6_ := Aside0.mk ((by rw [hg]; exact Nat.ne_of_gt (blk_lt (g := gb255) (o := .cells #[.int .i64 a1_0, .int .i64 a1_1, .string a1_2, .int .i64 a1_3, .bool a1_4, .bool a1_5, .bool a1_6] 32 (0, 0)) (by (with_reducible repeat (first | refine blk_drewN ?_ _ | refine blk_drew ?_ | refine blk_alloc ?_ _)); exact BK255.out)) : gb256 ≠ gb255)); clear BK255; clear HB; have BK255 := n0_; have HB := n1_; have BK256 := n2_; have GW256 := n3_; have GE256 := n4_; have NB255_256 := n5_; have NB256_255 := n6_; clear n0_ n1_ n2_ n3_ n4_ n5_ n6_; clear hb hbox hg) | ((with_reducible refine gate_callee (f := 14) rfl ?_); refine goesL_ (some 16) rfl rfl Try.func14 (by kernel_rfl) rfl #[.slice A0 l0.length c0, .int .i64 1048576] rfl (by (try simp only [List.map_toArray, List.map_cons, List.map_nil]); first | done | rfl | (simp only [List.length_drop, List.length_take]; rfl)) ?_; (with_reducible refine (laws_szClauseS.calls k _ _ l0 1048576 t257 _ ?side1 ?side2 A4.out).mono ?_); (case side1 => repeat (first | exact (Kd.C_below HR0.out HB.out) | (with_reducible refine Kd.C_alloc ?_ _) | (with_reducible refine Kd.C_drewN ?_ _) | (with_reducible refine Kd.C_drew ?_))); (case side2 => exact HC0.out); rintro e w13 ⟨rfl, hb⟩; refine ⟨_, rfl, ?_⟩; have n0_ := Aside0.mk (blk_below (g := gb255) (o := .cells #[.int .i64 a1_0, .int .i64 a1_1, .string a1_2, .int .i64 a1_3, .bool a1_4, .bool a1_5, .bool a1_6] 32 (0, 0)) (by (with_reducible repeat (first | refine blk_drewN ?_ _ | refine blk_drew ?_ | refine blk_alloc ?_ _)); exact BK255.out) hb); have n1_ := Aside0.mk (blk_below (g := gb256) (o := .cells #[.int .i64 a2_0, .slice A2_1 l2_1.length c2_1] 35 (0, 0)) (by (with_reducible repeat (first | refine blk_drewN ?_ _ | refine blk_drew ?_ | refine blk_alloc ?_ _)); exact BK256.out) hb); have n2_ := Aside0.mk (bs_ hb); clear BK255; clear BK256; clear HB; have BK255 := n0_; have BK256 := n1_; have HB := n2_; clear n0_ n1_ n2_; (try clear hb); (try clear hb2); (try clear hk); (try clear hi); have hnb14 := NB255_256.out; have hnc14 := NB256_255.out; have hcz15_0 := bk BK255 0; have hcz15_1 := bk BK255 1; have hcz15_2 := bk BK255 2; have hcz15_3 := bk BK255 3; have hcz15_4 := bk BK255 4; have hcz15_5 := bk BK255 5; have hcz15_6 := bk BK255 6; have hfz15_0 := blk_frozen BK255.out 0; have hfz15_1 := blk_frozen BK255.out 1; have hfz15_2 := blk_frozen BK255.out 2; have hfz15_3 := blk_frozen BK255.out 3; have hfz15_4 := blk_frozen BK255.out 4; have hfz15_5 := blk_frozen BK255.out 5; have hfz15_6 := blk_frozen BK255.out 6) | ((with_reducible refine gate_callee (f := 15) rfl ?_); refine goesL_ (some 21) rfl rfl Try.func15 (by kernel_rfl) rfl #[.agg #[.int .i64 a1_0, .int .i64 a1_1, .string a1_2, .int .i64 a1_3, .bool a1_4, .bool a1_5, .bool a1_6], .int .i64 t257] rfl (by (try simp only [List.map_toArray, List.map_cons, List.map_nil]); first | done | rfl | (simp only [List.length_drop, List.length_take]; rfl)) ?_; (with_reducible refine (laws_szEvent.calls a1_0 a1_1 a1_2 a1_3 a1_4 a1_5 a1_6 t257 t258 _ A9.out).mono ?_); rintro e w16 ⟨rfl, hb⟩; refine ⟨_, rfl, ?_⟩; have n0_ := Aside0.mk (blk_below (g := gb255) (o := .cells #[.int .i64 a1_0, .int .i64 a1_1, .string a1_2, .int .i64 a1_3, .bool a1_4, .bool a1_5, .bool a1_6] 32 (0, 0)) (by (with_reducible repeat (first | refine blk_drewN ?_ _ | refine blk_drew ?_ | refine blk_alloc ?_ _)); exact BK255.out) hb); have n1_ := Aside0.mk (blk_below (g := gb256) (o := .cells #[.int .i64 a2_0, .slice A2_1 l2_1.length c2_1] 35 (0, 0)) (by (with_reducible repeat (first | refine blk_drewN ?_ _ | refine blk_drew ?_ | refine blk_alloc ?_ _)); exact BK256.out) hb); have n2_ := Aside0.mk (bs_ hb); clear BK255; clear BK256; clear HB; have BK255 := n0_; have BK256 := n1_; have HB := n2_; clear n0_ n1_ n2_; (try clear hb); (try clear hb2); (try clear hk); (try clear hi)))
     go_ret
     exact ⟨by first | rfl | (simp [errW_none, errW_some] <;> rfl) | (simp [*, errW_none, errW_some] <;> rfl), bb_⟩
   · rw [if_neg c10] at H
     have c10b0 : decide (t258 < 0) = false := decide_eq_false c10
     clear c10
     replace H := Option.bind_eq_some_iff.mp H
     obtain ⟨t259, A170, H⟩ := H
     replace H : (if t259 < 0 then (some true) else ((laws_toClauseS.f k l0).bind fun t260 => ((laws_toEvent.f a1_0 a1_1 a1_2 a1_3 a1_4 a1_5 a1_6).bind fun bt263 => ((laws_toDecision.f k a2_0 l2_1).bind fun bt270 => ((spec_IsRight.f k t260 bt263.1 bt263.2.1 bt263.2.2.1 bt263.2.2.2.1 bt263.2.2.2.2.1 bt263.2.2.2.2.2.1 bt263.2.2.2.2.2.2 bt270.1 bt270.2).bind fun bt274 => ((laws_toClauseS.f k l0).bind fun t276 => ((laws_toDecision.f k a2_0 l2_1).bind fun bt279 => ((laws_toEvent.f a1_0 a1_1 a1_2 a1_3 a1_4 a1_5 a1_6).bind fun bt284 => ((impl_IsRight.f k t276 bt284.1 bt284.2.1 bt284.2.2.1 bt284.2.2.2.1 bt284.2.2.2.2.1 bt284.2.2.2.2.2.1 bt284.2.2.2.2.2.2 bt279.1 bt279.2).bind fun bt291 => (if (bt291.1 != bt274.1) = true then (laws_FnExactIsRight.j0 k l0 t276 true a2_0 l2_1 bt279.1 bt279.2) else (laws_FnExactIsRight.j0 k l0 t276 (bt291.2 != bt274.2) a2_0 l2_1 bt279.1 bt279.2))))))))))) = some r := H
     have A17 := Aside0.mk A170
     clear A170
     by_cases c18 : t259 < 0
     · rw [if_pos c18] at H
       have c18b0 : decide (t259 < 0) = true := decide_eq_true c18
       clear c18
       obtain rfl := Option.some.inj H
       go_enter Try.func4, Try.ntmps4
       go_wp2_with (first | ((with_reducible refine gate_dst (N := 4) rfl ?_); refine box_event ?hg (N := 4) ?hd (cs := #[.int .i64 a1_0, .int .i64 a1_1, .string a1_2, .int .i64 a1_3, .bool a1_4, .bool a1_5, .bool a1_6]) (t := 32) ?hr ?_; (case hd => rfl); (case hg => rfl); (case hr => first | (go_simp; done) | (go_simp; rfl)); intro gb255 hg w19 hbox hb; have n0_ := Aside0.mk (bs_ hb); have n1_ := Aside0.mk (hbox); have n2_ := Aside0.mk ((by rw [hg]; exact (bz_) : w.heap.size ≤ gb255)); have n3_ := Aside0.mk ((by rw [hg]; exact (bz_) : w.heap.size ≤ gb255)); clear HB; have HB := n0_; have BK255 := n1_; have GW255 := n2_; have GE255 := n3_; clear n0_ n1_ n2_ n3_; clear hb hbox hg) | ((with_reducible refine gate_dst (N := 5) rfl ?_); refine box_event ?hg (N := 5) ?hd (cs := #[.int .i64 a2_0, .slice A2_1 l2_1.length c2_1]) (t := 35) ?hr ?_; (case hd => rfl); (case hg => rfl); (case hr => first | (go_simp; done) | (go_simp; rfl)); intro gb256 hg w20 hbox hb; have n0_ := Aside0.mk (blk_below (g := gb255) (o := .cells #[.int .i64 a1_0, .int .i64 a1_1, .string a1_2, .int .i64 a1_3, .bool a1_4, .bool a1_5, .bool a1_6] 32 (0, 0)) (by (with_reducible repeat (first | refine blk_drewN ?_ _ | refine blk_drew ?_ | refine blk_alloc ?_ _)); exact BK255.out) hb); have n1_ := Aside0.mk (bs_ hb); have n2_ := Aside0.mk (hbox); have n3_ := Aside0.mk ((by rw [hg]; exact (bz_) : w.heap.size ≤ gb256)); have n4_ := Aside0.mk ((by rw [hg]; exact (bz_) : w.heap.size ≤ gb256)); have n5_ := Aside0.mk ((by rw [hg]; exact Nat.ne_of_lt (blk_lt (g := gb255) (o := .cells #[.int .i64 a1_0, .int .i64 a1_1, .string a1_2, .int .i64 a1_3, .bool a1_4, .bool a1_5, .bool a1_6] 32 (0, 0)) (by (with_reducible repeat (first | refine blk_drewN ?_ _ | refine blk_drew ?_ | refine blk_alloc ?_ _)); exact BK255.out)) : gb255 ≠ gb256)); have n6_ := Aside0.mk ((by rw [hg]; exact Nat.ne_of_gt (blk_lt (g := gb255) (o := .cells #[.int .i64 a1_0, .int .i64 a1_1, .string a1_2, .int .i64 a1_3, .bool a1_4, .bool a1_5, .bool a1_6] 32 (0, 0)) (by (with_reducible repeat (first | refine blk_drewN ?_ _ | refine blk_drew ?_ | refine blk_alloc ?_ _)); exact BK255.out)) : gb256 ≠ gb255)); clear BK255; clear HB; have BK255 := n0_; have HB := n1_; have BK256 := n2_; have GW256 := n3_; have GE256 := n4_; have NB255_256 := n5_; have NB256_255 := n6_; clear n0_ n1_ n2_ n3_ n4_ n5_ n6_; clear hb hbox hg) | ((with_reducible refine gate_callee (f := 14) rfl ?_); refine goesL_ (some 16) rfl rfl Try.func14 (by kernel_rfl) rfl #[.slice A0 l0.length c0, .int .i64 1048576] rfl (by (try simp only [List.map_toArray, List.map_cons, List.map_nil]); first | done | rfl | (simp only [List.length_drop, List.length_take]; rfl)) ?_; (with_reducible refine (laws_szClauseS.calls k _ _ l0 1048576 t257 _ ?side1 ?side2 A4.out).mono ?_); (case side1 => repeat (first | exact (Kd.C_below HR0.out HB.out) | (with_reducible refine Kd.C_alloc ?_ _) | (with_reducible refine Kd.C_drewN ?_ _) | (with_reducible refine Kd.C_drew ?_))); (case side2 => exact HC0.out); rintro e w21 ⟨rfl, hb⟩; refine ⟨_, rfl, ?_⟩; have n0_ := Aside0.mk (blk_below (g := gb255) (o := .cells #[.int .i64 a1_0, .int .i64 a1_1, .string a1_2, .int .i64 a1_3, .bool a1_4, .bool a1_5, .bool a1_6] 32 (0, 0)) (by (with_reducible repeat (first | refine blk_drewN ?_ _ | refine blk_drew ?_ | refine blk_alloc ?_ _)); exact BK255.out) hb); have n1_ := Aside0.mk (blk_below (g := gb256) (o := .cells #[.int .i64 a2_0, .slice A2_1 l2_1.length c2_1] 35 (0, 0)) (by (with_reducible repeat (first | refine blk_drewN ?_ _ | refine blk_drew ?_ | refine blk_alloc ?_ _)); exact BK256.out) hb); have n2_ := Aside0.mk (bs_ hb); clear BK255; clear BK256; clear HB; have BK255 := n0_; have BK256 := n1_; have HB := n2_; clear n0_ n1_ n2_; (try clear hb); (try clear hb2); (try clear hk); (try clear hi); have hnb22 := NB255_256.out; have hnc22 := NB256_255.out; have hcz23_0 := bk BK255 0; have hcz23_1 := bk BK255 1; have hcz23_2 := bk BK255 2; have hcz23_3 := bk BK255 3; have hcz23_4 := bk BK255 4; have hcz23_5 := bk BK255 5; have hcz23_6 := bk BK255 6; have hfz23_0 := blk_frozen BK255.out 0; have hfz23_1 := blk_frozen BK255.out 1; have hfz23_2 := blk_frozen BK255.out 2; have hfz23_3 := blk_frozen BK255.out 3; have hfz23_4 := blk_frozen BK255.out 4; have hfz23_5 := blk_frozen BK255.out 5; have hfz23_6 := blk_frozen BK255.out 6) | ((with_reducible refine gate_callee (f := 15) rfl ?_); refine goesL_ (some 21) rfl rfl Try.func15 (by kernel_rfl) rfl #[.agg #[.int .i64 a1_0, .int .i64 a1_1, .string a1_2, .int .i64 a1_3, .bool a1_4, .bool a1_5, .bool a1_6], .int .i64 t257] rfl (by (try simp only [List.map_toArray, List.map_cons, List.map_nil]); first | done | rfl | (simp only [List.length_drop, List.length_take]; rfl)) ?_; (with_reducible refine (laws_szEvent.calls a1_0 a1_1 a1_2 a1_3 a1_4 a1_5 a1_6 t257 t258 _ A9.out).mono ?_); rintro e w24 ⟨rfl, hb⟩; refine ⟨_, rfl, ?_⟩; have n0_ := Aside0.mk (blk_below (g := gb255) (o := .cells #[.int .i64 a1_0, .int .i64 a1_1, .string a1_2, .int .i64 a1_3, .bool a1_4, .bool a1_5, .bool a1_6] 32 (0, 0)) (by (with_reducible repeat (first | refine blk_drewN ?_ _ | refine blk_drew ?_ | refine blk_alloc ?_ _)); exact BK255.out) hb); have n1_ := Aside0.mk (blk_below (g := gb256) (o := .cells #[.int .i64 a2_0, .slice A2_1 l2_1.length c2_1] 35 (0, 0)) (by (with_reducible repeat (first | refine blk_drewN ?_ _ | refine blk_drew ?_ | refine blk_alloc ?_ _)); exact BK256.out) hb); have n2_ := Aside0.mk (bs_ hb); clear BK255; clear BK256; clear HB; have BK255 := n0_; have BK256 := n1_; have HB := n2_; clear n0_ n1_ n2_; (try clear hb); (try clear hb2); (try clear hk); (try clear hi); have hcz25_0 := bk BK256 0; have hcz25_1 := bk BK256 1; have hfz25_0 := blk_frozen BK256.out 0; have hfz25_1 := blk_frozen BK256.out 1) | ((with_reducible refine gate_callee (f := 16) rfl ?_); refine goesL_ (some 26) rfl rfl Try.func16 (by kernel_rfl) rfl #[.agg #[.int .i64 a2_0, .slice A2_1 l2_1.length c2_1], .int .i64 t258] rfl (by (try simp only [List.map_toArray, List.map_cons, List.map_nil]); first | done | rfl | (simp only [List.length_drop, List.length_take]; rfl)) ?_; (with_reducible refine (laws_szDecision.calls k a2_0 _ _ l2_1 t258 t259 _ ?side1 ?side2 A17.out).mono ?_); (case side1 => repeat (first | exact (Kd.C_below HR2_1.out HB.out) | (with_reducible refine Kd.C_alloc ?_ _) | (with_reducible refine Kd.C_drewN ?_ _) | (with_reducible refine Kd.C_drew ?_))); (case side2 => exact HC2_1.out); rintro e w26 ⟨rfl, hb⟩; refine ⟨_, rfl, ?_⟩; have n0_ := Aside0.mk (blk_below (g := gb255) (o := .cells #[.int .i64 a1_0, .int .i64 a1_1, .string a1_2, .int .i64 a1_3, .bool a1_4, .bool a1_5, .bool a1_6] 32 (0, 0)) (by (with_reducible repeat (first | refine blk_drewN ?_ _ | refine blk_drew ?_ | refine blk_alloc ?_ _)); exact BK255.out) hb); have n1_ := Aside0.mk (blk_below (g := gb256) (o := .cells #[.int .i64 a2_0, .slice A2_1 l2_1.length c2_1] 35 (0, 0)) (by (with_reducible repeat (first | refine blk_drewN ?_ _ | refine blk_drew ?_ | refine blk_alloc ?_ _)); exact BK256.out) hb); have n2_ := Aside0.mk (bs_ hb); clear BK255; clear BK256; clear HB; have BK255 := n0_; have BK256 := n1_; have HB := n2_; clear n0_ n1_ n2_; (try clear hb); (try clear hb2); (try clear hk); (try clear hi)))
       go_ret
       exact ⟨by first | rfl | (simp [errW_none, errW_some] <;> rfl) | (simp [*, errW_none, errW_some] <;> rfl), bb_⟩
     · rw [if_neg c18] at H
       have c18b0 : decide (t259 < 0) = false := decide_eq_false c18
       clear c18
       replace H := Option.bind_eq_some_iff.mp H
       obtain ⟨t260, A270, H⟩ := H
       replace H : ((laws_toEvent.f a1_0 a1_1 a1_2 a1_3 a1_4 a1_5 a1_6).bind fun bt263 => ((laws_toDecision.f k a2_0 l2_1).bind fun bt270 => ((spec_IsRight.f k t260 bt263.1 bt263.2.1 bt263.2.2.1 bt263.2.2.2.1 bt263.2.2.2.2.1 bt263.2.2.2.2.2.1 bt263.2.2.2.2.2.2 bt270.1 bt270.2).bind fun bt274 => ((laws_toClauseS.f k l0).bind fun t276 => ((laws_toDecision.f k a2_0 l2_1).bind fun bt279 => ((laws_toEvent.f a1_0 a1_1 a1_2 a1_3 a1_4 a1_5 a1_6).bind fun bt284 => ((impl_IsRight.f k t276 bt284.1 bt284.2.1 bt284.2.2.1 bt284.2.2.2.1 bt284.2.2.2.2.1 bt284.2.2.2.2.2.1 bt284.2.2.2.2.2.2 bt279.1 bt279.2).bind fun bt291 => (if (bt291.1 != bt274.1) = true then (laws_FnExactIsRight.j0 k l0 t276 true a2_0 l2_1 bt279.1 bt279.2) else (laws_FnExactIsRight.j0 k l0 t276 (bt291.2 != bt274.2) a2_0 l2_1 bt279.1 bt279.2))))))))) = some r := H
       have A27 := Aside0.mk A270
       clear A270
       replace H := Option.bind_eq_some_iff.mp H
       obtain ⟨⟨t263, t264, t265, t266, t267, t268, t269⟩, A280, H⟩ := H
       replace H : ((laws_toDecision.f k a2_0 l2_1).bind fun bt270 => ((spec_IsRight.f k t260 t263 t264 t265 t266 t267 t268 t269 bt270.1 bt270.2).bind fun bt274 => ((laws_toClauseS.f k l0).bind fun t276 => ((laws_toDecision.f k a2_0 l2_1).bind fun bt279 => ((laws_toEvent.f a1_0 a1_1 a1_2 a1_3 a1_4 a1_5 a1_6).bind fun bt284 => ((impl_IsRight.f k t276 bt284.1 bt284.2.1 bt284.2.2.1 bt284.2.2.2.1 bt284.2.2.2.2.1 bt284.2.2.2.2.2.1 bt284.2.2.2.2.2.2 bt279.1 bt279.2).bind fun bt291 => (if (bt291.1 != bt274.1) = true then (laws_FnExactIsRight.j0 k l0 t276 true a2_0 l2_1 bt279.1 bt279.2) else (laws_FnExactIsRight.j0 k l0 t276 (bt291.2 != bt274.2) a2_0 l2_1 bt279.1 bt279.2)))))))) = some r := H
       have A28 := Aside0.mk A280
       clear A280
       replace H := Option.bind_eq_some_iff.mp H
       obtain ⟨⟨t270, t271⟩, A290, H⟩ := H
       replace H : ((spec_IsRight.f k t260 t263 t264 t265 t266 t267 t268 t269 t270 t271).bind fun bt274 => ((laws_toClauseS.f k l0).bind fun t276 => ((laws_toDecision.f k a2_0 l2_1).bind fun bt279 => ((laws_toEvent.f a1_0 a1_1 a1_2 a1_3 a1_4 a1_5 a1_6).bind fun bt284 => ((impl_IsRight.f k t276 bt284.1 bt284.2.1 bt284.2.2.1 bt284.2.2.2.1 bt284.2.2.2.2.1 bt284.2.2.2.2.2.1 bt284.2.2.2.2.2.2 bt279.1 bt279.2).bind fun bt291 => (if (bt291.1 != bt274.1) = true then (laws_FnExactIsRight.j0 k l0 t276 true a2_0 l2_1 bt279.1 bt279.2) else (laws_FnExactIsRight.j0 k l0 t276 (bt291.2 != bt274.2) a2_0 l2_1 bt279.1 bt279.2))))))) = some r := H
       have A29 := Aside0.mk A290
       clear A290
       replace H := Option.bind_eq_some_iff.mp H
       obtain ⟨⟨t274, t275⟩, A300, H⟩ := H
       replace H : ((laws_toClauseS.f k l0).bind fun t276 => ((laws_toDecision.f k a2_0 l2_1).bind fun bt279 => ((laws_toEvent.f a1_0 a1_1 a1_2 a1_3 a1_4 a1_5 a1_6).bind fun bt284 => ((impl_IsRight.f k t276 bt284.1 bt284.2.1 bt284.2.2.1 bt284.2.2.2.1 bt284.2.2.2.2.1 bt284.2.2.2.2.2.1 bt284.2.2.2.2.2.2 bt279.1 bt279.2).bind fun bt291 => (if (bt291.1 != t274) = true then (laws_FnExactIsRight.j0 k l0 t276 true a2_0 l2_1 bt279.1 bt279.2) else (laws_FnExactIsRight.j0 k l0 t276 (bt291.2 != t275) a2_0 l2_1 bt279.1 bt279.2)))))) = some r := H
       have A30 := Aside0.mk A300
       clear A300
       replace H := Option.bind_eq_some_iff.mp H
       obtain ⟨t276, A310, H⟩ := H
       replace H : ((laws_toDecision.f k a2_0 l2_1).bind fun bt279 => ((laws_toEvent.f a1_0 a1_1 a1_2 a1_3 a1_4 a1_5 a1_6).bind fun bt284 => ((impl_IsRight.f k t276 bt284.1 bt284.2.1 bt284.2.2.1 bt284.2.2.2.1 bt284.2.2.2.2.1 bt284.2.2.2.2.2.1 bt284.2.2.2.2.2.2 bt279.1 bt279.2).bind fun bt291 => (if (bt291.1 != t274) = true then (laws_FnExactIsRight.j0 k l0 t276 true a2_0 l2_1 bt279.1 bt279.2) else (laws_FnExactIsRight.j0 k l0 t276 (bt291.2 != t275) a2_0 l2_1 bt279.1 bt279.2))))) = some r := H
       have A31 := Aside0.mk A310
       clear A310
       replace H := Option.bind_eq_some_iff.mp H
       obtain ⟨⟨t279, t280⟩, A320, H⟩ := H
       replace H : ((laws_toEvent.f a1_0 a1_1 a1_2 a1_3 a1_4 a1_5 a1_6).bind fun bt284 => ((impl_IsRight.f k t276 bt284.1 bt284.2.1 bt284.2.2.1 bt284.2.2.2.1 bt284.2.2.2.2.1 bt284.2.2.2.2.2.1 bt284.2.2.2.2.2.2 t279 t280).bind fun bt291 => (if (bt291.1 != t274) = true then (laws_FnExactIsRight.j0 k l0 t276 true a2_0 l2_1 t279 t280) else (laws_FnExactIsRight.j0 k l0 t276 (bt291.2 != t275) a2_0 l2_1 t279 t280)))) = some r := H
       have A32 := Aside0.mk A320
       clear A320
       replace H := Option.bind_eq_some_iff.mp H
       obtain ⟨⟨t284, t285, t286, t287, t288, t289, t290⟩, A330, H⟩ := H
       replace H : ((impl_IsRight.f k t276 t284 t285 t286 t287 t288 t289 t290 t279 t280).bind fun bt291 => (if (bt291.1 != t274) = true then (laws_FnExactIsRight.j0 k l0 t276 true a2_0 l2_1 t279 t280) else (laws_FnExactIsRight.j0 k l0 t276 (bt291.2 != t275) a2_0 l2_1 t279 t280))) = some r := H
       have A33 := Aside0.mk A330
       clear A330
       replace H := Option.bind_eq_some_iff.mp H
       obtain ⟨⟨t291, t292⟩, A340, H⟩ := H
       replace H : (if (t291 != t274) = true then (laws_FnExactIsRight.j0 k l0 t276 true a2_0 l2_1 t279 t280) else (laws_FnExactIsRight.j0 k l0 t276 (t292 != t275) a2_0 l2_1 t279 t280)) = some r := H
       have A34 := Aside0.mk A340
       clear A340
       have HC35 := Aside0.mk H
       clear H
       go_enter Try.func4, Try.ntmps4
       try go_wp2_with (first | ((with_reducible refine gate_dst (N := 4) rfl ?_); refine box_event ?hg (N := 4) ?hd (cs := #[.int .i64 a1_0, .int .i64 a1_1, .string a1_2, .int .i64 a1_3, .bool a1_4, .bool a1_5, .bool a1_6]) (t := 32) ?hr ?_; (case hd => rfl); (case hg => rfl); (case hr => first | (go_simp; done) | (go_simp; rfl)); intro gb255 hg w36 hbox hb; have n0_ := Aside0.mk (bs_ hb); have n1_ := Aside0.mk (hbox); have n2_ := Aside0.mk ((by rw [hg]; exact (bz_) : w.heap.size ≤ gb255)); have n3_ := Aside0.mk ((by rw [hg]; exact (bz_) : w.heap.size ≤ gb255)); clear HB; have HB := n0_; have BK255 := n1_; have GW255 := n2_; have GE255 := n3_; clear n0_ n1_ n2_ n3_; clear hb hbox hg) | ((with_reducible refine gate_dst (N := 5) rfl ?_); refine box_event ?hg (N := 5) ?hd (cs := #[.int .i64 a2_0, .slice A2_1 l2_1.length c2_1]) (t := 35) ?hr ?_; (case hd => rfl); (case hg => rfl); (case hr => first | (go_simp; done) | (go_simp; rfl)); intro gb256 hg w37 hbox hb; have n0_ := Aside0.mk (blk_below (g := gb255) (o := .cells #[.int .i64 a1_0, .int .i64 a1_1, .string a1_2, .int .i64 a1_3, .bool a1_4, .bool a1_5, .bool a1_6] 32 (0, 0)) (by (with_reducible repeat (first | refine blk_drewN ?_ _ | refine blk_drew ?_ | refine blk_alloc ?_ _)); exact BK255.out) hb); have n1_ := Aside0.mk (bs_ hb); have n2_ := Aside0.mk (hbox); have n3_ := Aside0.mk ((by rw [hg]; exact (bz_) : w.heap.size ≤ gb256)); have n4_ := Aside0.mk ((by rw [hg]; exact (bz_) : w.heap.size ≤ gb256)); have n5_ := Aside0.mk ((by rw [hg]; exact Nat.ne_of_lt (blk_lt (g := gb255) (o := .cells #[.int .i64 a1_0, .int .i64 a1_1, .string a1_2, .int .i64 a1_3, .bool a1_4, .bool a1_5, .bool a1_6] 32 (0, 0)) (by (with_reducible repeat (first | refine blk_drewN ?_ _ | refine blk_drew ?_ | refine blk_alloc ?_ _)); exact BK255.out)) : gb255 ≠ gb256)); have n6_ := Aside0.mk ((by rw [hg]; exact Nat.ne_of_gt (blk_lt (g := gb255) (o := .cells #[.int .i64 a1_0, .int .i64 a1_1, .string a1_2, .int .i64 a1_3, .bool a1_4, .bool a1_5, .bool a1_6] 32 (0, 0)) (by (with_reducible repeat (first | refine blk_drewN ?_ _ | refine blk_drew ?_ | refine blk_alloc ?_ _)); exact BK255.out)) : gb256 ≠ gb255)); clear BK255; clear HB; have BK255 := n0_; have HB := n1_; have BK256 := n2_; have GW256 := n3_; have GE256 := n4_; have NB255_256 := n5_; have NB256_255 := n6_; clear n0_ n1_ n2_ n3_ n4_ n5_ n6_; clear hb hbox hg) | ((with_reducible refine gate_callee (f := 14) rfl ?_); refine goesL_ (some 16) rfl rfl Try.func14 (by kernel_rfl) rfl #[.slice A0 l0.length c0, .int .i64 1048576] rfl (by (try simp only [List.map_toArray, List.map_cons, List.map_nil]); first | done | rfl | (simp only [List.length_drop, List.length_take]; rfl)) ?_; (with_reducible refine (laws_szClauseS.calls k _ _ l0 1048576 t257 _ ?side1 ?side2 A4.out).mono ?_); (case side1 => repeat (first | exact (Kd.C_below HR0.out HB.out) | (with_reducible refine Kd.C_alloc ?_ _) | (with_reducible refine Kd.C_drewN ?_ _) | (with_reducible refine Kd.C_drew ?_))); (case side2 => exact HC0.out); rintro e w38 ⟨rfl, hb⟩; refine ⟨_, rfl, ?_⟩; have n0_ := Aside0.mk (blk_below (g := gb255) (o := .cells #[.int .i64 a1_0, .int .i64 a1_1, .string a1_2, .int .i64 a1_3, .bool a1_4, .bool a1_5, .bool a1_6] 32 (0, 0)) (by (with_reducible repeat (first | refine blk_drewN ?_ _ | refine blk_drew ?_ | refine blk_alloc ?_ _)); exact BK255.out) hb); have n1_ := Aside0.mk (blk_below (g := gb256) (o := .cells #[.int .i64 a2_0, .slice A2_1 l2_1.length c2_1] 35 (0, 0)) (by (with_reducible repeat (first | refine blk_drewN ?_ _ | refine blk_drew ?_ | refine blk_alloc ?_ _)); exact BK256.out) hb); have n2_ := Aside0.mk (bs_ hb); clear BK255; clear BK256; clear HB; have BK255 := n0_; have BK256 := n1_; have HB := n2_; clear n0_ n1_ n2_; (try clear hb); (try clear hb2); (try clear hk); (try clear hi); have hnb39 := NB255_256.out; have hnc39 := NB256_255.out; have hcz40_0 := bk BK255 0; have hcz40_1 := bk BK255 1; have hcz40_2 := bk BK255 2; have hcz40_3 := bk BK255 3; have hcz40_4 := bk BK255 4; have hcz40_5 := bk BK255 5; have hcz40_6 := bk BK255 6; have hfz40_0 := blk_frozen BK255.out 0; have hfz40_1 := blk_frozen BK255.out 1; have hfz40_2 := blk_frozen BK255.out 2; have hfz40_3 := blk_frozen BK255.out 3; have hfz40_4 := blk_frozen BK255.out 4; have hfz40_5 := blk_frozen BK255.out 5; have hfz40_6 := blk_frozen BK255.out 6) | ((with_reducible refine gate_callee (f := 15) rfl ?_); refine goesL_ (some 21) rfl rfl Try.func15 (by kernel_rfl) rfl #[.agg #[.int .i64 a1_0, .int .i64 a1_1, .string a1_2, .int .i64 a1_3, .bool a1_4, .bool a1_5, .bool a1_6], .int .i64 t257] rfl (by (try simp only [List.map_toArray, List.map_cons, List.map_nil]); first | done | rfl | (simp only [List.length_drop, List.length_take]; rfl)) ?_; (with_reducible refine (laws_szEvent.calls a1_0 a1_1 a1_2 a1_3 a1_4 a1_5 a1_6 t257 t258 _ A9.out).mono ?_); rintro e w41 ⟨rfl, hb⟩; refine ⟨_, rfl, ?_⟩; have n0_ := Aside0.mk (blk_below (g := gb255) (o := .cells #[.int .i64 a1_0, .int .i64 a1_1, .string a1_2, .int .i64 a1_3, .bool a1_4, .bool a1_5, .bool a1_6] 32 (0, 0)) (by (with_reducible repeat (first | refine blk_drewN ?_ _ | refine blk_drew ?_ | refine blk_alloc ?_ _)); exact BK255.out) hb); have n1_ := Aside0.mk (blk_below (g := gb256) (o := .cells #[.int .i64 a2_0, .slice A2_1 l2_1.length c2_1] 35 (0, 0)) (by (with_reducible repeat (first | refine blk_drewN ?_ _ | refine blk_drew ?_ | refine blk_alloc ?_ _)); exact BK256.out) hb); have n2_ := Aside0.mk (bs_ hb); clear BK255; clear BK256; clear HB; have BK255 := n0_; have BK256 := n1_; have HB := n2_; clear n0_ n1_ n2_; (try clear hb); (try clear hb2); (try clear hk); (try clear hi); have hcz42_0 := bk BK256 0; have hcz42_1 := bk BK256 1; have hfz42_0 := blk_frozen BK256.out 0; have hfz42_1 := blk_frozen BK256.out 1) | ((with_reducible refine gate_callee (f := 16) rfl ?_); refine goesL_ (some 26) rfl rfl Try.func16 (by kernel_rfl) rfl #[.agg #[.int .i64 a2_0, .slice A2_1 l2_1.length c2_1], .int .i64 t258] rfl (by (try simp only [List.map_toArray, List.map_cons, List.map_nil]); first | done | rfl | (simp only [List.length_drop, List.length_take]; rfl)) ?_; (with_reducible refine (laws_szDecision.calls k a2_0 _ _ l2_1 t258 t259 _ ?side1 ?side2 A17.out).mono ?_); (case side1 => repeat (first | exact (Kd.C_below HR2_1.out HB.out) | (with_reducible refine Kd.C_alloc ?_ _) | (with_reducible refine Kd.C_drewN ?_ _) | (with_reducible refine Kd.C_drew ?_))); (case side2 => exact HC2_1.out); rintro e w43 ⟨rfl, hb⟩; refine ⟨_, rfl, ?_⟩; have n0_ := Aside0.mk (blk_below (g := gb255) (o := .cells #[.int .i64 a1_0, .int .i64 a1_1, .string a1_2, .int .i64 a1_3, .bool a1_4, .bool a1_5, .bool a1_6] 32 (0, 0)) (by (with_reducible repeat (first | refine blk_drewN ?_ _ | refine blk_drew ?_ | refine blk_alloc ?_ _)); exact BK255.out) hb); have n1_ := Aside0.mk (blk_below (g := gb256) (o := .cells #[.int .i64 a2_0, .slice A2_1 l2_1.length c2_1] 35 (0, 0)) (by (with_reducible repeat (first | refine blk_drewN ?_ _ | refine blk_drew ?_ | refine blk_alloc ?_ _)); exact BK256.out) hb); have n2_ := Aside0.mk (bs_ hb); clear BK255; clear BK256; clear HB; have BK255 := n0_; have BK256 := n1_; have HB := n2_; clear n0_ n1_ n2_; (try clear hb); (try clear hb2); (try clear hk); (try clear hi)))
       have n0_ := Aside0.mk (blk_drew BK255.out)
       have n1_ := Aside0.mk (blk_drew BK256.out)
       have n2_ := Aside0.mk (below_drew1 HB.out)
       clear BK255
       clear BK256
       clear HB
       have BK255 := n0_
       have BK256 := n1_
       have HB := n2_
       clear n0_ n1_ n2_
       refine start_ (n := 12) (S := fun w' => w'.cell? ⟨gb255, 0, none⟩ = some (.int .i64 a1_0) ∧ w'.cell? ⟨gb255, 1, none⟩ = some (.int .i64 a1_1) ∧ w'.cell? ⟨gb255, 2, none⟩ = some (.string a1_2) ∧ w'.cell? ⟨gb255, 3, none⟩ = some (.int .i64 a1_3) ∧ w'.cell? ⟨gb255, 4, none⟩ = some (.bool a1_4) ∧ w'.cell? ⟨gb255, 5, none⟩ = some (.bool a1_5) ∧ w'.cell? ⟨gb255, 6, none⟩ = some (.bool a1_6) ∧ w'.cell? ⟨gb256, 0, none⟩ = some (.int .i64 a2_0) ∧ w'.cell? ⟨gb256, 1, none⟩ = some (.slice A2_1 l2_1.length c2_1)) (ds := []) (fb 12 0) (by kernel_rfl) rfl rfl ⟨(blk_cell BK255.out 0).trans rfl, (blk_cell BK255.out 1).trans rfl, (blk_cell BK255.out 2).trans rfl, (blk_cell BK255.out 3).trans rfl, (blk_cell BK255.out 4).trans rfl, (blk_cell BK255.out 5).trans rfl, (blk_cell BK255.out 6).trans rfl, (blk_cell BK256.out 0).trans rfl, (blk_cell BK256.out 1).trans rfl⟩ (fun hHeld => ?_); refine with_tabW laws_FnExactIsRight.tab11 laws_FnExactIsRight.bits11 (fun HT_ HW_ => ?_)
       generalize w43.drew = w44 at BK255 BK256 HB hHeld ⊢
       refine sqP_ 0 30 (fb 12 1) (any_of HT_.out (by kernel_rfl)) ?_
       refine sqT_ 2 32 (fb 12 5) (take_ofW HT_.out HW_.out (by kernel_rfl)) hHeld ?_
       refine sqT_ 4 34 (fb 12 21) (take_ofW HT_.out HW_.out (by kernel_rfl)) hHeld ?_
       refine one_ (i := 1) (N := some 31) (fb 12 23) rfl rfl (one_of HT_.out (by kernel_rfl)) (by decide) (fun K hK => ?_)
       refine goes_ Try.func18 (by kernel_rfl) rfl #[.slice A0 l0.length c0] (by rfl) rfl rfl (by (try simp only [List.map_toArray, List.map_cons, List.map_nil]); first | done | rfl | (simp only [List.length_drop, List.length_take]; rfl)) ?_
       with_reducible refine (laws_toClauseS.calls k _ _ l0 t260 _ ?side1 ?side2 A27.out).mono ?_
       (case side1 => repeat (first | exact (Kd.C_below HR0.out HB.out) | (with_reducible refine Kd.C_alloc ?_ _) | (with_reducible refine Kd.C_drewN ?_ _) | (with_reducible refine Kd.C_drew ?_)))
       (case side2 => exact HC0.out)
       rintro e w45 ⟨v261, rfl, ho0, hb⟩
       refine ⟨_, rfl, ?_⟩
       have n0_ := Aside0.mk (Kd.R_lower ho0 (bz_))
       have n1_ := Aside0.mk (blk_below (g := gb255) (o := .cells #[.int .i64 a1_0, .int .i64 a1_1, .string a1_2, .int .i64 a1_3, .bool a1_4, .bool a1_5, .bool a1_6] 32 (0, 0)) (by (with_reducible repeat (first | refine blk_drewN ?_ _ | refine blk_drew ?_ | refine blk_alloc ?_ _)); exact BK255.out) hb)
       have n2_ := Aside0.mk (blk_below (g := gb256) (o := .cells #[.int .i64 a2_0, .slice A2_1 l2_1.length c2_1] 35 (0, 0)) (by (with_reducible repeat (first | refine blk_drewN ?_ _ | refine blk_drew ?_ | refine blk_alloc ?_ _)); exact BK256.out) hb)
       have n3_ := Aside0.mk (bs_ hb)
       clear BK255
       clear BK256
       clear HB
       have HO262 := n0_
       have BK255 := n1_
       have BK256 := n2_
       have HB := n3_
       clear n0_ n1_ n2_ n3_
       (try clear hb)
       (try clear hb2)
       (try clear hk)
       (try clear hi)
       (try clear ho0)
       refine hK.out _ _ ⟨(blk_cell BK255.out 0).trans rfl, (blk_cell BK255.out 1).trans rfl, (blk_cell BK255.out 2).trans rfl, (blk_cell BK255.out 3).trans rfl, (blk_cell BK255.out 4).trans rfl, (blk_cell BK255.out 5).trans rfl, (blk_cell BK255.out 6).trans rfl, (blk_cell BK256.out 0).trans rfl, (blk_cell BK256.out 1).trans rfl⟩ (fun hHeld => ?_)
       clear hK K
       refine sqN_ 31 ?_
       refine one_ (i := 3) (N := some 33) (fb 12 31) rfl rfl (one_of HT_.out (by kernel_rfl)) (by decide) (fun K hK => ?_)
       refine goes_ Try.func19 (by kernel_rfl) rfl #[.agg #[.int .i64 a1_0, .int .i64 a1_1, .string a1_2, .int .i64 a1_3, .bool a1_4, .bool a1_5, .bool a1_6]] (by rfl) rfl rfl (by (try simp only [List.map_toArray, List.map_cons, List.map_nil]); first | done | rfl | (simp only [List.length_drop, List.length_take]; rfl)) ?_
       with_reducible refine (laws_toEvent.calls a1_0 a1_1 a1_2 a1_3 a1_4 a1_5 a1_6 t263 t264 t265 t266 t267 t268 t269 _ A28.out).mono ?_
       rintro e w46 ⟨rfl, hb⟩
       refine ⟨_, rfl, ?_⟩
       have n0_ := Aside0.mk (Kd.R_below (by (with_reducible repeat (first | apply Kd.R_alloc | apply Kd.R_drewN | apply Kd.R_drew)); exact HO262.out) hb)
       have n1_ := Aside0.mk (blk_below (g := gb255) (o := .cells #[.int .i64 a1_0, .int .i64 a1_1, .string a1_2, .int .i64 a1_3, .bool a1_4, .bool a1_5, .bool a1_6] 32 (0, 0)) (by (with_reducible repeat (first | refine blk_drewN ?_ _ | refine blk_drew ?_ | refine blk_alloc ?_ _)); exact BK255.out) hb)
       have n2_ := Aside0.mk (blk_below (g := gb256) (o := .cells #[.int .i64 a2_0, .slice A2_1 l2_1.length c2_1] 35 (0, 0)) (by (with_reducible repeat (first | refine blk_drewN ?_ _ | refine blk_drew ?_ | refine blk_alloc ?_ _)); exact BK256.out) hb)
       have n3_ := Aside0.mk (bs_ hb)
       clear HO262
       clear BK255
       clear BK256
       clear HB
       have HO262 := n0_
       have BK255 := n1_
       have BK256 := n2_
       have HB := n3_
       clear n0_ n1_ n2_ n3_
       (try clear hb)
       (try clear hb2)
       (try clear hk)
       (try clear hi)
       refine hK.out _ _ ⟨(blk_cell BK255.out 0).trans rfl, (blk_cell BK255.out 1).trans rfl, (blk_cell BK255.out 2).trans rfl, (blk_cell BK255.out 3).trans rfl, (blk_cell BK255.out 4).trans rfl, (blk_cell BK255.out 5).trans rfl, (blk_cell BK255.out 6).trans rfl, (blk_cell BK256.out 0).trans rfl, (blk_cell BK256.out 1).trans rfl⟩ (fun hHeld => ?_)
       clear hK K
       refine sqN_ 33 ?_
       refine one_ (i := 5) (N := some 35) (fb 12 63) rfl rfl (one_of HT_.out (by kernel_rfl)) (by decide) (fun K hK => ?_)
       refine goes_ Try.func20 (by kernel_rfl) rfl #[.agg #[.int .i64 a2_0, .slice A2_1 l2_1.length c2_1]] (by rfl) rfl rfl (by (try simp only [List.map_toArray, List.map_cons, List.map_nil]); first | done | rfl | (simp only [List.length_drop, List.length_take]; rfl)) ?_
       with_reducible refine (laws_toDecision.calls k a2_0 _ _ l2_1 t270 t271 _ ?side1 ?side2 A29.out).mono ?_
       (case side1 => repeat (first | exact (Kd.C_below HR2_1.out HB.out) | (with_reducible refine Kd.C_alloc ?_ _) | (with_reducible refine Kd.C_drewN ?_ _) | (with_reducible refine Kd.C_drew ?_)))
       (case side2 => exact HC2_1.out)
       rintro e w47 ⟨v272, rfl, ho0, hb⟩
       refine ⟨_, rfl, ?_⟩
       have n0_ := Aside0.mk (Kd.R_below (by (with_reducible repeat (first | apply Kd.R_alloc | apply Kd.R_drewN | apply Kd.R_drew)); exact HO262.out) hb)
       have n1_ := Aside0.mk (Kd.R_lower ho0 (bz_))
       have n2_ := Aside0.mk (blk_below (g := gb255) (o := .cells #[.int .i64 a1_0, .int .i64 a1_1, .string a1_2, .int .i64 a1_3, .bool a1_4, .bool a1_5, .bool a1_6] 32 (0, 0)) (by (with_reducible repeat (first | refine blk_drewN ?_ _ | refine blk_drew ?_ | refine blk_alloc ?_ _)); exact BK255.out) hb)
       have n3_ := Aside0.mk (blk_below (g := gb256) (o := .cells #[.int .i64 a2_0, .slice A2_1 l2_1.length c2_1] 35 (0, 0)) (by (with_reducible repeat (first | refine blk_drewN ?_ _ | refine blk_drew ?_ | refine blk_alloc ?_ _)); exact BK256.out) hb)
       have n4_ := Aside0.mk (bs_ hb)
       clear HO262
       clear BK255
       clear BK256
       clear HB
       have HO262 := n0_
       have HO273 := n1_
       have BK255 := n2_
       have BK256 := n3_
       have HB := n4_
       clear n0_ n1_ n2_ n3_ n4_
       (try clear hb)
       (try clear hb2)
       (try clear hk)
       (try clear hi)
       (try clear ho0)
       obtain ⟨Ao48, co48, eo48⟩ := Kd.R_slice HO262.out
       (first | subst eo48 | (injection eo48 with f1_ f2_ f3_; have f4_ := f1_.symm; have f5_ := f3_.symm; clear f1_ f2_ f3_; subst f4_; subst f5_))
       obtain ⟨Ao49, co49, eo49⟩ := Kd.R_slice HO273.out
       (first | subst eo49 | (injection eo49 with f1_ f2_ f3_; have f4_ := f1_.symm; have f5_ := f3_.symm; clear f1_ f2_ f3_; subst f4_; subst f5_))
       refine hK.out _ _ ⟨(blk_cell BK255.out 0).trans rfl, (blk_cell BK255.out 1).trans rfl, (blk_cell BK255.out 2).trans rfl, (blk_cell BK255.out 3).trans rfl, (blk_cell BK255.out 4).trans rfl, (blk_cell BK255.out 5).trans rfl, (blk_cell BK255.out 6).trans rfl, (blk_cell BK256.out 0).trans rfl, (blk_cell BK256.out 1).trans rfl⟩ (fun hHeld => ?_)
       clear hK K
       refine sqN_ 35 ?_
       refine one_ (i := 6) (N := some 36) (fb 12 127) rfl rfl (one_of HT_.out (by kernel_rfl)) (by decide) (fun K hK => ?_)
       refine goes_ Try.func17 (by kernel_rfl) rfl #[.slice Ao48 t260.length co48, .agg #[.int .i64 t263, .int .i64 t264, .string t265, .int .i64 t266, .bool t267, .bool t268, .bool t269], .agg #[.int .i64 t270, .slice Ao49 t271.length co49]] (by rfl) rfl rfl (by (try simp only [List.map_toArray, List.map_cons, List.map_nil]); first | done | rfl | (simp only [List.length_drop, List.length_take]; rfl)) ?_
       with_reducible refine (spec_IsRight.calls k _ _ t260 t263 t264 t265 t266 t267 t268 t269 t270 _ _ t271 t274 t275 _ ?side1 ?side2 ?side3 ?side4 A30.out).mono ?_
       (case side1 => repeat (first | exact (Kd.R_reads' HO262.out).2.2 | (with_reducible refine Kd.C_alloc ?_ _) | (with_reducible refine Kd.C_drewN ?_ _) | (with_reducible refine Kd.C_drew ?_)))
       (case side2 => exact (Kd.R_reads' HO262.out).2.1)
       (case side3 => repeat (first | exact (Kd.R_reads' HO273.out).2.2 | (with_reducible refine Kd.C_alloc ?_ _) | (with_reducible refine Kd.C_drewN ?_ _) | (with_reducible refine Kd.C_drew ?_)))
       (case side4 => exact (Kd.R_reads' HO273.out).2.1)
       rintro e w50 ⟨rfl, hb⟩
       refine ⟨_, rfl, ?_⟩
       have n0_ := Aside0.mk (Kd.R_below (by (with_reducible repeat (first | apply Kd.R_alloc | apply Kd.R_drewN | apply Kd.R_drew)); exact HO262.out) hb)
       have n1_ := Aside0.mk (Kd.R_below (by (with_reducible repeat (first | apply Kd.R_alloc | apply Kd.R_drewN | apply Kd.R_drew)); exact HO273.out) hb)
       have n2_ := Aside0.mk (blk_below (g := gb255) (o := .cells #[.int .i64 a1_0, .int .i64 a1_1, .string a1_2, .int .i64 a1_3, .bool a1_4, .bool a1_5, .bool a1_6] 32 (0, 0)) (by (with_reducible repeat (first | refine blk_drewN ?_ _ | refine blk_drew ?_ | refine blk_alloc ?_ _)); exact BK255.out) hb)
       have n3_ := Aside0.mk (blk_below (g := gb256) (o := .cells #[.int .i64 a2_0, .slice A2_1 l2_1.length c2_1] 35 (0, 0)) (by (with_reducible repeat (first | refine blk_drewN ?_ _ | refine blk_drew ?_ | refine blk_alloc ?_ _)); exact BK256.out) hb)
       have n4_ := Aside0.mk (bs_ hb)
       clear HO262
       clear HO273
       clear BK255
       clear BK256
       clear HB
       have HO262 := n0_
       have HO273 := n1_
       have BK255 := n2_
       have BK256 := n3_
       have HB := n4_
       clear n0_ n1_ n2_ n3_ n4_
       (try clear hb)
       (try clear hb2)
       (try clear hk)
       (try clear hi)
       refine hK.out _ _ ⟨(blk_cell BK255.out 0).trans rfl, (blk_cell BK255.out 1).trans rfl, (blk_cell BK255.out 2).trans rfl, (blk_cell BK255.out 3).trans rfl, (blk_cell BK255.out 4).trans rfl, (blk_cell BK255.out 5).trans rfl, (blk_cell BK255.out 6).trans rfl, (blk_cell BK256.out 0).trans rfl, (blk_cell BK256.out 1).trans rfl⟩ (fun hHeld => ?_)
       clear hK K
       refine sqN_ 36 ?_
       refine sqP_ 7 29 (fb 12 255) (any_of HT_.out (by kernel_rfl)) ?_
       refine sqP_ 8 37 (fb 12 511) (any_of HT_.out (by kernel_rfl)) ?_
       refine sqP_ 9 38 (fb 12 1023) (any_of HT_.out (by kernel_rfl)) ?_
       refine sqP_ 10 8 (fb 12 2047) (any_of HT_.out (by kernel_rfl)) ?_
       refine sqP_ 11 9 (fb 12 4095) (any_of HT_.out (by kernel_rfl)) ?_
       refine done_ (done_of HT_.out (by kernel_rfl)) ?_
       try go_wp2_with (first | ((with_reducible refine gate_callee (f := 18) rfl ?_); refine goesL_ (some 40) rfl rfl Try.func18 (by kernel_rfl) rfl #[.slice A0 l0.length c0] rfl (by (try simp only [List.map_toArray, List.map_cons, List.map_nil]); first | done | rfl | (simp only [List.length_drop, List.length_take]; rfl)) ?_; (with_reducible refine (laws_toClauseS.calls k _ _ l0 t276 _ ?side1 ?side2 A31.out).mono ?_); (case side1 => repeat (first | exact (Kd.C_below HR0.out HB.out) | (with_reducible refine Kd.C_alloc ?_ _) | (with_reducible refine Kd.C_drewN ?_ _) | (with_reducible refine Kd.C_drew ?_))); (case side2 => exact HC0.out); rintro e w51 ⟨v277, rfl, ho0, hb⟩; refine ⟨_, rfl, ?_⟩; have n0_ := Aside0.mk (Kd.R_elder' (by (with_reducible repeat (first | apply Kd.R_alloc | apply Kd.R_drewN | apply Kd.R_drew)); exact HO262.out) (Kd.R_base ho0) hb); have n1_ := Aside0.mk (Kd.R_below (by (with_reducible repeat (first | apply Kd.R_alloc | apply Kd.R_drewN | apply Kd.R_drew)); exact HO273.out) hb); have n2_ := Aside0.mk (Kd.R_lower (Kd.R_new' ho0 (Kd.R_lt (by (with_reducible repeat (first | apply Kd.R_alloc | apply Kd.R_drewN | apply Kd.R_drew)); exact HO262.out))) (bz_)); have n3_ := Aside0.mk (blk_below (g := gb255) (o := .cells #[.int .i64 a1_0, .int .i64 a1_1, .string a1_2, .int .i64 a1_3, .bool a1_4, .bool a1_5, .bool a1_6] 32 (0, 0)) (by (with_reducible repeat (first | refine blk_drewN ?_ _ | refine blk_drew ?_ | refine blk_alloc ?_ _)); exact BK255.out) hb); have n4_ := Aside0.mk (blk_below (g := gb256) (o := .cells #[.int .i64 a2_0, .slice A2_1 l2_1.length c2_1] 35 (0, 0)) (by (with_reducible repeat (first | refine blk_drewN ?_ _ | refine blk_drew ?_ | refine blk_alloc ?_ _)); exact BK256.out) hb); have n5_ := Aside0.mk (bs_ hb); clear HO262; clear HO273; clear BK255; clear BK256; clear HB; have HO262 := n0_; have HO273 := n1_; have HO278 := n2_; have BK255 := n3_; have BK256 := n4_; have HB := n5_; clear n0_ n1_ n2_ n3_ n4_ n5_; (try clear hb); (try clear hb2); (try clear hk); (try clear hi); (try clear ho0); have hcz52_0 := bk BK256 0; have hcz52_1 := bk BK256 1; have hfz52_0 := blk_frozen BK256.out 0; have hfz52_1 := blk_frozen BK256.out 1) | ((with_reducible refine gate_callee (f := 20) rfl ?_); refine goesL_ (some 42) rfl rfl Try.func20 (by kernel_rfl) rfl #[.agg #[.int .i64 a2_0, .slice A2_1 l2_1.length c2_1]] rfl (by (try simp only [List.map_toArray, List.map_cons, List.map_nil]); first | done | rfl | (simp only [List.length_drop, List.length_take]; rfl)) ?_; (with_reducible refine (laws_toDecision.calls k a2_0 _ _ l2_1 t279 t280 _ ?side1 ?side2 A32.out).mono ?_); (case side1 => repeat (first | exact (Kd.C_below HR2_1.out HB.out) | (with_reducible refine Kd.C_alloc ?_ _) | (with_reducible refine Kd.C_drewN ?_ _) | (with_reducible refine Kd.C_drew ?_))); (case side2 => exact HC2_1.out); rintro e w53 ⟨v281, rfl, ho0, hb⟩; refine ⟨_, rfl, ?_⟩; have n0_ := Aside0.mk (Kd.R_below (by (with_reducible repeat (first | apply Kd.R_alloc | apply Kd.R_drewN | apply Kd.R_drew)); exact HO262.out) hb); have n1_ := Aside0.mk (Kd.R_elder' (by (with_reducible repeat (first | apply Kd.R_alloc | apply Kd.R_drewN | apply Kd.R_drew)); exact HO273.out) (Kd.R_base ho0) hb); have n2_ := Aside0.mk (Kd.R_below (by (with_reducible repeat (first | apply Kd.R_alloc | apply Kd.R_drewN | apply Kd.R_drew)); exact HO278.out) hb); have n3_ := Aside0.mk (Kd.R_lower (Kd.R_new' ho0 (Kd.R_lt (by (with_reducible repeat (first | apply Kd.R_alloc | apply Kd.R_drewN | apply Kd.R_drew)); exact HO273.out))) (bz_)); have n4_ := Aside0.mk (blk_below (g := gb255) (o := .cells #[.int .i64 a1_0, .int .i64 a1_1, .string a1_2, .int .i64 a1_3, .bool a1_4, .bool a1_5, .bool a1_6] 32 (0, 0)) (by (with_reducible repeat (first | refine blk_drewN ?_ _ | refine blk_drew ?_ | refine blk_alloc ?_ _)); exact BK255.out) hb); have n5_ := Aside0.mk (blk_below (g := gb256) (o := .cells #[.int .i64 a2_0, .slice A2_1 l2_1.length c2_1] 35 (0, 0)) (by (with_reducible repeat (first | refine blk_drewN ?_ _ | refine blk_drew ?_ | refine blk_alloc ?_ _)); exact BK256.out) hb); have n6_ := Aside0.mk (bs_ hb); clear HO262; clear HO273; clear HO278; clear BK255; clear BK256; clear HB; have HO262 := n0_; have HO273 := n1_; have HO278 := n2_; have HO282 := n3_; have BK255 := n4_; have BK256 := n5_; have HB := n6_; clear n0_ n1_ n2_ n3_ n4_ n5_ n6_; (try clear hb); (try clear hb2); (try clear hk); (try clear hi); (try clear ho0)) | ((with_reducible refine gate_dst (N := 11) rfl ?_); refine box_event ?hg (N := 11) ?hd (cs := #[.int .i64 0, .slice none 0 0]) (t := 45) ?hr ?_; (case hd => rfl); (case hg => rfl); (case hr => first | (go_simp; done) | (go_simp; rfl)); intro gb283 hg w54 hbox hb; have n0_ := Aside0.mk (Kd.R_below (by (with_reducible repeat (first | apply Kd.R_alloc | apply Kd.R_drewN | apply Kd.R_drew)); exact HO262.out) hb); have n1_ := Aside0.mk (Kd.R_below (by (with_reducible repeat (first | apply Kd.R_alloc | apply Kd.R_drewN | apply Kd.R_drew)); exact HO273.out) hb); have n2_ := Aside0.mk (Kd.R_below (by (with_reducible repeat (first | apply Kd.R_alloc | apply Kd.R_drewN | apply Kd.R_drew)); exact HO278.out) hb); have n3_ := Aside0.mk (Kd.R_below (by (with_reducible repeat (first | apply Kd.R_alloc | apply Kd.R_drewN | apply Kd.R_drew)); exact HO282.out) hb); have n4_ := Aside0.mk (blk_below (g := gb255) (o := .cells #[.int .i64 a1_0, .int .i64 a1_1, .string a1_2, .int .i64 a1_3, .bool a1_4, .bool a1_5, .bool a1_6] 32 (0, 0)) (by (with_reducible repeat (first | refine blk_drewN ?_ _ | refine blk_drew ?_ | refine blk_alloc ?_ _)); exact BK255.out) hb); have n5_ := Aside0.mk (blk_below (g := gb256) (o := .cells #[.int .i64 a2_0, .slice A2_1 l2_1.length c2_1] 35 (0, 0)) (by (with_reducible repeat (first | refine blk_drewN ?_ _ | refine blk_drew ?_ | refine blk_alloc ?_ _)); exact BK256.out) hb); have n6_ := Aside0.mk (bs_ hb); have n7_ := Aside0.mk (hbox); have n8_ := Aside0.mk ((by rw [hg]; exact (bz_) : w.heap.size ≤ gb283)); have n9_ := Aside0.mk ((by rw [hg]; exact (bz_) : w.heap.size ≤ gb283)); have n10_ := Aside0.mk ((by rw [hg]; exact Nat.ne_of_lt (blk_lt (g := gb255) (o := .cells #[.int .i64 a1_0, .int .i64 a1_1, .string a1_2, .int .i64 a1_3, .bool a1_4, .bool a1_5, .bool a1_6] 32 (0, 0)) (by (with_reducible repeat (first | refine blk_drewN ?_ _ | refine blk_drew ?_ | refine blk_alloc ?_ _)); exact BK255.out)) : gb255 ≠ gb283)); have n11_ := Aside0.mk ((by rw [hg]; exact Nat.ne_of_gt (blk_lt (g := gb255) (o := .cells #[.int .i64 a1_0, .int .i64 a1_1, .string a1_2, .int .i64 a1_3, .bool a1_4, .bool a1_5, .bool a1_6] 32 (0, 0)) (by (with_reducible repeat (first | refine blk_drewN ?_ _ | refine blk_drew ?_ | refine blk_alloc ?_ _)); exact BK255.out)) : gb283 ≠ gb255)); have n12_ := Aside0.mk ((by rw [hg]; exact Nat.ne_of_lt (blk_lt (g := gb256) (o := .cells #[.int .i64 a2_0, .slice A2_1 l2_1.length c2_1] 35 (0, 0)) (by (with_reducible repeat (first | refine blk_drewN ?_ _ | refine blk_drew ?_ | refine blk_alloc ?_ _)); exact BK256.out)) : gb256 ≠ gb283)); have n13_ := Aside0.mk ((by rw [hg]; exact Nat.ne_of_gt (blk_lt (g := gb256) (o := .cells #[.int .i64 a2_0, .slice A2_1 l2_1.length c2_1] 35 (0, 0)) (by (with_reducible repeat (first | refine blk_drewN ?_ _ | refine blk_drew ?_ | refine blk_alloc ?_ _)); exact BK256.out)) : gb283 ≠ gb256)); clear HO262; clear HO273; clear HO278; clear HO282; clear BK255; clear BK256; clear HB; have HO262 := n0_; have HO273 := n1_; have HO278 := n2_; have HO282 := n3_; have BK255 := n4_; have BK256 := n5_; have HB := n6_; have BK283 := n7_; have GW283 := n8_; have GE283 := n9_; have NB255_283 := n10_; have NB283_255 := n11_; have NB256_283 := n12_; have NB283_256 := n13_; clear n0_ n1_ n2_ n3_ n4_ n5_ n6_ n7_ n8_ n9_ n10_ n11_ n12_ n13_; clear hb hbox hg; have hnb55 := NB283_255.out; have hnc55 := NB255_283.out; have hnb56 := NB283_256.out; have hnc56 := NB256_283.out; have hcz57_0 := bk BK283 0; have hcz57_1 := bk BK283 1; have hfz57_0 := blk_frozen BK283.out 0; have hfz57_1 := blk_frozen BK283.out 1; obtain ⟨Ao58, co58, eo58⟩ := Kd.R_slice HO282.out; subst eo58))
       have n0_ : Aside0 (Kd.R k94 94 ((w54.setCell ⟨gb283, 0, none⟩ (.int .i64 t279)).setCell ⟨gb283, 1, none⟩ (.slice Ao58 t280.length co58)) w.heap.size (fun k_ => some k_ ≠ (v277 : Value).ownBlock) (.slice Ao48 t260.length co48) t260) := ⟨by (with_reducible repeat (first | apply Kd.R_alloc | apply Kd.R_drewN | apply Kd.R_drew)); exact Kd.R_mono (Kd.R_far (p := ⟨gb283, 1, none⟩) (Kd.R_far (p := ⟨gb283, 0, none⟩) (Kd.R_types HO262.out BK283.out (by decide)) (fun _ hk => hk.2) (.int .i64 t279)) (fun _ hk => hk.2) (.slice Ao58 t280.length co58)) (fun _ hk => hk.1.2)⟩
       have n1_ : Aside0 (Kd.R Kd.string 9 ((w54.setCell ⟨gb283, 0, none⟩ (.int .i64 t279)).setCell ⟨gb283, 1, none⟩ (.slice Ao58 t280.length co58)) w.heap.size (fun k_ => some k_ ≠ (.slice Ao58 t280.length co58 : Value).ownBlock) (.slice Ao49 t271.length co49) t271) := ⟨by (with_reducible repeat (first | apply Kd.R_alloc | apply Kd.R_drewN | apply Kd.R_drew)); exact Kd.R_mono (Kd.R_far (p := ⟨gb283, 1, none⟩) (Kd.R_far (p := ⟨gb283, 0, none⟩) (Kd.R_types HO273.out BK283.out (by decide)) (fun _ hk => hk.2) (.int .i64 t279)) (fun _ hk => hk.2) (.slice Ao58 t280.length co58)) (fun _ hk => hk.1.2)⟩
       have n2_ : Aside0 (Kd.R k94 94 ((w54.setCell ⟨gb283, 0, none⟩ (.int .i64 t279)).setCell ⟨gb283, 1, none⟩ (.slice Ao58 t280.length co58)) w.heap.size (fun k_ => some k_ ≠ (.slice Ao48 t260.length co48 : Value).ownBlock) v277 t276) := ⟨by (with_reducible repeat (first | apply Kd.R_alloc | apply Kd.R_drewN | apply Kd.R_drew)); exact Kd.R_mono (Kd.R_far (p := ⟨gb283, 1, none⟩) (Kd.R_far (p := ⟨gb283, 0, none⟩) (Kd.R_types HO278.out BK283.out (by decide)) (fun _ hk => hk.2) (.int .i64 t279)) (fun _ hk => hk.2) (.slice Ao58 t280.length co58)) (fun _ hk => hk.1.2)⟩
       have n3_ : Aside0 (Kd.R Kd.string 9 ((w54.setCell ⟨gb283, 0, none⟩ (.int .i64 t279)).setCell ⟨gb283, 1, none⟩ (.slice Ao58 t280.length co58)) w.heap.size (fun k_ => some k_ ≠ (.slice Ao49 t271.length co49 : Value).ownBlock) (.slice Ao58 t280.length co58) t280) := ⟨by (with_reducible repeat (first | apply Kd.R_alloc | apply Kd.R_drewN | apply Kd.R_drew)); exact Kd.R_mono (Kd.R_far (p := ⟨gb283, 1, none⟩) (Kd.R_far (p := ⟨gb283, 0, none⟩) (Kd.R_types HO282.out BK283.out (by decide)) (fun _ hk => hk.2) (.int .i64 t279)) (fun _ hk => hk.2) (.slice Ao58 t280.length co58)) (fun _ hk => hk.1.2)⟩
       have n4_ : Aside0 (((w54.setCell ⟨gb283, 0, none⟩ (.int .i64 t279)).setCell ⟨gb283, 1, none⟩ (.slice Ao58 t280.length co58)).heap[gb255]? = some (.cells #[.int .i64 a1_0, .int .i64 a1_1, .string a1_2, .int .i64 a1_3, .bool a1_4, .bool a1_5, .bool a1_6] 32 (0, 0))) := ⟨by (with_reducible repeat (first | refine blk_drewN ?_ _ | refine blk_drew ?_ | refine blk_alloc ?_ _)); refine blk_far ?_ NB255_283.out _; (with_reducible repeat (first | refine blk_drewN ?_ _ | refine blk_drew ?_ | refine blk_alloc ?_ _)); refine blk_far ?_ NB255_283.out _; (with_reducible repeat (first | refine blk_drewN ?_ _ | refine blk_drew ?_ | refine blk_alloc ?_ _)); exact BK255.out⟩
       have n5_ : Aside0 (((w54.setCell ⟨gb283, 0, none⟩ (.int .i64 t279)).setCell ⟨gb283, 1, none⟩ (.slice Ao58 t280.length co58)).heap[gb256]? = some (.cells #[.int .i64 a2_0, .slice A2_1 l2_1.length c2_1] 35 (0, 0))) := ⟨by (with_reducible repeat (first | refine blk_drewN ?_ _ | refine blk_drew ?_ | refine blk_alloc ?_ _)); refine blk_far ?_ NB256_283.out _; (with_reducible repeat (first | refine blk_drewN ?_ _ | refine blk_drew ?_ | refine blk_alloc ?_ _)); refine blk_far ?_ NB256_283.out _; (with_reducible repeat (first | refine blk_drewN ?_ _ | refine blk_drew ?_ | refine blk_alloc ?_ _)); exact BK256.out⟩
       have n6_ : Aside0 (((w54.setCell ⟨gb283, 0, none⟩ (.int .i64 t279)).setCell ⟨gb283, 1, none⟩ (.slice Ao58 t280.length co58)).heap[gb283]? = some (.cells #[.int .i64 t279, .slice Ao58 t280.length co58] 45 (0, 0))) := ⟨by (with_reducible repeat (first | refine blk_drewN ?_ _ | refine blk_drew ?_ | refine blk_alloc ?_ _)); refine blk_put (cs := #[.int .i64 t279, .slice none 0 0]) ?_ 1 _ rfl; (with_reducible repeat (first | refine blk_drewN ?_ _ | refine blk_drew ?_ | refine blk_alloc ?_ _)); refine blk_put (cs := #[.int .i64 0, .slice none 0 0]) ?_ 0 _ rfl; (with_reducible repeat (first | refine blk_drewN ?_ _ | refine blk_drew ?_ | refine blk_alloc ?_ _)); exact BK283.out⟩
       have n7_ : Aside0 (Below w.heap.size w ((w54.setCell ⟨gb283, 0, none⟩ (.int .i64 t279)).setCell ⟨gb283, 1, none⟩ (.slice Ao58 t280.length co58))) := ⟨bb_⟩
       (try clear HO262)
       (try clear HO273)
       (try clear HO278)
       (try clear HO282)
       (try clear BK255)
       (try clear BK256)
       (try clear BK283)
       (try clear HB)
       generalize ((w54.setCell ⟨gb283, 0, none⟩ (.int .i64 t279)).setCell ⟨gb283, 1, none⟩ (.slice Ao58 t280.length co58)) = w59 at n0_ n1_ n2_ n3_ n4_ n5_ n6_ n7_ ⊢
       have HO262 := n0_
       have HO273 := n1_
       have HO278 := n2_
       have HO282 := n3_
       have BK255 := n4_
       have BK256 := n5_
       have BK283 := n6_
       have HB := n7_
       clear n0_ n1_ n2_ n3_ n4_ n5_ n6_ n7_
       have n0_ := Aside0.mk (Kd.R_drew HO262.out)
       have n1_ := Aside0.mk (Kd.R_drew HO273.out)
       have n2_ := Aside0.mk (Kd.R_drew HO278.out)
       have n3_ := Aside0.mk (Kd.R_drew HO282.out)
       have n4_ := Aside0.mk (blk_drew BK255.out)
       have n5_ := Aside0.mk (blk_drew BK256.out)
       have n6_ := Aside0.mk (blk_drew BK283.out)
       have n7_ := Aside0.mk (below_drew1 HB.out)
       clear HO262
       clear HO273
       clear HO278
       clear HO282
       clear BK255
       clear BK256
       clear BK283
       clear HB
       have HO262 := n0_
       have HO273 := n1_
       have HO278 := n2_
       have HO282 := n3_
       have BK255 := n4_
       have BK256 := n5_
       have BK283 := n6_
       have HB := n7_
       clear n0_ n1_ n2_ n3_ n4_ n5_ n6_ n7_
       refine start_ (n := 10) (S := fun w' => w'.cell? ⟨gb255, 0, none⟩ = some (.int .i64 a1_0) ∧ w'.cell? ⟨gb255, 1, none⟩ = some (.int .i64 a1_1) ∧ w'.cell? ⟨gb255, 2, none⟩ = some (.string a1_2) ∧ w'.cell? ⟨gb255, 3, none⟩ = some (.int .i64 a1_3) ∧ w'.cell? ⟨gb255, 4, none⟩ = some (.bool a1_4) ∧ w'.cell? ⟨gb255, 5, none⟩ = some (.bool a1_5) ∧ w'.cell? ⟨gb255, 6, none⟩ = some (.bool a1_6) ∧ w'.cell? ⟨gb283, 0, none⟩ = some (.int .i64 t279) ∧ w'.cell? ⟨gb283, 1, none⟩ = some (.slice Ao58 t280.length co58)) (ds := []) (fb 10 0) (by kernel_rfl) rfl rfl ⟨(blk_cell BK255.out 0).trans rfl, (blk_cell BK255.out 1).trans rfl, (blk_cell BK255.out 2).trans rfl, (blk_cell BK255.out 3).trans rfl, (blk_cell BK255.out 4).trans rfl, (blk_cell BK255.out 5).trans rfl, (blk_cell BK255.out 6).trans rfl, (blk_cell BK283.out 0).trans rfl, (blk_cell BK283.out 1).trans rfl⟩ (fun hHeld => ?_); refine with_tabW laws_FnExactIsRight.tab14 laws_FnExactIsRight.bits14 (fun HT_ HW_ => ?_)
       generalize w59.drew = w60 at HO262 HO273 HO278 HO282 BK255 BK256 BK283 HB hHeld ⊢
       refine sqP_ 0 44 (fb 10 1) (any_of HT_.out (by kernel_rfl)) ?_
       refine sqT_ 1 45 (fb 10 3) (take_ofW HT_.out HW_.out (by kernel_rfl)) hHeld ?_
       refine sqT_ 3 47 (fb 10 11) (take_ofW HT_.out HW_.out (by kernel_rfl)) hHeld ?_
       refine one_ (i := 2) (N := some 46) (fb 10 15) rfl rfl (one_of HT_.out (by kernel_rfl)) (by decide) (fun K hK => ?_)
       refine goes_ Try.func19 (by kernel_rfl) rfl #[.agg #[.int .i64 a1_0, .int .i64 a1_1, .string a1_2, .int .i64 a1_3, .bool a1_4, .bool a1_5, .bool a1_6]] (by rfl) rfl rfl (by (try simp only [List.map_toArray, List.map_cons, List.map_nil]); first | done | rfl | (simp only [List.length_drop, List.length_take]; rfl)) ?_
       with_reducible refine (laws_toEvent.calls a1_0 a1_1 a1_2 a1_3 a1_4 a1_5 a1_6 t284 t285 t286 t287 t288 t289 t290 _ A33.out).mono ?_
       rintro e w61 ⟨rfl, hb⟩
       refine ⟨_, rfl, ?_⟩
       have n0_ := Aside0.mk (Kd.R_below (by (with_reducible repeat (first | apply Kd.R_alloc | apply Kd.R_drewN | apply Kd.R_drew)); exact HO262.out) hb)
       have n1_ := Aside0.mk (Kd.R_below (by (with_reducible repeat (first | apply Kd.R_alloc | apply Kd.R_drewN | apply Kd.R_drew)); exact HO273.out) hb)
       have n2_ := Aside0.mk (Kd.R_below (by (with_reducible repeat (first | apply Kd.R_alloc | apply Kd.R_drewN | apply Kd.R_drew)); exact HO278.out) hb)
       have n3_ := Aside0.mk (Kd.R_below (by (with_reducible repeat (first | apply Kd.R_alloc | apply Kd.R_drewN | apply Kd.R_drew)); exact HO282.out) hb)
       have n4_ := Aside0.mk (blk_below (g := gb255) (o := .cells #[.int .i64 a1_0, .int .i64 a1_1, .string a1_2, .int .i64 a1_3, .bool a1_4, .bool a1_5, .bool a1_6] 32 (0, 0)) (by (with_reducible repeat (first | refine blk_drewN ?_ _ | refine blk_drew ?_ | refine blk_alloc ?_ _)); exact BK255.out) hb)
       have n5_ := Aside0.mk (blk_below (g := gb256) (o := .cells #[.int .i64 a2_0, .slice A2_1 l2_1.length c2_1] 35 (0, 0)) (by (with_reducible repeat (first | refine blk_drewN ?_ _ | refine blk_drew ?_ | refine blk_alloc ?_ _)); exact BK256.out) hb)
       have n6_ := Aside0.mk (blk_below (g := gb283) (o := .cells #[.int .i64 t279, .slice Ao58 t280.length co58] 45 (0, 0)) (by (with_reducible repeat (first | refine blk_drewN ?_ _ | refine blk_drew ?_ | refine blk_alloc ?_ _)); exact BK283.out) hb)
       have n7_ := Aside0.mk (bs_ hb)
       clear HO262
       clear HO273
       clear HO278
       clear HO282
       clear BK255
       clear BK256
       clear BK283
       clear HB
       have HO262 := n0_
       have HO273 := n1_
       have HO278 := n2_
       have HO282 := n3_
       have BK255 := n4_
       have BK256 := n5_
       have BK283 := n6_
       have HB := n7_
       clear n0_ n1_ n2_ n3_ n4_ n5_ n6_ n7_
       (try clear hb)
       (try clear hb2)
       (try clear hk)
       (try clear hi)
       obtain ⟨Ao62, co62, eo62⟩ := Kd.R_slice HO278.out
       (first | subst eo62 | (injection eo62 with f1_ f2_ f3_; have f4_ := f1_.symm; have f5_ := f3_.symm; clear f1_ f2_ f3_; subst f4_; subst f5_))
       refine hK.out _ _ ⟨(blk_cell BK255.out 0).trans rfl, (blk_cell BK255.out 1).trans rfl, (blk_cell BK255.out 2).trans rfl, (blk_cell BK255.out 3).trans rfl, (blk_cell BK255.out 4).trans rfl, (blk_cell BK255.out 5).trans rfl, (blk_cell BK255.out 6).trans rfl, (blk_cell BK283.out 0).trans rfl, (blk_cell BK283.out 1).trans rfl⟩ (fun hHeld => ?_)
       clear hK K
       refine sqN_ 46 ?_
       refine one_ (i := 4) (N := some 48) (fb 10 31) rfl rfl (one_of HT_.out (by kernel_rfl)) (by decide) (fun K hK => ?_)
       refine goes_ Try.func21 (by kernel_rfl) rfl #[.slice Ao62 t276.length co62, .agg #[.int .i64 t284, .int .i64 t285, .string t286, .int .i64 t287, .bool t288, .bool t289, .bool t290], .agg #[.int .i64 t279, .slice Ao58 t280.length co58]] (by rfl) rfl rfl (by (try simp only [List.map_toArray, List.map_cons, List.map_nil]); first | done | rfl | (simp only [List.length_drop, List.length_take]; rfl)) ?_
       with_reducible refine (impl_IsRight.calls k _ _ t276 t284 t285 t286 t287 t288 t289 t290 t279 _ _ t280 t291 t292 _ ?side1 ?side2 ?side3 ?side4 A34.out).mono ?_
       (case side1 => repeat (first | exact (Kd.R_reads' HO278.out).2.2 | (with_reducible refine Kd.C_alloc ?_ _) | (with_reducible refine Kd.C_drewN ?_ _) | (with_reducible refine Kd.C_drew ?_)))
       (case side2 => exact (Kd.R_reads' HO278.out).2.1)
       (case side3 => repeat (first | exact (Kd.R_reads' HO282.out).2.2 | (with_reducible refine Kd.C_alloc ?_ _) | (with_reducible refine Kd.C_drewN ?_ _) | (with_reducible refine Kd.C_drew ?_)))
       (case side4 => exact (Kd.R_reads' HO282.out).2.1)
       rintro e w63 ⟨rfl, hb⟩
       refine ⟨_, rfl, ?_⟩
       have n0_ := Aside0.mk (Kd.R_below (by (with_reducible repeat (first | apply Kd.R_alloc | apply Kd.R_drewN | apply Kd.R_drew)); exact HO262.out) hb)
       have n1_ := Aside0.mk (Kd.R_below (by (with_reducible repeat (first | apply Kd.R_alloc | apply Kd.R_drewN | apply Kd.R_drew)); exact HO273.out) hb)
       have n2_ := Aside0.mk (Kd.R_below (by (with_reducible repeat (first | apply Kd.R_alloc | apply Kd.R_drewN | apply Kd.R_drew)); exact HO278.out) hb)
       have n3_ := Aside0.mk (Kd.R_below (by (with_reducible repeat (first | apply Kd.R_alloc | apply Kd.R_drewN | apply Kd.R_drew)); exact HO282.out) hb)
       have n4_ := Aside0.mk (blk_below (g := gb255) (o := .cells #[.int .i64 a1_0, .int .i64 a1_1, .string a1_2, .int .i64 a1_3, .bool a1_4, .bool a1_5, .bool a1_6] 32 (0, 0)) (by (with_reducible repeat (first | refine blk_drewN ?_ _ | refine blk_drew ?_ | refine blk_alloc ?_ _)); exact BK255.out) hb)
       have n5_ := Aside0.mk (blk_below (g := gb256) (o := .cells #[.int .i64 a2_0, .slice A2_1 l2_1.length c2_1] 35 (0, 0)) (by (with_reducible repeat (first | refine blk_drewN ?_ _ | refine blk_drew ?_ | refine blk_alloc ?_ _)); exact BK256.out) hb)
       have n6_ := Aside0.mk (blk_below (g := gb283) (o := .cells #[.int .i64 t279, .slice Ao58 t280.length co58] 45 (0, 0)) (by (with_reducible repeat (first | refine blk_drewN ?_ _ | refine blk_drew ?_ | refine blk_alloc ?_ _)); exact BK283.out) hb)
       have n7_ := Aside0.mk (bs_ hb)
       clear HO262
       clear HO273
       clear HO278
       clear HO282
       clear BK255
       clear BK256
       clear BK283
       clear HB
       have HO262 := n0_
       have HO273 := n1_
       have HO278 := n2_
       have HO282 := n3_
       have BK255 := n4_
       have BK256 := n5_
       have BK283 := n6_
       have HB := n7_
       clear n0_ n1_ n2_ n3_ n4_ n5_ n6_ n7_
       (try clear hb)
       (try clear hb2)
       (try clear hk)
       (try clear hi)
       refine hK.out _ _ ⟨(blk_cell BK255.out 0).trans rfl, (blk_cell BK255.out 1).trans rfl, (blk_cell BK255.out 2).trans rfl, (blk_cell BK255.out 3).trans rfl, (blk_cell BK255.out 4).trans rfl, (blk_cell BK255.out 5).trans rfl, (blk_cell BK255.out 6).trans rfl, (blk_cell BK283.out 0).trans rfl, (blk_cell BK283.out 1).trans rfl⟩ (fun hHeld => ?_)
       clear hK K
       refine sqN_ 48 ?_
       refine sqP_ 5 43 (fb 10 63) (any_of HT_.out (by kernel_rfl)) ?_
       refine sqP_ 6 49 (fb 10 127) (any_of HT_.out (by kernel_rfl)) ?_
       refine sqP_ 7 50 (fb 10 255) (any_of HT_.out (by kernel_rfl)) ?_
       refine sqP_ 8 12 (fb 10 511) (any_of HT_.out (by kernel_rfl)) ?_
       refine sqP_ 9 13 (fb 10 1023) (any_of HT_.out (by kernel_rfl)) ?_
       refine done_ (done_of HT_.out (by kernel_rfl)) ?_
       go_upto_region 15 with (fail)
       go_cut [58] (fun v58 wc => ∃ (kq : Nat) (x58_34 : Bool), v58 = .bool x58_34 ∧ Aside0 (laws_FnExactIsRight.j0 kq l0 t276 x58_34 a2_0 l2_1 t279 t280 = some r) ∧ Aside0 (kq ≤ k) ∧ Aside0 (Kd.R k94 94 wc w.heap.size (fun _ => True) (.slice Ao62 t276.length co62) t276) ∧ Aside0 (Kd.R Kd.string 9 wc w.heap.size (fun _ => True) (.slice Ao58 t280.length co58) t280) ∧ Aside0 (wc.heap[gb255]? = some (.cells #[.int .i64 a1_0, .int .i64 a1_1, .string a1_2, .int .i64 a1_3, .bool a1_4, .bool a1_5, .bool a1_6] 32 (0, 0))) ∧ Aside0 (wc.heap[gb256]? = some (.cells #[.int .i64 a2_0, (.slice A2_1 l2_1.length c2_1)] 35 (0, 0))) ∧ Aside0 (wc.heap[gb283]? = some (.cells #[.int .i64 t279, (.slice Ao58 t280.length co58)] 45 (0, 0))) ∧ Aside0 (Below w.heap.size w wc))
       case first =>
        have H := HC35.out
        clear HC35
        by_cases c64 : (t291 != t274) = true
        · rw [if_pos c64] at H
          have c64b0 : (t291 != t274) = true := c64
          (try (have c64b1 : decide (t291 = t274) = false := by simpa using c64))
          (try (have c64b2 : (t291 == t274) = false := by simpa using c64))
          (try (have c64b3 : ¬ (t291 = t274) := by simpa using c64))
          clear c64
          (first | rw [c64b0] | (simp only [i64_w, i32_w]; rw [c64b0]) | skip)
          have H' := Aside0.mk H
          clear H
          go_wp2
          go_meet
          case rel => exact ⟨_, (true), (by first | rfl | (simp; done) | (simp [*]; done)), H', ⟨by first | omega | exact Nat.le_refl _⟩, ⟨by (with_reducible repeat (first | apply Kd.R_alloc | apply Kd.R_drewN | apply Kd.R_drew)); exact Kd.R_mono HO278.out (fun _ hk => trivial)⟩, ⟨by (with_reducible repeat (first | apply Kd.R_alloc | apply Kd.R_drewN | apply Kd.R_drew)); exact Kd.R_mono HO282.out (fun _ hk => trivial)⟩, ⟨by (with_reducible repeat (first | refine blk_drewN ?_ _ | refine blk_drew ?_ | refine blk_alloc ?_ _)); exact BK255.out⟩, ⟨by (with_reducible repeat (first | refine blk_drewN ?_ _ | refine blk_drew ?_ | refine blk_alloc ?_ _)); exact BK256.out⟩, ⟨by (with_reducible repeat (first | refine blk_drewN ?_ _ | refine blk_drew ?_ | refine blk_alloc ?_ _)); exact BK283.out⟩, ⟨bb_⟩⟩
        · rw [if_neg c64] at H
          have c64b0 : (t291 != t274) = false := by simpa using c64
          (try (have c64b1 : decide (t291 = t274) = true := by simpa using c64))
          (try (have c64b2 : (t291 == t274) = true := by simpa using c64))
          clear c64
          (first | rw [c64b0] | (simp only [i64_w, i32_w]; rw [c64b0]) | skip)
          have H' := Aside0.mk H
          clear H
          go_wp2
          go_meet
          case rel => exact ⟨_, ((t292 != t275)), (by first | rfl | (simp; done) | (simp [*]; done)), H', ⟨by first | omega | exact Nat.le_refl _⟩, ⟨by (with_reducible repeat (first | apply Kd.R_alloc | apply Kd.R_drewN | apply Kd.R_drew)); exact Kd.R_mono HO278.out (fun _ hk => trivial)⟩, ⟨by (with_reducible repeat (first | apply Kd.R_alloc | apply Kd.R_drewN | apply Kd.R_drew)); exact Kd.R_mono HO282.out (fun _ hk => trivial)⟩, ⟨by (with_reducible repeat (first | refine blk_drewN ?_ _ | refine blk_drew ?_ | refine blk_alloc ?_ _)); exact BK255.out⟩, ⟨by (with_reducible repeat (first | refine blk_drewN ?_ _ | refine blk_drew ?_ | refine blk_alloc ?_ _)); exact BK256.out⟩, ⟨by (with_reducible repeat (first | refine blk_drewN ?_ _ | refine blk_drew ?_ | refine blk_alloc ?_ _)); exact BK283.out⟩, ⟨bb_⟩⟩
       case rest =>
        clear HC35
        try clear c1
        try clear c2
        try clear p2
        try clear c3
        try clear c4
        try clear c5
        try clear c5b0
        try clear c6
        try clear c10
        try clear c10b0
        try clear c14
        try clear c15
        try clear c16
        try clear c17
        try clear c18
        try clear c18b0
        try clear c19
        try clear c20
        try clear c21
        try clear c22
        try clear c39
        try clear c55
        try clear c56
        try clear c64
        try clear c64b0
        try clear c64b1
        try clear c64b2
        try clear hcz15_0
        try clear hcz15_1
        try clear hcz15_2
        try clear hcz15_3
        try clear hcz15_4
        try clear hcz15_5
        try clear hcz15_6
        try clear hcz23_0
        try clear hcz23_1
        try clear hcz23_2
        try clear hcz23_3
        try clear hcz23_4
        try clear hcz23_5
        try clear hcz23_6
        try clear hcz25_0
        try clear hcz25_1
        try clear hcz40_0
        try clear hcz40_1
        try clear hcz40_2
        try clear hcz40_3
        try clear hcz40_4
        try clear hcz40_5
        try clear hcz40_6
        try clear hcz42_0
        try clear hcz42_1
        try clear hcz52_0
        try clear hcz52_1
        try clear hcz57_0
        try clear hcz57_1
        try clear hfz15_0
        try clear hfz15_1
        try clear hfz15_2
        try clear hfz15_3
        try clear hfz15_4
        try clear hfz15_5
        try clear hfz15_6
        try clear hfz23_0
        try clear hfz23_1
        try clear hfz23_2
        try clear hfz23_3
        try clear hfz23_4
        try clear hfz23_5
        try clear hfz23_6
        try clear hfz25_0
        try clear hfz25_1
        try clear hfz40_0
        try clear hfz40_1
        try clear hfz40_2
        try clear hfz40_3
        try clear hfz40_4
        try clear hfz40_5
        try clear hfz40_6
        try clear hfz42_0
        try clear hfz42_1
        try clear hfz52_0
        try clear hfz52_1
        try clear hfz57_0
        try clear hfz57_1
        obtain ⟨kq, x58_34, rfl, HA, HJ34, HO_10, HO_284001, BK255, BK256, BK283, HB⟩ := hcut
        cases kq with
        | zero => exact absurd HA.out (by simp [laws_FnExactIsRight.j0])
        | succ kj34 =>
         have H := HA.out
         clear HA
         simp only [laws_FnExactIsRight.j0] at H
         by_cases c65 : x58_34 = true
         · subst c65
           have H1 : (some false) = some r := by rw [if_pos rfl] at H; exact H
           clear H
           have H := H1
           clear H1
           rw [hrt.out] at H; cases H
         · replace c65 := Bool.eq_false_iff.mpr c65
           subst c65
           have H1 : ((laws_toClauseS.f kj34 l0).bind fun t293 => ((laws_eqClauseS.f kj34 t276 t293).bind fun t296 => (if t296 = true then ((laws_toDecision.f kj34 a2_0 l2_1).bind fun bt297 => ((laws_eqDecision.f kj34 t279 t280 bt297.1 bt297.2).bind fun t301 => (if t301 = true then (some true) else (some false)))) else (some false)))) = some r := by rw [if_neg (show ¬ (false = true) by decide)] at H; exact H
           clear H
           have H := H1
           clear H1
           replace H := Option.bind_eq_some_iff.mp H
           obtain ⟨t293, A660, H⟩ := H
           replace H : ((laws_eqClauseS.f kj34 t276 t293).bind fun t296 => (if t296 = true then ((laws_toDecision.f kj34 a2_0 l2_1).bind fun bt297 => ((laws_eqDecision.f kj34 t279 t280 bt297.1 bt297.2).bind fun t301 => (if t301 = true then (some true) else (some false)))) else (some false))) = some r := H
           have A66 := Aside0.mk A660
           clear A660
           replace H := Option.bind_eq_some_iff.mp H
           obtain ⟨t296, A670, H⟩ := H
           replace H : (if t296 = true then ((laws_toDecision.f kj34 a2_0 l2_1).bind fun bt297 => ((laws_eqDecision.f kj34 t279 t280 bt297.1 bt297.2).bind fun t301 => (if t301 = true then (some true) else (some false)))) else (some false)) = some r := H
           have A67 := Aside0.mk A670
           clear A670
           by_cases c68 : t296 = true
           · subst c68
             have H1 : ((laws_toDecision.f kj34 a2_0 l2_1).bind fun bt297 => ((laws_eqDecision.f kj34 t279 t280 bt297.1 bt297.2).bind fun t301 => (if t301 = true then (some true) else (some false)))) = some r := by rw [if_pos rfl] at H; exact H
             clear H
             have H := H1
             clear H1
             replace H := Option.bind_eq_some_iff.mp H
             obtain ⟨⟨t297, t298⟩, A690, H⟩ := H
             replace H : ((laws_eqDecision.f kj34 t279 t280 t297 t298).bind fun t301 => (if t301 = true then (some true) else (some false))) = some r := H
             have A69 := Aside0.mk A690
             clear A690
             replace H := Option.bind_eq_some_iff.mp H
             obtain ⟨t301, A700, H⟩ := H
             replace H : (if t301 = true then (some true) else (some false)) = some r := H
             have A70 := Aside0.mk A700
             clear A700
             by_cases c71 : t301 = true
             · subst c71
               have H1 : (some true) = some r := by rw [if_pos rfl] at H; exact H
               clear H
               have H := H1
               clear H1
               obtain rfl := Option.some.inj H
               try go_wp2_with (first | ((with_reducible refine gate_callee (f := 18) rfl ?_); refine goesL_ (some 61) rfl rfl Try.func18 (by kernel_rfl) rfl #[.slice A0 l0.length c0] rfl (by (try simp only [List.map_toArray, List.map_cons, List.map_nil]); first | done | rfl | (simp only [List.length_drop, List.length_take]; rfl)) ?_; (with_reducible refine (laws_toClauseS.calls kj34 _ _ l0 t293 _ ?side1 ?side2 A66.out).mono ?_); (case side1 => repeat (first | exact (Kd.C_below HR0.out HB.out) | (with_reducible refine Kd.C_alloc ?_ _) | (with_reducible refine Kd.C_drewN ?_ _) | (with_reducible refine Kd.C_drew ?_))); (case side2 => exact HC0.out); rintro e w72 ⟨v294, rfl, ho0, hb⟩; refine ⟨_, rfl, ?_⟩; have n0_ := Aside0.mk (Kd.R_elder' (by (with_reducible repeat (first | apply Kd.R_alloc | apply Kd.R_drewN | apply Kd.R_drew)); exact HO_10.out) (Kd.R_base ho0) hb); have n1_ := Aside0.mk (Kd.R_below (by (with_reducible repeat (first | apply Kd.R_alloc | apply Kd.R_drewN | apply Kd.R_drew)); exact HO_284001.out) hb); have n2_ := Aside0.mk (Kd.R_lower (Kd.R_new' ho0 (Kd.R_lt (by (with_reducible repeat (first | apply Kd.R_alloc | apply Kd.R_drewN | apply Kd.R_drew)); exact HO_10.out))) (bz_)); have n3_ := Aside0.mk (blk_below (g := gb255) (o := .cells #[.int .i64 a1_0, .int .i64 a1_1, .string a1_2, .int .i64 a1_3, .bool a1_4, .bool a1_5, .bool a1_6] 32 (0, 0)) (by (with_reducible repeat (first | refine blk_drewN ?_ _ | refine blk_drew ?_ | refine blk_alloc ?_ _)); exact BK255.out) hb); have n4_ := Aside0.mk (blk_below (g := gb256) (o := .cells #[.int .i64 a2_0, .slice A2_1 l2_1.length c2_1] 35 (0, 0)) (by (with_reducible repeat (first | refine blk_drewN ?_ _ | refine blk_drew ?_ | refine blk_alloc ?_ _)); exact BK256.out) hb); have n5_ := Aside0.mk (blk_below (g := gb283) (o := .cells #[.int .i64 t279, .slice Ao58 t280.length co58] 45 (0, 0)) (by (with_reducible repeat (first | refine blk_drewN ?_ _ | refine blk_drew ?_ | refine blk_alloc ?_ _)); exact BK283.out) hb); have n6_ := Aside0.mk (bs_ hb); clear HO_10; clear HO_284001; clear BK255; clear BK256; clear BK283; clear HB; have HO_10 := n0_; have HO_284001 := n1_; have HO295 := n2_; have BK255 := n3_; have BK256 := n4_; have BK283 := n5_; have HB := n6_; clear n0_ n1_ n2_ n3_ n4_ n5_ n6_; (try clear hb); (try clear hb2); (try clear hk); (try clear hi); (try clear ho0); obtain ⟨Ao73, co73, eo73⟩ := Kd.R_slice HO295.out; subst eo73) | ((with_reducible refine gate_callee (f := 22) rfl ?_); refine goesL_ (some 62) rfl rfl Try.func22 (by kernel_rfl) rfl #[.slice Ao62 t276.length co62, .slice Ao73 t293.length co73] rfl (by (try simp only [List.map_toArray, List.map_cons, List.map_nil]); first | done | rfl | (simp only [List.length_drop, List.length_take]; rfl)) ?_; (with_reducible refine (laws_eqClauseS.calls kj34 _ _ t276 _ _ t293 true _ ?side1 ?side2 ?side3 ?side4 A67.out).mono ?_); (case side1 => repeat (first | exact (Kd.R_reads' HO_10.out).2.2 | (with_reducible refine Kd.C_alloc ?_ _) | (with_reducible refine Kd.C_drewN ?_ _) | (with_reducible refine Kd.C_drew ?_))); (case side2 => exact (Kd.R_reads' HO_10.out).2.1); (case side3 => repeat (first | exact (Kd.R_reads' HO295.out).2.2 | (with_reducible refine Kd.C_alloc ?_ _) | (with_reducible refine Kd.C_drewN ?_ _) | (with_reducible refine Kd.C_drew ?_))); (case side4 => exact (Kd.R_reads' HO295.out).2.1); rintro e w74 ⟨rfl, hb⟩; refine ⟨_, rfl, ?_⟩; have n0_ := Aside0.mk (Kd.R_below (by (with_reducible repeat (first | apply Kd.R_alloc | apply Kd.R_drewN | apply Kd.R_drew)); exact HO_10.out) hb); have n1_ := Aside0.mk (Kd.R_below (by (with_reducible repeat (first | apply Kd.R_alloc | apply Kd.R_drewN | apply Kd.R_drew)); exact HO_284001.out) hb); have n2_ := Aside0.mk (Kd.R_below (by (with_reducible repeat (first | apply Kd.R_alloc | apply Kd.R_drewN | apply Kd.R_drew)); exact HO295.out) hb); have n3_ := Aside0.mk (blk_below (g := gb255) (o := .cells #[.int .i64 a1_0, .int .i64 a1_1, .string a1_2, .int .i64 a1_3, .bool a1_4, .bool a1_5, .bool a1_6] 32 (0, 0)) (by (with_reducible repeat (first | refine blk_drewN ?_ _ | refine blk_drew ?_ | refine blk_alloc ?_ _)); exact BK255.out) hb); have n4_ := Aside0.mk (blk_below (g := gb256) (o := .cells #[.int .i64 a2_0, .slice A2_1 l2_1.length c2_1] 35 (0, 0)) (by (with_reducible repeat (first | refine blk_drewN ?_ _ | refine blk_drew ?_ | refine blk_alloc ?_ _)); exact BK256.out) hb); have n5_ := Aside0.mk (blk_below (g := gb283) (o := .cells #[.int .i64 t279, .slice Ao58 t280.length co58] 45 (0, 0)) (by (with_reducible repeat (first | refine blk_drewN ?_ _ | refine blk_drew ?_ | refine blk_alloc ?_ _)); exact BK283.out) hb); have n6_ := Aside0.mk (bs_ hb); clear HO_10; clear HO_284001; clear HO295; clear BK255; clear BK256; clear BK283; clear HB; have HO_10 := n0_; have HO_284001 := n1_; have HO295 := n2_; have BK255 := n3_; have BK256 := n4_; have BK283 := n5_; have HB := n6_; clear n0_ n1_ n2_ n3_ n4_ n5_ n6_; (try clear hb); (try clear hb2); (try clear hk); (try clear hi)))
               have n0_ := Aside0.mk (Kd.R_drew HO_10.out)
               have n1_ := Aside0.mk (Kd.R_drew HO_284001.out)
               have n2_ := Aside0.mk (Kd.R_drew HO295.out)
               have n3_ := Aside0.mk (blk_drew BK255.out)
               have n4_ := Aside0.mk (blk_drew BK256.out)
               have n5_ := Aside0.mk (blk_drew BK283.out)
               have n6_ := Aside0.mk (below_drew1 HB.out)
               clear HO_10
               clear HO_284001
               clear HO295
               clear BK255
               clear BK256
               clear BK283
               clear HB
               have HO_10 := n0_
               have HO_284001 := n1_
               have HO295 := n2_
               have BK255 := n3_
               have BK256 := n4_
               have BK283 := n5_
               have HB := n6_
               clear n0_ n1_ n2_ n3_ n4_ n5_ n6_
               refine start_ (n := 5) (S := fun w' => w'.cell? ⟨gb283, 0, none⟩ = some (.int .i64 t279) ∧ w'.cell? ⟨gb283, 1, none⟩ = some (.slice Ao58 t280.length co58) ∧ w'.cell? ⟨gb256, 0, none⟩ = some (.int .i64 a2_0) ∧ w'.cell? ⟨gb256, 1, none⟩ = some (.slice A2_1 l2_1.length c2_1)) (ds := []) (fb 5 0) (by kernel_rfl) rfl rfl ⟨(blk_cell BK283.out 0).trans rfl, (blk_cell BK283.out 1).trans rfl, (blk_cell BK256.out 0).trans rfl, (blk_cell BK256.out 1).trans rfl⟩ (fun hHeld => ?_)
               generalize w74.drew = w75 at HO_10 HO_284001 HO295 BK255 BK256 BK283 HB hHeld ⊢
               refine sqT_ 0 64 (fb 5 1) (by kernel_rfl) hHeld ?_
               refine sqT_ 1 65 (fb 5 3) (by kernel_rfl) hHeld ?_
               refine one_ (i := 2) (N := some 66) (fb 5 7) rfl rfl (by kernel_rfl) (by decide) (fun K hK => ?_)
               refine goes_ Try.func20 (by kernel_rfl) rfl #[.agg #[.int .i64 a2_0, .slice A2_1 l2_1.length c2_1]] (by rfl) rfl rfl (by (try simp only [List.map_toArray, List.map_cons, List.map_nil]); first | done | rfl | (simp only [List.length_drop, List.length_take]; rfl)) ?_
               with_reducible refine (laws_toDecision.calls kj34 a2_0 _ _ l2_1 t297 t298 _ ?side1 ?side2 A69.out).mono ?_
               (case side1 => repeat (first | exact (Kd.C_below HR2_1.out HB.out) | (with_reducible refine Kd.C_alloc ?_ _) | (with_reducible refine Kd.C_drewN ?_ _) | (with_reducible refine Kd.C_drew ?_)))
               (case side2 => exact HC2_1.out)
               rintro e w76 ⟨v299, rfl, ho0, hb⟩
               refine ⟨_, rfl, ?_⟩
               have n0_ := Aside0.mk (Kd.R_below (by (with_reducible repeat (first | apply Kd.R_alloc | apply Kd.R_drewN | apply Kd.R_drew)); exact HO_10.out) hb)
               have n1_ := Aside0.mk (Kd.R_elder' (by (with_reducible repeat (first | apply Kd.R_alloc | apply Kd.R_drewN | apply Kd.R_drew)); exact HO_284001.out) (Kd.R_base ho0) hb)
               have n2_ := Aside0.mk (Kd.R_below (by (with_reducible repeat (first | apply Kd.R_alloc | apply Kd.R_drewN | apply Kd.R_drew)); exact HO295.out) hb)
               have n3_ := Aside0.mk (Kd.R_lower (Kd.R_new' ho0 (Kd.R_lt (by (with_reducible repeat (first | apply Kd.R_alloc | apply Kd.R_drewN | apply Kd.R_drew)); exact HO_284001.out))) (bz_))
               have n4_ := Aside0.mk (blk_below (g := gb255) (o := .cells #[.int .i64 a1_0, .int .i64 a1_1, .string a1_2, .int .i64 a1_3, .bool a1_4, .bool a1_5, .bool a1_6] 32 (0, 0)) (by (with_reducible repeat (first | refine blk_drewN ?_ _ | refine blk_drew ?_ | refine blk_alloc ?_ _)); exact BK255.out) hb)
               have n5_ := Aside0.mk (blk_below (g := gb256) (o := .cells #[.int .i64 a2_0, .slice A2_1 l2_1.length c2_1] 35 (0, 0)) (by (with_reducible repeat (first | refine blk_drewN ?_ _ | refine blk_drew ?_ | refine blk_alloc ?_ _)); exact BK256.out) hb)
               have n6_ := Aside0.mk (blk_below (g := gb283) (o := .cells #[.int .i64 t279, .slice Ao58 t280.length co58] 45 (0, 0)) (by (with_reducible repeat (first | refine blk_drewN ?_ _ | refine blk_drew ?_ | refine blk_alloc ?_ _)); exact BK283.out) hb)
               have n7_ := Aside0.mk (bs_ hb)
               clear HO_10
               clear HO_284001
               clear HO295
               clear BK255
               clear BK256
               clear BK283
               clear HB
               have HO_10 := n0_
               have HO_284001 := n1_
               have HO295 := n2_
               have HO300 := n3_
               have BK255 := n4_
               have BK256 := n5_
               have BK283 := n6_
               have HB := n7_
               clear n0_ n1_ n2_ n3_ n4_ n5_ n6_ n7_
               (try clear hb)
               (try clear hb2)
               (try clear hk)
               (try clear hi)
               (try clear ho0)
               obtain ⟨Ao77, co77, eo77⟩ := Kd.R_slice HO300.out
               (first | subst eo77 | (injection eo77 with f1_ f2_ f3_; have f4_ := f1_.symm; have f5_ := f3_.symm; clear f1_ f2_ f3_; subst f4_; subst f5_))
               refine hK.out _ _ ⟨(blk_cell BK283.out 0).trans rfl, (blk_cell BK283.out 1).trans rfl, (blk_cell BK256.out 0).trans rfl, (blk_cell BK256.out 1).trans rfl⟩ (fun hHeld => ?_)
               clear hK K
               refine sqN_ 66 ?_
               refine one_ (i := 3) (N := some 67) (fb 5 15) rfl rfl (by kernel_rfl) (by decide) (fun K hK => ?_)
               refine goes_ Try.func23 (by kernel_rfl) rfl #[.agg #[.int .i64 t279, .slice Ao58 t280.length co58], .agg #[.int .i64 t297, .slice Ao77 t298.length co77]] (by rfl) rfl rfl (by (try simp only [List.map_toArray, List.map_cons, List.map_nil]); first | done | rfl | (simp only [List.length_drop, List.length_take]; rfl)) ?_
               with_reducible refine (laws_eqDecision.calls kj34 t279 _ _ t280 t297 _ _ t298 true _ ?side1 ?side2 ?side3 ?side4 A70.out).mono ?_
               (case side1 => repeat (first | exact (Kd.R_reads' HO_284001.out).2.2 | (with_reducible refine Kd.C_alloc ?_ _) | (with_reducible refine Kd.C_drewN ?_ _) | (with_reducible refine Kd.C_drew ?_)))
               (case side2 => exact (Kd.R_reads' HO_284001.out).2.1)
               (case side3 => repeat (first | exact (Kd.R_reads' HO300.out).2.2 | (with_reducible refine Kd.C_alloc ?_ _) | (with_reducible refine Kd.C_drewN ?_ _) | (with_reducible refine Kd.C_drew ?_)))
               (case side4 => exact (Kd.R_reads' HO300.out).2.1)
               rintro e w78 ⟨rfl, hb⟩
               refine ⟨_, rfl, ?_⟩
               have n0_ := Aside0.mk (Kd.R_below (by (with_reducible repeat (first | apply Kd.R_alloc | apply Kd.R_drewN | apply Kd.R_drew)); exact HO_10.out) hb)
               have n1_ := Aside0.mk (Kd.R_below (by (with_reducible repeat (first | apply Kd.R_alloc | apply Kd.R_drewN | apply Kd.R_drew)); exact HO_284001.out) hb)
               have n2_ := Aside0.mk (Kd.R_below (by (with_reducible repeat (first | apply Kd.R_alloc | apply Kd.R_drewN | apply Kd.R_drew)); exact HO295.out) hb)
               have n3_ := Aside0.mk (Kd.R_below (by (with_reducible repeat (first | apply Kd.R_alloc | apply Kd.R_drewN | apply Kd.R_drew)); exact HO300.out) hb)
               have n4_ := Aside0.mk (blk_below (g := gb255) (o := .cells #[.int .i64 a1_0, .int .i64 a1_1, .string a1_2, .int .i64 a1_3, .bool a1_4, .bool a1_5, .bool a1_6] 32 (0, 0)) (by (with_reducible repeat (first | refine blk_drewN ?_ _ | refine blk_drew ?_ | refine blk_alloc ?_ _)); exact BK255.out) hb)
               have n5_ := Aside0.mk (blk_below (g := gb256) (o := .cells #[.int .i64 a2_0, .slice A2_1 l2_1.length c2_1] 35 (0, 0)) (by (with_reducible repeat (first | refine blk_drewN ?_ _ | refine blk_drew ?_ | refine blk_alloc ?_ _)); exact BK256.out) hb)
               have n6_ := Aside0.mk (blk_below (g := gb283) (o := .cells #[.int .i64 t279, .slice Ao58 t280.length co58] 45 (0, 0)) (by (with_reducible repeat (first | refine blk_drewN ?_ _ | refine blk_drew ?_ | refine blk_alloc ?_ _)); exact BK283.out) hb)
               have n7_ := Aside0.mk (bs_ hb)
               clear HO_10
               clear HO_284001
               clear HO295
               clear HO300
               clear BK255
               clear BK256
               clear BK283
               clear HB
               have HO_10 := n0_
               have HO_284001 := n1_
               have HO295 := n2_
               have HO300 := n3_
               have BK255 := n4_
               have BK256 := n5_
               have BK283 := n6_
               have HB := n7_
               clear n0_ n1_ n2_ n3_ n4_ n5_ n6_ n7_
               (try clear hb)
               (try clear hb2)
               (try clear hk)
               (try clear hi)
               refine hK.out _ _ ⟨(blk_cell BK283.out 0).trans rfl, (blk_cell BK283.out 1).trans rfl, (blk_cell BK256.out 0).trans rfl, (blk_cell BK256.out 1).trans rfl⟩ (fun hHeld => ?_)
               clear hK K
               refine sqN_ 67 ?_
               refine sqP_ 4 68 (fb 5 31) (by kernel_rfl) ?_
               refine done_ (by kernel_rfl) ?_
               try go_wp2
               go_ret
               exact ⟨by first | rfl | (simp [errW_none, errW_some] <;> rfl) | (simp [*, errW_none, errW_some] <;> rfl), bb_⟩
             · replace c71 := Bool.eq_false_iff.mpr c71
               subst c71
               have H1 : (some false) = some r := by rw [if_neg (show ¬ (false = true) by decide)] at H; exact H
               clear H
               have H := H1
               clear H1
               rw [hrt.out] at H; cases H
           · replace c68 := Bool.eq_false_iff.mpr c68
             subst c68
             have H1 : (some false) = some r := by rw [if_neg (show ¬ (false = true) by decide)] at H; exact H
             clear H
             have H := H1
             clear H1
             rw [hrt.out] at H; cases H

end Go.Proofs.Ytmfbkbbgokjhnaa.F
