-- Written by this session's program (wip/bin/hp.py) over the kit's print: a function's Lean form, and a proof that the call does what it says.
import Derived.Test.YtmfbkbbgokjhnaaFx0
import Derived.Test.YtmfbkbbgokjhnaaSq
import Derived.Test.YtmfbkbbgokjhnaaFx17
import Derived.Test.YtmfbkbbgokjhnaaFx23
namespace Go.Proofs.Ytmfbkbbgokjhnaa.F
open Go.RowKit Go.Proofs.YtmfbkbbgokjhnaaW.PrintWords Go.Proofs.YtmfbkbbgokjhnaaW.PrintLast Go.Proofs.YtmfbkbbgokjhnaaW.PrintMore
attribute [local go_sem] max2_int min2_int max_two min_two max_three min_three max_four min_four   -- for this text's walks alone
set_option linter.unusedVariables false
set_option linter.unusedSimpArgs false

/-! ### impl_decide: function 75 -/
def impl_decide.l0 : Nat → List (S94) → List ByteArray → Int → Int → Int → ByteArray → Int → Bool → Bool → Bool → Option (Int × List ByteArray)
 | 0, _, _, _, _, _, _, _, _, _, _ => none
 | k + 1, x0, x5, x6, x250000, x250001, x250002, x250003, x250004, x250005, x250006 => (impl_firstMatch.f x0 x6 x250000 x250001 x250002 x250003 x250004 x250005 x250006).bind fun t254 => (if 0 ≤ t254 then (if t254 < (x0.length : Int) then (if x5.length < 8796093022208 then ((some (x5 ++ [(rd_T94 x0 t254).f0] : List ByteArray)).bind fun y257 => (if ((rd_T94 x0 t254).f5) = 3 then ((impl_findClause.f x0 ((rd_T94 x0 t254).f6)).bind fun t260 => (impl_decide.l0 k x0 y257 t260 x250000 x250001 x250002 x250003 x250004 x250005 x250006)) else (some ((rd_T94 x0 t254).f5, y257)))) else (none)) else (none)) else (none))
def impl_decide.f (k : Nat) (l0 : List (S94)) (a1_0 : Int) (a1_1 : Int) (a1_2 : ByteArray) (a1_3 : Int) (a1_4 : Bool) (a1_5 : Bool) (a1_6 : Bool) : Option (Int × List ByteArray) := impl_decide.l0 k l0 (([] : List ByteArray)) 0 a1_0 a1_1 a1_2 a1_3 a1_4 a1_5 a1_6
theorem impl_decide.mono_l : ∀ k, (∀ y0 y1 y2 y3 y4 y5 y6 y7 y8 y9, LeO (impl_decide.l0 k y0 y1 y2 y3 y4 y5 y6 y7 y8 y9) (impl_decide.l0 (k + 1) y0 y1 y2 y3 y4 y5 y6 y7 y8 y9))
 | 0 => fun _ _ _ _ _ _ _ _ _ _ r h => by simp [impl_decide.l0] at h
 | k + 1 => by
  have ih0 := impl_decide.mono_l k
  · intro y0 y1 y2 y3 y4 y5 y6 y7 y8 y9
    unfold impl_decide.l0
    repeat' first
    | (with_reducible exact ih0 _ _ _ _ _ _ _ _ _ _)
    | (with_reducible exact LeO.refl _)
    | (with_reducible exact LeO.none _)
    | (with_reducible refine LeO.ite ?_ ?_)
    | (with_reducible refine LeO.bind ?_ (fun _ => ?_))
    | exact ih0 _ _ _ _ _ _ _ _ _ _
    | exact LeO.none _
    | refine LeO.ite ?_ ?_
    | refine LeO.bind ?_ (fun _ => ?_)
theorem impl_decide.mono : ∀ a0 a1 a2 a3 a4 a5 a6 a7 k, LeO (impl_decide.f k a0 a1 a2 a3 a4 a5 a6 a7) (impl_decide.f (k + 1) a0 a1 a2 a3 a4 a5 a6 a7) := by
 intro a0 a1 a2 a3 a4 a5 a6 a7 k
 have ih0 := impl_decide.mono_l k
 unfold impl_decide.f
 repeat' first
  | (with_reducible exact ih0 _ _ _ _ _ _ _ _ _ _)
  | (with_reducible exact LeO.refl _)
  | (with_reducible exact LeO.none _)
  | (with_reducible refine LeO.ite ?_ ?_)
  | (with_reducible refine LeO.bind ?_ (fun _ => ?_))
  | exact ih0 _ _ _ _ _ _ _ _ _ _
  | exact LeO.none _
  | refine LeO.ite ?_ ?_
  | refine LeO.bind ?_ (fun _ => ?_)
set_option maxHeartbeats 8000000 in
set_option maxRecDepth 100000 in
theorem impl_decide.calls (k : Nat) (A0 : Option Addr) (c0 : Nat) (l0 : List (S94)) (a1_0 : Int) (a1_1 : Int) (a1_2 : ByteArray) (a1_3 : Int) (a1_4 : Bool) (a1_5 : Bool) (a1_6 : Bool) (r1 : Int) (r2 : List ByteArray) (w : World) (hr0 : Kd.C k94 w A0 l0.length l0) (hc0 : l0.length ≤ c0) (h : impl_decide.f k l0 a1_0 a1_1 a1_2 a1_3 a1_4 a1_5 a1_6 = some (r1, r2)) :
 Calls Try.prog 75 #[.slice A0 l0.length c0, .agg #[.int .i64 a1_0, .int .i64 a1_1, .string a1_2, .int .i64 a1_3, .bool a1_4, .bool a1_5, .bool a1_6]] w fun e w' => ∃ v1_ : Value, e = .returned (.agg #[.int .i64 r1, v1_]) ∧ Kd.R Kd.string 9 w' w.heap.size (fun _ => True) v1_ r2 ∧ Below w.heap.size w w' := by
 have hu43 := Try.underlying43
 have hu45 := Try.underlying45
 have hu94 := Try.underlying94
 have HR0 := Aside0.mk hr0
 have HC0 := Aside0.mk hc0
 clear hr0 hc0
 have HB := Aside0.mk (Below.refl w.heap.size w)
 have H : (impl_decide.l0 k l0 (([] : List ByteArray)) 0 a1_0 a1_1 a1_2 a1_3 a1_4 a1_5 a1_6) = some (r1, r2) := h
 clear h
 obtain ⟨y251, hy251⟩ : ∃ y_ : List ByteArray, y_ = (([] : List ByteArray)) := ⟨_, rfl⟩
 replace H : (impl_decide.l0 k l0 y251 0 a1_0 a1_1 a1_2 a1_3 a1_4 a1_5 a1_6) = some (r1, r2) := by first | (rw [hy251]; with_reducible exact H) | (have H2_ := (Option.bind_some _ _).symm.trans H; rw [hy251]; with_reducible exact H2_) | (have H2_ := (Option.bind_some _ _).symm.trans H; with_reducible exact H2_) | with_reducible exact H | (rw [hy251]; exact H) | exact H
 have Ny251 := Aside0.mk hy251
 clear hy251
 have H' := Aside0.mk H
 clear H
 go_enter Try.func75, Try.ntmps75
 go_wp2_with (first | ((with_reducible refine gate_dst (N := 3) rfl ?_); refine bx_ 3 #[.int .i64 a1_0, .int .i64 a1_1, .string a1_2, .int .i64 a1_3, .bool a1_4, .bool a1_5, .bool a1_6] 43 ?_; intro gb249 hg w3 hbox hb; have n0_ := Aside0.mk (bs_ hb); have n1_ := Aside0.mk (hbox); have n2_ := Aside0.mk ((by rw [hg]; exact (bz_) : w.heap.size ≤ gb249)); have n3_ := Aside0.mk ((by rw [hg]; exact (bz_) : w.heap.size ≤ gb249)); clear HB; revert n0_ n1_ n2_ n3_; intro HB BK249 GW249 GE249; clear hb hbox hg) | ((with_reducible refine gate_dst (N := 4) rfl ?_); refine bx_ 4 #[.int .i64 0, .slice none 0 0] 45 ?_; intro gb250 hg w4 hbox hb; have n0_ := Aside0.mk (bkb BK249 hb); have n1_ := Aside0.mk (bs_ hb); have n2_ := Aside0.mk (hbox); have n3_ := Aside0.mk ((by rw [hg]; exact (bz_) : w.heap.size ≤ gb250)); have n4_ := Aside0.mk ((by rw [hg]; exact (bz_) : w.heap.size ≤ gb250)); have n5_ := Aside0.mk ((by rw [hg]; exact Nat.ne_of_lt (blk_lt (g := gb249) (o := .cells #[.int .i64 a1_0, .int .i64 a1_1, .string a1_2, .int .i64 a1_3, .bool a1_4, .bool a1_5, .bool a1_6] 43 (0, 0)) (by (with_reducible repeat (first | refine blk_drewN ?_ _ | refine blk_drew ?_ | refine blk_alloc ?_ _)); exact BK249.out)) : gb249 ≠ gb250)); have n6_ := Aside0.mk ((by rw [hg]; exact Nat.ne_of_gt (blk_lt (g := gb249) (o := .cells #[.int .i64 a1_0, .int .i64 a1_1, .string a1_2, .int .i64 a1_3, .bool a1_4, .bool a1_5, .bool a1_6] 43 (0, 0)) (by (with_reducible repeat (first | refine blk_drewN ?_ _ | refine blk_drew ?_ | refine blk_alloc ?_ _)); exact BK249.out)) : gb250 ≠ gb249)); clear BK249 HB; revert n0_ n1_ n2_ n3_ n4_ n5_ n6_; intro BK249 HB BK250 GW250 GE250 NB249_250 NB250_249; clear hb hbox hg) | ((with_reducible refine gate_dst (N := 8) rfl ?_); refine Kd.R_lit Kd.string _ 9 ?hg (N := 8) ?hd (xs := ([] : List ByteArray)) (inner := []) (ok := fun _ => True) (okp := fun _ => True) ?hr ?hp (fun _ hk => hk) trivial (Below.refl _ _) (Nat.le_refl _) (by simp) ?_; (case hd => rfl); (case hg => rfl); (case hr => first | (go_simp; done) | (go_simp; rfl)); (case hp => exact (Reps.none _ _)); intro v252 w5 ho6 hb hg_ hnew_; clear hg_ hnew_; (first | rw [← Ny251.out] at ho6 | (simp only [Int.reduceToNat] at ho6; rw [← Ny251.out] at ho6)); have n0_ := Aside0.mk (Kd.R_lower ho6 (bz_)); have n1_ := Aside0.mk (bkb BK249 hb); have n2_ := Aside0.mk (bkb BK250 hb); have n3_ := Aside0.mk (bs_ hb); clear BK249 BK250 HB; revert n0_ n1_ n2_ n3_; intro HO253 BK249 BK250 HB; clear hb ho6))
 go_loopg [5, 6] k (fun kq v5 v6 w' => ∃ (x5_1 : List ByteArray) (x6_1 : Int) (x251000_1 : Int), v6 = .int .i64 x6_1 ∧ Aside0 (impl_decide.l0 kq l0 x5_1 x6_1 a1_0 a1_1 a1_2 a1_3 a1_4 a1_5 a1_6 = some (r1, r2)) ∧ Aside0 (kq ≤ k) ∧ Aside0 (Kd.R Kd.string 9 w' w.heap.size (fun _ => True) v5 x5_1) ∧ Aside0 (w'.heap[gb249]? = some (.cells #[.int .i64 a1_0, .int .i64 a1_1, .string a1_2, .int .i64 a1_3, .bool a1_4, .bool a1_5, .bool a1_6] 43 (0, 0))) ∧ Aside0 (w'.heap[gb250]? = some (.cells #[.int .i64 x251000_1, (.slice none 0 0)] 45 (0, 0))) ∧ Aside0 (Below w.heap.size w w'))
 case atStart => exact ⟨(y251), (0), (0), (by first | rfl | (simp; done) | (simp [*]; done)), H', ⟨Nat.le_refl _⟩, ⟨by (with_reducible repeat (first | apply Kd.R_alloc | apply Kd.R_drewN | apply Kd.R_drew)); exact HO253.out⟩, ⟨by (with_reducible repeat (first | refine blk_drewN ?_ _ | refine blk_drew ?_ | refine blk_alloc ?_ _)); exact BK249.out⟩, ⟨by (with_reducible repeat (first | refine blk_drewN ?_ _ | refine blk_drew ?_ | refine blk_alloc ?_ _)); exact BK250.out⟩, ⟨bb_⟩⟩
 case round =>
  clear H'
  try clear p2
  obtain ⟨x5_1, x6_1, x251000_1, rfl, HA, HK1, HO_5, BK249, BK250, HB⟩ := hrel
  cases gk with
  | zero => exact absurd HA.out (by simp [impl_decide.l0])
  | succ k1 =>
   have H := HA.out
   clear HA
   simp only [impl_decide.l0] at H
   replace H := Option.bind_eq_some_iff.mp H
   obtain ⟨t254, A70, H⟩ := H
   replace H : (if 0 ≤ t254 then (if t254 < (l0.length : Int) then (if x5_1.length < 8796093022208 then ((some (x5_1 ++ [(rd_T94 l0 t254).f0] : List ByteArray)).bind fun y257 => (if ((rd_T94 l0 t254).f5) = 3 then ((impl_findClause.f l0 ((rd_T94 l0 t254).f6)).bind fun t260 => (impl_decide.l0 k1 l0 y257 t260 a1_0 a1_1 a1_2 a1_3 a1_4 a1_5 a1_6)) else (some ((rd_T94 l0 t254).f5, y257)))) else (none)) else (none)) else (none)) = some (r1, r2) := H
   have A7 := Aside0.mk A70
   clear A70
   by_cases c8 : 0 ≤ t254
   · rw [if_pos c8] at H
     have c8b0 : decide (0 ≤ t254) = true := decide_eq_true c8
     clear c8
     by_cases c9 : t254 < (l0.length : Int)
     · rw [if_pos c9] at H
       have c9b0 : decide (t254 < (l0.length : Int)) = true := decide_eq_true c9
       clear c9
       by_cases c10 : x5_1.length < 8796093022208
       · rw [if_pos c10] at H
         have LMc10 := Aside0.mk c10
         clear c10
         obtain ⟨y257, hy257⟩ : ∃ y_ : List ByteArray, y_ = (x5_1 ++ [(rd_T94 l0 t254).f0]) := ⟨_, rfl⟩
         replace H : (if ((rd_T94 l0 t254).f5) = 3 then ((impl_findClause.f l0 ((rd_T94 l0 t254).f6)).bind fun t260 => (impl_decide.l0 k1 l0 y257 t260 a1_0 a1_1 a1_2 a1_3 a1_4 a1_5 a1_6)) else (some ((rd_T94 l0 t254).f5, y257))) = some (r1, r2) := by first | (rw [hy257]; with_reducible exact H) | (have H2_ := (Option.bind_some _ _).symm.trans H; rw [hy257]; with_reducible exact H2_) | (have H2_ := (Option.bind_some _ _).symm.trans H; with_reducible exact H2_) | with_reducible exact H | (rw [hy257]; exact H) | exact H
         have Ny257 := Aside0.mk hy257
         clear hy257
         by_cases c11 : ((rd_T94 l0 t254).f5) = 3
         · rw [if_pos c11] at H
           have c11b0 : (((rd_T94 l0 t254).f5) == 3) = true := beq_iff_eq.mpr c11
           have c11b1 : (((rd_T94 l0 t254).f5) != 3) = false := bne_eq_false_iff_eq.mpr c11
           clear c11
           replace H := Option.bind_eq_some_iff.mp H
           obtain ⟨t260, A120, H⟩ := H
           replace H : (impl_decide.l0 k1 l0 y257 t260 a1_0 a1_1 a1_2 a1_3 a1_4 a1_5 a1_6) = some (r1, r2) := H
           have A12 := Aside0.mk A120
           clear A120
           have H' := Aside0.mk H
           clear H
           have hnb13 := NB249_250.out
           have hnc13 := NB250_249.out
           have hcz14_0 := bk BK249 0
           have hcz14_1 := bk BK249 1
           have hcz14_2 := bk BK249 2
           have hcz14_3 := bk BK249 3
           have hcz14_4 := bk BK249 4
           have hcz14_5 := bk BK249 5
           have hcz14_6 := bk BK249 6
           have hfz14_0 := blk_frozen BK249.out 0
           have hfz14_1 := blk_frozen BK249.out 1
           have hfz14_2 := blk_frozen BK249.out 2
           have hfz14_3 := blk_frozen BK249.out 3
           have hfz14_4 := blk_frozen BK249.out 4
           have hfz14_5 := blk_frozen BK249.out 5
           have hfz14_6 := blk_frozen BK249.out 6
           go_wp2_with (first | ((with_reducible refine gate_callee (f := 105) rfl ?_); refine gl_ 13 Try.func105 #[.slice A0 l0.length c0, .int .i64 x6_1, .agg #[.int .i64 a1_0, .int .i64 a1_1, .string a1_2, .int .i64 a1_3, .bool a1_4, .bool a1_5, .bool a1_6]] ?_; (with_reducible refine (impl_firstMatch.calls _ _ l0 x6_1 a1_0 a1_1 a1_2 a1_3 a1_4 a1_5 a1_6 t254 _ ?side1 ?side2 A7.out).mono ?_); (case side1 => repeat (first | exact (Kd.C_below HR0.out HB.out) | (with_reducible refine Kd.C_alloc ?_ _) | (with_reducible refine Kd.C_drewN ?_ _) | (with_reducible refine Kd.C_drew ?_))); (case side2 => exact HC0.out); rintro e w15 ⟨rfl, hb⟩; refine ⟨_, rfl, ?_⟩; have n0_ := Aside0.mk (Kd.R_below (rm_ HO_5) hb); have n1_ := Aside0.mk (bkb BK249 hb); have n2_ := Aside0.mk (bkb BK250 hb); have n3_ := Aside0.mk (bs_ hb); clear HO_5 BK249 BK250 HB; revert n0_ n1_ n2_ n3_; intro HO_5 BK249 BK250 HB; (try clear hb); (try clear hb2); (try clear hk); (try clear hi); have p255 : 0 ≤ (t254 : Int) := od_; have q255 : t254 < (l0.length : Int) := od_; obtain ⟨ad255, e255, hx255_0, hx255_1, hx255_2, hx255_3, hx255_4, hx255_5, hx255_6⟩ := at_T94 HR0.out t254 p255 q255; cases e255; replace hx255_0 := cel HB hx255_0; replace hx255_1 := cel HB hx255_1; replace hx255_2 := cel HB hx255_2; replace hx255_3 := cel HB hx255_3; replace hx255_4 := cel HB hx255_4; replace hx255_5 := cel HB hx255_5; replace hx255_6 := cel HB hx255_6; replace p255 := eq_true p255; replace q255 := eq_true q255) | ((with_reducible refine gate_dst (N := 7) rfl ?_); refine bx_ 7 #[.string (⟨#[]⟩ : ByteArray), .int .i64 0, .int .i64 0, .int .i64 0, .int .i64 0, .int .i64 0, .string (⟨#[]⟩ : ByteArray)] 94 ?_; intro gb256 hg w16 hbox hb; have n0_ := Aside0.mk (Kd.R_below (rm_ HO_5) hb); have n1_ := Aside0.mk (bkb BK249 hb); have n2_ := Aside0.mk (bkb BK250 hb); have n3_ := Aside0.mk (bs_ hb); have n4_ := Aside0.mk (hbox); have n5_ := Aside0.mk ((by rw [hg]; exact (bz_) : w.heap.size ≤ gb256)); have n6_ := Aside0.mk ((by rw [hg]; exact (bz_) : w.heap.size ≤ gb256)); have n7_ := Aside0.mk ((by rw [hg]; exact Nat.ne_of_lt (blk_lt (g := gb249) (o := .cells #[.int .i64 a1_0, .int .i64 a1_1, .string a1_2, .int .i64 a1_3, .bool a1_4, .bool a1_5, .bool a1_6] 43 (0, 0)) (by (with_reducible repeat (first | refine blk_drewN ?_ _ | refine blk_drew ?_ | refine blk_alloc ?_ _)); exact BK249.out)) : gb249 ≠ gb256)); have n8_ := Aside0.mk ((by rw [hg]; exact Nat.ne_of_gt (blk_lt (g := gb249) (o := .cells #[.int .i64 a1_0, .int .i64 a1_1, .string a1_2, .int .i64 a1_3, .bool a1_4, .bool a1_5, .bool a1_6] 43 (0, 0)) (by (with_reducible repeat (first | refine blk_drewN ?_ _ | refine blk_drew ?_ | refine blk_alloc ?_ _)); exact BK249.out)) : gb256 ≠ gb249)); have n9_ := Aside0.mk ((by rw [hg]; exact Nat.ne_of_lt (blk_lt (g := gb250) (o := .cells #[.int .i64 x251000_1, .slice none 0 0] 45 (0, 0)) (by (with_reducible repeat (first | refine blk_drewN ?_ _ | refine blk_drew ?_ | refine blk_alloc ?_ _)); exact BK250.out)) : gb250 ≠ gb256)); have n10_ := Aside0.mk ((by rw [hg]; exact Nat.ne_of_gt (blk_lt (g := gb250) (o := .cells #[.int .i64 x251000_1, .slice none 0 0] 45 (0, 0)) (by (with_reducible repeat (first | refine blk_drewN ?_ _ | refine blk_drew ?_ | refine blk_alloc ?_ _)); exact BK250.out)) : gb256 ≠ gb250)); clear HO_5 BK249 BK250 HB; revert n0_ n1_ n2_ n3_ n4_ n5_ n6_ n7_ n8_ n9_ n10_; intro HO_5 BK249 BK250 HB BK256 GW256 GE256 NB249_256 NB256_249 NB250_256 NB256_250; clear hb hbox hg; have hnb17 := NB256_249.out; have hnc17 := NB249_256.out; have hnb18 := NB256_250.out; have hnc18 := NB250_256.out; have hcz19_0 := bk BK256 0; have hcz19_1 := bk BK256 1; have hcz19_2 := bk BK256 2; have hcz19_3 := bk BK256 3; have hcz19_4 := bk BK256 4; have hcz19_5 := bk BK256 5; have hcz19_6 := bk BK256 6; have hfz19_0 := blk_frozen BK256.out 0; have hfz19_1 := blk_frozen BK256.out 1; have hfz19_2 := blk_frozen BK256.out 2; have hfz19_3 := blk_frozen BK256.out 3; have hfz19_4 := blk_frozen BK256.out 4; have hfz19_5 := blk_frozen BK256.out 5; have hfz19_6 := blk_frozen BK256.out 6) | ((with_reducible refine gate_builtin (b := .append) (xs := #[.tmp 16, .tmp 19]) rfl ?_); at_builtin; refine Kd.R_append Kd.string (w0 := w) w.heap.size rfl (.tmp 16) (.tmp 19) 33 9 (.string ⟨#[]⟩) 16 rfl Try.underlying33 info9 rfl (by decide) (by omega) u5 x5_1 ((rd_T94 l0 t254).f0) [.string ((rd_T94 l0 t254).f0)] (fun _ => True) (fun _ => False) rfl (by first | (go_simp; done) | (go_simp; rfl)) ?aP (fun _ hk => hk.elim) ?aF ?aO ?aB ?aS ?aL ?_; (case aP => exact rfl); (case aB => exact bb_); (case aF => exact (fun _ _ => trivial)); (case aO => exact (by (with_reducible repeat (first | apply Kd.R_alloc | apply Kd.R_drewN | apply Kd.R_drew)); exact Kd.R_mono (Kd.R_far (p := ⟨gb256, 6, none⟩) (Kd.R_far (p := ⟨gb256, 5, none⟩) (Kd.R_far (p := ⟨gb256, 4, none⟩) (Kd.R_far (p := ⟨gb256, 3, none⟩) (Kd.R_far (p := ⟨gb256, 2, none⟩) (Kd.R_far (p := ⟨gb256, 1, none⟩) (Kd.R_far (p := ⟨gb256, 0, none⟩) (Kd.R_types HO_5.out BK256.out (by decide)) (fun _ hk => hk.2) (.string ((rd_T94 l0 t254).f0))) (fun _ hk => hk.2) (.int .i64 ((rd_T94 l0 t254).f1))) (fun _ hk => hk.2) (.int .i64 ((rd_T94 l0 t254).f2))) (fun _ hk => hk.2) (.int .i64 ((rd_T94 l0 t254).f3))) (fun _ hk => hk.2) (.int .i64 ((rd_T94 l0 t254).f4))) (fun _ hk => hk.2) (.int .i64 ((rd_T94 l0 t254).f5))) (fun _ hk => hk.2) (.string ((rd_T94 l0 t254).f6))) (fun _ hk => trivial))); (case aS => exact (bz_)); (case aL => have := LMc10.out; omega); intro v258 w20 ho hb hg hat; rw [← Ny257.out] at ho; have n0_ := Aside0.mk (blk_grown (g := gb249) (o := .cells #[.int .i64 a1_0, .int .i64 a1_1, .string a1_2, .int .i64 a1_3, .bool a1_4, .bool a1_5, .bool a1_6] 43 (0, 0)) (by (with_reducible repeat (first | refine blk_drewN ?_ _ | refine blk_drew ?_ | refine blk_alloc ?_ _)); refine blk_far ?_ NB249_256.out _; (with_reducible repeat (first | refine blk_drewN ?_ _ | refine blk_drew ?_ | refine blk_alloc ?_ _)); refine blk_far ?_ NB249_256.out _; (with_reducible repeat (first | refine blk_drewN ?_ _ | refine blk_drew ?_ | refine blk_alloc ?_ _)); refine blk_far ?_ NB249_256.out _; (with_reducible repeat (first | refine blk_drewN ?_ _ | refine blk_drew ?_ | refine blk_alloc ?_ _)); refine blk_far ?_ NB249_256.out _; (with_reducible repeat (first | refine blk_drewN ?_ _ | refine blk_drew ?_ | refine blk_alloc ?_ _)); refine blk_far ?_ NB249_256.out _; (with_reducible repeat (first | refine blk_drewN ?_ _ | refine blk_drew ?_ | refine blk_alloc ?_ _)); refine blk_far ?_ NB249_256.out _; (with_reducible repeat (first | refine blk_drewN ?_ _ | refine blk_drew ?_ | refine blk_alloc ?_ _)); refine blk_far ?_ NB249_256.out _; (with_reducible repeat (first | refine blk_drewN ?_ _ | refine blk_drew ?_ | refine blk_alloc ?_ _)); exact BK249.out) hg (Kd.R_ne HO_5.out BK249.out (by decide))); have n1_ := Aside0.mk (blk_grown (g := gb250) (o := .cells #[.int .i64 x251000_1, .slice none 0 0] 45 (0, 0)) (by (with_reducible repeat (first | refine blk_drewN ?_ _ | refine blk_drew ?_ | refine blk_alloc ?_ _)); refine blk_far ?_ NB250_256.out _; (with_reducible repeat (first | refine blk_drewN ?_ _ | refine blk_drew ?_ | refine blk_alloc ?_ _)); refine blk_far ?_ NB250_256.out _; (with_reducible repeat (first | refine blk_drewN ?_ _ | refine blk_drew ?_ | refine blk_alloc ?_ _)); refine blk_far ?_ NB250_256.out _; (with_reducible repeat (first | refine blk_drewN ?_ _ | refine blk_drew ?_ | refine blk_alloc ?_ _)); refine blk_far ?_ NB250_256.out _; (with_reducible repeat (first | refine blk_drewN ?_ _ | refine blk_drew ?_ | refine blk_alloc ?_ _)); refine blk_far ?_ NB250_256.out _; (with_reducible repeat (first | refine blk_drewN ?_ _ | refine blk_drew ?_ | refine blk_alloc ?_ _)); refine blk_far ?_ NB250_256.out _; (with_reducible repeat (first | refine blk_drewN ?_ _ | refine blk_drew ?_ | refine blk_alloc ?_ _)); refine blk_far ?_ NB250_256.out _; (with_reducible repeat (first | refine blk_drewN ?_ _ | refine blk_drew ?_ | refine blk_alloc ?_ _)); exact BK250.out) hg (Kd.R_ne HO_5.out BK250.out (by decide))); have n2_ := Aside0.mk (blk_grown (g := gb256) (o := .cells #[.string ((rd_T94 l0 t254).f0), .int .i64 ((rd_T94 l0 t254).f1), .int .i64 ((rd_T94 l0 t254).f2), .int .i64 ((rd_T94 l0 t254).f3), .int .i64 ((rd_T94 l0 t254).f4), .int .i64 ((rd_T94 l0 t254).f5), .string ((rd_T94 l0 t254).f6)] 94 (0, 0)) (by (with_reducible repeat (first | refine blk_drewN ?_ _ | refine blk_drew ?_ | refine blk_alloc ?_ _)); refine blk_put (cs := #[.string ((rd_T94 l0 t254).f0), .int .i64 ((rd_T94 l0 t254).f1), .int .i64 ((rd_T94 l0 t254).f2), .int .i64 ((rd_T94 l0 t254).f3), .int .i64 ((rd_T94 l0 t254).f4), .int .i64 ((rd_T94 l0 t254).f5), .string (⟨#[]⟩ : ByteArray)]) ?_ 6 _ rfl; (with_reducible repeat (first | refine blk_drewN ?_ _ | refine blk_drew ?_ | refine blk_alloc ?_ _)); refine blk_put (cs := #[.string ((rd_T94 l0 t254).f0), .int .i64 ((rd_T94 l0 t254).f1), .int .i64 ((rd_T94 l0 t254).f2), .int .i64 ((rd_T94 l0 t254).f3), .int .i64 ((rd_T94 l0 t254).f4), .int .i64 0, .string (⟨#[]⟩ : ByteArray)]) ?_ 5 _ rfl; (with_reducible repeat (first | refine blk_drewN ?_ _ | refine blk_drew ?_ | refine blk_alloc ?_ _)); refine blk_put (cs := #[.string ((rd_T94 l0 t254).f0), .int .i64 ((rd_T94 l0 t254).f1), .int .i64 ((rd_T94 l0 t254).f2), .int .i64 ((rd_T94 l0 t254).f3), .int .i64 0, .int .i64 0, .string (⟨#[]⟩ : ByteArray)]) ?_ 4 _ rfl; (with_reducible repeat (first | refine blk_drewN ?_ _ | refine blk_drew ?_ | refine blk_alloc ?_ _)); refine blk_put (cs := #[.string ((rd_T94 l0 t254).f0), .int .i64 ((rd_T94 l0 t254).f1), .int .i64 ((rd_T94 l0 t254).f2), .int .i64 0, .int .i64 0, .int .i64 0, .string (⟨#[]⟩ : ByteArray)]) ?_ 3 _ rfl; (with_reducible repeat (first | refine blk_drewN ?_ _ | refine blk_drew ?_ | refine blk_alloc ?_ _)); refine blk_put (cs := #[.string ((rd_T94 l0 t254).f0), .int .i64 ((rd_T94 l0 t254).f1), .int .i64 0, .int .i64 0, .int .i64 0, .int .i64 0, .string (⟨#[]⟩ : ByteArray)]) ?_ 2 _ rfl; (with_reducible repeat (first | refine blk_drewN ?_ _ | refine blk_drew ?_ | refine blk_alloc ?_ _)); refine blk_put (cs := #[.string ((rd_T94 l0 t254).f0), .int .i64 0, .int .i64 0, .int .i64 0, .int .i64 0, .int .i64 0, .string (⟨#[]⟩ : ByteArray)]) ?_ 1 _ rfl; (with_reducible repeat (first | refine blk_drewN ?_ _ | refine blk_drew ?_ | refine blk_alloc ?_ _)); refine blk_put (cs := #[.string (⟨#[]⟩ : ByteArray), .int .i64 0, .int .i64 0, .int .i64 0, .int .i64 0, .int .i64 0, .string (⟨#[]⟩ : ByteArray)]) ?_ 0 _ rfl; (with_reducible repeat (first | refine blk_drewN ?_ _ | refine blk_drew ?_ | refine blk_alloc ?_ _)); exact BK256.out) hg (Kd.R_ne HO_5.out BK256.out (by decide))); have n3_ := Aside0.mk (hb); have n4_ := Aside0.mk (ho); clear BK249 BK250 BK256 HB HO_5; revert n0_ n1_ n2_ n3_ n4_; intro BK249 BK250 BK256 HB HO259; clear ho hb hg hat; have hcz21_0 := bk BK256 0; have hcz21_1 := bk BK256 1; have hcz21_2 := bk BK256 2; have hcz21_3 := bk BK256 3; have hcz21_4 := bk BK256 4; have hcz21_5 := bk BK256 5; have hcz21_6 := bk BK256 6; have hfz21_0 := blk_frozen BK256.out 0; have hfz21_1 := blk_frozen BK256.out 1; have hfz21_2 := blk_frozen BK256.out 2; have hfz21_3 := blk_frozen BK256.out 3; have hfz21_4 := blk_frozen BK256.out 4; have hfz21_5 := blk_frozen BK256.out 5; have hfz21_6 := blk_frozen BK256.out 6) | ((with_reducible refine gate_callee (f := 102) rfl ?_); refine gl_ 31 Try.func102 #[.slice (some ad255) l0.length c0, .string ((rd_T94 l0 t254).f6)] ?_; (with_reducible refine (impl_findClause.calls _ _ l0 ((rd_T94 l0 t254).f6) t260 _ ?side1 ?side2 A12.out).mono ?_); (case side1 => repeat (first | exact (Kd.C_below HR0.out HB.out) | (with_reducible refine Kd.C_alloc ?_ _) | (with_reducible refine Kd.C_drewN ?_ _) | (with_reducible refine Kd.C_drew ?_))); (case side2 => exact HC0.out); rintro e w22 ⟨rfl, hb⟩; refine ⟨_, rfl, ?_⟩; have n0_ := Aside0.mk (Kd.R_below (rm_ HO259) hb); have n1_ := Aside0.mk (bkb BK249 hb); have n2_ := Aside0.mk (bkb BK250 hb); have n3_ := Aside0.mk (bkb BK256 hb); have n4_ := Aside0.mk (bs_ hb); clear HO259 BK249 BK250 BK256 HB; revert n0_ n1_ n2_ n3_ n4_; intro HO259 BK249 BK250 BK256 HB; (try clear hb); (try clear hb2); (try clear hk); (try clear hi)))
           go_roundg k1
           case measure => have := HK1.out; omega
           case rel => exact ⟨(y257), (t260), (x251000_1), (by first | rfl | (simp; done) | (simp [*]; done)), H', ⟨by have := HK1.out; omega⟩, ⟨by (with_reducible repeat (first | apply Kd.R_alloc | apply Kd.R_drewN | apply Kd.R_drew)); exact HO259.out⟩, ⟨by (with_reducible repeat (first | refine blk_drewN ?_ _ | refine blk_drew ?_ | refine blk_alloc ?_ _)); exact BK249.out⟩, ⟨by (with_reducible repeat (first | refine blk_drewN ?_ _ | refine blk_drew ?_ | refine blk_alloc ?_ _)); exact BK250.out⟩, ⟨bb_⟩⟩
         · rw [if_neg c11] at H
           have c11b0 : (((rd_T94 l0 t254).f5) == 3) = false := beq_eq_false_iff_ne.mpr c11
           have c11b1 : (((rd_T94 l0 t254).f5) != 3) = true := bne_iff_ne.mpr c11
           simp only [Option.some.injEq, Prod.mk.injEq] at H
           obtain ⟨rfl, rfl⟩ := H
           have hnb23 := NB249_250.out
           have hnc23 := NB250_249.out
           have hcz24_0 := bk BK249 0
           have hcz24_1 := bk BK249 1
           have hcz24_2 := bk BK249 2
           have hcz24_3 := bk BK249 3
           have hcz24_4 := bk BK249 4
           have hcz24_5 := bk BK249 5
           have hcz24_6 := bk BK249 6
           have hfz24_0 := blk_frozen BK249.out 0
           have hfz24_1 := blk_frozen BK249.out 1
           have hfz24_2 := blk_frozen BK249.out 2
           have hfz24_3 := blk_frozen BK249.out 3
           have hfz24_4 := blk_frozen BK249.out 4
           have hfz24_5 := blk_frozen BK249.out 5
           have hfz24_6 := blk_frozen BK249.out 6
           go_wp2_with (first | ((with_reducible refine gate_callee (f := 105) rfl ?_); refine gl_ 13 Try.func105 #[.slice A0 l0.length c0, .int .i64 x6_1, .agg #[.int .i64 a1_0, .int .i64 a1_1, .string a1_2, .int .i64 a1_3, .bool a1_4, .bool a1_5, .bool a1_6]] ?_; (with_reducible refine (impl_firstMatch.calls _ _ l0 x6_1 a1_0 a1_1 a1_2 a1_3 a1_4 a1_5 a1_6 t254 _ ?side1 ?side2 A7.out).mono ?_); (case side1 => repeat (first | exact (Kd.C_below HR0.out HB.out) | (with_reducible refine Kd.C_alloc ?_ _) | (with_reducible refine Kd.C_drewN ?_ _) | (with_reducible refine Kd.C_drew ?_))); (case side2 => exact HC0.out); rintro e w25 ⟨rfl, hb⟩; refine ⟨_, rfl, ?_⟩; have n0_ := Aside0.mk (Kd.R_below (rm_ HO_5) hb); have n1_ := Aside0.mk (bkb BK249 hb); have n2_ := Aside0.mk (bkb BK250 hb); have n3_ := Aside0.mk (bs_ hb); clear HO_5 BK249 BK250 HB; revert n0_ n1_ n2_ n3_; intro HO_5 BK249 BK250 HB; (try clear hb); (try clear hb2); (try clear hk); (try clear hi); have p255 : 0 ≤ (t254 : Int) := od_; have q255 : t254 < (l0.length : Int) := od_; obtain ⟨ad255, e255, hx255_0, hx255_1, hx255_2, hx255_3, hx255_4, hx255_5, hx255_6⟩ := at_T94 HR0.out t254 p255 q255; cases e255; replace hx255_0 := cel HB hx255_0; replace hx255_1 := cel HB hx255_1; replace hx255_2 := cel HB hx255_2; replace hx255_3 := cel HB hx255_3; replace hx255_4 := cel HB hx255_4; replace hx255_5 := cel HB hx255_5; replace hx255_6 := cel HB hx255_6; replace p255 := eq_true p255; replace q255 := eq_true q255) | ((with_reducible refine gate_dst (N := 7) rfl ?_); refine bx_ 7 #[.string (⟨#[]⟩ : ByteArray), .int .i64 0, .int .i64 0, .int .i64 0, .int .i64 0, .int .i64 0, .string (⟨#[]⟩ : ByteArray)] 94 ?_; intro gb256 hg w26 hbox hb; have n0_ := Aside0.mk (Kd.R_below (rm_ HO_5) hb); have n1_ := Aside0.mk (bkb BK249 hb); have n2_ := Aside0.mk (bkb BK250 hb); have n3_ := Aside0.mk (bs_ hb); have n4_ := Aside0.mk (hbox); have n5_ := Aside0.mk ((by rw [hg]; exact (bz_) : w.heap.size ≤ gb256)); have n6_ := Aside0.mk ((by rw [hg]; exact (bz_) : w.heap.size ≤ gb256)); have n7_ := Aside0.mk ((by rw [hg]; exact Nat.ne_of_lt (blk_lt (g := gb249) (o := .cells #[.int .i64 a1_0, .int .i64 a1_1, .string a1_2, .int .i64 a1_3, .bool a1_4, .bool a1_5, .bool a1_6] 43 (0, 0)) (by (with_reducible repeat (first | refine blk_drewN ?_ _ | refine blk_drew ?_ | refine blk_alloc ?_ _)); exact BK249.out)) : gb249 ≠ gb256)); have n8_ := Aside0.mk ((by rw [hg]; exact Nat.ne_of_gt (blk_lt (g := gb249) (o := .cells #[.int .i64 a1_0, .int .i64 a1_1, .string a1_2, .int .i64 a1_3, .bool a1_4, .bool a1_5, .bool a1_6] 43 (0, 0)) (by (with_reducible repeat (first | refine blk_drewN ?_ _ | refine blk_drew ?_ | refine blk_alloc ?_ _)); exact BK249.out)) : gb256 ≠ gb249)); have n9_ := Aside0.mk ((by rw [hg]; exact Nat.ne_of_lt (blk_lt (g := gb250) (o := .cells #[.int .i64 x251000_1, .slice none 0 0] 45 (0, 0)) (by (with_reducible repeat (first | refine blk_drewN ?_ _ | refine blk_drew ?_ | refine blk_alloc ?_ _)); exact BK250.out)) : gb250 ≠ gb256)); have n10_ := Aside0.mk ((by rw [hg]; exact Nat.ne_of_gt (blk_lt (g := gb250) (o := .cells #[.int .i64 x251000_1, .slice none 0 0] 45 (0, 0)) (by (with_reducible repeat (first | refine blk_drewN ?_ _ | refine blk_drew ?_ | refine blk_alloc ?_ _)); exact BK250.out)) : gb256 ≠ gb250)); clear HO_5 BK249 BK250 HB; revert n0_ n1_ n2_ n3_ n4_ n5_ n6_ n7_ n8_ n9_ n10_; intro HO_5 BK249 BK250 HB BK256 GW256 GE256 NB249_256 NB256_249 NB250_256 NB256_250; clear hb hbox hg; have hnb27 := NB256_249.out; have hnc27 := NB249_256.out; have hnb28 := NB256_250.out; have hnc28 := NB250_256.out; have hcz29_0 := bk BK256 0; have hcz29_1 := bk BK256 1; have hcz29_2 := bk BK256 2; have hcz29_3 := bk BK256 3; have hcz29_4 := bk BK256 4; have hcz29_5 := bk BK256 5; have hcz29_6 := bk BK256 6; have hfz29_0 := blk_frozen BK256.out 0; have hfz29_1 := blk_frozen BK256.out 1; have hfz29_2 := blk_frozen BK256.out 2; have hfz29_3 := blk_frozen BK256.out 3; have hfz29_4 := blk_frozen BK256.out 4; have hfz29_5 := blk_frozen BK256.out 5; have hfz29_6 := blk_frozen BK256.out 6) | ((with_reducible refine gate_builtin (b := .append) (xs := #[.tmp 16, .tmp 19]) rfl ?_); at_builtin; refine Kd.R_append Kd.string (w0 := w) w.heap.size rfl (.tmp 16) (.tmp 19) 33 9 (.string ⟨#[]⟩) 16 rfl Try.underlying33 info9 rfl (by decide) (by omega) u5 x5_1 ((rd_T94 l0 t254).f0) [.string ((rd_T94 l0 t254).f0)] (fun _ => True) (fun _ => False) rfl (by first | (go_simp; done) | (go_simp; rfl)) ?aP (fun _ hk => hk.elim) ?aF ?aO ?aB ?aS ?aL ?_; (case aP => exact rfl); (case aB => exact bb_); (case aF => exact (fun _ _ => trivial)); (case aO => exact (by (with_reducible repeat (first | apply Kd.R_alloc | apply Kd.R_drewN | apply Kd.R_drew)); exact Kd.R_mono (Kd.R_far (p := ⟨gb256, 6, none⟩) (Kd.R_far (p := ⟨gb256, 5, none⟩) (Kd.R_far (p := ⟨gb256, 4, none⟩) (Kd.R_far (p := ⟨gb256, 3, none⟩) (Kd.R_far (p := ⟨gb256, 2, none⟩) (Kd.R_far (p := ⟨gb256, 1, none⟩) (Kd.R_far (p := ⟨gb256, 0, none⟩) (Kd.R_types HO_5.out BK256.out (by decide)) (fun _ hk => hk.2) (.string ((rd_T94 l0 t254).f0))) (fun _ hk => hk.2) (.int .i64 ((rd_T94 l0 t254).f1))) (fun _ hk => hk.2) (.int .i64 ((rd_T94 l0 t254).f2))) (fun _ hk => hk.2) (.int .i64 ((rd_T94 l0 t254).f3))) (fun _ hk => hk.2) (.int .i64 ((rd_T94 l0 t254).f4))) (fun _ hk => hk.2) (.int .i64 ((rd_T94 l0 t254).f5))) (fun _ hk => hk.2) (.string ((rd_T94 l0 t254).f6))) (fun _ hk => trivial))); (case aS => exact (bz_)); (case aL => have := LMc10.out; omega); intro v258 w30 ho hb hg hat; rw [← Ny257.out] at ho; have n0_ := Aside0.mk (blk_grown (g := gb249) (o := .cells #[.int .i64 a1_0, .int .i64 a1_1, .string a1_2, .int .i64 a1_3, .bool a1_4, .bool a1_5, .bool a1_6] 43 (0, 0)) (by (with_reducible repeat (first | refine blk_drewN ?_ _ | refine blk_drew ?_ | refine blk_alloc ?_ _)); refine blk_far ?_ NB249_256.out _; (with_reducible repeat (first | refine blk_drewN ?_ _ | refine blk_drew ?_ | refine blk_alloc ?_ _)); refine blk_far ?_ NB249_256.out _; (with_reducible repeat (first | refine blk_drewN ?_ _ | refine blk_drew ?_ | refine blk_alloc ?_ _)); refine blk_far ?_ NB249_256.out _; (with_reducible repeat (first | refine blk_drewN ?_ _ | refine blk_drew ?_ | refine blk_alloc ?_ _)); refine blk_far ?_ NB249_256.out _; (with_reducible repeat (first | refine blk_drewN ?_ _ | refine blk_drew ?_ | refine blk_alloc ?_ _)); refine blk_far ?_ NB249_256.out _; (with_reducible repeat (first | refine blk_drewN ?_ _ | refine blk_drew ?_ | refine blk_alloc ?_ _)); refine blk_far ?_ NB249_256.out _; (with_reducible repeat (first | refine blk_drewN ?_ _ | refine blk_drew ?_ | refine blk_alloc ?_ _)); refine blk_far ?_ NB249_256.out _; (with_reducible repeat (first | refine blk_drewN ?_ _ | refine blk_drew ?_ | refine blk_alloc ?_ _)); exact BK249.out) hg (Kd.R_ne HO_5.out BK249.out (by decide))); have n1_ := Aside0.mk (blk_grown (g := gb250) (o := .cells #[.int .i64 x251000_1, .slice none 0 0] 45 (0, 0)) (by (with_reducible repeat (first | refine blk_drewN ?_ _ | refine blk_drew ?_ | refine blk_alloc ?_ _)); refine blk_far ?_ NB250_256.out _; (with_reducible repeat (first | refine blk_drewN ?_ _ | refine blk_drew ?_ | refine blk_alloc ?_ _)); refine blk_far ?_ NB250_256.out _; (with_reducible repeat (first | refine blk_drewN ?_ _ | refine blk_drew ?_ | refine blk_alloc ?_ _)); refine blk_far ?_ NB250_256.out _; (with_reducible repeat (first | refine blk_drewN ?_ _ | refine blk_drew ?_ | refine blk_alloc ?_ _)); refine blk_far ?_ NB250_256.out _; (with_reducible repeat (first | refine blk_drewN ?_ _ | refine blk_drew ?_ | refine blk_alloc ?_ _)); refine blk_far ?_ NB250_256.out _; (with_reducible repeat (first | refine blk_drewN ?_ _ | refine blk_drew ?_ | refine blk_alloc ?_ _)); refine blk_far ?_ NB250_256.out _; (with_reducible repeat (first | refine blk_drewN ?_ _ | refine blk_drew ?_ | refine blk_alloc ?_ _)); refine blk_far ?_ NB250_256.out _; (with_reducible repeat (first | refine blk_drewN ?_ _ | refine blk_drew ?_ | refine blk_alloc ?_ _)); exact BK250.out) hg (Kd.R_ne HO_5.out BK250.out (by decide))); have n2_ := Aside0.mk (blk_grown (g := gb256) (o := .cells #[.string ((rd_T94 l0 t254).f0), .int .i64 ((rd_T94 l0 t254).f1), .int .i64 ((rd_T94 l0 t254).f2), .int .i64 ((rd_T94 l0 t254).f3), .int .i64 ((rd_T94 l0 t254).f4), .int .i64 ((rd_T94 l0 t254).f5), .string ((rd_T94 l0 t254).f6)] 94 (0, 0)) (by (with_reducible repeat (first | refine blk_drewN ?_ _ | refine blk_drew ?_ | refine blk_alloc ?_ _)); refine blk_put (cs := #[.string ((rd_T94 l0 t254).f0), .int .i64 ((rd_T94 l0 t254).f1), .int .i64 ((rd_T94 l0 t254).f2), .int .i64 ((rd_T94 l0 t254).f3), .int .i64 ((rd_T94 l0 t254).f4), .int .i64 ((rd_T94 l0 t254).f5), .string (⟨#[]⟩ : ByteArray)]) ?_ 6 _ rfl; (with_reducible repeat (first | refine blk_drewN ?_ _ | refine blk_drew ?_ | refine blk_alloc ?_ _)); refine blk_put (cs := #[.string ((rd_T94 l0 t254).f0), .int .i64 ((rd_T94 l0 t254).f1), .int .i64 ((rd_T94 l0 t254).f2), .int .i64 ((rd_T94 l0 t254).f3), .int .i64 ((rd_T94 l0 t254).f4), .int .i64 0, .string (⟨#[]⟩ : ByteArray)]) ?_ 5 _ rfl; (with_reducible repeat (first | refine blk_drewN ?_ _ | refine blk_drew ?_ | refine blk_alloc ?_ _)); refine blk_put (cs := #[.string ((rd_T94 l0 t254).f0), .int .i64 ((rd_T94 l0 t254).f1), .int .i64 ((rd_T94 l0 t254).f2), .int .i64 ((rd_T94 l0 t254).f3), .int .i64 0, .int .i64 0, .string (⟨#[]⟩ : ByteArray)]) ?_ 4 _ rfl; (with_reducible repeat (first | refine blk_drewN ?_ _ | refine blk_drew ?_ | refine blk_alloc ?_ _)); refine blk_put (cs := #[.string ((rd_T94 l0 t254).f0), .int .i64 ((rd_T94 l0 t254).f1), .int .i64 ((rd_T94 l0 t254).f2), .int .i64 0, .int .i64 0, .int .i64 0, .string (⟨#[]⟩ : ByteArray)]) ?_ 3 _ rfl; (with_reducible repeat (first | refine blk_drewN ?_ _ | refine blk_drew ?_ | refine blk_alloc ?_ _)); refine blk_put (cs := #[.string ((rd_T94 l0 t254).f0), .int .i64 ((rd_T94 l0 t254).f1), .int .i64 0, .int .i64 0, .int .i64 0, .int .i64 0, .string (⟨#[]⟩ : ByteArray)]) ?_ 2 _ rfl; (with_reducible repeat (first | refine blk_drewN ?_ _ | refine blk_drew ?_ | refine blk_alloc ?_ _)); refine blk_put (cs := #[.string ((rd_T94 l0 t254).f0), .int .i64 0, .int .i64 0, .int .i64 0, .int .i64 0, .int .i64 0, .string (⟨#[]⟩ : ByteArray)]) ?_ 1 _ rfl; (with_reducible repeat (first | refine blk_drewN ?_ _ | refine blk_drew ?_ | refine blk_alloc ?_ _)); refine blk_put (cs := #[.string (⟨#[]⟩ : ByteArray), .int .i64 0, .int .i64 0, .int .i64 0, .int .i64 0, .int .i64 0, .string (⟨#[]⟩ : ByteArray)]) ?_ 0 _ rfl; (with_reducible repeat (first | refine blk_drewN ?_ _ | refine blk_drew ?_ | refine blk_alloc ?_ _)); exact BK256.out) hg (Kd.R_ne HO_5.out BK256.out (by decide))); have n3_ := Aside0.mk (hb); have n4_ := Aside0.mk (ho); clear BK249 BK250 BK256 HB HO_5; revert n0_ n1_ n2_ n3_ n4_; intro BK249 BK250 BK256 HB HO259; clear ho hb hg hat; have hcz31_0 := bk BK256 0; have hcz31_1 := bk BK256 1; have hcz31_2 := bk BK256 2; have hcz31_3 := bk BK256 3; have hcz31_4 := bk BK256 4; have hcz31_5 := bk BK256 5; have hcz31_6 := bk BK256 6; have hfz31_0 := blk_frozen BK256.out 0; have hfz31_1 := blk_frozen BK256.out 1; have hfz31_2 := blk_frozen BK256.out 2; have hfz31_3 := blk_frozen BK256.out 3; have hfz31_4 := blk_frozen BK256.out 4; have hfz31_5 := blk_frozen BK256.out 5; have hfz31_6 := blk_frozen BK256.out 6; obtain ⟨Ao32, co32, eo32⟩ := Kd.R_slice HO259.out; subst eo32; have hcz33_0 := bk BK250 0; have hcz33_1 := bk BK250 1; have hfz33_0 := blk_frozen BK250.out 0; have hfz33_1 := blk_frozen BK250.out 1))
           refine bodyPost_ret (results_cell_row rfl _ _ gb250 45 #[.int .i64 ((rd_T94 l0 t254).f5), .slice Ao32 y257.length co32] (0, 0) _ rfl (by (with_reducible repeat (first | refine blk_drewN ?_ _ | refine blk_drew ?_ | refine blk_alloc ?_ _)); refine blk_put (cs := #[.int .i64 ((rd_T94 l0 t254).f5), .slice none 0 0]) ?_ 1 _ rfl; (with_reducible repeat (first | refine blk_drewN ?_ _ | refine blk_drew ?_ | refine blk_alloc ?_ _)); refine blk_put (cs := #[.int .i64 x251000_1, .slice none 0 0]) ?_ 0 _ rfl; (with_reducible repeat (first | refine blk_drewN ?_ _ | refine blk_drew ?_ | refine blk_alloc ?_ _)); exact BK250.out) Try.underlying45 rfl (by kernel_rfl)) rfl ?_
           exact ⟨_, by first | rfl | (simp [errW_none, errW_some] <;> rfl) | (simp [*, errW_none, errW_some] <;> rfl), by (with_reducible repeat (first | apply Kd.R_alloc | apply Kd.R_drewN | apply Kd.R_drew)); exact Kd.R_mono (Kd.R_far (p := ⟨gb250, 1, none⟩) (Kd.R_far (p := ⟨gb250, 0, none⟩) (Kd.R_types HO259.out BK250.out (by decide)) (fun _ hk => hk.2) (.int .i64 ((rd_T94 l0 t254).f5))) (fun _ hk => hk.2) (.slice Ao32 y257.length co32)) (fun _ hk => trivial), bb_⟩
       · rw [if_neg c10] at H
         exact absurd H (by simp)
     · rw [if_neg c9] at H
       exact absurd H (by simp)
   · rw [if_neg c8] at H
     exact absurd H (by simp)

/-! ### impl_decided: function 68 -/
def impl_decided.l0 : Nat → List (S94) → List (S45) → List (S43) → Int → Int → Option ((List (S45)))
 | 0, _, _, _, _, _ => none
 | k + 1, x0, x5, x9, x10, x11 => if x11 < x10 then (if 0 ≤ x11 then (if x11 < (x9.length : Int) then ((impl_decide.f k x0 ((rd_T43 x9 x11).f0) ((rd_T43 x9 x11).f1) ((rd_T43 x9 x11).f2) ((rd_T43 x9 x11).f3) ((rd_T43 x9 x11).f4) ((rd_T43 x9 x11).f5) ((rd_T43 x9 x11).f6)).bind fun bt266 => (if x5.length < 4398046511104 then (impl_decided.l0 k x0 (x5 ++ [(⟨bt266.1, bt266.2⟩ : S45)]) x9 x10 (wrap64 (x11 + 1))) else (none))) else (none)) else (none)) else (some x5)
def impl_decided.f (k : Nat) (l0 : List (S94)) (l1 : List (S43)) : Option ((List (S45))) := impl_decided.l0 k l0 (([] : List (S45))) l1 (l1.length : Int) 0
theorem impl_decided.mono_l : ∀ k, (∀ y0 y1 y2 y3 y4, LeO (impl_decided.l0 k y0 y1 y2 y3 y4) (impl_decided.l0 (k + 1) y0 y1 y2 y3 y4))
 | 0 => fun _ _ _ _ _ r h => by simp [impl_decided.l0] at h
 | k + 1 => by
  have ih0 := impl_decided.mono_l k
  · intro y0 y1 y2 y3 y4
    unfold impl_decided.l0
    repeat' first
    | (with_reducible exact ih0 _ _ _ _ _)
    | (with_reducible exact impl_decide.mono _ _ _ _ _ _ _ _ _)
    | (with_reducible exact LeO.refl _)
    | (with_reducible exact LeO.none _)
    | (with_reducible refine LeO.ite ?_ ?_)
    | (with_reducible refine LeO.bind ?_ (fun _ => ?_))
    | exact ih0 _ _ _ _ _
    | exact impl_decide.mono _ _ _ _ _ _ _ _ _
    | exact LeO.none _
    | refine LeO.ite ?_ ?_
    | refine LeO.bind ?_ (fun _ => ?_)
theorem impl_decided.mono : ∀ a0 a1 k, LeO (impl_decided.f k a0 a1) (impl_decided.f (k + 1) a0 a1) := by
 intro a0 a1 k
 have ih0 := impl_decided.mono_l k
 unfold impl_decided.f
 repeat' first
  | (with_reducible exact ih0 _ _ _ _ _)
  | (with_reducible exact impl_decide.mono _ _ _ _ _ _ _ _ _)
  | (with_reducible exact LeO.refl _)
  | (with_reducible exact LeO.none _)
  | (with_reducible refine LeO.ite ?_ ?_)
  | (with_reducible refine LeO.bind ?_ (fun _ => ?_))
  | exact ih0 _ _ _ _ _
  | exact impl_decide.mono _ _ _ _ _ _ _ _ _
  | exact LeO.none _
  | refine LeO.ite ?_ ?_
  | refine LeO.bind ?_ (fun _ => ?_)
set_option maxHeartbeats 8000000 in
set_option maxRecDepth 100000 in
theorem impl_decided.calls (k : Nat) (A0 : Option Addr) (c0 : Nat) (l0 : List (S94)) (A1 : Option Addr) (c1 : Nat) (l1 : List (S43)) (r : List (S45)) (w : World) (hr0 : Kd.C k94 w A0 l0.length l0) (hc0 : l0.length ≤ c0) (hr1 : Kd.C k43 w A1 l1.length l1) (hc1 : l1.length ≤ c1) (h : impl_decided.f k l0 l1 = some r) :
 Calls Try.prog 68 #[.slice A0 l0.length c0, .slice A1 l1.length c1] w fun e w' => ∃ v0_ : Value, e = .returned (v0_) ∧ Kd.S k45 45 w' w.heap.size (fun _ => True) v0_ r ∧ Below w.heap.size w w' := by
 have hu43 := Try.underlying43
 have HR0 := Aside0.mk hr0
 have HC0 := Aside0.mk hc0
 clear hr0 hc0
 have HR1 := Aside0.mk hr1
 have HC1 := Aside0.mk hc1
 clear hr1 hc1
 have HB := Aside0.mk (Below.refl w.heap.size w)
 have H : (impl_decided.l0 k l0 (([] : List (S45))) l1 (l1.length : Int) 0) = some r := h
 clear h
 obtain ⟨y261, hy261⟩ : ∃ y_ : List (S45), y_ = (([] : List (S45))) := ⟨_, rfl⟩
 replace H : (impl_decided.l0 k l0 y261 l1 (l1.length : Int) 0) = some r := by first | (rw [hy261]; with_reducible exact H) | (have H2_ := (Option.bind_some _ _).symm.trans H; rw [hy261]; with_reducible exact H2_) | (have H2_ := (Option.bind_some _ _).symm.trans H; with_reducible exact H2_) | with_reducible exact H | (rw [hy261]; exact H) | exact H
 have Ny261 := Aside0.mk hy261
 clear hy261
 have H' := Aside0.mk H
 clear H
 go_enter Try.func68, Try.ntmps68
 go_wp2_with (first | ((with_reducible refine gate_dst (N := 8) rfl ?_); refine Kd.S_lit k45 _ 45 ?hg (N := 8) ?hd (xs := ([] : List (S45))) (inner := []) (ok := fun _ => True) (okp := fun _ => True) ?hr ?hp (fun _ hk => hk) trivial (Below.refl _ _) (Nat.le_refl _) (by simp) ?_; (case hd => rfl); (case hg => rfl); (case hr => first | (go_simp; done) | (go_simp; rfl)); (case hp => exact (Reps.none _ _)); intro v262 w3 ho4 hb hg_ hnew_; clear hg_ hnew_; (first | rw [← Ny261.out] at ho4 | (simp only [Int.reduceToNat] at ho4; rw [← Ny261.out] at ho4)); have n0_ := Aside0.mk (Kd.S_lower ho4 (bz_)); have n1_ := Aside0.mk (bs_ hb); clear HB; revert n0_ n1_; intro HO263 HB; clear hb ho4))
 go_loopg [5, 11] k (fun kq v5 v11 w' => ∃ (x5_1 : List (S45)) (x11_1 : Int), v11 = .int .i64 x11_1 ∧ Aside0 (impl_decided.l0 kq l0 x5_1 l1 (l1.length : Int) x11_1 = some r) ∧ Aside0 (kq ≤ k) ∧ Aside0 (Kd.S k45 45 w' w.heap.size (fun _ => True) v5 x5_1) ∧ Aside0 (Below w.heap.size w w'))
 case atStart => exact ⟨(y261), (0), (by first | rfl | (simp; done) | (simp [*]; done)), H', ⟨Nat.le_refl _⟩, ⟨by (with_reducible repeat (first | apply Kd.S_alloc | apply Kd.S_drewN | apply Kd.S_drew)); exact HO263.out⟩, ⟨bb_⟩⟩
 case round =>
  clear H'
  try clear c1
  try clear p2
  obtain ⟨x5_1, x11_1, rfl, HA, HK1, HO_5, HB⟩ := hrel
  cases gk with
  | zero => exact absurd HA.out (by simp [impl_decided.l0])
  | succ k1 =>
   have H := HA.out
   clear HA
   simp only [impl_decided.l0] at H
   by_cases c5 : x11_1 < (l1.length : Int)
   · rw [if_pos c5] at H
     have c5b0 : decide (x11_1 < (l1.length : Int)) = true := decide_eq_true c5
     clear c5
     by_cases c6 : 0 ≤ x11_1
     · rw [if_pos c6] at H
       have c6b0 : decide (0 ≤ x11_1) = true := decide_eq_true c6
       clear c6
       by_cases c7 : x11_1 < (l1.length : Int)
       · rw [if_pos c7] at H
         have c7b0 : decide (x11_1 < (l1.length : Int)) = true := decide_eq_true c7
         clear c7
         replace H := Option.bind_eq_some_iff.mp H
         obtain ⟨⟨t266, t267⟩, A80, H⟩ := H
         replace H : (if x5_1.length < 4398046511104 then (impl_decided.l0 k1 l0 (x5_1 ++ [(⟨t266, t267⟩ : S45)]) l1 (l1.length : Int) (wrap64 (x11_1 + 1))) else (none)) = some r := H
         have A8 := Aside0.mk A80
         clear A80
         by_cases c9 : x5_1.length < 4398046511104
         · rw [if_pos c9] at H
           have LMc9 := Aside0.mk c9
           clear c9
           obtain ⟨y270, hy270⟩ : ∃ y_ : List (S45), y_ = (x5_1 ++ [(⟨t266, t267⟩ : S45)]) := ⟨_, rfl⟩
           replace H : (impl_decided.l0 k1 l0 y270 l1 (l1.length : Int) (wrap64 (x11_1 + 1))) = some r := by first | (rw [hy270]; with_reducible exact H) | (have H2_ := (Option.bind_some _ _).symm.trans H; rw [hy270]; with_reducible exact H2_) | (have H2_ := (Option.bind_some _ _).symm.trans H; with_reducible exact H2_) | with_reducible exact H | (rw [hy270]; exact H) | exact H
           have Ny270 := Aside0.mk hy270
           clear hy270
           have H' := Aside0.mk H
           clear H
           have p264 : 0 ≤ (x11_1 : Int) := od_
           have q264 : x11_1 < (l1.length : Int) := od_
           obtain ⟨ad264, e264, hx264_0, hx264_1, hx264_2, hx264_3, hx264_4, hx264_5, hx264_6⟩ := at_T43 HR1.out x11_1 p264 q264
           cases e264
           replace hx264_0 := cel HB hx264_0
           replace hx264_1 := cel HB hx264_1
           replace hx264_2 := cel HB hx264_2
           replace hx264_3 := cel HB hx264_3
           replace hx264_4 := cel HB hx264_4
           replace hx264_5 := cel HB hx264_5
           replace hx264_6 := cel HB hx264_6
           replace p264 := eq_true p264
           replace q264 := eq_true q264
           go_wp2_with (first | ((with_reducible refine gate_dst (N := 7) rfl ?_); refine bx_ 7 #[.int .i64 0, .int .i64 0, .string (⟨#[]⟩ : ByteArray), .int .i64 0, .bool false, .bool false, .bool false] 43 ?_; intro gb265 hg w10 hbox hb; have n0_ := Aside0.mk (Kd.S_below (by (with_reducible repeat (first | apply Kd.S_alloc | apply Kd.S_drewN | apply Kd.S_drew)); exact HO_5.out) hb); have n1_ := Aside0.mk (bs_ hb); have n2_ := Aside0.mk (hbox); have n3_ := Aside0.mk ((by rw [hg]; exact (bz_) : w.heap.size ≤ gb265)); have n4_ := Aside0.mk ((by rw [hg]; exact (bz_) : w.heap.size ≤ gb265)); clear HO_5 HB; revert n0_ n1_ n2_ n3_ n4_; intro HO_5 HB BK265 GW265 GE265; clear hb hbox hg; have hcz11_0 := bk BK265 0; have hcz11_1 := bk BK265 1; have hcz11_2 := bk BK265 2; have hcz11_3 := bk BK265 3; have hcz11_4 := bk BK265 4; have hcz11_5 := bk BK265 5; have hcz11_6 := bk BK265 6; have hfz11_0 := blk_frozen BK265.out 0; have hfz11_1 := blk_frozen BK265.out 1; have hfz11_2 := blk_frozen BK265.out 2; have hfz11_3 := blk_frozen BK265.out 3; have hfz11_4 := blk_frozen BK265.out 4; have hfz11_5 := blk_frozen BK265.out 5; have hfz11_6 := blk_frozen BK265.out 6) | ((with_reducible refine gate_callee (f := 75) rfl ?_); refine gl_ 18 Try.func75 #[.slice A0 l0.length c0, .agg #[.int .i64 ((rd_T43 l1 x11_1).f0), .int .i64 ((rd_T43 l1 x11_1).f1), .string ((rd_T43 l1 x11_1).f2), .int .i64 ((rd_T43 l1 x11_1).f3), .bool ((rd_T43 l1 x11_1).f4), .bool ((rd_T43 l1 x11_1).f5), .bool ((rd_T43 l1 x11_1).f6)]] ?_; (with_reducible refine (impl_decide.calls k1 _ _ l0 ((rd_T43 l1 x11_1).f0) ((rd_T43 l1 x11_1).f1) ((rd_T43 l1 x11_1).f2) ((rd_T43 l1 x11_1).f3) ((rd_T43 l1 x11_1).f4) ((rd_T43 l1 x11_1).f5) ((rd_T43 l1 x11_1).f6) t266 t267 _ ?side1 ?side2 A8.out).mono ?_); (case side1 => exact Kd.C_below HR0.out bb_); (case side2 => exact HC0.out); rintro e w12 ⟨v268, rfl, ho0, hb⟩; refine ⟨_, rfl, ?_⟩; have n0_ := Aside0.mk (Kd.S_elder' (by (with_reducible repeat (first | apply Kd.S_alloc | apply Kd.S_drewN | apply Kd.S_drew)); exact (Kd.S_mono (Kd.S_far (p := ⟨gb265, 6, none⟩) (Kd.S_far (p := ⟨gb265, 5, none⟩) (Kd.S_far (p := ⟨gb265, 4, none⟩) (Kd.S_far (p := ⟨gb265, 3, none⟩) (Kd.S_far (p := ⟨gb265, 2, none⟩) (Kd.S_far (p := ⟨gb265, 1, none⟩) (Kd.S_far (p := ⟨gb265, 0, none⟩) (Kd.S_types HO_5.out BK265.out (by decide)) (fun _ hk => hk.2) (.int .i64 ((rd_T43 l1 x11_1).f0))) (fun _ hk => hk.2) (.int .i64 ((rd_T43 l1 x11_1).f1))) (fun _ hk => hk.2) (.string ((rd_T43 l1 x11_1).f2))) (fun _ hk => hk.2) (.int .i64 ((rd_T43 l1 x11_1).f3))) (fun _ hk => hk.2) (.bool ((rd_T43 l1 x11_1).f4))) (fun _ hk => hk.2) (.bool ((rd_T43 l1 x11_1).f5))) (fun _ hk => hk.2) (.bool ((rd_T43 l1 x11_1).f6))) (fun _ h_ => h_.1))) (Kd.R_base ho0) hb); have n1_ := Aside0.mk (Kd.R_lower ho0 (bz_)); have n2_ := Aside0.mk (blk_below (g := gb265) (o := .cells #[.int .i64 ((rd_T43 l1 x11_1).f0), .int .i64 ((rd_T43 l1 x11_1).f1), .string ((rd_T43 l1 x11_1).f2), .int .i64 ((rd_T43 l1 x11_1).f3), .bool ((rd_T43 l1 x11_1).f4), .bool ((rd_T43 l1 x11_1).f5), .bool ((rd_T43 l1 x11_1).f6)] 43 (0, 0)) (by (with_reducible repeat (first | refine blk_drewN ?_ _ | refine blk_drew ?_ | refine blk_alloc ?_ _)); refine blk_put (cs := #[.int .i64 ((rd_T43 l1 x11_1).f0), .int .i64 ((rd_T43 l1 x11_1).f1), .string ((rd_T43 l1 x11_1).f2), .int .i64 ((rd_T43 l1 x11_1).f3), .bool ((rd_T43 l1 x11_1).f4), .bool ((rd_T43 l1 x11_1).f5), .bool false]) ?_ 6 _ rfl; (with_reducible repeat (first | refine blk_drewN ?_ _ | refine blk_drew ?_ | refine blk_alloc ?_ _)); refine blk_put (cs := #[.int .i64 ((rd_T43 l1 x11_1).f0), .int .i64 ((rd_T43 l1 x11_1).f1), .string ((rd_T43 l1 x11_1).f2), .int .i64 ((rd_T43 l1 x11_1).f3), .bool ((rd_T43 l1 x11_1).f4), .bool false, .bool false]) ?_ 5 _ rfl; (with_reducible repeat (first | refine blk_drewN ?_ _ | refine blk_drew ?_ | refine blk_alloc ?_ _)); refine blk_put (cs := #[.int .i64 ((rd_T43 l1 x11_1).f0), .int .i64 ((rd_T43 l1 x11_1).f1), .string ((rd_T43 l1 x11_1).f2), .int .i64 ((rd_T43 l1 x11_1).f3), .bool false, .bool false, .bool false]) ?_ 4 _ rfl; (with_reducible repeat (first | refine blk_drewN ?_ _ | refine blk_drew ?_ | refine blk_alloc ?_ _)); refine blk_put (cs := #[.int .i64 ((rd_T43 l1 x11_1).f0), .int .i64 ((rd_T43 l1 x11_1).f1), .string ((rd_T43 l1 x11_1).f2), .int .i64 0, .bool false, .bool false, .bool false]) ?_ 3 _ rfl; (with_reducible repeat (first | refine blk_drewN ?_ _ | refine blk_drew ?_ | refine blk_alloc ?_ _)); refine blk_put (cs := #[.int .i64 ((rd_T43 l1 x11_1).f0), .int .i64 ((rd_T43 l1 x11_1).f1), .string (⟨#[]⟩ : ByteArray), .int .i64 0, .bool false, .bool false, .bool false]) ?_ 2 _ rfl; (with_reducible repeat (first | refine blk_drewN ?_ _ | refine blk_drew ?_ | refine blk_alloc ?_ _)); refine blk_put (cs := #[.int .i64 ((rd_T43 l1 x11_1).f0), .int .i64 0, .string (⟨#[]⟩ : ByteArray), .int .i64 0, .bool false, .bool false, .bool false]) ?_ 1 _ rfl; (with_reducible repeat (first | refine blk_drewN ?_ _ | refine blk_drew ?_ | refine blk_alloc ?_ _)); refine blk_put (cs := #[.int .i64 0, .int .i64 0, .string (⟨#[]⟩ : ByteArray), .int .i64 0, .bool false, .bool false, .bool false]) ?_ 0 _ rfl; (with_reducible repeat (first | refine blk_drewN ?_ _ | refine blk_drew ?_ | refine blk_alloc ?_ _)); exact BK265.out) hb); have n3_ := Aside0.mk (bs_ hb); clear HO_5 BK265 HB; revert n0_ n1_ n2_ n3_; intro HO_5 HO269 BK265 HB; (try clear hb); (try clear hb2); (try clear hk); (try clear hi); (try clear ho0); obtain ⟨Ao14, co14, eo14⟩ := Kd.R_slice HO269.out; subst eo14) | ((with_reducible refine gate_builtin (b := .append) (xs := #[.tmp 15, .tmp 19]) rfl ?_); at_builtin; refine Kd.S_append k45 (w0 := w) w.heap.size rfl (.tmp 15) (.tmp 19) 57 45 (.agg #[(.int .i64 0), (.slice none 0 0)]) 32 rfl Try.underlying57 info45 rfl (by decide) (by omega) u5 x5_1 (⟨t266, t267⟩ : S45) [.int .i64 t266, .slice Ao14 t267.length co14] (fun _ => True) (fun k_ => some k_ = (.slice Ao14 t267.length co14 : Value).ownBlock) rfl rfl ?aP (fun k_ hk_ => ((Kd.R_mono (ok' := fun k_ => ((fun _ => True)) k_ ∧ some k_ ≠ (u5 : Value).ownBlock) (Kd.R_apart' (HO269.out) (Kd.S_typed HO_5.out) (by decide)) (fun k_ hk => ⟨trivial, hk.2⟩))).1 k_ hk_.symm) ?aF ?aO ?aB ?aS ?aL ?_; (case aP => exact k45_mkM _ _ _ (⟨t266, t267⟩ : S45) (Kd.R_mono (Kd.R_tight rfl (Kd.R_mono (ok' := fun k_ => ((fun _ => True)) k_ ∧ some k_ ≠ (u5 : Value).ownBlock) (Kd.R_apart' (HO269.out) (Kd.S_typed HO_5.out) (by decide)) (fun k_ hk => ⟨trivial, hk.2⟩))) (fun _ h_ => h_))); (case aB => exact bb_); (case aF => exact (fun _ _ => trivial)); (case aO => exact (by (with_reducible repeat (first | apply Kd.S_alloc | apply Kd.S_drewN | apply Kd.S_drew)); exact Kd.S_mono HO_5.out (fun k_ hk => ⟨trivial, fun e_ => hk.2 e_⟩))); (case aS => exact (bz_)); (case aL => have := LMc9.out; omega); intro v271 w13 ho hb hg hat; rw [← Ny270.out] at ho; have n0_ := Aside0.mk (blk_grown (g := gb265) (o := .cells #[.int .i64 ((rd_T43 l1 x11_1).f0), .int .i64 ((rd_T43 l1 x11_1).f1), .string ((rd_T43 l1 x11_1).f2), .int .i64 ((rd_T43 l1 x11_1).f3), .bool ((rd_T43 l1 x11_1).f4), .bool ((rd_T43 l1 x11_1).f5), .bool ((rd_T43 l1 x11_1).f6)] 43 (0, 0)) (by (with_reducible repeat (first | refine blk_drewN ?_ _ | refine blk_drew ?_ | refine blk_alloc ?_ _)); exact BK265.out) hg (Kd.S_ne HO_5.out BK265.out (by decide))); have n1_ := Aside0.mk (hb); have n2_ := Aside0.mk (ho); clear BK265 HB HO_5 HO269; revert n0_ n1_ n2_; intro BK265 HB HO272; clear ho hb hg hat))
           go_roundg k1
           case measure => have := HK1.out; omega
           case rel => exact ⟨(y270), (wrap64 (x11_1 + 1)), (by first | rfl | (simp; done) | (simp [*]; done)), H', ⟨by have := HK1.out; omega⟩, ⟨by (with_reducible repeat (first | apply Kd.S_alloc | apply Kd.S_drewN | apply Kd.S_drew)); exact HO272.out⟩, ⟨bb_⟩⟩
         · rw [if_neg c9] at H
           exact absurd H (by simp)
       · rw [if_neg c7] at H
         exact absurd H (by simp)
     · rw [if_neg c6] at H
       exact absurd H (by simp)
   · rw [if_neg c5] at H
     have c5b0 : decide (x11_1 < (l1.length : Int)) = false := decide_eq_false c5
     clear c5
     obtain rfl := Option.some.inj H
     go_wp2
     go_ret
     exact ⟨_, by first | rfl | (simp [errW_none, errW_some] <;> rfl) | (simp [*, errW_none, errW_some] <;> rfl), by (with_reducible repeat (first | apply Kd.S_alloc | apply Kd.S_drewN | apply Kd.S_drew)); exact HO_5.out, bb_⟩

end Go.Proofs.Ytmfbkbbgokjhnaa.F
