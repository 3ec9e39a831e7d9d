-- Written by this session's program (wip/bin/hp.py) over the kit's print: a function's Lean form, and a proof that the call does what it says.
import Derived.Test.YtmfbkbbgokjhnaaFx0
import Derived.Test.YtmfbkbbgokjhnaaSq
import Derived.Test.YtmfbkbbgokjhnaaFx16
import Derived.Test.YtmfbkbbgokjhnaaFx18
namespace Go.Proofs.Ytmfbkbbgokjhnaa.F
open Go.RowKit Go.Proofs.YtmfbkbbgokjhnaaW.PrintWords Go.Proofs.YtmfbkbbgokjhnaaW.PrintLast Go.Proofs.YtmfbkbbgokjhnaaW.PrintMore
attribute [local go_sem] max2_int min2_int max_two min_two max_three min_three max_four min_four   -- for this text's walks alone
set_option linter.unusedVariables false
set_option linter.unusedSimpArgs false

/-! ### impl_IsEvent: function 98 -/
def impl_IsEvent.f (k : Nat) (a0_0 : Int) (a0_1 : Int) (a0_2 : ByteArray) (a0_3 : Int) (a0_4 : Bool) (a0_5 : Bool) (a0_6 : Bool) : Option (Bool) := (impl_isDay.f k a0_0).bind fun t232 => (if t232 = true then ((impl_isEventKind.f a0_1).bind fun t233 => (if t233 = true then ((impl_IsPartyCode.f k a0_2).bind fun t234 => (if t234 = true then ((impl_IsAmount.f a0_3).bind fun t235 => (some t235)) else (some false))) else (some false))) else (some false))
theorem impl_IsEvent.mono : ∀ a0 a1 a2 a3 a4 a5 a6 k, LeO (impl_IsEvent.f k a0 a1 a2 a3 a4 a5 a6) (impl_IsEvent.f (k + 1) a0 a1 a2 a3 a4 a5 a6) := by
 intro a0 a1 a2 a3 a4 a5 a6 k
 unfold impl_IsEvent.f
 repeat' first
  | (with_reducible exact impl_IsPartyCode.mono _ _)
  | (with_reducible exact impl_isDay.mono _ _)
  | (with_reducible exact LeO.refl _)
  | (with_reducible exact LeO.none _)
  | (with_reducible refine LeO.ite ?_ ?_)
  | (with_reducible refine LeO.bind ?_ (fun _ => ?_))
  | exact impl_IsPartyCode.mono _ _
  | exact impl_isDay.mono _ _
  | exact LeO.none _
  | refine LeO.ite ?_ ?_
  | refine LeO.bind ?_ (fun _ => ?_)
set_option maxHeartbeats 8000000 in
set_option maxRecDepth 100000 in
theorem impl_IsEvent.calls (k : Nat) (a0_0 : Int) (a0_1 : Int) (a0_2 : ByteArray) (a0_3 : Int) (a0_4 : Bool) (a0_5 : Bool) (a0_6 : Bool) (r : Bool) (w : World) (h : impl_IsEvent.f k a0_0 a0_1 a0_2 a0_3 a0_4 a0_5 a0_6 = some r) :
 Calls Try.prog 98 #[.agg #[.int .i64 a0_0, .int .i64 a0_1, .string a0_2, .int .i64 a0_3, .bool a0_4, .bool a0_5, .bool a0_6]] w fun e w' => e = .returned (.bool r) ∧ Below w.heap.size w w' := by
 have hu43 := Try.underlying43
 have HB := Aside0.mk (Below.refl w.heap.size w)
 have H : ((impl_isDay.f k a0_0).bind fun t232 => (if t232 = true then ((impl_isEventKind.f a0_1).bind fun t233 => (if t233 = true then ((impl_IsPartyCode.f k a0_2).bind fun t234 => (if t234 = true then ((impl_IsAmount.f a0_3).bind fun t235 => (some t235)) else (some false))) else (some false))) else (some false))) = some r := h
 clear h
 replace H := Option.bind_eq_some_iff.mp H
 obtain ⟨t232, A20, H⟩ := H
 replace H : (if t232 = true then ((impl_isEventKind.f a0_1).bind fun t233 => (if t233 = true then ((impl_IsPartyCode.f k a0_2).bind fun t234 => (if t234 = true then ((impl_IsAmount.f a0_3).bind fun t235 => (some t235)) else (some false))) else (some false))) else (some false)) = some r := H
 have A2 := Aside0.mk A20
 clear A20
 by_cases c3 : t232 = true
 subst c3
 have H1 : ((impl_isEventKind.f a0_1).bind fun t233 => (if t233 = true then ((impl_IsPartyCode.f k a0_2).bind fun t234 => (if t234 = true then ((impl_IsAmount.f a0_3).bind fun t235 => (some t235)) else (some false))) else (some false))) = some r := by rw [if_pos rfl] at H; exact H
 clear H
 have H := H1
 clear H1
 replace H := Option.bind_eq_some_iff.mp H
 obtain ⟨t233, A40, H⟩ := H
 replace H : (if t233 = true then ((impl_IsPartyCode.f k a0_2).bind fun t234 => (if t234 = true then ((impl_IsAmount.f a0_3).bind fun t235 => (some t235)) else (some false))) else (some false)) = some r := H
 have A4 := Aside0.mk A40
 clear A40
 by_cases c5 : t233 = true
 subst c5
 have H1 : ((impl_IsPartyCode.f k a0_2).bind fun t234 => (if t234 = true then ((impl_IsAmount.f a0_3).bind fun t235 => (some t235)) else (some false))) = some r := by rw [if_pos rfl] at H; exact H
 clear H
 have H := H1
 clear H1
 replace H := Option.bind_eq_some_iff.mp H
 obtain ⟨t234, A60, H⟩ := H
 replace H : (if t234 = true then ((impl_IsAmount.f a0_3).bind fun t235 => (some t235)) else (some false)) = some r := H
 have A6 := Aside0.mk A60
 clear A60
 by_cases c7 : t234 = true
 subst c7
 have H1 : ((impl_IsAmount.f a0_3).bind fun t235 => (some t235)) = some r := by rw [if_pos rfl] at H; exact H
 clear H
 have H := H1
 clear H1
 replace H := Option.bind_eq_some_iff.mp H
 obtain ⟨t235, A80, H⟩ := H
 replace H : (some t235) = some r := H
 have A8 := Aside0.mk A80
 clear A80
 obtain rfl := Option.some.inj H
 rotate_left
 replace c7 := Bool.eq_false_iff.mpr c7
 subst c7
 have H1 : (some false) = some r := by rw [if_neg (show ¬ (false = true) by decide)] at H; exact H
 clear H
 have H := H1
 clear H1
 obtain rfl := Option.some.inj H
 rotate_left
 replace c5 := Bool.eq_false_iff.mpr c5
 subst c5
 have H1 : (some false) = some r := by rw [if_neg (show ¬ (false = true) by decide)] at H; exact H
 clear H
 have H := H1
 clear H1
 obtain rfl := Option.some.inj H
 rotate_left
 replace c3 := Bool.eq_false_iff.mpr c3
 subst c3
 have H1 : (some false) = some r := by rw [if_neg (show ¬ (false = true) by decide)] at H; exact H
 clear H
 have H := H1
 clear H1
 obtain rfl := Option.some.inj H
 rotate_left
 all_goals
  go_enter Try.func98, Try.ntmps98
  go_wp2_with (first | ((with_reducible refine gate_dst (N := 1) rfl ?_); refine bx_ 1 #[.int .i64 a0_0, .int .i64 a0_1, .string a0_2, .int .i64 a0_3, .bool a0_4, .bool a0_5, .bool a0_6] 43 ?_; intro gb231 hg w9 hbox hb; have n0_ := Aside0.mk (bs_ hb); have n1_ := Aside0.mk (hbox); have n2_ := Aside0.mk ((by rw [hg]; exact (bz_) : w.heap.size ≤ gb231)); have n3_ := Aside0.mk ((by rw [hg]; exact (bz_) : w.heap.size ≤ gb231)); clear HB; revert n0_ n1_ n2_ n3_; intro HB BK231 GW231 GE231; clear hb hbox hg; have hcz10_0 := bk BK231 0; have hcz10_1 := bk BK231 1; have hcz10_2 := bk BK231 2; have hcz10_3 := bk BK231 3; have hcz10_4 := bk BK231 4; have hcz10_5 := bk BK231 5; have hcz10_6 := bk BK231 6; have hfz10_0 := blk_frozen BK231.out 0; have hfz10_1 := blk_frozen BK231.out 1; have hfz10_2 := blk_frozen BK231.out 2; have hfz10_3 := blk_frozen BK231.out 3; have hfz10_4 := blk_frozen BK231.out 4; have hfz10_5 := blk_frozen BK231.out 5; have hfz10_6 := blk_frozen BK231.out 6) | ((with_reducible refine gate_callee (f := 118) rfl ?_); refine gl_ 5 Try.func118 #[.int .i64 a0_0] ?_; (with_reducible refine (impl_isDay.calls k a0_0 _ _ A2.out).mono ?_); rintro e w11 ⟨rfl, hb⟩; refine ⟨_, rfl, ?_⟩; have n0_ := Aside0.mk (bkb BK231 hb); have n1_ := Aside0.mk (bs_ hb); clear BK231 HB; revert n0_ n1_; intro BK231 HB; (try clear hb); (try clear hb2); (try clear hk); (try clear hi); have hcz12_0 := bk BK231 0; have hcz12_1 := bk BK231 1; have hcz12_2 := bk BK231 2; have hcz12_3 := bk BK231 3; have hcz12_4 := bk BK231 4; have hcz12_5 := bk BK231 5; have hcz12_6 := bk BK231 6; have hfz12_0 := blk_frozen BK231.out 0; have hfz12_1 := blk_frozen BK231.out 1; have hfz12_2 := blk_frozen BK231.out 2; have hfz12_3 := blk_frozen BK231.out 3; have hfz12_4 := blk_frozen BK231.out 4; have hfz12_5 := blk_frozen BK231.out 5; have hfz12_6 := blk_frozen BK231.out 6) | (go_at_call 119; (with_reducible refine (impl_isEventKind.calls a0_1 _ _ A4.out).mono ?_); rintro e w' ⟨rfl, ⟨nd, rfl⟩⟩) | (go_at_call 113; (with_reducible refine (impl_IsPartyCode.calls k a0_2 _ _ A6.out).mono ?_); rintro e w' ⟨rfl, ⟨nd, rfl⟩⟩) | (go_at_call 84; (with_reducible refine (impl_IsAmount.calls a0_3 t235 _ A8.out).mono ?_); rintro e w' ⟨rfl, ⟨nd, rfl⟩⟩))
  go_ret
  exact ⟨by first | rfl | (simp [errW_none, errW_some] <;> rfl) | (simp [*, errW_none, errW_some] <;> rfl), bb_⟩

end Go.Proofs.Ytmfbkbbgokjhnaa.F
namespace Go.Proofs.Ytmfbkbbgokjhnaa.F
open Go.RowKit Go.Proofs.YtmfbkbbgokjhnaaW.PrintWords Go.Proofs.YtmfbkbbgokjhnaaW.PrintLast Go.Proofs.YtmfbkbbgokjhnaaW.PrintMore
attribute [local go_sem] max2_int min2_int max_two min_two max_three min_three max_four min_four   -- for this text's walks alone
set_option linter.unusedVariables false
set_option linter.unusedSimpArgs false

/-! ### impl_IsLog: function 67 -/
def impl_IsLog.l0 : Nat → List (S43) → List (S43) → Int → Int → Option (Bool)
 | 0, _, _, _, _ => none
 | k + 1, x0, x5, x6, x7 => if x7 < x6 then (if 0 ≤ x7 then (if x7 < (x5.length : Int) then ((impl_IsEvent.f k ((rd_T43 x5 x7).f0) ((rd_T43 x5 x7).f1) ((rd_T43 x5 x7).f2) ((rd_T43 x5 x7).f3) ((rd_T43 x5 x7).f4) ((rd_T43 x5 x7).f5) ((rd_T43 x5 x7).f6)).bind fun t238 => (if t238 = true then (if x7 > 0 then (if 0 ≤ (wrap64 (x7 - 1)) then (if (wrap64 (x7 - 1)) < (x0.length : Int) then (if ((rd_T43 x0 (wrap64 (x7 - 1))).f0) > ((rd_T43 x5 x7).f0) then (some false) else (impl_IsLog.l0 k x0 x5 x6 (wrap64 (x7 + 1)))) else (none)) else (none)) else (impl_IsLog.l0 k x0 x5 x6 (wrap64 (x7 + 1)))) else (some false))) else (none)) else (none)) else (some (decide ((x0.length : Int) ≤ 15)))
def impl_IsLog.f (k : Nat) (l0 : List (S43)) : Option (Bool) := impl_IsLog.l0 k l0 l0 (l0.length : Int) 0
theorem impl_IsLog.mono_l : ∀ k, (∀ y0 y1 y2 y3, LeO (impl_IsLog.l0 k y0 y1 y2 y3) (impl_IsLog.l0 (k + 1) y0 y1 y2 y3))
 | 0 => fun _ _ _ _ r h => by simp [impl_IsLog.l0] at h
 | k + 1 => by
  have ih0 := impl_IsLog.mono_l k
  · intro y0 y1 y2 y3
    unfold impl_IsLog.l0
    repeat' first
    | (with_reducible exact ih0 _ _ _ _)
    | (with_reducible exact impl_IsEvent.mono _ _ _ _ _ _ _ _)
    | (with_reducible exact LeO.refl _)
    | (with_reducible exact LeO.none _)
    | (with_reducible refine LeO.ite ?_ ?_)
    | (with_reducible refine LeO.bind ?_ (fun _ => ?_))
    | exact ih0 _ _ _ _
    | exact impl_IsEvent.mono _ _ _ _ _ _ _ _
    | exact LeO.none _
    | refine LeO.ite ?_ ?_
    | refine LeO.bind ?_ (fun _ => ?_)
theorem impl_IsLog.mono : ∀ a0 k, LeO (impl_IsLog.f k a0) (impl_IsLog.f (k + 1) a0) := by
 intro a0 k
 have ih0 := impl_IsLog.mono_l k
 unfold impl_IsLog.f
 repeat' first
  | (with_reducible exact ih0 _ _ _ _)
  | (with_reducible exact impl_IsEvent.mono _ _ _ _ _ _ _ _)
  | (with_reducible exact LeO.refl _)
  | (with_reducible exact LeO.none _)
  | (with_reducible refine LeO.ite ?_ ?_)
  | (with_reducible refine LeO.bind ?_ (fun _ => ?_))
  | exact ih0 _ _ _ _
  | exact impl_IsEvent.mono _ _ _ _ _ _ _ _
  | exact LeO.none _
  | refine LeO.ite ?_ ?_
  | refine LeO.bind ?_ (fun _ => ?_)
def impl_IsLog.T4 : Bool × List (List Nat × List Nat) := (true, [([], []), ([0], [0]), ([1], [1]), ([2, 1], [2]), ([3], [3]), ([4, 3], [3, 4]), ([5, 3, 3], [3, 5]), ([6], [6]), ([6], [6]), ([8, 6], [6, 8]), ([7, 9, 6], [6, 7, 9]), ([10, 6], [6, 10]), ([11, 6], [6, 11]), ([6], [6]), ([13, 6], [6, 13]), ([12, 14, 6], [6, 12, 14]), ([6, 15, 3], [3, 6, 15]), ([3, 16], [3, 16])])
def impl_IsLog.B4 : List Nat := [0, 1, 3, 7, 15, 31, 63, 127, 127, 383, 1023, 2047, 4095, 127, 8319, 32767, 65535, 131071]
theorem impl_IsLog.tab4 : rtab .any (opsOf Try.f67 4) = impl_IsLog.T4 := by kernel_rfl
theorem impl_IsLog.bits4 : waitsOk impl_IsLog.T4.2 impl_IsLog.B4 = true := by kernel_rfl
set_option maxHeartbeats 8000000 in
set_option maxRecDepth 100000 in
theorem impl_IsLog.calls (k : Nat) (A0 : Option Addr) (c0 : Nat) (l0 : List (S43)) (r : Bool) (w : World) (hr0 : Kd.C k43 w A0 l0.length l0) (hc0 : l0.length ≤ c0) (h : impl_IsLog.f k l0 = some r) :
 Calls Try.prog 67 #[.slice A0 l0.length c0] w fun e w' => e = .returned (.bool r) ∧ Below w.heap.size w w' := by
 have hu43 := Try.underlying43
 have HR0 := Aside0.mk hr0
 have HC0 := Aside0.mk hc0
 clear hr0 hc0
 have HB := Aside0.mk (Below.refl w.heap.size w)
 have H : (impl_IsLog.l0 k l0 l0 (l0.length : Int) 0) = some r := h
 clear h
 have H' := Aside0.mk H
 clear H
 go_enter Try.func67, Try.ntmps67
 go_wp2
 go_loopg [7] k (fun kq v7 w' => ∃ (x7_1 : Int), v7 = .int .i64 x7_1 ∧ Aside0 (impl_IsLog.l0 kq l0 l0 (l0.length : Int) x7_1 = some r) ∧ Aside0 (kq ≤ k) ∧ Aside0 (Below w.heap.size w w'))
 case atStart => exact ⟨(0), (by first | rfl | (simp; done) | (simp [*]; done)), H', ⟨Nat.le_refl _⟩, ⟨bb_⟩⟩
 case round =>
  clear H'
  obtain ⟨x7_1, rfl, HA, HK1, HB⟩ := hrel
  cases gk with
  | zero => exact absurd HA.out (by simp [impl_IsLog.l0])
  | succ k1 =>
   have H := HA.out
   clear HA
   simp only [impl_IsLog.l0] at H
   by_cases c2 : x7_1 < (l0.length : Int)
   · rw [if_pos c2] at H
     have c2b0 : decide (x7_1 < (l0.length : Int)) = true := decide_eq_true c2
     clear c2
     by_cases c3 : 0 ≤ x7_1
     · rw [if_pos c3] at H
       have c3b0 : decide (0 ≤ x7_1) = true := decide_eq_true c3
       clear c3
       by_cases c4 : x7_1 < (l0.length : Int)
       · rw [if_pos c4] at H
         have c4b0 : decide (x7_1 < (l0.length : Int)) = true := decide_eq_true c4
         clear c4
         replace H := Option.bind_eq_some_iff.mp H
         obtain ⟨t238, A50, H⟩ := H
         replace H : (if t238 = true then (if x7_1 > 0 then (if 0 ≤ (wrap64 (x7_1 - 1)) then (if (wrap64 (x7_1 - 1)) < (l0.length : Int) then (if ((rd_T43 l0 (wrap64 (x7_1 - 1))).f0) > ((rd_T43 l0 x7_1).f0) then (some false) else (impl_IsLog.l0 k1 l0 l0 (l0.length : Int) (wrap64 (x7_1 + 1)))) else (none)) else (none)) else (impl_IsLog.l0 k1 l0 l0 (l0.length : Int) (wrap64 (x7_1 + 1)))) else (some false)) = some r := H
         have A5 := Aside0.mk A50
         clear A50
         by_cases c6 : t238 = true
         · subst c6
           have H1 : (if x7_1 > 0 then (if 0 ≤ (wrap64 (x7_1 - 1)) then (if (wrap64 (x7_1 - 1)) < (l0.length : Int) then (if ((rd_T43 l0 (wrap64 (x7_1 - 1))).f0) > ((rd_T43 l0 x7_1).f0) then (some false) else (impl_IsLog.l0 k1 l0 l0 (l0.length : Int) (wrap64 (x7_1 + 1)))) else (none)) else (none)) else (impl_IsLog.l0 k1 l0 l0 (l0.length : Int) (wrap64 (x7_1 + 1)))) = some r := by rw [if_pos rfl] at H; exact H
           clear H
           have H := H1
           clear H1
           by_cases c7 : x7_1 > 0
           · rw [if_pos c7] at H
             have c7b0 : decide (0 < x7_1) = true := decide_eq_true c7
             clear c7
             obtain ⟨ji8, hji8⟩ : ∃ j_ : Int, (wrap64 (x7_1 - 1)) = j_ := ⟨_, rfl⟩
             replace H : (if 0 ≤ (ji8) then (if (ji8) < (l0.length : Int) then (if ((rd_T43 l0 (ji8)).f0) > ((rd_T43 l0 x7_1).f0) then (some false) else (impl_IsLog.l0 k1 l0 l0 (l0.length : Int) (wrap64 (x7_1 + 1)))) else (none)) else (none)) = some r := by first | (rw [hji8] at H; exact H) | (simp only [hji8] at H ⊢; exact H)
             (try rw [hji8] at A5)
             have hji8w : (IntKind.i64.wrap (x7_1 - 1)) = ji8 := (i64_w _).trans hji8
             by_cases c9 : 0 ≤ (ji8)
             · rw [if_pos c9] at H
               have c9b0 : decide (0 ≤ (ji8)) = true := decide_eq_true c9
               clear c9
               by_cases c10 : (ji8) < (l0.length : Int)
               · rw [if_pos c10] at H
                 have c10b0 : decide ((ji8) < (l0.length : Int)) = true := decide_eq_true c10
                 clear c10
                 by_cases c11 : ((rd_T43 l0 (ji8)).f0) > ((rd_T43 l0 x7_1).f0)
                 · rw [if_pos c11] at H
                   have c11b0 : decide (((rd_T43 l0 x7_1).f0) < ((rd_T43 l0 (ji8)).f0)) = true := decide_eq_true c11
                   clear c11
                   obtain rfl := Option.some.inj H
                   have p236 : 0 ≤ (x7_1 : Int) := od_
                   have q236 : x7_1 < (l0.length : Int) := od_
                   obtain ⟨ad236, e236, hx236_0, hx236_1, hx236_2, hx236_3, hx236_4, hx236_5, hx236_6⟩ := at_T43 HR0.out x7_1 p236 q236
                   cases e236
                   replace hx236_0 := cel HB hx236_0
                   replace hx236_1 := cel HB hx236_1
                   replace hx236_2 := cel HB hx236_2
                   replace hx236_3 := cel HB hx236_3
                   replace hx236_4 := cel HB hx236_4
                   replace hx236_5 := cel HB hx236_5
                   replace hx236_6 := cel HB hx236_6
                   replace p236 := eq_true p236
                   replace q236 := eq_true q236
                   try go_wp2_with (first | ((with_reducible refine gate_dst (N := 4) rfl ?_); refine bx_ 4 #[.int .i64 0, .int .i64 0, .string (⟨#[]⟩ : ByteArray), .int .i64 0, .bool false, .bool false, .bool false] 43 ?_; intro gb237 hg w12 hbox hb; have n0_ := Aside0.mk (bs_ hb); have n1_ := Aside0.mk (hbox); have n2_ := Aside0.mk ((by rw [hg]; exact (bz_) : w.heap.size ≤ gb237)); have n3_ := Aside0.mk ((by rw [hg]; exact (bz_) : w.heap.size ≤ gb237)); clear HB; revert n0_ n1_ n2_ n3_; intro HB BK237 GW237 GE237; clear hb hbox hg; have hcz13_0 := bk BK237 0; have hcz13_1 := bk BK237 1; have hcz13_2 := bk BK237 2; have hcz13_3 := bk BK237 3; have hcz13_4 := bk BK237 4; have hcz13_5 := bk BK237 5; have hcz13_6 := bk BK237 6; have hfz13_0 := blk_frozen BK237.out 0; have hfz13_1 := blk_frozen BK237.out 1; have hfz13_2 := blk_frozen BK237.out 2; have hfz13_3 := blk_frozen BK237.out 3; have hfz13_4 := blk_frozen BK237.out 4; have hfz13_5 := blk_frozen BK237.out 5; have hfz13_6 := blk_frozen BK237.out 6))
                   have n0_ : Aside0 ((((((((w12.setCell ⟨gb237, 0, none⟩ (.int .i64 ((rd_T43 l0 x7_1).f0))).setCell ⟨gb237, 1, none⟩ (.int .i64 ((rd_T43 l0 x7_1).f1))).setCell ⟨gb237, 2, none⟩ (.string ((rd_T43 l0 x7_1).f2))).setCell ⟨gb237, 3, none⟩ (.int .i64 ((rd_T43 l0 x7_1).f3))).setCell ⟨gb237, 4, none⟩ (.bool ((rd_T43 l0 x7_1).f4))).setCell ⟨gb237, 5, none⟩ (.bool ((rd_T43 l0 x7_1).f5))).setCell ⟨gb237, 6, none⟩ (.bool ((rd_T43 l0 x7_1).f6))).heap[gb237]? = some (.cells #[.int .i64 ((rd_T43 l0 x7_1).f0), .int .i64 ((rd_T43 l0 x7_1).f1), .string ((rd_T43 l0 x7_1).f2), .int .i64 ((rd_T43 l0 x7_1).f3), .bool ((rd_T43 l0 x7_1).f4), .bool ((rd_T43 l0 x7_1).f5), .bool ((rd_T43 l0 x7_1).f6)] 43 (0, 0))) := ⟨by (with_reducible repeat (first | refine blk_drewN ?_ _ | refine blk_drew ?_ | refine blk_alloc ?_ _)); refine blk_put (cs := #[.int .i64 ((rd_T43 l0 x7_1).f0), .int .i64 ((rd_T43 l0 x7_1).f1), .string ((rd_T43 l0 x7_1).f2), .int .i64 ((rd_T43 l0 x7_1).f3), .bool ((rd_T43 l0 x7_1).f4), .bool ((rd_T43 l0 x7_1).f5), .bool false]) ?_ 6 _ rfl; (with_reducible repeat (first | refine blk_drewN ?_ _ | refine blk_drew ?_ | refine blk_alloc ?_ _)); refine blk_put (cs := #[.int .i64 ((rd_T43 l0 x7_1).f0), .int .i64 ((rd_T43 l0 x7_1).f1), .string ((rd_T43 l0 x7_1).f2), .int .i64 ((rd_T43 l0 x7_1).f3), .bool ((rd_T43 l0 x7_1).f4), .bool false, .bool false]) ?_ 5 _ rfl; (with_reducible repeat (first | refine blk_drewN ?_ _ | refine blk_drew ?_ | refine blk_alloc ?_ _)); refine blk_put (cs := #[.int .i64 ((rd_T43 l0 x7_1).f0), .int .i64 ((rd_T43 l0 x7_1).f1), .string ((rd_T43 l0 x7_1).f2), .int .i64 ((rd_T43 l0 x7_1).f3), .bool false, .bool false, .bool false]) ?_ 4 _ rfl; (with_reducible repeat (first | refine blk_drewN ?_ _ | refine blk_drew ?_ | refine blk_alloc ?_ _)); refine blk_put (cs := #[.int .i64 ((rd_T43 l0 x7_1).f0), .int .i64 ((rd_T43 l0 x7_1).f1), .string ((rd_T43 l0 x7_1).f2), .int .i64 0, .bool false, .bool false, .bool false]) ?_ 3 _ rfl; (with_reducible repeat (first | refine blk_drewN ?_ _ | refine blk_drew ?_ | refine blk_alloc ?_ _)); refine blk_put (cs := #[.int .i64 ((rd_T43 l0 x7_1).f0), .int .i64 ((rd_T43 l0 x7_1).f1), .string (⟨#[]⟩ : ByteArray), .int .i64 0, .bool false, .bool false, .bool false]) ?_ 2 _ rfl; (with_reducible repeat (first | refine blk_drewN ?_ _ | refine blk_drew ?_ | refine blk_alloc ?_ _)); refine blk_put (cs := #[.int .i64 ((rd_T43 l0 x7_1).f0), .int .i64 0, .string (⟨#[]⟩ : ByteArray), .int .i64 0, .bool false, .bool false, .bool false]) ?_ 1 _ rfl; (with_reducible repeat (first | refine blk_drewN ?_ _ | refine blk_drew ?_ | refine blk_alloc ?_ _)); refine blk_put (cs := #[.int .i64 0, .int .i64 0, .string (⟨#[]⟩ : ByteArray), .int .i64 0, .bool false, .bool false, .bool false]) ?_ 0 _ rfl; (with_reducible repeat (first | refine blk_drewN ?_ _ | refine blk_drew ?_ | refine blk_alloc ?_ _)); exact BK237.out⟩
                   have n1_ : Aside0 (Below w.heap.size w (((((((w12.setCell ⟨gb237, 0, none⟩ (.int .i64 ((rd_T43 l0 x7_1).f0))).setCell ⟨gb237, 1, none⟩ (.int .i64 ((rd_T43 l0 x7_1).f1))).setCell ⟨gb237, 2, none⟩ (.string ((rd_T43 l0 x7_1).f2))).setCell ⟨gb237, 3, none⟩ (.int .i64 ((rd_T43 l0 x7_1).f3))).setCell ⟨gb237, 4, none⟩ (.bool ((rd_T43 l0 x7_1).f4))).setCell ⟨gb237, 5, none⟩ (.bool ((rd_T43 l0 x7_1).f5))).setCell ⟨gb237, 6, none⟩ (.bool ((rd_T43 l0 x7_1).f6)))) := ⟨bb_⟩
                   (try clear BK237)
                   (try clear HB)
                   generalize (((((((w12.setCell ⟨gb237, 0, none⟩ (.int .i64 ((rd_T43 l0 x7_1).f0))).setCell ⟨gb237, 1, none⟩ (.int .i64 ((rd_T43 l0 x7_1).f1))).setCell ⟨gb237, 2, none⟩ (.string ((rd_T43 l0 x7_1).f2))).setCell ⟨gb237, 3, none⟩ (.int .i64 ((rd_T43 l0 x7_1).f3))).setCell ⟨gb237, 4, none⟩ (.bool ((rd_T43 l0 x7_1).f4))).setCell ⟨gb237, 5, none⟩ (.bool ((rd_T43 l0 x7_1).f5))).setCell ⟨gb237, 6, none⟩ (.bool ((rd_T43 l0 x7_1).f6))) = w14 at n0_ n1_ ⊢
                   have BK237 := n0_
                   have HB := n1_
                   clear n0_ n1_
                   have n0_ := Aside0.mk (blk_drew BK237.out)
                   have n1_ := Aside0.mk (below_drew1 HB.out)
                   clear BK237 HB; revert n0_ n1_; intro BK237 HB
                   have p239 : 0 ≤ ((ji8) : Int) := od_
                   have q239 : (ji8) < (l0.length : Int) := od_
                   obtain ⟨ad239, e239, hx239_0, hx239_1, hx239_2, hx239_3, hx239_4, hx239_5, hx239_6⟩ := at_T43 HR0.out (ji8) p239 q239
                   have hw239_6 := hx239_6
                   have hw239_5 := hx239_5
                   have hw239_4 := hx239_4
                   have hw239_3 := hx239_3
                   have hw239_2 := hx239_2
                   have hw239_1 := hx239_1
                   have hw239_0 := hx239_0
                   obtain rfl : ad236 = ad239 := (by injection e239)
                   replace hx239_0 := cel HB hx239_0
                   replace hx239_1 := cel HB hx239_1
                   replace hx239_2 := cel HB hx239_2
                   replace hx239_3 := cel HB hx239_3
                   replace hx239_4 := cel HB hx239_4
                   replace hx239_5 := cel HB hx239_5
                   replace hx239_6 := cel HB hx239_6
                   replace p239 := eq_true p239
                   replace q239 := eq_true q239
                   refine start_ (n := 18) (S := fun w' => w'.cell? ⟨gb237, 0, none⟩ = some (.int .i64 ((rd_T43 l0 x7_1).f0)) ∧ w'.cell? ⟨gb237, 1, none⟩ = some (.int .i64 ((rd_T43 l0 x7_1).f1)) ∧ w'.cell? ⟨gb237, 2, none⟩ = some (.string ((rd_T43 l0 x7_1).f2)) ∧ w'.cell? ⟨gb237, 3, none⟩ = some (.int .i64 ((rd_T43 l0 x7_1).f3)) ∧ w'.cell? ⟨gb237, 4, none⟩ = some (.bool ((rd_T43 l0 x7_1).f4)) ∧ w'.cell? ⟨gb237, 5, none⟩ = some (.bool ((rd_T43 l0 x7_1).f5)) ∧ w'.cell? ⟨gb237, 6, none⟩ = some (.bool ((rd_T43 l0 x7_1).f6)) ∧ w'.cell? (ad236.add (((ji8)).toNat * 7)) = some (.int .i64 ((rd_T43 l0 (ji8)).f0)) ∧ w'.cell? ⟨(ad236.add (((ji8)).toNat * 7)).block, (ad236.add (((ji8)).toNat * 7)).off + 1, none⟩ = some (.int .i64 ((rd_T43 l0 (ji8)).f1)) ∧ w'.cell? ⟨(ad236.add (((ji8)).toNat * 7)).block, (ad236.add (((ji8)).toNat * 7)).off + 2, none⟩ = some (.string ((rd_T43 l0 (ji8)).f2)) ∧ w'.cell? ⟨(ad236.add (((ji8)).toNat * 7)).block, (ad236.add (((ji8)).toNat * 7)).off + 3, none⟩ = some (.int .i64 ((rd_T43 l0 (ji8)).f3)) ∧ w'.cell? ⟨(ad236.add (((ji8)).toNat * 7)).block, (ad236.add (((ji8)).toNat * 7)).off + 4, none⟩ = some (.bool ((rd_T43 l0 (ji8)).f4)) ∧ w'.cell? ⟨(ad236.add (((ji8)).toNat * 7)).block, (ad236.add (((ji8)).toNat * 7)).off + 5, none⟩ = some (.bool ((rd_T43 l0 (ji8)).f5)) ∧ w'.cell? ⟨(ad236.add (((ji8)).toNat * 7)).block, (ad236.add (((ji8)).toNat * 7)).off + 6, none⟩ = some (.bool ((rd_T43 l0 (ji8)).f6))) (ds := []) (fb 18 0) (by kernel_rfl) rfl rfl ⟨(blk_cell BK237.out 0).trans rfl, (blk_cell BK237.out 1).trans rfl, (blk_cell BK237.out 2).trans rfl, (blk_cell BK237.out 3).trans rfl, (blk_cell BK237.out 4).trans rfl, (blk_cell BK237.out 5).trans rfl, (blk_cell BK237.out 6).trans rfl, ((HB.out.cell (World.block_lt_of_cell? w _ hw239_0)).trans hw239_0), ((HB.out.cell (World.block_lt_of_cell? w _ hw239_1)).trans hw239_1), ((HB.out.cell (World.block_lt_of_cell? w _ hw239_2)).trans hw239_2), ((HB.out.cell (World.block_lt_of_cell? w _ hw239_3)).trans hw239_3), ((HB.out.cell (World.block_lt_of_cell? w _ hw239_4)).trans hw239_4), ((HB.out.cell (World.block_lt_of_cell? w _ hw239_5)).trans hw239_5), ((HB.out.cell (World.block_lt_of_cell? w _ hw239_6)).trans hw239_6)⟩ (fun hHeld => ?_); refine with_tabW impl_IsLog.tab4 impl_IsLog.bits4 (fun HT_ HW_ => ?_)
                   generalize w14.drew = w15 at BK237 HB hx239_0 hx239_1 hx239_2 hx239_3 hx239_4 hx239_5 hx239_6 hHeld ⊢
                   refine sqT_ 0 12 (fb 18 1) (take_ofW HT_.out HW_.out (by kernel_rfl)) hHeld ?_
                   refine one_ (i := 1) (N := some 13) (fb 18 3) rfl rfl (one_of HT_.out (by kernel_rfl)) (by decide) (fun K hK => ?_)
                   refine goes_ Try.func98 (by kernel_rfl) rfl #[.agg #[.int .i64 ((rd_T43 l0 x7_1).f0), .int .i64 ((rd_T43 l0 x7_1).f1), .string ((rd_T43 l0 x7_1).f2), .int .i64 ((rd_T43 l0 x7_1).f3), .bool ((rd_T43 l0 x7_1).f4), .bool ((rd_T43 l0 x7_1).f5), .bool ((rd_T43 l0 x7_1).f6)]] (by rfl) rfl rfl (by (try simp only [List.map_toArray, List.map_cons, List.map_nil]); first | done | rfl | (simp only [List.length_drop, List.length_take]; rfl)) ?_
                   with_reducible refine (impl_IsEvent.calls k1 ((rd_T43 l0 x7_1).f0) ((rd_T43 l0 x7_1).f1) ((rd_T43 l0 x7_1).f2) ((rd_T43 l0 x7_1).f3) ((rd_T43 l0 x7_1).f4) ((rd_T43 l0 x7_1).f5) ((rd_T43 l0 x7_1).f6) true _ A5.out).mono ?_
                   rintro e w16 ⟨rfl, hb⟩
                   refine ⟨_, rfl, ?_⟩
                   have n0_ := Aside0.mk (bkb BK237 hb)
                   have n1_ := Aside0.mk (bs_ hb)
                   clear BK237 HB; revert n0_ n1_; intro BK237 HB
                   (try clear hb)
                   (try clear hb2)
                   (try clear hk)
                   (try clear hi)
                   refine hK.out _ _ ⟨(blk_cell BK237.out 0).trans rfl, (blk_cell BK237.out 1).trans rfl, (blk_cell BK237.out 2).trans rfl, (blk_cell BK237.out 3).trans rfl, (blk_cell BK237.out 4).trans rfl, (blk_cell BK237.out 5).trans rfl, (blk_cell BK237.out 6).trans rfl, ((HB.out.cell (World.block_lt_of_cell? w _ hw239_0)).trans hw239_0), ((HB.out.cell (World.block_lt_of_cell? w _ hw239_1)).trans hw239_1), ((HB.out.cell (World.block_lt_of_cell? w _ hw239_2)).trans hw239_2), ((HB.out.cell (World.block_lt_of_cell? w _ hw239_3)).trans hw239_3), ((HB.out.cell (World.block_lt_of_cell? w _ hw239_4)).trans hw239_4), ((HB.out.cell (World.block_lt_of_cell? w _ hw239_5)).trans hw239_5), ((HB.out.cell (World.block_lt_of_cell? w _ hw239_6)).trans hw239_6)⟩ (fun hHeld => ?_)
                   clear hK K
                   refine sqN_ 13 ?_
                   refine sqP_ 2 14 (fb 18 7) (any_of HT_.out (by kernel_rfl)) ?_
                   refine sqP_ 3 15 (fb 18 15) (any_of HT_.out (by kernel_rfl)) ?_
                   refine sqP_ 4 16 (fb 18 31) (any_of HT_.out (by kernel_rfl)) ?_
                   refine sqP_ 5 17 (fb 18 63) (any_of HT_.out (by kernel_rfl)) ?_
                   refine sqP_ 6 18 (fb 18 127) (any_of HT_.out (by kernel_rfl)) ?_
                   refine sqP_ 7 19 (fb 18 255) (any_of HT_.out (by kernel_rfl)) ?_
                   refine sqP_ 8 20 (fb 18 511) (any_of HT_.out (by kernel_rfl)) ?_
                   refine sqP_ 9 21 (fb 18 1023) (any_of HT_.out (by kernel_rfl)) ?_
                   refine sqP_ 10 22 (fb 18 2047) (any_of HT_.out (by kernel_rfl)) ?_
                   refine sqP_ 11 23 (fb 18 4095) (any_of HT_.out (by kernel_rfl)) ?_
                   refine sqP_ 13 25 (fb 18 12287) (any_of HT_.out (by kernel_rfl)) ?_
                   refine sqT_ 12 24 (fb 18 16383) (take_ofW HT_.out HW_.out (by kernel_rfl)) hHeld ?_
                   refine sqT_ 14 26 (fb 18 32767) (take_ofW HT_.out HW_.out (by kernel_rfl)) hHeld ?_
                   refine sqP_ 15 27 (fb 18 65535) (any_of HT_.out (by kernel_rfl)) ?_
                   refine sqP_ 16 28 (fb 18 131071) (any_of HT_.out (by kernel_rfl)) ?_
                   refine sqP_ 17 29 (fb 18 262143) (any_of HT_.out (by kernel_rfl)) ?_
                   refine done_ (done_of HT_.out (by kernel_rfl)) ?_
                   try go_wp2
                   go_ret
                   exact ⟨by first | rfl | (simp [errW_none, errW_some] <;> rfl) | (simp only [← hji8]; first | rfl | (simp [errW_none, errW_some] <;> rfl)) | (simp [*, errW_none, errW_some] <;> rfl), bb_⟩
                 · rw [if_neg c11] at H
                   have c11b0 : decide (((rd_T43 l0 x7_1).f0) < ((rd_T43 l0 (ji8)).f0)) = false := decide_eq_false c11
                   clear c11
                   have H' := Aside0.mk H
                   clear H
                   have p236 : 0 ≤ (x7_1 : Int) := od_
                   have q236 : x7_1 < (l0.length : Int) := od_
                   obtain ⟨ad236, e236, hx236_0, hx236_1, hx236_2, hx236_3, hx236_4, hx236_5, hx236_6⟩ := at_T43 HR0.out x7_1 p236 q236
                   cases e236
                   replace hx236_0 := cel HB hx236_0
                   replace hx236_1 := cel HB hx236_1
                   replace hx236_2 := cel HB hx236_2
                   replace hx236_3 := cel HB hx236_3
                   replace hx236_4 := cel HB hx236_4
                   replace hx236_5 := cel HB hx236_5
                   replace hx236_6 := cel HB hx236_6
                   replace p236 := eq_true p236
                   replace q236 := eq_true q236
                   try go_wp2_with (first | ((with_reducible refine gate_dst (N := 4) rfl ?_); refine bx_ 4 #[.int .i64 0, .int .i64 0, .string (⟨#[]⟩ : ByteArray), .int .i64 0, .bool false, .bool false, .bool false] 43 ?_; intro gb237 hg w17 hbox hb; have n0_ := Aside0.mk (bs_ hb); have n1_ := Aside0.mk (hbox); have n2_ := Aside0.mk ((by rw [hg]; exact (bz_) : w.heap.size ≤ gb237)); have n3_ := Aside0.mk ((by rw [hg]; exact (bz_) : w.heap.size ≤ gb237)); clear HB; revert n0_ n1_ n2_ n3_; intro HB BK237 GW237 GE237; clear hb hbox hg; have hcz18_0 := bk BK237 0; have hcz18_1 := bk BK237 1; have hcz18_2 := bk BK237 2; have hcz18_3 := bk BK237 3; have hcz18_4 := bk BK237 4; have hcz18_5 := bk BK237 5; have hcz18_6 := bk BK237 6; have hfz18_0 := blk_frozen BK237.out 0; have hfz18_1 := blk_frozen BK237.out 1; have hfz18_2 := blk_frozen BK237.out 2; have hfz18_3 := blk_frozen BK237.out 3; have hfz18_4 := blk_frozen BK237.out 4; have hfz18_5 := blk_frozen BK237.out 5; have hfz18_6 := blk_frozen BK237.out 6))
                   have n0_ : Aside0 ((((((((w17.setCell ⟨gb237, 0, none⟩ (.int .i64 ((rd_T43 l0 x7_1).f0))).setCell ⟨gb237, 1, none⟩ (.int .i64 ((rd_T43 l0 x7_1).f1))).setCell ⟨gb237, 2, none⟩ (.string ((rd_T43 l0 x7_1).f2))).setCell ⟨gb237, 3, none⟩ (.int .i64 ((rd_T43 l0 x7_1).f3))).setCell ⟨gb237, 4, none⟩ (.bool ((rd_T43 l0 x7_1).f4))).setCell ⟨gb237, 5, none⟩ (.bool ((rd_T43 l0 x7_1).f5))).setCell ⟨gb237, 6, none⟩ (.bool ((rd_T43 l0 x7_1).f6))).heap[gb237]? = some (.cells #[.int .i64 ((rd_T43 l0 x7_1).f0), .int .i64 ((rd_T43 l0 x7_1).f1), .string ((rd_T43 l0 x7_1).f2), .int .i64 ((rd_T43 l0 x7_1).f3), .bool ((rd_T43 l0 x7_1).f4), .bool ((rd_T43 l0 x7_1).f5), .bool ((rd_T43 l0 x7_1).f6)] 43 (0, 0))) := ⟨by (with_reducible repeat (first | refine blk_drewN ?_ _ | refine blk_drew ?_ | refine blk_alloc ?_ _)); refine blk_put (cs := #[.int .i64 ((rd_T43 l0 x7_1).f0), .int .i64 ((rd_T43 l0 x7_1).f1), .string ((rd_T43 l0 x7_1).f2), .int .i64 ((rd_T43 l0 x7_1).f3), .bool ((rd_T43 l0 x7_1).f4), .bool ((rd_T43 l0 x7_1).f5), .bool false]) ?_ 6 _ rfl; (with_reducible repeat (first | refine blk_drewN ?_ _ | refine blk_drew ?_ | refine blk_alloc ?_ _)); refine blk_put (cs := #[.int .i64 ((rd_T43 l0 x7_1).f0), .int .i64 ((rd_T43 l0 x7_1).f1), .string ((rd_T43 l0 x7_1).f2), .int .i64 ((rd_T43 l0 x7_1).f3), .bool ((rd_T43 l0 x7_1).f4), .bool false, .bool false]) ?_ 5 _ rfl; (with_reducible repeat (first | refine blk_drewN ?_ _ | refine blk_drew ?_ | refine blk_alloc ?_ _)); refine blk_put (cs := #[.int .i64 ((rd_T43 l0 x7_1).f0), .int .i64 ((rd_T43 l0 x7_1).f1), .string ((rd_T43 l0 x7_1).f2), .int .i64 ((rd_T43 l0 x7_1).f3), .bool false, .bool false, .bool false]) ?_ 4 _ rfl; (with_reducible repeat (first | refine blk_drewN ?_ _ | refine blk_drew ?_ | refine blk_alloc ?_ _)); refine blk_put (cs := #[.int .i64 ((rd_T43 l0 x7_1).f0), .int .i64 ((rd_T43 l0 x7_1).f1), .string ((rd_T43 l0 x7_1).f2), .int .i64 0, .bool false, .bool false, .bool false]) ?_ 3 _ rfl; (with_reducible repeat (first | refine blk_drewN ?_ _ | refine blk_drew ?_ | refine blk_alloc ?_ _)); refine blk_put (cs := #[.int .i64 ((rd_T43 l0 x7_1).f0), .int .i64 ((rd_T43 l0 x7_1).f1), .string (⟨#[]⟩ : ByteArray), .int .i64 0, .bool false, .bool false, .bool false]) ?_ 2 _ rfl; (with_reducible repeat (first | refine blk_drewN ?_ _ | refine blk_drew ?_ | refine blk_alloc ?_ _)); refine blk_put (cs := #[.int .i64 ((rd_T43 l0 x7_1).f0), .int .i64 0, .string (⟨#[]⟩ : ByteArray), .int .i64 0, .bool false, .bool false, .bool false]) ?_ 1 _ rfl; (with_reducible repeat (first | refine blk_drewN ?_ _ | refine blk_drew ?_ | refine blk_alloc ?_ _)); refine blk_put (cs := #[.int .i64 0, .int .i64 0, .string (⟨#[]⟩ : ByteArray), .int .i64 0, .bool false, .bool false, .bool false]) ?_ 0 _ rfl; (with_reducible repeat (first | refine blk_drewN ?_ _ | refine blk_drew ?_ | refine blk_alloc ?_ _)); exact BK237.out⟩
                   have n1_ : Aside0 (Below w.heap.size w (((((((w17.setCell ⟨gb237, 0, none⟩ (.int .i64 ((rd_T43 l0 x7_1).f0))).setCell ⟨gb237, 1, none⟩ (.int .i64 ((rd_T43 l0 x7_1).f1))).setCell ⟨gb237, 2, none⟩ (.string ((rd_T43 l0 x7_1).f2))).setCell ⟨gb237, 3, none⟩ (.int .i64 ((rd_T43 l0 x7_1).f3))).setCell ⟨gb237, 4, none⟩ (.bool ((rd_T43 l0 x7_1).f4))).setCell ⟨gb237, 5, none⟩ (.bool ((rd_T43 l0 x7_1).f5))).setCell ⟨gb237, 6, none⟩ (.bool ((rd_T43 l0 x7_1).f6)))) := ⟨bb_⟩
                   (try clear BK237)
                   (try clear HB)
                   generalize (((((((w17.setCell ⟨gb237, 0, none⟩ (.int .i64 ((rd_T43 l0 x7_1).f0))).setCell ⟨gb237, 1, none⟩ (.int .i64 ((rd_T43 l0 x7_1).f1))).setCell ⟨gb237, 2, none⟩ (.string ((rd_T43 l0 x7_1).f2))).setCell ⟨gb237, 3, none⟩ (.int .i64 ((rd_T43 l0 x7_1).f3))).setCell ⟨gb237, 4, none⟩ (.bool ((rd_T43 l0 x7_1).f4))).setCell ⟨gb237, 5, none⟩ (.bool ((rd_T43 l0 x7_1).f5))).setCell ⟨gb237, 6, none⟩ (.bool ((rd_T43 l0 x7_1).f6))) = w19 at n0_ n1_ ⊢
                   have BK237 := n0_
                   have HB := n1_
                   clear n0_ n1_
                   have n0_ := Aside0.mk (blk_drew BK237.out)
                   have n1_ := Aside0.mk (below_drew1 HB.out)
                   clear BK237 HB; revert n0_ n1_; intro BK237 HB
                   have p239 : 0 ≤ ((ji8) : Int) := od_
                   have q239 : (ji8) < (l0.length : Int) := od_
                   obtain ⟨ad239, e239, hx239_0, hx239_1, hx239_2, hx239_3, hx239_4, hx239_5, hx239_6⟩ := at_T43 HR0.out (ji8) p239 q239
                   have hw239_6 := hx239_6
                   have hw239_5 := hx239_5
                   have hw239_4 := hx239_4
                   have hw239_3 := hx239_3
                   have hw239_2 := hx239_2
                   have hw239_1 := hx239_1
                   have hw239_0 := hx239_0
                   obtain rfl : ad236 = ad239 := (by injection e239)
                   replace hx239_0 := cel HB hx239_0
                   replace hx239_1 := cel HB hx239_1
                   replace hx239_2 := cel HB hx239_2
                   replace hx239_3 := cel HB hx239_3
                   replace hx239_4 := cel HB hx239_4
                   replace hx239_5 := cel HB hx239_5
                   replace hx239_6 := cel HB hx239_6
                   replace p239 := eq_true p239
                   replace q239 := eq_true q239
                   refine start_ (n := 18) (S := fun w' => w'.cell? ⟨gb237, 0, none⟩ = some (.int .i64 ((rd_T43 l0 x7_1).f0)) ∧ w'.cell? ⟨gb237, 1, none⟩ = some (.int .i64 ((rd_T43 l0 x7_1).f1)) ∧ w'.cell? ⟨gb237, 2, none⟩ = some (.string ((rd_T43 l0 x7_1).f2)) ∧ w'.cell? ⟨gb237, 3, none⟩ = some (.int .i64 ((rd_T43 l0 x7_1).f3)) ∧ w'.cell? ⟨gb237, 4, none⟩ = some (.bool ((rd_T43 l0 x7_1).f4)) ∧ w'.cell? ⟨gb237, 5, none⟩ = some (.bool ((rd_T43 l0 x7_1).f5)) ∧ w'.cell? ⟨gb237, 6, none⟩ = some (.bool ((rd_T43 l0 x7_1).f6)) ∧ w'.cell? (ad236.add (((ji8)).toNat * 7)) = some (.int .i64 ((rd_T43 l0 (ji8)).f0)) ∧ w'.cell? ⟨(ad236.add (((ji8)).toNat * 7)).block, (ad236.add (((ji8)).toNat * 7)).off + 1, none⟩ = some (.int .i64 ((rd_T43 l0 (ji8)).f1)) ∧ w'.cell? ⟨(ad236.add (((ji8)).toNat * 7)).block, (ad236.add (((ji8)).toNat * 7)).off + 2, none⟩ = some (.string ((rd_T43 l0 (ji8)).f2)) ∧ w'.cell? ⟨(ad236.add (((ji8)).toNat * 7)).block, (ad236.add (((ji8)).toNat * 7)).off + 3, none⟩ = some (.int .i64 ((rd_T43 l0 (ji8)).f3)) ∧ w'.cell? ⟨(ad236.add (((ji8)).toNat * 7)).block, (ad236.add (((ji8)).toNat * 7)).off + 4, none⟩ = some (.bool ((rd_T43 l0 (ji8)).f4)) ∧ w'.cell? ⟨(ad236.add (((ji8)).toNat * 7)).block, (ad236.add (((ji8)).toNat * 7)).off + 5, none⟩ = some (.bool ((rd_T43 l0 (ji8)).f5)) ∧ w'.cell? ⟨(ad236.add (((ji8)).toNat * 7)).block, (ad236.add (((ji8)).toNat * 7)).off + 6, none⟩ = some (.bool ((rd_T43 l0 (ji8)).f6))) (ds := []) (fb 18 0) (by kernel_rfl) rfl rfl ⟨(blk_cell BK237.out 0).trans rfl, (blk_cell BK237.out 1).trans rfl, (blk_cell BK237.out 2).trans rfl, (blk_cell BK237.out 3).trans rfl, (blk_cell BK237.out 4).trans rfl, (blk_cell BK237.out 5).trans rfl, (blk_cell BK237.out 6).trans rfl, ((HB.out.cell (World.block_lt_of_cell? w _ hw239_0)).trans hw239_0), ((HB.out.cell (World.block_lt_of_cell? w _ hw239_1)).trans hw239_1), ((HB.out.cell (World.block_lt_of_cell? w _ hw239_2)).trans hw239_2), ((HB.out.cell (World.block_lt_of_cell? w _ hw239_3)).trans hw239_3), ((HB.out.cell (World.block_lt_of_cell? w _ hw239_4)).trans hw239_4), ((HB.out.cell (World.block_lt_of_cell? w _ hw239_5)).trans hw239_5), ((HB.out.cell (World.block_lt_of_cell? w _ hw239_6)).trans hw239_6)⟩ (fun hHeld => ?_); refine with_tabW impl_IsLog.tab4 impl_IsLog.bits4 (fun HT_ HW_ => ?_)
                   generalize w19.drew = w20 at BK237 HB hx239_0 hx239_1 hx239_2 hx239_3 hx239_4 hx239_5 hx239_6 hHeld ⊢
                   refine sqT_ 0 12 (fb 18 1) (take_ofW HT_.out HW_.out (by kernel_rfl)) hHeld ?_
                   refine one_ (i := 1) (N := some 13) (fb 18 3) rfl rfl (one_of HT_.out (by kernel_rfl)) (by decide) (fun K hK => ?_)
                   refine goes_ Try.func98 (by kernel_rfl) rfl #[.agg #[.int .i64 ((rd_T43 l0 x7_1).f0), .int .i64 ((rd_T43 l0 x7_1).f1), .string ((rd_T43 l0 x7_1).f2), .int .i64 ((rd_T43 l0 x7_1).f3), .bool ((rd_T43 l0 x7_1).f4), .bool ((rd_T43 l0 x7_1).f5), .bool ((rd_T43 l0 x7_1).f6)]] (by rfl) rfl rfl (by (try simp only [List.map_toArray, List.map_cons, List.map_nil]); first | done | rfl | (simp only [List.length_drop, List.length_take]; rfl)) ?_
                   with_reducible refine (impl_IsEvent.calls k1 ((rd_T43 l0 x7_1).f0) ((rd_T43 l0 x7_1).f1) ((rd_T43 l0 x7_1).f2) ((rd_T43 l0 x7_1).f3) ((rd_T43 l0 x7_1).f4) ((rd_T43 l0 x7_1).f5) ((rd_T43 l0 x7_1).f6) true _ A5.out).mono ?_
                   rintro e w21 ⟨rfl, hb⟩
                   refine ⟨_, rfl, ?_⟩
                   have n0_ := Aside0.mk (bkb BK237 hb)
                   have n1_ := Aside0.mk (bs_ hb)
                   clear BK237 HB; revert n0_ n1_; intro BK237 HB
                   (try clear hb)
                   (try clear hb2)
                   (try clear hk)
                   (try clear hi)
                   refine hK.out _ _ ⟨(blk_cell BK237.out 0).trans rfl, (blk_cell BK237.out 1).trans rfl, (blk_cell BK237.out 2).trans rfl, (blk_cell BK237.out 3).trans rfl, (blk_cell BK237.out 4).trans rfl, (blk_cell BK237.out 5).trans rfl, (blk_cell BK237.out 6).trans rfl, ((HB.out.cell (World.block_lt_of_cell? w _ hw239_0)).trans hw239_0), ((HB.out.cell (World.block_lt_of_cell? w _ hw239_1)).trans hw239_1), ((HB.out.cell (World.block_lt_of_cell? w _ hw239_2)).trans hw239_2), ((HB.out.cell (World.block_lt_of_cell? w _ hw239_3)).trans hw239_3), ((HB.out.cell (World.block_lt_of_cell? w _ hw239_4)).trans hw239_4), ((HB.out.cell (World.block_lt_of_cell? w _ hw239_5)).trans hw239_5), ((HB.out.cell (World.block_lt_of_cell? w _ hw239_6)).trans hw239_6)⟩ (fun hHeld => ?_)
                   clear hK K
                   refine sqN_ 13 ?_
                   refine sqP_ 2 14 (fb 18 7) (any_of HT_.out (by kernel_rfl)) ?_
                   refine sqP_ 3 15 (fb 18 15) (any_of HT_.out (by kernel_rfl)) ?_
                   refine sqP_ 4 16 (fb 18 31) (any_of HT_.out (by kernel_rfl)) ?_
                   refine sqP_ 5 17 (fb 18 63) (any_of HT_.out (by kernel_rfl)) ?_
                   refine sqP_ 6 18 (fb 18 127) (any_of HT_.out (by kernel_rfl)) ?_
                   refine sqP_ 7 19 (fb 18 255) (any_of HT_.out (by kernel_rfl)) ?_
                   refine sqP_ 8 20 (fb 18 511) (any_of HT_.out (by kernel_rfl)) ?_
                   refine sqP_ 9 21 (fb 18 1023) (any_of HT_.out (by kernel_rfl)) ?_
                   refine sqP_ 10 22 (fb 18 2047) (any_of HT_.out (by kernel_rfl)) ?_
                   refine sqP_ 11 23 (fb 18 4095) (any_of HT_.out (by kernel_rfl)) ?_
                   refine sqP_ 13 25 (fb 18 12287) (any_of HT_.out (by kernel_rfl)) ?_
                   refine sqT_ 12 24 (fb 18 16383) (take_ofW HT_.out HW_.out (by kernel_rfl)) hHeld ?_
                   refine sqT_ 14 26 (fb 18 32767) (take_ofW HT_.out HW_.out (by kernel_rfl)) hHeld ?_
                   refine sqP_ 15 27 (fb 18 65535) (any_of HT_.out (by kernel_rfl)) ?_
                   refine sqP_ 16 28 (fb 18 131071) (any_of HT_.out (by kernel_rfl)) ?_
                   refine sqP_ 17 29 (fb 18 262143) (any_of HT_.out (by kernel_rfl)) ?_
                   refine done_ (done_of HT_.out (by kernel_rfl)) ?_
                   try go_wp2
                   go_roundg k1
                   case measure => have := HK1.out; omega
                   case rel => exact ⟨(wrap64 (x7_1 + 1)), (by first | rfl | (simp; done) | (simp [*]; done)), H', ⟨by have := HK1.out; omega⟩, ⟨bb_⟩⟩
               · rw [if_neg c10] at H
                 exact absurd H (by simp)
             · rw [if_neg c9] at H
               exact absurd H (by simp)
           · rw [if_neg c7] at H
             have c7b0 : decide (0 < x7_1) = false := decide_eq_false c7
             clear c7
             have H' := Aside0.mk H
             clear H
             have p236 : 0 ≤ (x7_1 : Int) := od_
             have q236 : x7_1 < (l0.length : Int) := od_
             obtain ⟨ad236, e236, hx236_0, hx236_1, hx236_2, hx236_3, hx236_4, hx236_5, hx236_6⟩ := at_T43 HR0.out x7_1 p236 q236
             cases e236
             replace hx236_0 := cel HB hx236_0
             replace hx236_1 := cel HB hx236_1
             replace hx236_2 := cel HB hx236_2
             replace hx236_3 := cel HB hx236_3
             replace hx236_4 := cel HB hx236_4
             replace hx236_5 := cel HB hx236_5
             replace hx236_6 := cel HB hx236_6
             replace p236 := eq_true p236
             replace q236 := eq_true q236
             try go_wp2_with (first | ((with_reducible refine gate_dst (N := 4) rfl ?_); refine bx_ 4 #[.int .i64 0, .int .i64 0, .string (⟨#[]⟩ : ByteArray), .int .i64 0, .bool false, .bool false, .bool false] 43 ?_; intro gb237 hg w22 hbox hb; have n0_ := Aside0.mk (bs_ hb); have n1_ := Aside0.mk (hbox); have n2_ := Aside0.mk ((by rw [hg]; exact (bz_) : w.heap.size ≤ gb237)); have n3_ := Aside0.mk ((by rw [hg]; exact (bz_) : w.heap.size ≤ gb237)); clear HB; revert n0_ n1_ n2_ n3_; intro HB BK237 GW237 GE237; clear hb hbox hg; have hcz23_0 := bk BK237 0; have hcz23_1 := bk BK237 1; have hcz23_2 := bk BK237 2; have hcz23_3 := bk BK237 3; have hcz23_4 := bk BK237 4; have hcz23_5 := bk BK237 5; have hcz23_6 := bk BK237 6; have hfz23_0 := blk_frozen BK237.out 0; have hfz23_1 := blk_frozen BK237.out 1; have hfz23_2 := blk_frozen BK237.out 2; have hfz23_3 := blk_frozen BK237.out 3; have hfz23_4 := blk_frozen BK237.out 4; have hfz23_5 := blk_frozen BK237.out 5; have hfz23_6 := blk_frozen BK237.out 6))
             have n0_ : Aside0 ((((((((w22.setCell ⟨gb237, 0, none⟩ (.int .i64 ((rd_T43 l0 x7_1).f0))).setCell ⟨gb237, 1, none⟩ (.int .i64 ((rd_T43 l0 x7_1).f1))).setCell ⟨gb237, 2, none⟩ (.string ((rd_T43 l0 x7_1).f2))).setCell ⟨gb237, 3, none⟩ (.int .i64 ((rd_T43 l0 x7_1).f3))).setCell ⟨gb237, 4, none⟩ (.bool ((rd_T43 l0 x7_1).f4))).setCell ⟨gb237, 5, none⟩ (.bool ((rd_T43 l0 x7_1).f5))).setCell ⟨gb237, 6, none⟩ (.bool ((rd_T43 l0 x7_1).f6))).heap[gb237]? = some (.cells #[.int .i64 ((rd_T43 l0 x7_1).f0), .int .i64 ((rd_T43 l0 x7_1).f1), .string ((rd_T43 l0 x7_1).f2), .int .i64 ((rd_T43 l0 x7_1).f3), .bool ((rd_T43 l0 x7_1).f4), .bool ((rd_T43 l0 x7_1).f5), .bool ((rd_T43 l0 x7_1).f6)] 43 (0, 0))) := ⟨by (with_reducible repeat (first | refine blk_drewN ?_ _ | refine blk_drew ?_ | refine blk_alloc ?_ _)); refine blk_put (cs := #[.int .i64 ((rd_T43 l0 x7_1).f0), .int .i64 ((rd_T43 l0 x7_1).f1), .string ((rd_T43 l0 x7_1).f2), .int .i64 ((rd_T43 l0 x7_1).f3), .bool ((rd_T43 l0 x7_1).f4), .bool ((rd_T43 l0 x7_1).f5), .bool false]) ?_ 6 _ rfl; (with_reducible repeat (first | refine blk_drewN ?_ _ | refine blk_drew ?_ | refine blk_alloc ?_ _)); refine blk_put (cs := #[.int .i64 ((rd_T43 l0 x7_1).f0), .int .i64 ((rd_T43 l0 x7_1).f1), .string ((rd_T43 l0 x7_1).f2), .int .i64 ((rd_T43 l0 x7_1).f3), .bool ((rd_T43 l0 x7_1).f4), .bool false, .bool false]) ?_ 5 _ rfl; (with_reducible repeat (first | refine blk_drewN ?_ _ | refine blk_drew ?_ | refine blk_alloc ?_ _)); refine blk_put (cs := #[.int .i64 ((rd_T43 l0 x7_1).f0), .int .i64 ((rd_T43 l0 x7_1).f1), .string ((rd_T43 l0 x7_1).f2), .int .i64 ((rd_T43 l0 x7_1).f3), .bool false, .bool false, .bool false]) ?_ 4 _ rfl; (with_reducible repeat (first | refine blk_drewN ?_ _ | refine blk_drew ?_ | refine blk_alloc ?_ _)); refine blk_put (cs := #[.int .i64 ((rd_T43 l0 x7_1).f0), .int .i64 ((rd_T43 l0 x7_1).f1), .string ((rd_T43 l0 x7_1).f2), .int .i64 0, .bool false, .bool false, .bool false]) ?_ 3 _ rfl; (with_reducible repeat (first | refine blk_drewN ?_ _ | refine blk_drew ?_ | refine blk_alloc ?_ _)); refine blk_put (cs := #[.int .i64 ((rd_T43 l0 x7_1).f0), .int .i64 ((rd_T43 l0 x7_1).f1), .string (⟨#[]⟩ : ByteArray), .int .i64 0, .bool false, .bool false, .bool false]) ?_ 2 _ rfl; (with_reducible repeat (first | refine blk_drewN ?_ _ | refine blk_drew ?_ | refine blk_alloc ?_ _)); refine blk_put (cs := #[.int .i64 ((rd_T43 l0 x7_1).f0), .int .i64 0, .string (⟨#[]⟩ : ByteArray), .int .i64 0, .bool false, .bool false, .bool false]) ?_ 1 _ rfl; (with_reducible repeat (first | refine blk_drewN ?_ _ | refine blk_drew ?_ | refine blk_alloc ?_ _)); refine blk_put (cs := #[.int .i64 0, .int .i64 0, .string (⟨#[]⟩ : ByteArray), .int .i64 0, .bool false, .bool false, .bool false]) ?_ 0 _ rfl; (with_reducible repeat (first | refine blk_drewN ?_ _ | refine blk_drew ?_ | refine blk_alloc ?_ _)); exact BK237.out⟩
             have n1_ : Aside0 (Below w.heap.size w (((((((w22.setCell ⟨gb237, 0, none⟩ (.int .i64 ((rd_T43 l0 x7_1).f0))).setCell ⟨gb237, 1, none⟩ (.int .i64 ((rd_T43 l0 x7_1).f1))).setCell ⟨gb237, 2, none⟩ (.string ((rd_T43 l0 x7_1).f2))).setCell ⟨gb237, 3, none⟩ (.int .i64 ((rd_T43 l0 x7_1).f3))).setCell ⟨gb237, 4, none⟩ (.bool ((rd_T43 l0 x7_1).f4))).setCell ⟨gb237, 5, none⟩ (.bool ((rd_T43 l0 x7_1).f5))).setCell ⟨gb237, 6, none⟩ (.bool ((rd_T43 l0 x7_1).f6)))) := ⟨bb_⟩
             (try clear BK237)
             (try clear HB)
             generalize (((((((w22.setCell ⟨gb237, 0, none⟩ (.int .i64 ((rd_T43 l0 x7_1).f0))).setCell ⟨gb237, 1, none⟩ (.int .i64 ((rd_T43 l0 x7_1).f1))).setCell ⟨gb237, 2, none⟩ (.string ((rd_T43 l0 x7_1).f2))).setCell ⟨gb237, 3, none⟩ (.int .i64 ((rd_T43 l0 x7_1).f3))).setCell ⟨gb237, 4, none⟩ (.bool ((rd_T43 l0 x7_1).f4))).setCell ⟨gb237, 5, none⟩ (.bool ((rd_T43 l0 x7_1).f5))).setCell ⟨gb237, 6, none⟩ (.bool ((rd_T43 l0 x7_1).f6))) = w24 at n0_ n1_ ⊢
             have BK237 := n0_
             have HB := n1_
             clear n0_ n1_
             have n0_ := Aside0.mk (blk_drew BK237.out)
             have n1_ := Aside0.mk (below_drew1 HB.out)
             clear BK237 HB; revert n0_ n1_; intro BK237 HB
             refine start_ (n := 18) (S := fun w' => w'.cell? ⟨gb237, 0, none⟩ = some (.int .i64 ((rd_T43 l0 x7_1).f0)) ∧ w'.cell? ⟨gb237, 1, none⟩ = some (.int .i64 ((rd_T43 l0 x7_1).f1)) ∧ w'.cell? ⟨gb237, 2, none⟩ = some (.string ((rd_T43 l0 x7_1).f2)) ∧ w'.cell? ⟨gb237, 3, none⟩ = some (.int .i64 ((rd_T43 l0 x7_1).f3)) ∧ w'.cell? ⟨gb237, 4, none⟩ = some (.bool ((rd_T43 l0 x7_1).f4)) ∧ w'.cell? ⟨gb237, 5, none⟩ = some (.bool ((rd_T43 l0 x7_1).f5)) ∧ w'.cell? ⟨gb237, 6, none⟩ = some (.bool ((rd_T43 l0 x7_1).f6))) (ds := []) (fb 18 0) (by kernel_rfl) rfl rfl ⟨(blk_cell BK237.out 0).trans rfl, (blk_cell BK237.out 1).trans rfl, (blk_cell BK237.out 2).trans rfl, (blk_cell BK237.out 3).trans rfl, (blk_cell BK237.out 4).trans rfl, (blk_cell BK237.out 5).trans rfl, (blk_cell BK237.out 6).trans rfl⟩ (fun hHeld => ?_); refine with_tabW impl_IsLog.tab4 impl_IsLog.bits4 (fun HT_ HW_ => ?_)
             generalize w24.drew = w25 at BK237 HB hHeld ⊢
             refine sqT_ 0 12 (fb 18 1) (take_ofW HT_.out HW_.out (by kernel_rfl)) hHeld ?_
             refine one_ (i := 1) (N := some 13) (fb 18 3) rfl rfl (one_of HT_.out (by kernel_rfl)) (by decide) (fun K hK => ?_)
             refine goes_ Try.func98 (by kernel_rfl) rfl #[.agg #[.int .i64 ((rd_T43 l0 x7_1).f0), .int .i64 ((rd_T43 l0 x7_1).f1), .string ((rd_T43 l0 x7_1).f2), .int .i64 ((rd_T43 l0 x7_1).f3), .bool ((rd_T43 l0 x7_1).f4), .bool ((rd_T43 l0 x7_1).f5), .bool ((rd_T43 l0 x7_1).f6)]] (by rfl) rfl rfl (by (try simp only [List.map_toArray, List.map_cons, List.map_nil]); first | done | rfl | (simp only [List.length_drop, List.length_take]; rfl)) ?_
             with_reducible refine (impl_IsEvent.calls k1 ((rd_T43 l0 x7_1).f0) ((rd_T43 l0 x7_1).f1) ((rd_T43 l0 x7_1).f2) ((rd_T43 l0 x7_1).f3) ((rd_T43 l0 x7_1).f4) ((rd_T43 l0 x7_1).f5) ((rd_T43 l0 x7_1).f6) true _ A5.out).mono ?_
             rintro e w26 ⟨rfl, hb⟩
             refine ⟨_, rfl, ?_⟩
             have n0_ := Aside0.mk (bkb BK237 hb)
             have n1_ := Aside0.mk (bs_ hb)
             clear BK237 HB; revert n0_ n1_; intro BK237 HB
             (try clear hb)
             (try clear hb2)
             (try clear hk)
             (try clear hi)
             refine hK.out _ _ ⟨(blk_cell BK237.out 0).trans rfl, (blk_cell BK237.out 1).trans rfl, (blk_cell BK237.out 2).trans rfl, (blk_cell BK237.out 3).trans rfl, (blk_cell BK237.out 4).trans rfl, (blk_cell BK237.out 5).trans rfl, (blk_cell BK237.out 6).trans rfl⟩ (fun hHeld => ?_)
             clear hK K
             refine sqN_ 13 ?_
             refine sqP_ 2 14 (fb 18 7) (any_of HT_.out (by kernel_rfl)) ?_
             refine sqP_ 3 15 (fb 18 15) (any_of HT_.out (by kernel_rfl)) ?_
             refine sqP_ 4 16 (fb 18 31) (any_of HT_.out (by kernel_rfl)) ?_
             refine sqP_ 5 17 (fb 18 63) (any_of HT_.out (by kernel_rfl)) ?_
             refine sqP_ 6 18 (fb 18 127) (any_of HT_.out (by kernel_rfl)) ?_
             refine sqO_ 7 19 (fb 18 255) (any_of HT_.out (by kernel_rfl)) ?_
             refine sqO_ 8 20 (fb 18 511) (any_of HT_.out (by kernel_rfl)) ?_
             refine sqO_ 9 21 (fb 18 1023) (any_of HT_.out (by kernel_rfl)) ?_
             refine sqO_ 10 22 (fb 18 2047) (any_of HT_.out (by kernel_rfl)) ?_
             refine sqO_ 11 23 (fb 18 4095) (any_of HT_.out (by kernel_rfl)) ?_
             refine sqO_ 12 24 (fb 18 8191) (any_of HT_.out (by kernel_rfl)) ?_
             refine sqO_ 13 25 (fb 18 16383) (any_of HT_.out (by kernel_rfl)) ?_
             refine sqO_ 14 26 (fb 18 32767) (any_of HT_.out (by kernel_rfl)) ?_
             refine sqO_ 15 27 (fb 18 65535) (any_of HT_.out (by kernel_rfl)) ?_
             refine sqP_ 16 28 (fb 18 131071) (any_of HT_.out (by kernel_rfl)) ?_
             refine sqP_ 17 29 (fb 18 262143) (any_of HT_.out (by kernel_rfl)) ?_
             refine done_ (done_of HT_.out (by kernel_rfl)) ?_
             try go_wp2
             go_roundg k1
             case measure => have := HK1.out; omega
             case rel => exact ⟨(wrap64 (x7_1 + 1)), (by first | rfl | (simp; done) | (simp [*]; done)), H', ⟨by have := HK1.out; omega⟩, ⟨bb_⟩⟩
         · replace c6 := Bool.eq_false_iff.mpr c6
           subst c6
           have H1 : (some false) = some r := by rw [if_neg (show ¬ (false = true) by decide)] at H; exact H
           clear H
           have H := H1
           clear H1
           obtain rfl := Option.some.inj H
           have p236 : 0 ≤ (x7_1 : Int) := od_
           have q236 : x7_1 < (l0.length : Int) := od_
           obtain ⟨ad236, e236, hx236_0, hx236_1, hx236_2, hx236_3, hx236_4, hx236_5, hx236_6⟩ := at_T43 HR0.out x7_1 p236 q236
           cases e236
           replace hx236_0 := cel HB hx236_0
           replace hx236_1 := cel HB hx236_1
           replace hx236_2 := cel HB hx236_2
           replace hx236_3 := cel HB hx236_3
           replace hx236_4 := cel HB hx236_4
           replace hx236_5 := cel HB hx236_5
           replace hx236_6 := cel HB hx236_6
           replace p236 := eq_true p236
           replace q236 := eq_true q236
           try go_wp2_with (first | ((with_reducible refine gate_dst (N := 4) rfl ?_); refine bx_ 4 #[.int .i64 0, .int .i64 0, .string (⟨#[]⟩ : ByteArray), .int .i64 0, .bool false, .bool false, .bool false] 43 ?_; intro gb237 hg w27 hbox hb; have n0_ := Aside0.mk (bs_ hb); have n1_ := Aside0.mk (hbox); have n2_ := Aside0.mk ((by rw [hg]; exact (bz_) : w.heap.size ≤ gb237)); have n3_ := Aside0.mk ((by rw [hg]; exact (bz_) : w.heap.size ≤ gb237)); clear HB; revert n0_ n1_ n2_ n3_; intro HB BK237 GW237 GE237; clear hb hbox hg; have hcz28_0 := bk BK237 0; have hcz28_1 := bk BK237 1; have hcz28_2 := bk BK237 2; have hcz28_3 := bk BK237 3; have hcz28_4 := bk BK237 4; have hcz28_5 := bk BK237 5; have hcz28_6 := bk BK237 6; have hfz28_0 := blk_frozen BK237.out 0; have hfz28_1 := blk_frozen BK237.out 1; have hfz28_2 := blk_frozen BK237.out 2; have hfz28_3 := blk_frozen BK237.out 3; have hfz28_4 := blk_frozen BK237.out 4; have hfz28_5 := blk_frozen BK237.out 5; have hfz28_6 := blk_frozen BK237.out 6))
           have n0_ : Aside0 ((((((((w27.setCell ⟨gb237, 0, none⟩ (.int .i64 ((rd_T43 l0 x7_1).f0))).setCell ⟨gb237, 1, none⟩ (.int .i64 ((rd_T43 l0 x7_1).f1))).setCell ⟨gb237, 2, none⟩ (.string ((rd_T43 l0 x7_1).f2))).setCell ⟨gb237, 3, none⟩ (.int .i64 ((rd_T43 l0 x7_1).f3))).setCell ⟨gb237, 4, none⟩ (.bool ((rd_T43 l0 x7_1).f4))).setCell ⟨gb237, 5, none⟩ (.bool ((rd_T43 l0 x7_1).f5))).setCell ⟨gb237, 6, none⟩ (.bool ((rd_T43 l0 x7_1).f6))).heap[gb237]? = some (.cells #[.int .i64 ((rd_T43 l0 x7_1).f0), .int .i64 ((rd_T43 l0 x7_1).f1), .string ((rd_T43 l0 x7_1).f2), .int .i64 ((rd_T43 l0 x7_1).f3), .bool ((rd_T43 l0 x7_1).f4), .bool ((rd_T43 l0 x7_1).f5), .bool ((rd_T43 l0 x7_1).f6)] 43 (0, 0))) := ⟨by (with_reducible repeat (first | refine blk_drewN ?_ _ | refine blk_drew ?_ | refine blk_alloc ?_ _)); refine blk_put (cs := #[.int .i64 ((rd_T43 l0 x7_1).f0), .int .i64 ((rd_T43 l0 x7_1).f1), .string ((rd_T43 l0 x7_1).f2), .int .i64 ((rd_T43 l0 x7_1).f3), .bool ((rd_T43 l0 x7_1).f4), .bool ((rd_T43 l0 x7_1).f5), .bool false]) ?_ 6 _ rfl; (with_reducible repeat (first | refine blk_drewN ?_ _ | refine blk_drew ?_ | refine blk_alloc ?_ _)); refine blk_put (cs := #[.int .i64 ((rd_T43 l0 x7_1).f0), .int .i64 ((rd_T43 l0 x7_1).f1), .string ((rd_T43 l0 x7_1).f2), .int .i64 ((rd_T43 l0 x7_1).f3), .bool ((rd_T43 l0 x7_1).f4), .bool false, .bool false]) ?_ 5 _ rfl; (with_reducible repeat (first | refine blk_drewN ?_ _ | refine blk_drew ?_ | refine blk_alloc ?_ _)); refine blk_put (cs := #[.int .i64 ((rd_T43 l0 x7_1).f0), .int .i64 ((rd_T43 l0 x7_1).f1), .string ((rd_T43 l0 x7_1).f2), .int .i64 ((rd_T43 l0 x7_1).f3), .bool false, .bool false, .bool false]) ?_ 4 _ rfl; (with_reducible repeat (first | refine blk_drewN ?_ _ | refine blk_drew ?_ | refine blk_alloc ?_ _)); refine blk_put (cs := #[.int .i64 ((rd_T43 l0 x7_1).f0), .int .i64 ((rd_T43 l0 x7_1).f1), .string ((rd_T43 l0 x7_1).f2), .int .i64 0, .bool false, .bool false, .bool false]) ?_ 3 _ rfl; (with_reducible repeat (first | refine blk_drewN ?_ _ | refine blk_drew ?_ | refine blk_alloc ?_ _)); refine blk_put (cs := #[.int .i64 ((rd_T43 l0 x7_1).f0), .int .i64 ((rd_T43 l0 x7_1).f1), .string (⟨#[]⟩ : ByteArray), .int .i64 0, .bool false, .bool false, .bool false]) ?_ 2 _ rfl; (with_reducible repeat (first | refine blk_drewN ?_ _ | refine blk_drew ?_ | refine blk_alloc ?_ _)); refine blk_put (cs := #[.int .i64 ((rd_T43 l0 x7_1).f0), .int .i64 0, .string (⟨#[]⟩ : ByteArray), .int .i64 0, .bool false, .bool false, .bool false]) ?_ 1 _ rfl; (with_reducible repeat (first | refine blk_drewN ?_ _ | refine blk_drew ?_ | refine blk_alloc ?_ _)); refine blk_put (cs := #[.int .i64 0, .int .i64 0, .string (⟨#[]⟩ : ByteArray), .int .i64 0, .bool false, .bool false, .bool false]) ?_ 0 _ rfl; (with_reducible repeat (first | refine blk_drewN ?_ _ | refine blk_drew ?_ | refine blk_alloc ?_ _)); exact BK237.out⟩
           have n1_ : Aside0 (Below w.heap.size w (((((((w27.setCell ⟨gb237, 0, none⟩ (.int .i64 ((rd_T43 l0 x7_1).f0))).setCell ⟨gb237, 1, none⟩ (.int .i64 ((rd_T43 l0 x7_1).f1))).setCell ⟨gb237, 2, none⟩ (.string ((rd_T43 l0 x7_1).f2))).setCell ⟨gb237, 3, none⟩ (.int .i64 ((rd_T43 l0 x7_1).f3))).setCell ⟨gb237, 4, none⟩ (.bool ((rd_T43 l0 x7_1).f4))).setCell ⟨gb237, 5, none⟩ (.bool ((rd_T43 l0 x7_1).f5))).setCell ⟨gb237, 6, none⟩ (.bool ((rd_T43 l0 x7_1).f6)))) := ⟨bb_⟩
           (try clear BK237)
           (try clear HB)
           generalize (((((((w27.setCell ⟨gb237, 0, none⟩ (.int .i64 ((rd_T43 l0 x7_1).f0))).setCell ⟨gb237, 1, none⟩ (.int .i64 ((rd_T43 l0 x7_1).f1))).setCell ⟨gb237, 2, none⟩ (.string ((rd_T43 l0 x7_1).f2))).setCell ⟨gb237, 3, none⟩ (.int .i64 ((rd_T43 l0 x7_1).f3))).setCell ⟨gb237, 4, none⟩ (.bool ((rd_T43 l0 x7_1).f4))).setCell ⟨gb237, 5, none⟩ (.bool ((rd_T43 l0 x7_1).f5))).setCell ⟨gb237, 6, none⟩ (.bool ((rd_T43 l0 x7_1).f6))) = w29 at n0_ n1_ ⊢
           have BK237 := n0_
           have HB := n1_
           clear n0_ n1_
           have n0_ := Aside0.mk (blk_drew BK237.out)
           have n1_ := Aside0.mk (below_drew1 HB.out)
           clear BK237 HB; revert n0_ n1_; intro BK237 HB
           refine start_ (n := 18) (S := fun w' => w'.cell? ⟨gb237, 0, none⟩ = some (.int .i64 ((rd_T43 l0 x7_1).f0)) ∧ w'.cell? ⟨gb237, 1, none⟩ = some (.int .i64 ((rd_T43 l0 x7_1).f1)) ∧ w'.cell? ⟨gb237, 2, none⟩ = some (.string ((rd_T43 l0 x7_1).f2)) ∧ w'.cell? ⟨gb237, 3, none⟩ = some (.int .i64 ((rd_T43 l0 x7_1).f3)) ∧ w'.cell? ⟨gb237, 4, none⟩ = some (.bool ((rd_T43 l0 x7_1).f4)) ∧ w'.cell? ⟨gb237, 5, none⟩ = some (.bool ((rd_T43 l0 x7_1).f5)) ∧ w'.cell? ⟨gb237, 6, none⟩ = some (.bool ((rd_T43 l0 x7_1).f6))) (ds := []) (fb 18 0) (by kernel_rfl) rfl rfl ⟨(blk_cell BK237.out 0).trans rfl, (blk_cell BK237.out 1).trans rfl, (blk_cell BK237.out 2).trans rfl, (blk_cell BK237.out 3).trans rfl, (blk_cell BK237.out 4).trans rfl, (blk_cell BK237.out 5).trans rfl, (blk_cell BK237.out 6).trans rfl⟩ (fun hHeld => ?_); refine with_tabW impl_IsLog.tab4 impl_IsLog.bits4 (fun HT_ HW_ => ?_)
           generalize w29.drew = w30 at BK237 HB hHeld ⊢
           refine sqT_ 0 12 (fb 18 1) (take_ofW HT_.out HW_.out (by kernel_rfl)) hHeld ?_
           refine one_ (i := 1) (N := some 13) (fb 18 3) rfl rfl (one_of HT_.out (by kernel_rfl)) (by decide) (fun K hK => ?_)
           refine goes_ Try.func98 (by kernel_rfl) rfl #[.agg #[.int .i64 ((rd_T43 l0 x7_1).f0), .int .i64 ((rd_T43 l0 x7_1).f1), .string ((rd_T43 l0 x7_1).f2), .int .i64 ((rd_T43 l0 x7_1).f3), .bool ((rd_T43 l0 x7_1).f4), .bool ((rd_T43 l0 x7_1).f5), .bool ((rd_T43 l0 x7_1).f6)]] (by rfl) rfl rfl (by (try simp only [List.map_toArray, List.map_cons, List.map_nil]); first | done | rfl | (simp only [List.length_drop, List.length_take]; rfl)) ?_
           with_reducible refine (impl_IsEvent.calls k1 ((rd_T43 l0 x7_1).f0) ((rd_T43 l0 x7_1).f1) ((rd_T43 l0 x7_1).f2) ((rd_T43 l0 x7_1).f3) ((rd_T43 l0 x7_1).f4) ((rd_T43 l0 x7_1).f5) ((rd_T43 l0 x7_1).f6) false _ A5.out).mono ?_
           rintro e w31 ⟨rfl, hb⟩
           refine ⟨_, rfl, ?_⟩
           have n0_ := Aside0.mk (bkb BK237 hb)
           have n1_ := Aside0.mk (bs_ hb)
           clear BK237 HB; revert n0_ n1_; intro BK237 HB
           (try clear hb)
           (try clear hb2)
           (try clear hk)
           (try clear hi)
           refine hK.out _ _ ⟨(blk_cell BK237.out 0).trans rfl, (blk_cell BK237.out 1).trans rfl, (blk_cell BK237.out 2).trans rfl, (blk_cell BK237.out 3).trans rfl, (blk_cell BK237.out 4).trans rfl, (blk_cell BK237.out 5).trans rfl, (blk_cell BK237.out 6).trans rfl⟩ (fun hHeld => ?_)
           clear hK K
           refine sqN_ 13 ?_
           refine sqP_ 2 14 (fb 18 7) (any_of HT_.out (by kernel_rfl)) ?_
           refine sqP_ 3 15 (fb 18 15) (any_of HT_.out (by kernel_rfl)) ?_
           refine sqO_ 4 16 (fb 18 31) (any_of HT_.out (by kernel_rfl)) ?_
           refine sqO_ 5 17 (fb 18 63) (any_of HT_.out (by kernel_rfl)) ?_
           refine sqO_ 6 18 (fb 18 127) (any_of HT_.out (by kernel_rfl)) ?_
           refine sqO_ 7 19 (fb 18 255) (any_of HT_.out (by kernel_rfl)) ?_
           refine sqO_ 8 20 (fb 18 511) (any_of HT_.out (by kernel_rfl)) ?_
           refine sqO_ 9 21 (fb 18 1023) (any_of HT_.out (by kernel_rfl)) ?_
           refine sqO_ 10 22 (fb 18 2047) (any_of HT_.out (by kernel_rfl)) ?_
           refine sqO_ 11 23 (fb 18 4095) (any_of HT_.out (by kernel_rfl)) ?_
           refine sqO_ 12 24 (fb 18 8191) (any_of HT_.out (by kernel_rfl)) ?_
           refine sqO_ 13 25 (fb 18 16383) (any_of HT_.out (by kernel_rfl)) ?_
           refine sqO_ 14 26 (fb 18 32767) (any_of HT_.out (by kernel_rfl)) ?_
           refine sqO_ 15 27 (fb 18 65535) (any_of HT_.out (by kernel_rfl)) ?_
           refine sqO_ 16 28 (fb 18 131071) (any_of HT_.out (by kernel_rfl)) ?_
           refine sqP_ 17 29 (fb 18 262143) (any_of HT_.out (by kernel_rfl)) ?_
           refine done_ (done_of HT_.out (by kernel_rfl)) ?_
           try go_wp2
           go_ret
           exact ⟨by first | rfl | (simp [errW_none, errW_some] <;> rfl) | (simp [*, errW_none, errW_some] <;> rfl), bb_⟩
       · rw [if_neg c4] at H
         exact absurd H (by simp)
     · rw [if_neg c3] at H
       exact absurd H (by simp)
   · rw [if_neg c2] at H
     have c2b0 : decide (x7_1 < (l0.length : Int)) = false := decide_eq_false c2
     clear c2
     obtain rfl := Option.some.inj H
     go_wp2
     go_ret
     exact ⟨by first | rfl | (simp [errW_none, errW_some] <;> rfl) | (simp [*, errW_none, errW_some] <;> rfl), bb_⟩

end Go.Proofs.Ytmfbkbbgokjhnaa.F
