-- Written by this session's program (wip/bin/hp.py) over the kit's print: a function's Lean form, and a proof that the call does what it says.
import Derived.Test.YtmfbkbbgokjhnaaFx0
import Derived.Test.YtmfbkbbgokjhnaaSq
import Derived.Test.YtmfbkbbgokjhnaaFx8
import Derived.Test.YtmfbkbbgokjhnaaFx10
import Derived.Test.YtmfbkbbgokjhnaaFx13
namespace Go.Proofs.Ytmfbkbbgokjhnaa.F
open Go.RowKit Go.Proofs.YtmfbkbbgokjhnaaW.PrintWords Go.Proofs.YtmfbkbbgokjhnaaW.PrintLast Go.Proofs.YtmfbkbbgokjhnaaW.PrintMore
attribute [local go_sem] max2_int min2_int max_two min_two max_three min_three max_four min_four   -- for this text's walks alone
set_option linter.unusedVariables false
set_option linter.unusedSimpArgs false

/-! ### spec_FirstWrong: function 26 -/
mutual
def spec_FirstWrong.j0 : Nat → List (S94) → List (S43) → List (S45) → Bool → Option (Int × Int)
 | 0, _, _, _, _ => none
 | k + 1, x0, x1, x2, x16 => if x16 = true then (some (0, 1)) else (if (x2.length : Int) > (x1.length : Int) then (some (0, 2)) else (spec_FirstWrong.l0 k x0 x1 x2 0))
def spec_FirstWrong.l0 : Nat → List (S94) → List (S43) → List (S45) → Int → Option (Int × Int)
 | 0, _, _, _, _ => none
 | k + 1, x0, x1, x2, x8 => if x8 < (x1.length : Int) then (if x8 ≥ (x2.length : Int) then (some (x8, 0)) else (if 0 ≤ x8 then (if x8 < (x2.length : Int) then ((spec_l12Right.f k x0 ((rd_T43 x1 x8).f0) ((rd_T43 x1 x8).f1) ((rd_T43 x1 x8).f2) ((rd_T43 x1 x8).f3) ((rd_T43 x1 x8).f4) ((rd_T43 x1 x8).f5) ((rd_T43 x1 x8).f6) ((rd_T45 x2 x8).f0) ((rd_T45 x2 x8).f1)).bind fun t177 => (if t177 = true then (spec_FirstWrong.l0 k x0 x1 x2 (wrap64 (x8 + 1))) else (some (x8, 0)))) else (none)) else (none))) else (some (0, 4))
end
def spec_FirstWrong.f (k : Nat) (l0 : List (S94)) (l1 : List (S43)) (l2 : List (S45)) : Option (Int × Int) := (spec_IsRulebook.f k l0).bind fun t173 => (if t173 = true then ((spec_IsLog.f k l1).bind fun t174 => (spec_FirstWrong.j0 k l0 l1 l2 (!t174))) else (spec_FirstWrong.j0 k l0 l1 l2 true))
theorem spec_FirstWrong.mono_l : ∀ k, (∀ y0 y1 y2 y3, LeO (spec_FirstWrong.j0 k y0 y1 y2 y3) (spec_FirstWrong.j0 (k + 1) y0 y1 y2 y3)) ∧ (∀ y0 y1 y2 y3, LeO (spec_FirstWrong.l0 k y0 y1 y2 y3) (spec_FirstWrong.l0 (k + 1) y0 y1 y2 y3))
 | 0 => ⟨fun _ _ _ _ r h => by simp [spec_FirstWrong.j0] at h, fun _ _ _ _ r h => by simp [spec_FirstWrong.l0] at h⟩
 | k + 1 => by
  obtain ⟨ih0, ih1⟩ := spec_FirstWrong.mono_l k
  refine ⟨?_, ?_⟩
  · intro y0 y1 y2 y3
    unfold spec_FirstWrong.j0
    repeat' first
    | (with_reducible exact ih0 _ _ _ _)
    | (with_reducible exact ih1 _ _ _ _)
    | (with_reducible exact spec_IsLog.mono _ _)
    | (with_reducible exact spec_IsRulebook.mono _ _)
    | (with_reducible exact spec_l12Right.mono _ _ _ _ _ _ _ _ _ _ _)
    | (with_reducible exact LeO.refl _)
    | (with_reducible exact LeO.none _)
    | (with_reducible refine LeO.ite ?_ ?_)
    | (with_reducible refine LeO.bind ?_ (fun _ => ?_))
    | exact ih0 _ _ _ _
    | exact ih1 _ _ _ _
    | exact spec_IsLog.mono _ _
    | exact spec_IsRulebook.mono _ _
    | exact spec_l12Right.mono _ _ _ _ _ _ _ _ _ _ _
    | exact LeO.none _
    | refine LeO.ite ?_ ?_
    | refine LeO.bind ?_ (fun _ => ?_)
  · intro y0 y1 y2 y3
    unfold spec_FirstWrong.l0
    repeat' first
    | (with_reducible exact ih0 _ _ _ _)
    | (with_reducible exact ih1 _ _ _ _)
    | (with_reducible exact spec_IsLog.mono _ _)
    | (with_reducible exact spec_IsRulebook.mono _ _)
    | (with_reducible exact spec_l12Right.mono _ _ _ _ _ _ _ _ _ _ _)
    | (with_reducible exact LeO.refl _)
    | (with_reducible exact LeO.none _)
    | (with_reducible refine LeO.ite ?_ ?_)
    | (with_reducible refine LeO.bind ?_ (fun _ => ?_))
    | exact ih0 _ _ _ _
    | exact ih1 _ _ _ _
    | exact spec_IsLog.mono _ _
    | exact spec_IsRulebook.mono _ _
    | exact spec_l12Right.mono _ _ _ _ _ _ _ _ _ _ _
    | exact LeO.none _
    | refine LeO.ite ?_ ?_
    | refine LeO.bind ?_ (fun _ => ?_)
theorem spec_FirstWrong.mono : ∀ a0 a1 a2 k, LeO (spec_FirstWrong.f k a0 a1 a2) (spec_FirstWrong.f (k + 1) a0 a1 a2) := by
 intro a0 a1 a2 k
 obtain ⟨ih0, ih1⟩ := spec_FirstWrong.mono_l k
 unfold spec_FirstWrong.f
 repeat' first
  | (with_reducible exact ih0 _ _ _ _)
  | (with_reducible exact ih1 _ _ _ _)
  | (with_reducible exact spec_IsLog.mono _ _)
  | (with_reducible exact spec_IsRulebook.mono _ _)
  | (with_reducible exact spec_l12Right.mono _ _ _ _ _ _ _ _ _ _ _)
  | (with_reducible exact LeO.refl _)
  | (with_reducible exact LeO.none _)
  | (with_reducible refine LeO.ite ?_ ?_)
  | (with_reducible refine LeO.bind ?_ (fun _ => ?_))
  | exact ih0 _ _ _ _
  | exact ih1 _ _ _ _
  | exact spec_IsLog.mono _ _
  | exact spec_IsRulebook.mono _ _
  | exact spec_l12Right.mono _ _ _ _ _ _ _ _ _ _ _
  | exact LeO.none _
  | refine LeO.ite ?_ ?_
  | refine LeO.bind ?_ (fun _ => ?_)
def spec_FirstWrong.T8 : Bool × List (List Nat × List Nat) := (true, [([], []), ([], []), ([1], [1]), ([0, 2], [0, 2]), ([3], [3]), ([4], [4]), ([4], [4]), ([4], [4]), ([6, 7, 4], [4, 6, 7]), ([8, 4], [4, 8]), ([4], [4]), ([4], [4]), ([10, 11, 4], [4, 10, 11]), ([12, 4], [4, 12]), ([5, 9, 13, 4, 4], [4, 5, 9, 13]), ([14, 4], [4, 14]), ([4, 15], [4, 15])])
def spec_FirstWrong.B8 : List Nat := [0, 0, 2, 7, 15, 31, 31, 31, 223, 479, 31, 31, 3103, 7199, 16383, 32767, 65535]
theorem spec_FirstWrong.tab8 : rtab .any (opsOf Try.f26 8) = spec_FirstWrong.T8 := by kernel_rfl
theorem spec_FirstWrong.bits8 : waitsOk spec_FirstWrong.T8.2 spec_FirstWrong.B8 = true := by kernel_rfl
set_option maxHeartbeats 8000000 in
set_option maxRecDepth 100000 in
theorem spec_FirstWrong.calls (k : Nat) (A0 : Option Addr) (c0 : Nat) (l0 : List (S94)) (A1 : Option Addr) (c1 : Nat) (l1 : List (S43)) (A2 : Option Addr) (c2 : Nat) (l2 : List (S45)) (r1 : Int) (r2 : Int) (w : World) (hr0 : Kd.C k94 w A0 l0.length l0) (hc0 : l0.length ≤ c0) (hr1 : Kd.C k43 w A1 l1.length l1) (hc1 : l1.length ≤ c1) (hr2 : Kd.C k45 w A2 l2.length l2) (hc2 : l2.length ≤ c2) (h : spec_FirstWrong.f k l0 l1 l2 = some (r1, r2)) :
 Calls Try.prog 26 #[.slice A0 l0.length c0, .slice A1 l1.length c1, .slice A2 l2.length c2] w fun e w' => e = .returned (.tuple #[.int .i64 r1, .int .i64 r2]) ∧ Below w.heap.size w w' := by
 have hu43 := Try.underlying43
 have hu45 := Try.underlying45
 have HR0 := Aside0.mk hr0
 have HC0 := Aside0.mk hc0
 clear hr0 hc0
 have HR1 := Aside0.mk hr1
 have HC1 := Aside0.mk hc1
 clear hr1 hc1
 have HR2 := Aside0.mk hr2
 have HC2 := Aside0.mk hc2
 clear hr2 hc2
 have HB := Aside0.mk (Below.refl w.heap.size w)
 have H : ((spec_IsRulebook.f k l0).bind fun t173 => (if t173 = true then ((spec_IsLog.f k l1).bind fun t174 => (spec_FirstWrong.j0 k l0 l1 l2 (!t174))) else (spec_FirstWrong.j0 k l0 l1 l2 true))) = some (r1, r2) := h
 clear h
 have HC4 := Aside0.mk H
 clear H
 go_enter Try.func26, Try.ntmps26
 go_upto_region 1 with (fail)
 go_cut [16] (fun v16 wc => ∃ (kq : Nat) (x16_3 : Bool), v16 = .bool x16_3 ∧ Aside0 (spec_FirstWrong.j0 kq l0 l1 l2 x16_3 = some (r1, r2)) ∧ Aside0 (kq ≤ k) ∧ Aside0 (Below w.heap.size w wc))
 case first =>
  have H := HC4.out
  clear HC4
  replace H := Option.bind_eq_some_iff.mp H
  obtain ⟨t173, A50, H⟩ := H
  replace H : (if t173 = true then ((spec_IsLog.f k l1).bind fun t174 => (spec_FirstWrong.j0 k l0 l1 l2 (!t174))) else (spec_FirstWrong.j0 k l0 l1 l2 true)) = some (r1, r2) := H
  have A5 := Aside0.mk A50
  clear A50
  by_cases c6 : t173 = true
  · subst c6
    have H1 : ((spec_IsLog.f k l1).bind fun t174 => (spec_FirstWrong.j0 k l0 l1 l2 (!t174))) = some (r1, r2) := by rw [if_pos rfl] at H; exact H
    clear H
    have H := H1
    clear H1
    replace H := Option.bind_eq_some_iff.mp H
    obtain ⟨t174, A70, H⟩ := H
    replace H : (spec_FirstWrong.j0 k l0 l1 l2 (!t174)) = some (r1, r2) := H
    have A7 := Aside0.mk A70
    clear A70
    have H' := Aside0.mk H
    clear H
    go_wp2_with (first | ((with_reducible refine gate_callee (f := 55) rfl ?_); refine gl_ 10 Try.func55 #[.slice A0 l0.length c0] ?_; (with_reducible refine (spec_IsRulebook.calls k _ _ l0 true _ ?side1 ?side2 A5.out).mono ?_); (case side1 => repeat (first | exact (Kd.C_below HR0.out HB.out) | (with_reducible refine Kd.C_alloc ?_ _) | (with_reducible refine Kd.C_drewN ?_ _) | (with_reducible refine Kd.C_drew ?_))); (case side2 => exact HC0.out); rintro e w8 ⟨rfl, hb⟩; refine ⟨_, rfl, ?_⟩; have n0_ := Aside0.mk (bs_ hb); clear HB; revert n0_; intro HB; (try clear hb); (try clear hb2); (try clear hk); (try clear hi)) | (go_at_call 64; (with_reducible refine (spec_IsLog.calls k _ _ l1 t174 _ ?side1 ?side2 A7.out).mono ?_); (case side1 => repeat (first | exact (Kd.C_below HR1.out HB.out) | (with_reducible refine Kd.C_alloc ?_ _) | (with_reducible refine Kd.C_drewN ?_ _) | (with_reducible refine Kd.C_drew ?_))); (case side2 => exact HC1.out); rintro e w9 ⟨rfl, hb⟩; have n0_ := Aside0.mk (bs_ hb); clear HB; revert n0_; intro HB; (try clear hb); (try clear hb2); (try clear hk); (try clear hi)))
    go_meet
    case rel => exact ⟨_, (!t174), (by first | rfl | (simp; done) | (simp [*]; done)), H', ⟨by first | omega | exact Nat.le_refl _⟩, ⟨bb_⟩⟩
  · replace c6 := Bool.eq_false_iff.mpr c6
    subst c6
    have H1 : (spec_FirstWrong.j0 k l0 l1 l2 true) = some (r1, r2) := by rw [if_neg (show ¬ (false = true) by decide)] at H; exact H
    clear H
    have H := H1
    clear H1
    have H' := Aside0.mk H
    clear H
    go_wp2_with (first | ((with_reducible refine gate_callee (f := 55) rfl ?_); refine gl_ 10 Try.func55 #[.slice A0 l0.length c0] ?_; (with_reducible refine (spec_IsRulebook.calls k _ _ l0 false _ ?side1 ?side2 A5.out).mono ?_); (case side1 => repeat (first | exact (Kd.C_below HR0.out HB.out) | (with_reducible refine Kd.C_alloc ?_ _) | (with_reducible refine Kd.C_drewN ?_ _) | (with_reducible refine Kd.C_drew ?_))); (case side2 => exact HC0.out); rintro e w10 ⟨rfl, hb⟩; refine ⟨_, rfl, ?_⟩; have n0_ := Aside0.mk (bs_ hb); clear HB; revert n0_; intro HB; (try clear hb); (try clear hb2); (try clear hk); (try clear hi)))
    go_meet
    case rel => exact ⟨_, (true), (by first | rfl | (simp; done) | (simp [*]; done)), H', ⟨by first | omega | exact Nat.le_refl _⟩, ⟨bb_⟩⟩
 case rest =>
  clear HC4
  try clear c1
  try clear c2
  try clear p2
  try clear c5
  try clear c6
  obtain ⟨kq, x16_3, rfl, HA, HJ3, HB⟩ := hcut
  cases kq with
  | zero => exact absurd HA.out (by simp [spec_FirstWrong.j0])
  | succ kj3 =>
   have H := HA.out
   clear HA
   simp only [spec_FirstWrong.j0] at H
   by_cases c11 : x16_3 = true
   · subst c11
     have H1 : (some (0, 1)) = some (r1, r2) := by rw [if_pos rfl] at H; exact H
     clear H
     have H := H1
     clear H1
     simp only [Option.some.injEq, Prod.mk.injEq] at H
     obtain ⟨rfl, rfl⟩ := H
     go_wp2
     go_ret2
     exact ⟨by first | rfl | (simp [errW_none, errW_some] <;> rfl) | (simp [*, errW_none, errW_some] <;> rfl), bb_⟩
   · replace c11 := Bool.eq_false_iff.mpr c11
     subst c11
     have H1 : (if (l2.length : Int) > (l1.length : Int) then (some (0, 2)) else (spec_FirstWrong.l0 kj3 l0 l1 l2 0)) = some (r1, r2) := by rw [if_neg (show ¬ (false = true) by decide)] at H; exact H
     clear H
     have H := H1
     clear H1
     by_cases c12 : (l2.length : Int) > (l1.length : Int)
     · rw [if_pos c12] at H
       have c12b0 : decide ((l1.length : Int) < (l2.length : Int)) = true := decide_eq_true c12
       have c12b1 : decide (l1.length < l2.length) = true := decide_eq_true (Int.ofNat_lt.mp c12)
       clear c12
       simp only [Option.some.injEq, Prod.mk.injEq] at H
       obtain ⟨rfl, rfl⟩ := H
       go_wp2
       go_ret2
       exact ⟨by first | rfl | (simp [errW_none, errW_some] <;> rfl) | (simp [*, errW_none, errW_some] <;> rfl), bb_⟩
     · rw [if_neg c12] at H
       have c12b0 : decide ((l1.length : Int) < (l2.length : Int)) = false := decide_eq_false c12
       have c12b1 : decide (l1.length < l2.length) = false := decide_eq_false (fun h => c12 (Int.ofNat_lt.mpr h))
       clear c12
       have H' := Aside0.mk H
       clear H
       go_wp2
       go_loopg [8] kj3 (fun kq v8 w' => ∃ (x8_2 : Int), v8 = .int .i64 x8_2 ∧ Aside0 (spec_FirstWrong.l0 kq l0 l1 l2 x8_2 = some (r1, r2)) ∧ Aside0 (kq ≤ kj3) ∧ Aside0 (Below w.heap.size w w'))
       case atStart => exact ⟨(0), (by first | rfl | (simp; done) | (simp [*]; done)), H', ⟨Nat.le_refl _⟩, ⟨bb_⟩⟩
       case round =>
        clear H'
        try clear c1
        try clear c2
        try clear p2
        try clear c5
        try clear c6
        try clear c11
        try clear c12
        try clear c12b0
        try clear c12b1
        try clear p2
        obtain ⟨x8_2, rfl, HA, HK2, HB⟩ := hrel
        cases gk with
        | zero => exact absurd HA.out (by simp [spec_FirstWrong.l0])
        | succ k2 =>
         have H := HA.out
         clear HA
         simp only [spec_FirstWrong.l0] at H
         by_cases c13 : x8_2 < (l1.length : Int)
         · rw [if_pos c13] at H
           have c13b0 : decide (x8_2 < (l1.length : Int)) = true := decide_eq_true c13
           clear c13
           by_cases c14 : x8_2 ≥ (l2.length : Int)
           · rw [if_pos c14] at H
             have c14b0 : decide ((l2.length : Int) ≤ x8_2) = true := decide_eq_true c14
             clear c14
             simp only [Option.some.injEq, Prod.mk.injEq] at H
             obtain ⟨rfl, rfl⟩ := H
             try go_wp2
             have n0_ := Aside0.mk (below_drew1 HB.out)
             clear HB; revert n0_; intro HB
             refine start_ (n := 17) (S := fun w' => True) (ds := []) (fb 17 0) (by kernel_rfl) rfl rfl trivial (fun hHeld => ?_); refine with_tabW spec_FirstWrong.tab8 spec_FirstWrong.bits8 (fun HT_ HW_ => ?_)
             generalize wr.drew = w15 at HB hHeld ⊢
             refine sqP_ 0 28 (fb 17 1) (any_of HT_.out (by kernel_rfl)) ?_
             refine sqP_ 1 29 (fb 17 3) (any_of HT_.out (by kernel_rfl)) ?_
             refine sqP_ 2 30 (fb 17 7) (any_of HT_.out (by kernel_rfl)) ?_
             refine sqP_ 3 31 (fb 17 15) (any_of HT_.out (by kernel_rfl)) ?_
             refine sqP_ 4 32 (fb 17 31) (any_of HT_.out (by kernel_rfl)) ?_
             refine sqO_ 5 33 (fb 17 63) (any_of HT_.out (by kernel_rfl)) ?_
             refine sqO_ 6 34 (fb 17 127) (any_of HT_.out (by kernel_rfl)) ?_
             refine sqO_ 7 35 (fb 17 255) (any_of HT_.out (by kernel_rfl)) ?_
             refine sqO_ 8 36 (fb 17 511) (any_of HT_.out (by kernel_rfl)) ?_
             refine sqO_ 9 37 (fb 17 1023) (any_of HT_.out (by kernel_rfl)) ?_
             refine sqO_ 10 38 (fb 17 2047) (any_of HT_.out (by kernel_rfl)) ?_
             refine sqO_ 11 39 (fb 17 4095) (any_of HT_.out (by kernel_rfl)) ?_
             refine sqO_ 12 40 (fb 17 8191) (any_of HT_.out (by kernel_rfl)) ?_
             refine sqO_ 13 41 (fb 17 16383) (any_of HT_.out (by kernel_rfl)) ?_
             refine sqO_ 14 42 (fb 17 32767) (any_of HT_.out (by kernel_rfl)) ?_
             refine sqO_ 15 43 (fb 17 65535) (any_of HT_.out (by kernel_rfl)) ?_
             refine sqP_ 16 44 (fb 17 131071) (any_of HT_.out (by kernel_rfl)) ?_
             refine done_ (done_of HT_.out (by kernel_rfl)) ?_
             try go_wp2
             go_ret2
             exact ⟨by first | rfl | (simp [errW_none, errW_some] <;> rfl) | (simp [*, errW_none, errW_some] <;> rfl), bb_⟩
           · rw [if_neg c14] at H
             have c14b0 : decide ((l2.length : Int) ≤ x8_2) = false := decide_eq_false c14
             clear c14
             by_cases c16 : 0 ≤ x8_2
             · rw [if_pos c16] at H
               have c16b0 : decide (0 ≤ x8_2) = true := decide_eq_true c16
               clear c16
               by_cases c17 : x8_2 < (l2.length : Int)
               · rw [if_pos c17] at H
                 have c17b0 : decide (x8_2 < (l2.length : Int)) = true := decide_eq_true c17
                 clear c17
                 replace H := Option.bind_eq_some_iff.mp H
                 obtain ⟨t177, A180, H⟩ := H
                 replace H : (if t177 = true then (spec_FirstWrong.l0 k2 l0 l1 l2 (wrap64 (x8_2 + 1))) else (some (x8_2, 0))) = some (r1, r2) := H
                 have A18 := Aside0.mk A180
                 clear A180
                 by_cases c19 : t177 = true
                 · subst c19
                   have H1 : (spec_FirstWrong.l0 k2 l0 l1 l2 (wrap64 (x8_2 + 1))) = some (r1, r2) := by rw [if_pos rfl] at H; exact H
                   clear H
                   have H := H1
                   clear H1
                   have H' := Aside0.mk H
                   clear H
                   try go_wp2
                   have n0_ := Aside0.mk (below_drew1 HB.out)
                   clear HB; revert n0_; intro HB
                   have p175 : 0 ≤ (x8_2 : Int) := od_
                   have q175 : x8_2 < (l1.length : Int) := od_
                   obtain ⟨ad175, e175, hx175_0, hx175_1, hx175_2, hx175_3, hx175_4, hx175_5, hx175_6⟩ := at_T43 HR1.out x8_2 p175 q175
                   have hw175_6 := hx175_6
                   have hw175_5 := hx175_5
                   have hw175_4 := hx175_4
                   have hw175_3 := hx175_3
                   have hw175_2 := hx175_2
                   have hw175_1 := hx175_1
                   have hw175_0 := hx175_0
                   cases e175
                   replace hx175_0 := cel HB hx175_0
                   replace hx175_1 := cel HB hx175_1
                   replace hx175_2 := cel HB hx175_2
                   replace hx175_3 := cel HB hx175_3
                   replace hx175_4 := cel HB hx175_4
                   replace hx175_5 := cel HB hx175_5
                   replace hx175_6 := cel HB hx175_6
                   replace p175 := eq_true p175
                   replace q175 := eq_true q175
                   have p176 : 0 ≤ (x8_2 : Int) := od_
                   have q176 : x8_2 < (l2.length : Int) := od_
                   obtain ⟨ad176, A176_1, c176_1, e176, hx176_0, hx176_1, hl176_1, hi176_1⟩ := at_T45 HR2.out x8_2 p176 q176
                   have hw176_1 := hx176_1
                   have hw176_0 := hx176_0
                   cases e176
                   replace hx176_0 := cel HB hx176_0
                   replace hx176_1 := cel HB hx176_1
                   have HR176_1 := Aside0.mk hi176_1
                   have HC176_1 := Aside0.mk hl176_1
                   clear hi176_1 hl176_1
                   replace p176 := eq_true p176
                   replace q176 := eq_true q176
                   refine start_ (n := 17) (S := fun w' => w'.cell? (ad175.add ((x8_2).toNat * 7)) = some (.int .i64 ((rd_T43 l1 x8_2).f0)) ∧ w'.cell? ⟨(ad175.add ((x8_2).toNat * 7)).block, (ad175.add ((x8_2).toNat * 7)).off + 1, none⟩ = some (.int .i64 ((rd_T43 l1 x8_2).f1)) ∧ w'.cell? ⟨(ad175.add ((x8_2).toNat * 7)).block, (ad175.add ((x8_2).toNat * 7)).off + 2, none⟩ = some (.string ((rd_T43 l1 x8_2).f2)) ∧ w'.cell? ⟨(ad175.add ((x8_2).toNat * 7)).block, (ad175.add ((x8_2).toNat * 7)).off + 3, none⟩ = some (.int .i64 ((rd_T43 l1 x8_2).f3)) ∧ w'.cell? ⟨(ad175.add ((x8_2).toNat * 7)).block, (ad175.add ((x8_2).toNat * 7)).off + 4, none⟩ = some (.bool ((rd_T43 l1 x8_2).f4)) ∧ w'.cell? ⟨(ad175.add ((x8_2).toNat * 7)).block, (ad175.add ((x8_2).toNat * 7)).off + 5, none⟩ = some (.bool ((rd_T43 l1 x8_2).f5)) ∧ w'.cell? ⟨(ad175.add ((x8_2).toNat * 7)).block, (ad175.add ((x8_2).toNat * 7)).off + 6, none⟩ = some (.bool ((rd_T43 l1 x8_2).f6)) ∧ w'.cell? (ad176.add ((x8_2).toNat * 2)) = some (.int .i64 ((rd_T45 l2 x8_2).f0)) ∧ w'.cell? ⟨(ad176.add ((x8_2).toNat * 2)).block, (ad176.add ((x8_2).toNat * 2)).off + 1, none⟩ = some (.slice A176_1 ((rd_T45 l2 x8_2).f1).length c176_1)) (ds := []) (fb 17 0) (by kernel_rfl) rfl rfl ⟨((HB.out.cell (World.block_lt_of_cell? w _ hw175_0)).trans hw175_0), ((HB.out.cell (World.block_lt_of_cell? w _ hw175_1)).trans hw175_1), ((HB.out.cell (World.block_lt_of_cell? w _ hw175_2)).trans hw175_2), ((HB.out.cell (World.block_lt_of_cell? w _ hw175_3)).trans hw175_3), ((HB.out.cell (World.block_lt_of_cell? w _ hw175_4)).trans hw175_4), ((HB.out.cell (World.block_lt_of_cell? w _ hw175_5)).trans hw175_5), ((HB.out.cell (World.block_lt_of_cell? w _ hw175_6)).trans hw175_6), ((HB.out.cell (World.block_lt_of_cell? w _ hw176_0)).trans hw176_0), ((HB.out.cell (World.block_lt_of_cell? w _ hw176_1)).trans hw176_1)⟩ (fun hHeld => ?_); refine with_tabW spec_FirstWrong.tab8 spec_FirstWrong.bits8 (fun HT_ HW_ => ?_)
                   generalize wr.drew = w20 at HB HR176_1 hx175_0 hx175_1 hx175_2 hx175_3 hx175_4 hx175_5 hx175_6 hx176_0 hx176_1 hHeld ⊢
                   refine sqP_ 0 28 (fb 17 1) (any_of HT_.out (by kernel_rfl)) ?_
                   refine sqP_ 1 29 (fb 17 3) (any_of HT_.out (by kernel_rfl)) ?_
                   refine sqP_ 2 30 (fb 17 7) (any_of HT_.out (by kernel_rfl)) ?_
                   refine sqP_ 3 31 (fb 17 15) (any_of HT_.out (by kernel_rfl)) ?_
                   refine sqP_ 4 32 (fb 17 31) (any_of HT_.out (by kernel_rfl)) ?_
                   refine sqP_ 5 33 (fb 17 63) (any_of HT_.out (by kernel_rfl)) ?_
                   refine sqP_ 6 34 (fb 17 127) (any_of HT_.out (by kernel_rfl)) ?_
                   refine sqP_ 7 35 (fb 17 255) (any_of HT_.out (by kernel_rfl)) ?_
                   refine sqP_ 8 36 (fb 17 511) (any_of HT_.out (by kernel_rfl)) ?_
                   refine sqP_ 10 38 (fb 17 1535) (any_of HT_.out (by kernel_rfl)) ?_
                   refine sqP_ 11 39 (fb 17 3583) (any_of HT_.out (by kernel_rfl)) ?_
                   refine sqP_ 12 40 (fb 17 7679) (any_of HT_.out (by kernel_rfl)) ?_
                   refine sqT_ 9 37 (fb 17 8191) (take_ofW HT_.out HW_.out (by kernel_rfl)) hHeld ?_
                   refine sqT_ 13 41 (fb 17 16383) (take_ofW HT_.out HW_.out (by kernel_rfl)) hHeld ?_
                   refine one_ (i := 14) (N := some 42) (fb 17 32767) rfl rfl (one_of HT_.out (by kernel_rfl)) (by decide) (fun K hK => ?_)
                   refine goes_ Try.func57 (by kernel_rfl) rfl #[.slice A0 l0.length c0, .agg #[.int .i64 ((rd_T43 l1 x8_2).f0), .int .i64 ((rd_T43 l1 x8_2).f1), .string ((rd_T43 l1 x8_2).f2), .int .i64 ((rd_T43 l1 x8_2).f3), .bool ((rd_T43 l1 x8_2).f4), .bool ((rd_T43 l1 x8_2).f5), .bool ((rd_T43 l1 x8_2).f6)], .agg #[.int .i64 ((rd_T45 l2 x8_2).f0), .slice A176_1 ((rd_T45 l2 x8_2).f1).length c176_1]] (by rfl) rfl rfl (by (try simp only [List.map_toArray, List.map_cons, List.map_nil]); first | done | rfl | (simp only [List.length_drop, List.length_take]; rfl)) ?_
                   with_reducible refine (spec_l12Right.calls k2 _ _ l0 ((rd_T43 l1 x8_2).f0) ((rd_T43 l1 x8_2).f1) ((rd_T43 l1 x8_2).f2) ((rd_T43 l1 x8_2).f3) ((rd_T43 l1 x8_2).f4) ((rd_T43 l1 x8_2).f5) ((rd_T43 l1 x8_2).f6) ((rd_T45 l2 x8_2).f0) _ _ ((rd_T45 l2 x8_2).f1) true _ ?side1 ?side2 ?side3 ?side4 A18.out).mono ?_
                   (case side1 => repeat (first | exact (Kd.C_below HR0.out HB.out) | (with_reducible refine Kd.C_alloc ?_ _) | (with_reducible refine Kd.C_drewN ?_ _) | (with_reducible refine Kd.C_drew ?_)))
                   (case side2 => exact HC0.out)
                   (case side3 => repeat (first | exact (Kd.C_below HR176_1.out HB.out) | (with_reducible refine Kd.C_alloc ?_ _) | (with_reducible refine Kd.C_drewN ?_ _) | (with_reducible refine Kd.C_drew ?_)))
                   (case side4 => exact HC176_1.out)
                   rintro e w21 ⟨rfl, hb⟩
                   refine ⟨_, rfl, ?_⟩
                   have n0_ := Aside0.mk (bs_ hb)
                   clear HB; revert n0_; intro HB
                   (try clear hb)
                   (try clear hb2)
                   (try clear hk)
                   (try clear hi)
                   refine hK.out _ _ ⟨((HB.out.cell (World.block_lt_of_cell? w _ hw175_0)).trans hw175_0), ((HB.out.cell (World.block_lt_of_cell? w _ hw175_1)).trans hw175_1), ((HB.out.cell (World.block_lt_of_cell? w _ hw175_2)).trans hw175_2), ((HB.out.cell (World.block_lt_of_cell? w _ hw175_3)).trans hw175_3), ((HB.out.cell (World.block_lt_of_cell? w _ hw175_4)).trans hw175_4), ((HB.out.cell (World.block_lt_of_cell? w _ hw175_5)).trans hw175_5), ((HB.out.cell (World.block_lt_of_cell? w _ hw175_6)).trans hw175_6), ((HB.out.cell (World.block_lt_of_cell? w _ hw176_0)).trans hw176_0), ((HB.out.cell (World.block_lt_of_cell? w _ hw176_1)).trans hw176_1)⟩ (fun hHeld => ?_)
                   clear hK K
                   refine sqN_ 42 ?_
                   refine sqP_ 15 43 (fb 17 65535) (any_of HT_.out (by kernel_rfl)) ?_
                   refine sqP_ 16 44 (fb 17 131071) (any_of HT_.out (by kernel_rfl)) ?_
                   refine done_ (done_of HT_.out (by kernel_rfl)) ?_
                   try go_wp2
                   go_roundg k2
                   case measure => have := HJ3.out; have := HK2.out; omega
                   case rel => exact ⟨(wrap64 (x8_2 + 1)), (by first | rfl | (simp; done) | (simp [*]; done)), H', ⟨by have := HJ3.out; have := HK2.out; omega⟩, ⟨bb_⟩⟩
                 · replace c19 := Bool.eq_false_iff.mpr c19
                   subst c19
                   have H1 : (some (x8_2, 0)) = some (r1, r2) := by rw [if_neg (show ¬ (false = true) by decide)] at H; exact H
                   clear H
                   have H := H1
                   clear H1
                   simp only [Option.some.injEq, Prod.mk.injEq] at H
                   obtain ⟨rfl, rfl⟩ := H
                   try go_wp2
                   have n0_ := Aside0.mk (below_drew1 HB.out)
                   clear HB; revert n0_; intro HB
                   have p175 : 0 ≤ (x8_2 : Int) := od_
                   have q175 : x8_2 < (l1.length : Int) := od_
                   obtain ⟨ad175, e175, hx175_0, hx175_1, hx175_2, hx175_3, hx175_4, hx175_5, hx175_6⟩ := at_T43 HR1.out x8_2 p175 q175
                   have hw175_6 := hx175_6
                   have hw175_5 := hx175_5
                   have hw175_4 := hx175_4
                   have hw175_3 := hx175_3
                   have hw175_2 := hx175_2
                   have hw175_1 := hx175_1
                   have hw175_0 := hx175_0
                   cases e175
                   replace hx175_0 := cel HB hx175_0
                   replace hx175_1 := cel HB hx175_1
                   replace hx175_2 := cel HB hx175_2
                   replace hx175_3 := cel HB hx175_3
                   replace hx175_4 := cel HB hx175_4
                   replace hx175_5 := cel HB hx175_5
                   replace hx175_6 := cel HB hx175_6
                   replace p175 := eq_true p175
                   replace q175 := eq_true q175
                   have p176 : 0 ≤ (x8_2 : Int) := od_
                   have q176 : x8_2 < (l2.length : Int) := od_
                   obtain ⟨ad176, A176_1, c176_1, e176, hx176_0, hx176_1, hl176_1, hi176_1⟩ := at_T45 HR2.out x8_2 p176 q176
                   have hw176_1 := hx176_1
                   have hw176_0 := hx176_0
                   cases e176
                   replace hx176_0 := cel HB hx176_0
                   replace hx176_1 := cel HB hx176_1
                   have HR176_1 := Aside0.mk hi176_1
                   have HC176_1 := Aside0.mk hl176_1
                   clear hi176_1 hl176_1
                   replace p176 := eq_true p176
                   replace q176 := eq_true q176
                   refine start_ (n := 17) (S := fun w' => w'.cell? (ad175.add ((x8_2).toNat * 7)) = some (.int .i64 ((rd_T43 l1 x8_2).f0)) ∧ w'.cell? ⟨(ad175.add ((x8_2).toNat * 7)).block, (ad175.add ((x8_2).toNat * 7)).off + 1, none⟩ = some (.int .i64 ((rd_T43 l1 x8_2).f1)) ∧ w'.cell? ⟨(ad175.add ((x8_2).toNat * 7)).block, (ad175.add ((x8_2).toNat * 7)).off + 2, none⟩ = some (.string ((rd_T43 l1 x8_2).f2)) ∧ w'.cell? ⟨(ad175.add ((x8_2).toNat * 7)).block, (ad175.add ((x8_2).toNat * 7)).off + 3, none⟩ = some (.int .i64 ((rd_T43 l1 x8_2).f3)) ∧ w'.cell? ⟨(ad175.add ((x8_2).toNat * 7)).block, (ad175.add ((x8_2).toNat * 7)).off + 4, none⟩ = some (.bool ((rd_T43 l1 x8_2).f4)) ∧ w'.cell? ⟨(ad175.add ((x8_2).toNat * 7)).block, (ad175.add ((x8_2).toNat * 7)).off + 5, none⟩ = some (.bool ((rd_T43 l1 x8_2).f5)) ∧ w'.cell? ⟨(ad175.add ((x8_2).toNat * 7)).block, (ad175.add ((x8_2).toNat * 7)).off + 6, none⟩ = some (.bool ((rd_T43 l1 x8_2).f6)) ∧ w'.cell? (ad176.add ((x8_2).toNat * 2)) = some (.int .i64 ((rd_T45 l2 x8_2).f0)) ∧ w'.cell? ⟨(ad176.add ((x8_2).toNat * 2)).block, (ad176.add ((x8_2).toNat * 2)).off + 1, none⟩ = some (.slice A176_1 ((rd_T45 l2 x8_2).f1).length c176_1)) (ds := []) (fb 17 0) (by kernel_rfl) rfl rfl ⟨((HB.out.cell (World.block_lt_of_cell? w _ hw175_0)).trans hw175_0), ((HB.out.cell (World.block_lt_of_cell? w _ hw175_1)).trans hw175_1), ((HB.out.cell (World.block_lt_of_cell? w _ hw175_2)).trans hw175_2), ((HB.out.cell (World.block_lt_of_cell? w _ hw175_3)).trans hw175_3), ((HB.out.cell (World.block_lt_of_cell? w _ hw175_4)).trans hw175_4), ((HB.out.cell (World.block_lt_of_cell? w _ hw175_5)).trans hw175_5), ((HB.out.cell (World.block_lt_of_cell? w _ hw175_6)).trans hw175_6), ((HB.out.cell (World.block_lt_of_cell? w _ hw176_0)).trans hw176_0), ((HB.out.cell (World.block_lt_of_cell? w _ hw176_1)).trans hw176_1)⟩ (fun hHeld => ?_); refine with_tabW spec_FirstWrong.tab8 spec_FirstWrong.bits8 (fun HT_ HW_ => ?_)
                   generalize wr.drew = w22 at HB HR176_1 hx175_0 hx175_1 hx175_2 hx175_3 hx175_4 hx175_5 hx175_6 hx176_0 hx176_1 hHeld ⊢
                   refine sqP_ 0 28 (fb 17 1) (any_of HT_.out (by kernel_rfl)) ?_
                   refine sqP_ 1 29 (fb 17 3) (any_of HT_.out (by kernel_rfl)) ?_
                   refine sqP_ 2 30 (fb 17 7) (any_of HT_.out (by kernel_rfl)) ?_
                   refine sqP_ 3 31 (fb 17 15) (any_of HT_.out (by kernel_rfl)) ?_
                   refine sqP_ 4 32 (fb 17 31) (any_of HT_.out (by kernel_rfl)) ?_
                   refine sqP_ 5 33 (fb 17 63) (any_of HT_.out (by kernel_rfl)) ?_
                   refine sqP_ 6 34 (fb 17 127) (any_of HT_.out (by kernel_rfl)) ?_
                   refine sqP_ 7 35 (fb 17 255) (any_of HT_.out (by kernel_rfl)) ?_
                   refine sqP_ 8 36 (fb 17 511) (any_of HT_.out (by kernel_rfl)) ?_
                   refine sqP_ 10 38 (fb 17 1535) (any_of HT_.out (by kernel_rfl)) ?_
                   refine sqP_ 11 39 (fb 17 3583) (any_of HT_.out (by kernel_rfl)) ?_
                   refine sqP_ 12 40 (fb 17 7679) (any_of HT_.out (by kernel_rfl)) ?_
                   refine sqT_ 9 37 (fb 17 8191) (take_ofW HT_.out HW_.out (by kernel_rfl)) hHeld ?_
                   refine sqT_ 13 41 (fb 17 16383) (take_ofW HT_.out HW_.out (by kernel_rfl)) hHeld ?_
                   refine one_ (i := 14) (N := some 42) (fb 17 32767) rfl rfl (one_of HT_.out (by kernel_rfl)) (by decide) (fun K hK => ?_)
                   refine goes_ Try.func57 (by kernel_rfl) rfl #[.slice A0 l0.length c0, .agg #[.int .i64 ((rd_T43 l1 x8_2).f0), .int .i64 ((rd_T43 l1 x8_2).f1), .string ((rd_T43 l1 x8_2).f2), .int .i64 ((rd_T43 l1 x8_2).f3), .bool ((rd_T43 l1 x8_2).f4), .bool ((rd_T43 l1 x8_2).f5), .bool ((rd_T43 l1 x8_2).f6)], .agg #[.int .i64 ((rd_T45 l2 x8_2).f0), .slice A176_1 ((rd_T45 l2 x8_2).f1).length c176_1]] (by rfl) rfl rfl (by (try simp only [List.map_toArray, List.map_cons, List.map_nil]); first | done | rfl | (simp only [List.length_drop, List.length_take]; rfl)) ?_
                   with_reducible refine (spec_l12Right.calls k2 _ _ l0 ((rd_T43 l1 x8_2).f0) ((rd_T43 l1 x8_2).f1) ((rd_T43 l1 x8_2).f2) ((rd_T43 l1 x8_2).f3) ((rd_T43 l1 x8_2).f4) ((rd_T43 l1 x8_2).f5) ((rd_T43 l1 x8_2).f6) ((rd_T45 l2 x8_2).f0) _ _ ((rd_T45 l2 x8_2).f1) false _ ?side1 ?side2 ?side3 ?side4 A18.out).mono ?_
                   (case side1 => repeat (first | exact (Kd.C_below HR0.out HB.out) | (with_reducible refine Kd.C_alloc ?_ _) | (with_reducible refine Kd.C_drewN ?_ _) | (with_reducible refine Kd.C_drew ?_)))
                   (case side2 => exact HC0.out)
                   (case side3 => repeat (first | exact (Kd.C_below HR176_1.out HB.out) | (with_reducible refine Kd.C_alloc ?_ _) | (with_reducible refine Kd.C_drewN ?_ _) | (with_reducible refine Kd.C_drew ?_)))
                   (case side4 => exact HC176_1.out)
                   rintro e w23 ⟨rfl, hb⟩
                   refine ⟨_, rfl, ?_⟩
                   have n0_ := Aside0.mk (bs_ hb)
                   clear HB; revert n0_; intro HB
                   (try clear hb)
                   (try clear hb2)
                   (try clear hk)
                   (try clear hi)
                   refine hK.out _ _ ⟨((HB.out.cell (World.block_lt_of_cell? w _ hw175_0)).trans hw175_0), ((HB.out.cell (World.block_lt_of_cell? w _ hw175_1)).trans hw175_1), ((HB.out.cell (World.block_lt_of_cell? w _ hw175_2)).trans hw175_2), ((HB.out.cell (World.block_lt_of_cell? w _ hw175_3)).trans hw175_3), ((HB.out.cell (World.block_lt_of_cell? w _ hw175_4)).trans hw175_4), ((HB.out.cell (World.block_lt_of_cell? w _ hw175_5)).trans hw175_5), ((HB.out.cell (World.block_lt_of_cell? w _ hw175_6)).trans hw175_6), ((HB.out.cell (World.block_lt_of_cell? w _ hw176_0)).trans hw176_0), ((HB.out.cell (World.block_lt_of_cell? w _ hw176_1)).trans hw176_1)⟩ (fun hHeld => ?_)
                   clear hK K
                   refine sqN_ 42 ?_
                   refine sqP_ 15 43 (fb 17 65535) (any_of HT_.out (by kernel_rfl)) ?_
                   refine sqP_ 16 44 (fb 17 131071) (any_of HT_.out (by kernel_rfl)) ?_
                   refine done_ (done_of HT_.out (by kernel_rfl)) ?_
                   try go_wp2
                   go_ret2
                   exact ⟨by first | rfl | (simp [errW_none, errW_some] <;> rfl) | (simp [*, errW_none, errW_some] <;> rfl), bb_⟩
               · rw [if_neg c17] at H
                 exact absurd H (by simp)
             · rw [if_neg c16] at H
               exact absurd H (by simp)
         · rw [if_neg c13] at H
           have c13b0 : decide (x8_2 < (l1.length : Int)) = false := decide_eq_false c13
           clear c13
           simp only [Option.some.injEq, Prod.mk.injEq] at H
           obtain ⟨rfl, rfl⟩ := H
           go_wp2
           go_ret2
           exact ⟨by first | rfl | (simp [errW_none, errW_some] <;> rfl) | (simp [*, errW_none, errW_some] <;> rfl), bb_⟩

end Go.Proofs.Ytmfbkbbgokjhnaa.F
