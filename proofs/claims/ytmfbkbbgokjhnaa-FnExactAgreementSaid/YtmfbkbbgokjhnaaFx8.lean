-- Written by this session's program (wip/bin/hp.py) over the kit's print: a function's Lean form, and a proof that the call does what it says.
import Derived.Test.YtmfbkbbgokjhnaaFx0
import Derived.Test.YtmfbkbbgokjhnaaSq
import Derived.Test.YtmfbkbbgokjhnaaFx5
namespace Go.Proofs.Ytmfbkbbgokjhnaa.F
open Go.RowKit Go.Proofs.YtmfbkbbgokjhnaaW.PrintWords Go.Proofs.YtmfbkbbgokjhnaaW.PrintLast Go.Proofs.YtmfbkbbgokjhnaaW.PrintMore
attribute [local go_sem] max2_int min2_int max_two min_two max_three min_three max_four min_four   -- for this text's walks alone
set_option linter.unusedVariables false
set_option linter.unusedSimpArgs false

/-! ### spec_IsClause: function 93 -/
def spec_IsClause.j0 : Nat → Bool → ByteArray → Int → Int → Int → Int → Int → ByteArray → Option (Bool)
 | 0, _, _, _, _, _, _, _, _ => none
 | k + 1, x36, x150000, x150001, x150002, x150003, x150004, x150005, x150006 => if x36 = true then (some false) else (if x150005 = 3 then ((spec_IsPartyCode.f k x150006).bind fun t156 => (some t156)) else (some (x150006.toList == ([] : List UInt8))))
def spec_IsClause.f (k : Nat) (a0_0 : ByteArray) (a0_1 : Int) (a0_2 : Int) (a0_3 : Int) (a0_4 : Int) (a0_5 : Int) (a0_6 : ByteArray) : Option (Bool) := (spec_IsPartyCode.f k a0_0).bind fun t150 => (if t150 = true then ((spec_l01In.f a0_1 (-1) 6).bind fun t151 => (if t151 = true then ((spec_l09Need.f a0_2).bind fun t152 => (if t152 = true then ((spec_l09Need.f a0_3).bind fun t153 => (if t153 = true then ((spec_l09Need.f a0_4).bind fun t154 => (if t154 = true then ((spec_l01In.f a0_5 0 3).bind fun t155 => (spec_IsClause.j0 k (!t155) a0_0 a0_1 a0_2 a0_3 a0_4 a0_5 a0_6)) else (spec_IsClause.j0 k true a0_0 a0_1 a0_2 a0_3 a0_4 a0_5 a0_6))) else (spec_IsClause.j0 k true a0_0 a0_1 a0_2 a0_3 a0_4 a0_5 a0_6))) else (spec_IsClause.j0 k true a0_0 a0_1 a0_2 a0_3 a0_4 a0_5 a0_6))) else (spec_IsClause.j0 k true a0_0 a0_1 a0_2 a0_3 a0_4 a0_5 a0_6))) else (spec_IsClause.j0 k true a0_0 a0_1 a0_2 a0_3 a0_4 a0_5 a0_6))
theorem spec_IsClause.mono_l : ∀ k, (∀ y0 y1 y2 y3 y4 y5 y6 y7, LeO (spec_IsClause.j0 k y0 y1 y2 y3 y4 y5 y6 y7) (spec_IsClause.j0 (k + 1) y0 y1 y2 y3 y4 y5 y6 y7))
 | 0 => fun _ _ _ _ _ _ _ _ r h => by simp [spec_IsClause.j0] at h
 | k + 1 => by
  have ih0 := spec_IsClause.mono_l k
  · intro y0 y1 y2 y3 y4 y5 y6 y7
    unfold spec_IsClause.j0
    repeat' first
    | (with_reducible exact ih0 _ _ _ _ _ _ _ _)
    | (with_reducible exact spec_IsPartyCode.mono _ _)
    | (with_reducible exact LeO.refl _)
    | (with_reducible exact LeO.none _)
    | (with_reducible refine LeO.ite ?_ ?_)
    | (with_reducible refine LeO.bind ?_ (fun _ => ?_))
    | exact ih0 _ _ _ _ _ _ _ _
    | exact spec_IsPartyCode.mono _ _
    | exact LeO.none _
    | refine LeO.ite ?_ ?_
    | refine LeO.bind ?_ (fun _ => ?_)
theorem spec_IsClause.mono : ∀ a0 a1 a2 a3 a4 a5 a6 k, LeO (spec_IsClause.f k a0 a1 a2 a3 a4 a5 a6) (spec_IsClause.f (k + 1) a0 a1 a2 a3 a4 a5 a6) := by
 intro a0 a1 a2 a3 a4 a5 a6 k
 have ih0 := spec_IsClause.mono_l k
 unfold spec_IsClause.f
 repeat' first
  | (with_reducible exact ih0 _ _ _ _ _ _ _ _)
  | (with_reducible exact spec_IsPartyCode.mono _ _)
  | (with_reducible exact LeO.refl _)
  | (with_reducible exact LeO.none _)
  | (with_reducible refine LeO.ite ?_ ?_)
  | (with_reducible refine LeO.bind ?_ (fun _ => ?_))
  | exact ih0 _ _ _ _ _ _ _ _
  | exact spec_IsPartyCode.mono _ _
  | exact LeO.none _
  | refine LeO.ite ?_ ?_
  | refine LeO.bind ?_ (fun _ => ?_)
set_option maxHeartbeats 8000000 in
set_option maxRecDepth 100000 in
theorem spec_IsClause.calls (k : Nat) (a0_0 : ByteArray) (a0_1 : Int) (a0_2 : Int) (a0_3 : Int) (a0_4 : Int) (a0_5 : Int) (a0_6 : ByteArray) (r : Bool) (w : World) (h : spec_IsClause.f k a0_0 a0_1 a0_2 a0_3 a0_4 a0_5 a0_6 = some r) :
 Calls Try.prog 93 #[.agg #[.string a0_0, .int .i64 a0_1, .int .i64 a0_2, .int .i64 a0_3, .int .i64 a0_4, .int .i64 a0_5, .string a0_6]] w fun e w' => e = .returned (.bool r) ∧ Below w.heap.size w w' := by
 have hu94 := Try.underlying94
 have HB := Aside0.mk (Below.refl w.heap.size w)
 have H : ((spec_IsPartyCode.f k a0_0).bind fun t150 => (if t150 = true then ((spec_l01In.f a0_1 (-1) 6).bind fun t151 => (if t151 = true then ((spec_l09Need.f a0_2).bind fun t152 => (if t152 = true then ((spec_l09Need.f a0_3).bind fun t153 => (if t153 = true then ((spec_l09Need.f a0_4).bind fun t154 => (if t154 = true then ((spec_l01In.f a0_5 0 3).bind fun t155 => (spec_IsClause.j0 k (!t155) a0_0 a0_1 a0_2 a0_3 a0_4 a0_5 a0_6)) else (spec_IsClause.j0 k true a0_0 a0_1 a0_2 a0_3 a0_4 a0_5 a0_6))) else (spec_IsClause.j0 k true a0_0 a0_1 a0_2 a0_3 a0_4 a0_5 a0_6))) else (spec_IsClause.j0 k true a0_0 a0_1 a0_2 a0_3 a0_4 a0_5 a0_6))) else (spec_IsClause.j0 k true a0_0 a0_1 a0_2 a0_3 a0_4 a0_5 a0_6))) else (spec_IsClause.j0 k true a0_0 a0_1 a0_2 a0_3 a0_4 a0_5 a0_6))) = some r := h
 clear h
 have HC2 := Aside0.mk H
 clear H
 go_enter Try.func93, Try.ntmps93
 go_upto_region 1 with (first | ((with_reducible refine gate_dst (N := 1) rfl ?_); refine bx_ 1 #[.string a0_0, .int .i64 a0_1, .int .i64 a0_2, .int .i64 a0_3, .int .i64 a0_4, .int .i64 a0_5, .string a0_6] 94 ?_; intro gb149 hg w3 hbox hb; have n0_ := Aside0.mk (bs_ hb); have n1_ := Aside0.mk (hbox); have n2_ := Aside0.mk ((by rw [hg]; exact (bz_) : w.heap.size ≤ gb149)); have n3_ := Aside0.mk ((by rw [hg]; exact (bz_) : w.heap.size ≤ gb149)); clear HB; revert n0_ n1_ n2_ n3_; intro HB BK149 GW149 GE149; clear hb hbox hg))
 (try simp only [Act.put, List.setIfInBounds_toArray, List.set_cons_zero, List.set_cons_succ])
 go_cut [36] (fun v36 wc => ∃ (kq : Nat) (x36_1 : Bool), v36 = .bool x36_1 ∧ Aside0 (spec_IsClause.j0 kq x36_1 a0_0 a0_1 a0_2 a0_3 a0_4 a0_5 a0_6 = some r) ∧ Aside0 (kq ≤ k) ∧ Aside0 (wc.heap[gb149]? = some (.cells #[.string a0_0, .int .i64 a0_1, .int .i64 a0_2, .int .i64 a0_3, .int .i64 a0_4, .int .i64 a0_5, .string a0_6] 94 (0, 0))) ∧ Aside0 (Below w.heap.size w wc))
 case first =>
  have H := HC2.out
  clear HC2
  replace H := Option.bind_eq_some_iff.mp H
  obtain ⟨t150, A40, H⟩ := H
  replace H : (if t150 = true then ((spec_l01In.f a0_1 (-1) 6).bind fun t151 => (if t151 = true then ((spec_l09Need.f a0_2).bind fun t152 => (if t152 = true then ((spec_l09Need.f a0_3).bind fun t153 => (if t153 = true then ((spec_l09Need.f a0_4).bind fun t154 => (if t154 = true then ((spec_l01In.f a0_5 0 3).bind fun t155 => (spec_IsClause.j0 k (!t155) a0_0 a0_1 a0_2 a0_3 a0_4 a0_5 a0_6)) else (spec_IsClause.j0 k true a0_0 a0_1 a0_2 a0_3 a0_4 a0_5 a0_6))) else (spec_IsClause.j0 k true a0_0 a0_1 a0_2 a0_3 a0_4 a0_5 a0_6))) else (spec_IsClause.j0 k true a0_0 a0_1 a0_2 a0_3 a0_4 a0_5 a0_6))) else (spec_IsClause.j0 k true a0_0 a0_1 a0_2 a0_3 a0_4 a0_5 a0_6))) else (spec_IsClause.j0 k true a0_0 a0_1 a0_2 a0_3 a0_4 a0_5 a0_6)) = some r := H
  have A4 := Aside0.mk A40
  clear A40
  by_cases c5 : t150 = true
  · subst c5
    have H1 : ((spec_l01In.f a0_1 (-1) 6).bind fun t151 => (if t151 = true then ((spec_l09Need.f a0_2).bind fun t152 => (if t152 = true then ((spec_l09Need.f a0_3).bind fun t153 => (if t153 = true then ((spec_l09Need.f a0_4).bind fun t154 => (if t154 = true then ((spec_l01In.f a0_5 0 3).bind fun t155 => (spec_IsClause.j0 k (!t155) a0_0 a0_1 a0_2 a0_3 a0_4 a0_5 a0_6)) else (spec_IsClause.j0 k true a0_0 a0_1 a0_2 a0_3 a0_4 a0_5 a0_6))) else (spec_IsClause.j0 k true a0_0 a0_1 a0_2 a0_3 a0_4 a0_5 a0_6))) else (spec_IsClause.j0 k true a0_0 a0_1 a0_2 a0_3 a0_4 a0_5 a0_6))) else (spec_IsClause.j0 k true a0_0 a0_1 a0_2 a0_3 a0_4 a0_5 a0_6))) = some r := by rw [if_pos rfl] at H; exact H
    clear H
    have H := H1
    clear H1
    replace H := Option.bind_eq_some_iff.mp H
    obtain ⟨t151, A60, H⟩ := H
    replace H : (if t151 = true then ((spec_l09Need.f a0_2).bind fun t152 => (if t152 = true then ((spec_l09Need.f a0_3).bind fun t153 => (if t153 = true then ((spec_l09Need.f a0_4).bind fun t154 => (if t154 = true then ((spec_l01In.f a0_5 0 3).bind fun t155 => (spec_IsClause.j0 k (!t155) a0_0 a0_1 a0_2 a0_3 a0_4 a0_5 a0_6)) else (spec_IsClause.j0 k true a0_0 a0_1 a0_2 a0_3 a0_4 a0_5 a0_6))) else (spec_IsClause.j0 k true a0_0 a0_1 a0_2 a0_3 a0_4 a0_5 a0_6))) else (spec_IsClause.j0 k true a0_0 a0_1 a0_2 a0_3 a0_4 a0_5 a0_6))) else (spec_IsClause.j0 k true a0_0 a0_1 a0_2 a0_3 a0_4 a0_5 a0_6)) = some r := H
    have A6 := Aside0.mk A60
    clear A60
    by_cases c7 : t151 = true
    · subst c7
      have H1 : ((spec_l09Need.f a0_2).bind fun t152 => (if t152 = true then ((spec_l09Need.f a0_3).bind fun t153 => (if t153 = true then ((spec_l09Need.f a0_4).bind fun t154 => (if t154 = true then ((spec_l01In.f a0_5 0 3).bind fun t155 => (spec_IsClause.j0 k (!t155) a0_0 a0_1 a0_2 a0_3 a0_4 a0_5 a0_6)) else (spec_IsClause.j0 k true a0_0 a0_1 a0_2 a0_3 a0_4 a0_5 a0_6))) else (spec_IsClause.j0 k true a0_0 a0_1 a0_2 a0_3 a0_4 a0_5 a0_6))) else (spec_IsClause.j0 k true a0_0 a0_1 a0_2 a0_3 a0_4 a0_5 a0_6))) = some r := by rw [if_pos rfl] at H; exact H
      clear H
      have H := H1
      clear H1
      replace H := Option.bind_eq_some_iff.mp H
      obtain ⟨t152, A80, H⟩ := H
      replace H : (if t152 = true then ((spec_l09Need.f a0_3).bind fun t153 => (if t153 = true then ((spec_l09Need.f a0_4).bind fun t154 => (if t154 = true then ((spec_l01In.f a0_5 0 3).bind fun t155 => (spec_IsClause.j0 k (!t155) a0_0 a0_1 a0_2 a0_3 a0_4 a0_5 a0_6)) else (spec_IsClause.j0 k true a0_0 a0_1 a0_2 a0_3 a0_4 a0_5 a0_6))) else (spec_IsClause.j0 k true a0_0 a0_1 a0_2 a0_3 a0_4 a0_5 a0_6))) else (spec_IsClause.j0 k true a0_0 a0_1 a0_2 a0_3 a0_4 a0_5 a0_6)) = some r := H
      have A8 := Aside0.mk A80
      clear A80
      by_cases c9 : t152 = true
      · subst c9
        have H1 : ((spec_l09Need.f a0_3).bind fun t153 => (if t153 = true then ((spec_l09Need.f a0_4).bind fun t154 => (if t154 = true then ((spec_l01In.f a0_5 0 3).bind fun t155 => (spec_IsClause.j0 k (!t155) a0_0 a0_1 a0_2 a0_3 a0_4 a0_5 a0_6)) else (spec_IsClause.j0 k true a0_0 a0_1 a0_2 a0_3 a0_4 a0_5 a0_6))) else (spec_IsClause.j0 k true a0_0 a0_1 a0_2 a0_3 a0_4 a0_5 a0_6))) = some r := by rw [if_pos rfl] at H; exact H
        clear H
        have H := H1
        clear H1
        replace H := Option.bind_eq_some_iff.mp H
        obtain ⟨t153, A100, H⟩ := H
        replace H : (if t153 = true then ((spec_l09Need.f a0_4).bind fun t154 => (if t154 = true then ((spec_l01In.f a0_5 0 3).bind fun t155 => (spec_IsClause.j0 k (!t155) a0_0 a0_1 a0_2 a0_3 a0_4 a0_5 a0_6)) else (spec_IsClause.j0 k true a0_0 a0_1 a0_2 a0_3 a0_4 a0_5 a0_6))) else (spec_IsClause.j0 k true a0_0 a0_1 a0_2 a0_3 a0_4 a0_5 a0_6)) = some r := H
        have A10 := Aside0.mk A100
        clear A100
        by_cases c11 : t153 = true
        · subst c11
          have H1 : ((spec_l09Need.f a0_4).bind fun t154 => (if t154 = true then ((spec_l01In.f a0_5 0 3).bind fun t155 => (spec_IsClause.j0 k (!t155) a0_0 a0_1 a0_2 a0_3 a0_4 a0_5 a0_6)) else (spec_IsClause.j0 k true a0_0 a0_1 a0_2 a0_3 a0_4 a0_5 a0_6))) = some r := by rw [if_pos rfl] at H; exact H
          clear H
          have H := H1
          clear H1
          replace H := Option.bind_eq_some_iff.mp H
          obtain ⟨t154, A120, H⟩ := H
          replace H : (if t154 = true then ((spec_l01In.f a0_5 0 3).bind fun t155 => (spec_IsClause.j0 k (!t155) a0_0 a0_1 a0_2 a0_3 a0_4 a0_5 a0_6)) else (spec_IsClause.j0 k true a0_0 a0_1 a0_2 a0_3 a0_4 a0_5 a0_6)) = some r := H
          have A12 := Aside0.mk A120
          clear A120
          by_cases c13 : t154 = true
          · subst c13
            have H1 : ((spec_l01In.f a0_5 0 3).bind fun t155 => (spec_IsClause.j0 k (!t155) a0_0 a0_1 a0_2 a0_3 a0_4 a0_5 a0_6)) = some r := by rw [if_pos rfl] at H; exact H
            clear H
            have H := H1
            clear H1
            replace H := Option.bind_eq_some_iff.mp H
            obtain ⟨t155, A140, H⟩ := H
            replace H : (spec_IsClause.j0 k (!t155) a0_0 a0_1 a0_2 a0_3 a0_4 a0_5 a0_6) = some r := H
            have A14 := Aside0.mk A140
            clear A140
            have H' := Aside0.mk H
            clear H
            have hcz15_0 := bk BK149 0
            have hcz15_1 := bk BK149 1
            have hcz15_2 := bk BK149 2
            have hcz15_3 := bk BK149 3
            have hcz15_4 := bk BK149 4
            have hcz15_5 := bk BK149 5
            have hcz15_6 := bk BK149 6
            have hfz15_0 := blk_frozen BK149.out 0
            have hfz15_1 := blk_frozen BK149.out 1
            have hfz15_2 := blk_frozen BK149.out 2
            have hfz15_3 := blk_frozen BK149.out 3
            have hfz15_4 := blk_frozen BK149.out 4
            have hfz15_5 := blk_frozen BK149.out 5
            have hfz15_6 := blk_frozen BK149.out 6
            go_wp2_with (first | ((with_reducible refine gate_callee (f := 96) rfl ?_); refine gl_ 5 Try.func96 #[.string a0_0] ?_; (with_reducible refine (spec_IsPartyCode.calls k a0_0 true _ A4.out).mono ?_); rintro e w' ⟨rfl, ⟨nd, rfl⟩⟩; refine ⟨_, rfl, ?_⟩) | (go_at_call 92; (with_reducible refine (spec_l01In.calls a0_1 (-1) 6 true _ A6.out).mono ?_); rintro e w' ⟨rfl, ⟨nd, rfl⟩⟩) | (go_at_call 116; (with_reducible refine (spec_l09Need.calls a0_2 true _ A8.out).mono ?_); rintro e w' ⟨rfl, ⟨nd, rfl⟩⟩) | (go_at_call 116; (with_reducible refine (spec_l09Need.calls a0_3 true _ A10.out).mono ?_); rintro e w' ⟨rfl, ⟨nd, rfl⟩⟩) | (go_at_call 116; (with_reducible refine (spec_l09Need.calls a0_4 true _ A12.out).mono ?_); rintro e w' ⟨rfl, ⟨nd, rfl⟩⟩) | (go_at_call 92; (with_reducible refine (spec_l01In.calls a0_5 0 3 t155 _ A14.out).mono ?_); rintro e w' ⟨rfl, ⟨nd, rfl⟩⟩))
            go_meet
            case rel => exact ⟨_, (!t155), (by first | rfl | (simp; done) | (simp [*]; done)), H', ⟨by first | omega | exact Nat.le_refl _⟩, ⟨by (with_reducible repeat (first | refine blk_drewN ?_ _ | refine blk_drew ?_ | refine blk_alloc ?_ _)); exact BK149.out⟩, ⟨bb_⟩⟩
          · replace c13 := Bool.eq_false_iff.mpr c13
            subst c13
            have H1 : (spec_IsClause.j0 k true a0_0 a0_1 a0_2 a0_3 a0_4 a0_5 a0_6) = some r := by rw [if_neg (show ¬ (false = true) by decide)] at H; exact H
            clear H
            have H := H1
            clear H1
            have H' := Aside0.mk H
            clear H
            have hcz16_0 := bk BK149 0
            have hcz16_1 := bk BK149 1
            have hcz16_2 := bk BK149 2
            have hcz16_3 := bk BK149 3
            have hcz16_4 := bk BK149 4
            have hcz16_5 := bk BK149 5
            have hcz16_6 := bk BK149 6
            have hfz16_0 := blk_frozen BK149.out 0
            have hfz16_1 := blk_frozen BK149.out 1
            have hfz16_2 := blk_frozen BK149.out 2
            have hfz16_3 := blk_frozen BK149.out 3
            have hfz16_4 := blk_frozen BK149.out 4
            have hfz16_5 := blk_frozen BK149.out 5
            have hfz16_6 := blk_frozen BK149.out 6
            go_wp2_with (first | ((with_reducible refine gate_callee (f := 96) rfl ?_); refine gl_ 5 Try.func96 #[.string a0_0] ?_; (with_reducible refine (spec_IsPartyCode.calls k a0_0 true _ A4.out).mono ?_); rintro e w' ⟨rfl, ⟨nd, rfl⟩⟩; refine ⟨_, rfl, ?_⟩) | (go_at_call 92; (with_reducible refine (spec_l01In.calls a0_1 (-1) 6 true _ A6.out).mono ?_); rintro e w' ⟨rfl, ⟨nd, rfl⟩⟩) | (go_at_call 116; (with_reducible refine (spec_l09Need.calls a0_2 true _ A8.out).mono ?_); rintro e w' ⟨rfl, ⟨nd, rfl⟩⟩) | (go_at_call 116; (with_reducible refine (spec_l09Need.calls a0_3 true _ A10.out).mono ?_); rintro e w' ⟨rfl, ⟨nd, rfl⟩⟩) | (go_at_call 116; (with_reducible refine (spec_l09Need.calls a0_4 false _ A12.out).mono ?_); rintro e w' ⟨rfl, ⟨nd, rfl⟩⟩))
            go_meet
            case rel => exact ⟨_, (true), (by first | rfl | (simp; done) | (simp [*]; done)), H', ⟨by first | omega | exact Nat.le_refl _⟩, ⟨by (with_reducible repeat (first | refine blk_drewN ?_ _ | refine blk_drew ?_ | refine blk_alloc ?_ _)); exact BK149.out⟩, ⟨bb_⟩⟩
        · replace c11 := Bool.eq_false_iff.mpr c11
          subst c11
          have H1 : (spec_IsClause.j0 k true a0_0 a0_1 a0_2 a0_3 a0_4 a0_5 a0_6) = some r := by rw [if_neg (show ¬ (false = true) by decide)] at H; exact H
          clear H
          have H := H1
          clear H1
          have H' := Aside0.mk H
          clear H
          have hcz17_0 := bk BK149 0
          have hcz17_1 := bk BK149 1
          have hcz17_2 := bk BK149 2
          have hcz17_3 := bk BK149 3
          have hcz17_4 := bk BK149 4
          have hcz17_5 := bk BK149 5
          have hcz17_6 := bk BK149 6
          have hfz17_0 := blk_frozen BK149.out 0
          have hfz17_1 := blk_frozen BK149.out 1
          have hfz17_2 := blk_frozen BK149.out 2
          have hfz17_3 := blk_frozen BK149.out 3
          have hfz17_4 := blk_frozen BK149.out 4
          have hfz17_5 := blk_frozen BK149.out 5
          have hfz17_6 := blk_frozen BK149.out 6
          go_wp2_with (first | ((with_reducible refine gate_callee (f := 96) rfl ?_); refine gl_ 5 Try.func96 #[.string a0_0] ?_; (with_reducible refine (spec_IsPartyCode.calls k a0_0 true _ A4.out).mono ?_); rintro e w' ⟨rfl, ⟨nd, rfl⟩⟩; refine ⟨_, rfl, ?_⟩) | (go_at_call 92; (with_reducible refine (spec_l01In.calls a0_1 (-1) 6 true _ A6.out).mono ?_); rintro e w' ⟨rfl, ⟨nd, rfl⟩⟩) | (go_at_call 116; (with_reducible refine (spec_l09Need.calls a0_2 true _ A8.out).mono ?_); rintro e w' ⟨rfl, ⟨nd, rfl⟩⟩) | (go_at_call 116; (with_reducible refine (spec_l09Need.calls a0_3 false _ A10.out).mono ?_); rintro e w' ⟨rfl, ⟨nd, rfl⟩⟩))
          go_meet
          case rel => exact ⟨_, (true), (by first | rfl | (simp; done) | (simp [*]; done)), H', ⟨by first | omega | exact Nat.le_refl _⟩, ⟨by (with_reducible repeat (first | refine blk_drewN ?_ _ | refine blk_drew ?_ | refine blk_alloc ?_ _)); exact BK149.out⟩, ⟨bb_⟩⟩
      · replace c9 := Bool.eq_false_iff.mpr c9
        subst c9
        have H1 : (spec_IsClause.j0 k true a0_0 a0_1 a0_2 a0_3 a0_4 a0_5 a0_6) = some r := by rw [if_neg (show ¬ (false = true) by decide)] at H; exact H
        clear H
        have H := H1
        clear H1
        have H' := Aside0.mk H
        clear H
        have hcz18_0 := bk BK149 0
        have hcz18_1 := bk BK149 1
        have hcz18_2 := bk BK149 2
        have hcz18_3 := bk BK149 3
        have hcz18_4 := bk BK149 4
        have hcz18_5 := bk BK149 5
        have hcz18_6 := bk BK149 6
        have hfz18_0 := blk_frozen BK149.out 0
        have hfz18_1 := blk_frozen BK149.out 1
        have hfz18_2 := blk_frozen BK149.out 2
        have hfz18_3 := blk_frozen BK149.out 3
        have hfz18_4 := blk_frozen BK149.out 4
        have hfz18_5 := blk_frozen BK149.out 5
        have hfz18_6 := blk_frozen BK149.out 6
        go_wp2_with (first | ((with_reducible refine gate_callee (f := 96) rfl ?_); refine gl_ 5 Try.func96 #[.string a0_0] ?_; (with_reducible refine (spec_IsPartyCode.calls k a0_0 true _ A4.out).mono ?_); rintro e w' ⟨rfl, ⟨nd, rfl⟩⟩; refine ⟨_, rfl, ?_⟩) | (go_at_call 92; (with_reducible refine (spec_l01In.calls a0_1 (-1) 6 true _ A6.out).mono ?_); rintro e w' ⟨rfl, ⟨nd, rfl⟩⟩) | (go_at_call 116; (with_reducible refine (spec_l09Need.calls a0_2 false _ A8.out).mono ?_); rintro e w' ⟨rfl, ⟨nd, rfl⟩⟩))
        go_meet
        case rel => exact ⟨_, (true), (by first | rfl | (simp; done) | (simp [*]; done)), H', ⟨by first | omega | exact Nat.le_refl _⟩, ⟨by (with_reducible repeat (first | refine blk_drewN ?_ _ | refine blk_drew ?_ | refine blk_alloc ?_ _)); exact BK149.out⟩, ⟨bb_⟩⟩
    · replace c7 := Bool.eq_false_iff.mpr c7
      subst c7
      have H1 : (spec_IsClause.j0 k true a0_0 a0_1 a0_2 a0_3 a0_4 a0_5 a0_6) = some r := by rw [if_neg (show ¬ (false = true) by decide)] at H; exact H
      clear H
      have H := H1
      clear H1
      have H' := Aside0.mk H
      clear H
      have hcz19_0 := bk BK149 0
      have hcz19_1 := bk BK149 1
      have hcz19_2 := bk BK149 2
      have hcz19_3 := bk BK149 3
      have hcz19_4 := bk BK149 4
      have hcz19_5 := bk BK149 5
      have hcz19_6 := bk BK149 6
      have hfz19_0 := blk_frozen BK149.out 0
      have hfz19_1 := blk_frozen BK149.out 1
      have hfz19_2 := blk_frozen BK149.out 2
      have hfz19_3 := blk_frozen BK149.out 3
      have hfz19_4 := blk_frozen BK149.out 4
      have hfz19_5 := blk_frozen BK149.out 5
      have hfz19_6 := blk_frozen BK149.out 6
      go_wp2_with (first | ((with_reducible refine gate_callee (f := 96) rfl ?_); refine gl_ 5 Try.func96 #[.string a0_0] ?_; (with_reducible refine (spec_IsPartyCode.calls k a0_0 true _ A4.out).mono ?_); rintro e w' ⟨rfl, ⟨nd, rfl⟩⟩; refine ⟨_, rfl, ?_⟩) | (go_at_call 92; (with_reducible refine (spec_l01In.calls a0_1 (-1) 6 false _ A6.out).mono ?_); rintro e w' ⟨rfl, ⟨nd, rfl⟩⟩))
      go_meet
      case rel => exact ⟨_, (true), (by first | rfl | (simp; done) | (simp [*]; done)), H', ⟨by first | omega | exact Nat.le_refl _⟩, ⟨by (with_reducible repeat (first | refine blk_drewN ?_ _ | refine blk_drew ?_ | refine blk_alloc ?_ _)); exact BK149.out⟩, ⟨bb_⟩⟩
  · replace c5 := Bool.eq_false_iff.mpr c5
    subst c5
    have H1 : (spec_IsClause.j0 k true a0_0 a0_1 a0_2 a0_3 a0_4 a0_5 a0_6) = some r := by rw [if_neg (show ¬ (false = true) by decide)] at H; exact H
    clear H
    have H := H1
    clear H1
    have H' := Aside0.mk H
    clear H
    have hcz20_0 := bk BK149 0
    have hcz20_1 := bk BK149 1
    have hcz20_2 := bk BK149 2
    have hcz20_3 := bk BK149 3
    have hcz20_4 := bk BK149 4
    have hcz20_5 := bk BK149 5
    have hcz20_6 := bk BK149 6
    have hfz20_0 := blk_frozen BK149.out 0
    have hfz20_1 := blk_frozen BK149.out 1
    have hfz20_2 := blk_frozen BK149.out 2
    have hfz20_3 := blk_frozen BK149.out 3
    have hfz20_4 := blk_frozen BK149.out 4
    have hfz20_5 := blk_frozen BK149.out 5
    have hfz20_6 := blk_frozen BK149.out 6
    go_wp2_with (first | ((with_reducible refine gate_callee (f := 96) rfl ?_); refine gl_ 5 Try.func96 #[.string a0_0] ?_; (with_reducible refine (spec_IsPartyCode.calls k a0_0 false _ A4.out).mono ?_); rintro e w' ⟨rfl, ⟨nd, rfl⟩⟩; refine ⟨_, rfl, ?_⟩))
    go_meet
    case rel => exact ⟨_, (true), (by first | rfl | (simp; done) | (simp [*]; done)), H', ⟨by first | omega | exact Nat.le_refl _⟩, ⟨by (with_reducible repeat (first | refine blk_drewN ?_ _ | refine blk_drew ?_ | refine blk_alloc ?_ _)); exact BK149.out⟩, ⟨bb_⟩⟩
 case rest =>
  clear HC2
  try clear c1
  try clear p2
  try clear c5
  try clear c7
  try clear c9
  try clear c11
  try clear c13
  try clear hcz15_0
  try clear hcz15_1
  try clear hcz15_2
  try clear hcz15_3
  try clear hcz15_4
  try clear hcz15_5
  try clear hcz15_6
  try clear hcz16_0
  try clear hcz16_1
  try clear hcz16_2
  try clear hcz16_3
  try clear hcz16_4
  try clear hcz16_5
  try clear hcz16_6
  try clear hcz17_0
  try clear hcz17_1
  try clear hcz17_2
  try clear hcz17_3
  try clear hcz17_4
  try clear hcz17_5
  try clear hcz17_6
  try clear hcz18_0
  try clear hcz18_1
  try clear hcz18_2
  try clear hcz18_3
  try clear hcz18_4
  try clear hcz18_5
  try clear hcz18_6
  try clear hcz19_0
  try clear hcz19_1
  try clear hcz19_2
  try clear hcz19_3
  try clear hcz19_4
  try clear hcz19_5
  try clear hcz19_6
  try clear hcz20_0
  try clear hcz20_1
  try clear hcz20_2
  try clear hcz20_3
  try clear hcz20_4
  try clear hcz20_5
  try clear hcz20_6
  try clear hfz15_0
  try clear hfz15_1
  try clear hfz15_2
  try clear hfz15_3
  try clear hfz15_4
  try clear hfz15_5
  try clear hfz15_6
  try clear hfz16_0
  try clear hfz16_1
  try clear hfz16_2
  try clear hfz16_3
  try clear hfz16_4
  try clear hfz16_5
  try clear hfz16_6
  try clear hfz17_0
  try clear hfz17_1
  try clear hfz17_2
  try clear hfz17_3
  try clear hfz17_4
  try clear hfz17_5
  try clear hfz17_6
  try clear hfz18_0
  try clear hfz18_1
  try clear hfz18_2
  try clear hfz18_3
  try clear hfz18_4
  try clear hfz18_5
  try clear hfz18_6
  try clear hfz19_0
  try clear hfz19_1
  try clear hfz19_2
  try clear hfz19_3
  try clear hfz19_4
  try clear hfz19_5
  try clear hfz19_6
  try clear hfz20_0
  try clear hfz20_1
  try clear hfz20_2
  try clear hfz20_3
  try clear hfz20_4
  try clear hfz20_5
  try clear hfz20_6
  obtain ⟨kq, x36_1, rfl, HA, HJ1, BK149, HB⟩ := hcut
  cases kq with
  | zero => exact absurd HA.out (by simp [spec_IsClause.j0])
  | succ kj1 =>
   have H := HA.out
   clear HA
   simp only [spec_IsClause.j0] at H
   by_cases c21 : x36_1 = true
   · subst c21
     have H1 : (some false) = some r := by rw [if_pos rfl] at H; exact H
     clear H
     have H := H1
     clear H1
     obtain rfl := Option.some.inj H
     go_wp2
     go_ret
     exact ⟨by first | rfl | (simp [errW_none, errW_some] <;> rfl) | (simp [*, errW_none, errW_some] <;> rfl), bb_⟩
   · replace c21 := Bool.eq_false_iff.mpr c21
     subst c21
     have H1 : (if a0_5 = 3 then ((spec_IsPartyCode.f kj1 a0_6).bind fun t156 => (some t156)) else (some (a0_6.toList == ([] : List UInt8)))) = some r := by rw [if_neg (show ¬ (false = true) by decide)] at H; exact H
     clear H
     have H := H1
     clear H1
     by_cases c22 : a0_5 = 3
     · rw [if_pos c22] at H
       have c22b0 : (a0_5 == 3) = true := beq_iff_eq.mpr c22
       have c22b1 : (a0_5 != 3) = false := bne_eq_false_iff_eq.mpr c22
       clear c22
       replace H := Option.bind_eq_some_iff.mp H
       obtain ⟨t156, A230, H⟩ := H
       replace H : (some t156) = some r := H
       have A23 := Aside0.mk A230
       clear A230
       obtain rfl := Option.some.inj H
       have hcz24_0 := bk BK149 0
       have hcz24_1 := bk BK149 1
       have hcz24_2 := bk BK149 2
       have hcz24_3 := bk BK149 3
       have hcz24_4 := bk BK149 4
       have hcz24_5 := bk BK149 5
       have hcz24_6 := bk BK149 6
       have hfz24_0 := blk_frozen BK149.out 0
       have hfz24_1 := blk_frozen BK149.out 1
       have hfz24_2 := blk_frozen BK149.out 2
       have hfz24_3 := blk_frozen BK149.out 3
       have hfz24_4 := blk_frozen BK149.out 4
       have hfz24_5 := blk_frozen BK149.out 5
       have hfz24_6 := blk_frozen BK149.out 6
       go_wp2_with (first | ((with_reducible refine gate_callee (f := 96) rfl ?_); refine gl_ 42 Try.func96 #[.string a0_6] ?_; (with_reducible refine (spec_IsPartyCode.calls kj1 a0_6 t156 _ A23.out).mono ?_); rintro e w' ⟨rfl, ⟨nd, rfl⟩⟩; refine ⟨_, rfl, ?_⟩))
       go_ret
       exact ⟨by first | rfl | (simp [errW_none, errW_some] <;> rfl) | (simp [*, errW_none, errW_some] <;> rfl), bb_⟩
     · rw [if_neg c22] at H
       have c22b0 : (a0_5 == 3) = false := beq_eq_false_iff_ne.mpr c22
       have c22b1 : (a0_5 != 3) = true := bne_iff_ne.mpr c22
       obtain rfl := Option.some.inj H
       have hcz25_0 := bk BK149 0
       have hcz25_1 := bk BK149 1
       have hcz25_2 := bk BK149 2
       have hcz25_3 := bk BK149 3
       have hcz25_4 := bk BK149 4
       have hcz25_5 := bk BK149 5
       have hcz25_6 := bk BK149 6
       have hfz25_0 := blk_frozen BK149.out 0
       have hfz25_1 := blk_frozen BK149.out 1
       have hfz25_2 := blk_frozen BK149.out 2
       have hfz25_3 := blk_frozen BK149.out 3
       have hfz25_4 := blk_frozen BK149.out 4
       have hfz25_5 := blk_frozen BK149.out 5
       have hfz25_6 := blk_frozen BK149.out 6
       go_wp2
       go_ret
       exact ⟨by first | rfl | (simp [errW_none, errW_some] <;> rfl) | (simp [*, errW_none, errW_some] <;> rfl), bb_⟩

end Go.Proofs.Ytmfbkbbgokjhnaa.F
namespace Go.Proofs.Ytmfbkbbgokjhnaa.F
open Go.RowKit Go.Proofs.YtmfbkbbgokjhnaaW.PrintWords Go.Proofs.YtmfbkbbgokjhnaaW.PrintLast Go.Proofs.YtmfbkbbgokjhnaaW.PrintMore
attribute [local go_sem] max2_int min2_int max_two min_two max_three min_three max_four min_four   -- for this text's walks alone
set_option linter.unusedVariables false
set_option linter.unusedSimpArgs false

/-! ### spec_l09Find: function 94 -/
def spec_l09Find.l0 : Nat → List (S94) → ByteArray → Int → Option (Int)
 | 0, _, _, _ => none
 | k + 1, x0, x1, x5 => if x5 < (x0.length : Int) then (if 0 ≤ x5 then (if ((rd_T94 x0 x5).f0).toList = x1.toList then (some x5) else (spec_l09Find.l0 k x0 x1 (wrap64 (x5 + 1)))) else (none)) else (some (-1))
def spec_l09Find.f (k : Nat) (l0 : List (S94)) (a1 : ByteArray) : Option (Int) := spec_l09Find.l0 k l0 a1 0
theorem spec_l09Find.mono_l : ∀ k, (∀ y0 y1 y2, LeO (spec_l09Find.l0 k y0 y1 y2) (spec_l09Find.l0 (k + 1) y0 y1 y2))
 | 0 => fun _ _ _ r h => by simp [spec_l09Find.l0] at h
 | k + 1 => by
  have ih0 := spec_l09Find.mono_l k
  · intro y0 y1 y2
    unfold spec_l09Find.l0
    repeat' first
    | (with_reducible exact ih0 _ _ _)
    | (with_reducible exact LeO.refl _)
    | (with_reducible exact LeO.none _)
    | (with_reducible refine LeO.ite ?_ ?_)
    | (with_reducible refine LeO.bind ?_ (fun _ => ?_))
    | exact ih0 _ _ _
    | exact LeO.none _
    | refine LeO.ite ?_ ?_
    | refine LeO.bind ?_ (fun _ => ?_)
theorem spec_l09Find.mono : ∀ a0 a1 k, LeO (spec_l09Find.f k a0 a1) (spec_l09Find.f (k + 1) a0 a1) := by
 intro a0 a1 k
 have ih0 := spec_l09Find.mono_l k
 unfold spec_l09Find.f
 repeat' first
  | (with_reducible exact ih0 _ _ _)
  | (with_reducible exact LeO.refl _)
  | (with_reducible exact LeO.none _)
  | (with_reducible refine LeO.ite ?_ ?_)
  | (with_reducible refine LeO.bind ?_ (fun _ => ?_))
  | exact ih0 _ _ _
  | exact LeO.none _
  | refine LeO.ite ?_ ?_
  | refine LeO.bind ?_ (fun _ => ?_)
set_option maxHeartbeats 8000000 in
set_option maxRecDepth 100000 in
theorem spec_l09Find.calls (k : Nat) (A0 : Option Addr) (c0 : Nat) (l0 : List (S94)) (a1 : ByteArray) (r : Int) (w : World) (hr0 : Kd.C k94 w A0 l0.length l0) (hc0 : l0.length ≤ c0) (h : spec_l09Find.f k l0 a1 = some r) :
 Calls Try.prog 94 #[.slice A0 l0.length c0, .string a1] w fun e w' => e = .returned (.int .i64 r) ∧ Drawn0 w w' := by
 have HR0 := Aside0.mk hr0
 have HC0 := Aside0.mk hc0
 clear hr0 hc0
 have H : (spec_l09Find.l0 k l0 a1 0) = some r := h
 clear h
 have H' := Aside0.mk H
 clear H
 go_enter Try.func94, Try.ntmps94
 go_wp2
 go_loopg [5] k (fun kq v5 w' => ∃ (x5_1 : Int), v5 = .int .i64 x5_1 ∧ Aside0 (spec_l09Find.l0 kq l0 a1 x5_1 = some r) ∧ Aside0 (kq ≤ k) ∧ Drawn0 w w')
 case atStart => exact ⟨(0), (by first | rfl | (simp; done) | (simp [*]; done)), H', ⟨Nat.le_refl _⟩, by repeat (first | exact Drawn0.refl _ | apply Drawn0.step)⟩
 case round =>
  clear H'
  try clear p2
  obtain ⟨x5_1, rfl, HA, HK1, ⟨m1, rfl⟩⟩ := hrel
  cases gk with
  | zero => exact absurd HA.out (by simp [spec_l09Find.l0])
  | succ k1 =>
   have H := HA.out
   clear HA
   simp only [spec_l09Find.l0] at H
   by_cases c3 : x5_1 < (l0.length : Int)
   · rw [if_pos c3] at H
     have c3b0 : decide (x5_1 < (l0.length : Int)) = true := decide_eq_true c3
     clear c3
     by_cases c4 : 0 ≤ x5_1
     · rw [if_pos c4] at H
       have c4b0 : decide (0 ≤ x5_1) = true := decide_eq_true c4
       clear c4
       by_cases c5 : ((rd_T94 l0 x5_1).f0).toList = a1.toList
       · rw [if_pos c5] at H
         have c5b0 : (((rd_T94 l0 x5_1).f0).toList == a1.toList) = true := beq_iff_eq.mpr c5
         have c5b1 : (((rd_T94 l0 x5_1).f0).toList != a1.toList) = false := bne_eq_false_iff_eq.mpr c5
         clear c5
         obtain rfl := Option.some.inj H
         have p157 : 0 ≤ (x5_1 : Int) := od_
         have q157 : x5_1 < (l0.length : Int) := od_
         obtain ⟨ad157, e157, hx157_0, hx157_1, hx157_2, hx157_3, hx157_4, hx157_5, hx157_6⟩ := at_T94 HR0.out x5_1 p157 q157
         cases e157
         replace p157 := eq_true p157
         replace q157 := eq_true q157
         go_wp2
         go_ret
         exact ⟨by first | rfl | (simp; done) | (simp [*]; done), by repeat (first | exact Drawn0.refl _ | apply Drawn0.step)⟩
       · rw [if_neg c5] at H
         have c5b0 : (((rd_T94 l0 x5_1).f0).toList == a1.toList) = false := beq_eq_false_iff_ne.mpr c5
         have c5b1 : (((rd_T94 l0 x5_1).f0).toList != a1.toList) = true := bne_iff_ne.mpr c5
         have H' := Aside0.mk H
         clear H
         have p157 : 0 ≤ (x5_1 : Int) := od_
         have q157 : x5_1 < (l0.length : Int) := od_
         obtain ⟨ad157, e157, hx157_0, hx157_1, hx157_2, hx157_3, hx157_4, hx157_5, hx157_6⟩ := at_T94 HR0.out x5_1 p157 q157
         cases e157
         replace p157 := eq_true p157
         replace q157 := eq_true q157
         go_wp2
         go_roundg k1
         case measure => have := HK1.out; omega
         case rel => exact ⟨(wrap64 (x5_1 + 1)), (by first | rfl | (simp; done) | (simp [*]; done)), H', ⟨by have := HK1.out; omega⟩, by repeat (first | exact Drawn0.refl _ | apply Drawn0.step)⟩
     · rw [if_neg c4] at H
       exact absurd H (by simp)
   · rw [if_neg c3] at H
     have c3b0 : decide (x5_1 < (l0.length : Int)) = false := decide_eq_false c3
     clear c3
     obtain rfl := Option.some.inj H
     go_wp2
     go_ret
     exact ⟨by first | rfl | (simp; done) | (simp [*]; done), by repeat (first | exact Drawn0.refl _ | apply Drawn0.step)⟩

end Go.Proofs.Ytmfbkbbgokjhnaa.F
