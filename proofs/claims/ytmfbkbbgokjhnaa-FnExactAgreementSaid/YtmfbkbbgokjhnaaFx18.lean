-- Written by this session's program (wip/bin/hp.py) over the kit's print: a function's Lean form, and a proof that the call does what it says.
import Derived.Test.YtmfbkbbgokjhnaaFx0
import Derived.Test.YtmfbkbbgokjhnaaSq
import Derived.Test.YtmfbkbbgokjhnaaFx16
namespace Go.Proofs.Ytmfbkbbgokjhnaa.F
open Go.RowKit Go.Proofs.YtmfbkbbgokjhnaaW.PrintWords Go.Proofs.YtmfbkbbgokjhnaaW.PrintLast Go.Proofs.YtmfbkbbgokjhnaaW.PrintMore
attribute [local go_sem] max2_int min2_int max_two min_two max_three min_three max_four min_four   -- for this text's walks alone
set_option linter.unusedVariables false
set_option linter.unusedSimpArgs false

/-! ### impl_IsClause: function 101 -/
def impl_IsClause.j0 : Nat → Bool → ByteArray → Int → Int → Int → Int → Int → ByteArray → Option (Bool)
 | 0, _, _, _, _, _, _, _, _ => none
 | k + 1, x3, x215000, x215001, x215002, x215003, x215004, x215005, x215006 => if x215005 = 3 then ((impl_IsPartyCode.f k x215006).bind fun t218 => ((impl_IsPartyCode.f k x215000).bind fun t219 => (if t219 = true then ((impl_in.f x215001 (-1) 6).bind fun t220 => (if t220 = true then (if x3 = true then ((impl_in.f x215005 0 3).bind fun t221 => (if t221 = true then (some t218) else (some false))) else (some false)) else (some false))) else (some false)))) else ((impl_IsPartyCode.f k x215000).bind fun t222 => (if t222 = true then ((impl_in.f x215001 (-1) 6).bind fun t223 => (if t223 = true then (if x3 = true then ((impl_in.f x215005 0 3).bind fun t224 => (if t224 = true then (some (x215006.toList == ([] : List UInt8))) else (some false))) else (some false)) else (some false))) else (some false)))
def impl_IsClause.f (k : Nat) (a0_0 : ByteArray) (a0_1 : Int) (a0_2 : Int) (a0_3 : Int) (a0_4 : Int) (a0_5 : Int) (a0_6 : ByteArray) : Option (Bool) := (impl_isNeed.f a0_2).bind fun t215 => (if t215 = true then ((impl_isNeed.f a0_3).bind fun t216 => (if t216 = true then ((impl_isNeed.f a0_4).bind fun t217 => (impl_IsClause.j0 k t217 a0_0 a0_1 a0_2 a0_3 a0_4 a0_5 a0_6)) else (impl_IsClause.j0 k false a0_0 a0_1 a0_2 a0_3 a0_4 a0_5 a0_6))) else (impl_IsClause.j0 k false a0_0 a0_1 a0_2 a0_3 a0_4 a0_5 a0_6))
theorem impl_IsClause.mono_l : ∀ k, (∀ y0 y1 y2 y3 y4 y5 y6 y7, LeO (impl_IsClause.j0 k y0 y1 y2 y3 y4 y5 y6 y7) (impl_IsClause.j0 (k + 1) y0 y1 y2 y3 y4 y5 y6 y7))
 | 0 => fun _ _ _ _ _ _ _ _ r h => by simp [impl_IsClause.j0] at h
 | k + 1 => by
  have ih0 := impl_IsClause.mono_l k
  · intro y0 y1 y2 y3 y4 y5 y6 y7
    unfold impl_IsClause.j0
    repeat' first
    | (with_reducible exact ih0 _ _ _ _ _ _ _ _)
    | (with_reducible exact impl_IsPartyCode.mono _ _)
    | (with_reducible exact LeO.refl _)
    | (with_reducible exact LeO.none _)
    | (with_reducible refine LeO.ite ?_ ?_)
    | (with_reducible refine LeO.bind ?_ (fun _ => ?_))
    | exact ih0 _ _ _ _ _ _ _ _
    | exact impl_IsPartyCode.mono _ _
    | exact LeO.none _
    | refine LeO.ite ?_ ?_
    | refine LeO.bind ?_ (fun _ => ?_)
theorem impl_IsClause.mono : ∀ a0 a1 a2 a3 a4 a5 a6 k, LeO (impl_IsClause.f k a0 a1 a2 a3 a4 a5 a6) (impl_IsClause.f (k + 1) a0 a1 a2 a3 a4 a5 a6) := by
 intro a0 a1 a2 a3 a4 a5 a6 k
 have ih0 := impl_IsClause.mono_l k
 unfold impl_IsClause.f
 repeat' first
  | (with_reducible exact ih0 _ _ _ _ _ _ _ _)
  | (with_reducible exact impl_IsPartyCode.mono _ _)
  | (with_reducible exact LeO.refl _)
  | (with_reducible exact LeO.none _)
  | (with_reducible refine LeO.ite ?_ ?_)
  | (with_reducible refine LeO.bind ?_ (fun _ => ?_))
  | exact ih0 _ _ _ _ _ _ _ _
  | exact impl_IsPartyCode.mono _ _
  | exact LeO.none _
  | refine LeO.ite ?_ ?_
  | refine LeO.bind ?_ (fun _ => ?_)
set_option maxHeartbeats 8000000 in
set_option maxRecDepth 100000 in
theorem impl_IsClause.calls (k : Nat) (a0_0 : ByteArray) (a0_1 : Int) (a0_2 : Int) (a0_3 : Int) (a0_4 : Int) (a0_5 : Int) (a0_6 : ByteArray) (r : Bool) (w : World) (h : impl_IsClause.f k a0_0 a0_1 a0_2 a0_3 a0_4 a0_5 a0_6 = some r) :
 Calls Try.prog 101 #[.agg #[.string a0_0, .int .i64 a0_1, .int .i64 a0_2, .int .i64 a0_3, .int .i64 a0_4, .int .i64 a0_5, .string a0_6]] w fun e w' => e = .returned (.bool r) ∧ Below w.heap.size w w' := by
 have hu94 := Try.underlying94
 have HB := Aside0.mk (Below.refl w.heap.size w)
 have H : ((impl_isNeed.f a0_2).bind fun t215 => (if t215 = true then ((impl_isNeed.f a0_3).bind fun t216 => (if t216 = true then ((impl_isNeed.f a0_4).bind fun t217 => (impl_IsClause.j0 k t217 a0_0 a0_1 a0_2 a0_3 a0_4 a0_5 a0_6)) else (impl_IsClause.j0 k false a0_0 a0_1 a0_2 a0_3 a0_4 a0_5 a0_6))) else (impl_IsClause.j0 k false a0_0 a0_1 a0_2 a0_3 a0_4 a0_5 a0_6))) = some r := h
 clear h
 have HC2 := Aside0.mk H
 clear H
 go_enter Try.func101, Try.ntmps101
 go_upto_region 1 with (first | ((with_reducible refine gate_dst (N := 1) rfl ?_); refine bx_ 1 #[.string a0_0, .int .i64 a0_1, .int .i64 a0_2, .int .i64 a0_3, .int .i64 a0_4, .int .i64 a0_5, .string a0_6] 94 ?_; intro gb214 hg w3 hbox hb; have n0_ := Aside0.mk (bs_ hb); have n1_ := Aside0.mk (hbox); have n2_ := Aside0.mk ((by rw [hg]; exact (bz_) : w.heap.size ≤ gb214)); have n3_ := Aside0.mk ((by rw [hg]; exact (bz_) : w.heap.size ≤ gb214)); clear HB; revert n0_ n1_ n2_ n3_; intro HB BK214 GW214 GE214; clear hb hbox hg))
 (try simp only [Act.put, List.setIfInBounds_toArray, List.set_cons_zero, List.set_cons_succ])
 go_cut [3] (fun v3 wc => ∃ (kq : Nat) (x3_1 : Bool), v3 = .bool x3_1 ∧ Aside0 (impl_IsClause.j0 kq x3_1 a0_0 a0_1 a0_2 a0_3 a0_4 a0_5 a0_6 = some r) ∧ Aside0 (kq ≤ k) ∧ Aside0 (wc.heap[gb214]? = some (.cells #[.string a0_0, .int .i64 a0_1, .int .i64 a0_2, .int .i64 a0_3, .int .i64 a0_4, .int .i64 a0_5, .string a0_6] 94 (0, 0))) ∧ Aside0 (Below w.heap.size w wc))
 case first =>
  have H := HC2.out
  clear HC2
  replace H := Option.bind_eq_some_iff.mp H
  obtain ⟨t215, A40, H⟩ := H
  replace H : (if t215 = true then ((impl_isNeed.f a0_3).bind fun t216 => (if t216 = true then ((impl_isNeed.f a0_4).bind fun t217 => (impl_IsClause.j0 k t217 a0_0 a0_1 a0_2 a0_3 a0_4 a0_5 a0_6)) else (impl_IsClause.j0 k false a0_0 a0_1 a0_2 a0_3 a0_4 a0_5 a0_6))) else (impl_IsClause.j0 k false a0_0 a0_1 a0_2 a0_3 a0_4 a0_5 a0_6)) = some r := H
  have A4 := Aside0.mk A40
  clear A40
  by_cases c5 : t215 = true
  · subst c5
    have H1 : ((impl_isNeed.f a0_3).bind fun t216 => (if t216 = true then ((impl_isNeed.f a0_4).bind fun t217 => (impl_IsClause.j0 k t217 a0_0 a0_1 a0_2 a0_3 a0_4 a0_5 a0_6)) else (impl_IsClause.j0 k false a0_0 a0_1 a0_2 a0_3 a0_4 a0_5 a0_6))) = some r := by rw [if_pos rfl] at H; exact H
    clear H
    have H := H1
    clear H1
    replace H := Option.bind_eq_some_iff.mp H
    obtain ⟨t216, A60, H⟩ := H
    replace H : (if t216 = true then ((impl_isNeed.f a0_4).bind fun t217 => (impl_IsClause.j0 k t217 a0_0 a0_1 a0_2 a0_3 a0_4 a0_5 a0_6)) else (impl_IsClause.j0 k false a0_0 a0_1 a0_2 a0_3 a0_4 a0_5 a0_6)) = some r := H
    have A6 := Aside0.mk A60
    clear A60
    by_cases c7 : t216 = true
    · subst c7
      have H1 : ((impl_isNeed.f a0_4).bind fun t217 => (impl_IsClause.j0 k t217 a0_0 a0_1 a0_2 a0_3 a0_4 a0_5 a0_6)) = some r := by rw [if_pos rfl] at H; exact H
      clear H
      have H := H1
      clear H1
      replace H := Option.bind_eq_some_iff.mp H
      obtain ⟨t217, A80, H⟩ := H
      replace H : (impl_IsClause.j0 k t217 a0_0 a0_1 a0_2 a0_3 a0_4 a0_5 a0_6) = some r := H
      have A8 := Aside0.mk A80
      clear A80
      have H' := Aside0.mk H
      clear H
      have hcz9_0 := bk BK214 0
      have hcz9_1 := bk BK214 1
      have hcz9_2 := bk BK214 2
      have hcz9_3 := bk BK214 3
      have hcz9_4 := bk BK214 4
      have hcz9_5 := bk BK214 5
      have hcz9_6 := bk BK214 6
      have hfz9_0 := blk_frozen BK214.out 0
      have hfz9_1 := blk_frozen BK214.out 1
      have hfz9_2 := blk_frozen BK214.out 2
      have hfz9_3 := blk_frozen BK214.out 3
      have hfz9_4 := blk_frozen BK214.out 4
      have hfz9_5 := blk_frozen BK214.out 5
      have hfz9_6 := blk_frozen BK214.out 6
      go_wp2_with (first | ((with_reducible refine gate_callee (f := 122) rfl ?_); refine gl_ 7 Try.func122 #[.int .i64 a0_2] ?_; (with_reducible refine (impl_isNeed.calls a0_2 true _ A4.out).mono ?_); rintro e w' ⟨rfl, ⟨nd, rfl⟩⟩; refine ⟨_, rfl, ?_⟩) | (go_at_call 122; (with_reducible refine (impl_isNeed.calls a0_3 true _ A6.out).mono ?_); rintro e w' ⟨rfl, ⟨nd, rfl⟩⟩) | (go_at_call 122; (with_reducible refine (impl_isNeed.calls a0_4 t217 _ A8.out).mono ?_); rintro e w' ⟨rfl, ⟨nd, rfl⟩⟩))
      go_meet
      case rel => exact ⟨_, (t217), (by first | rfl | (simp; done) | (simp [*]; done)), H', ⟨by first | omega | exact Nat.le_refl _⟩, ⟨by (with_reducible repeat (first | refine blk_drewN ?_ _ | refine blk_drew ?_ | refine blk_alloc ?_ _)); exact BK214.out⟩, ⟨bb_⟩⟩
    · replace c7 := Bool.eq_false_iff.mpr c7
      subst c7
      have H1 : (impl_IsClause.j0 k false a0_0 a0_1 a0_2 a0_3 a0_4 a0_5 a0_6) = some r := by rw [if_neg (show ¬ (false = true) by decide)] at H; exact H
      clear H
      have H := H1
      clear H1
      have H' := Aside0.mk H
      clear H
      have hcz10_0 := bk BK214 0
      have hcz10_1 := bk BK214 1
      have hcz10_2 := bk BK214 2
      have hcz10_3 := bk BK214 3
      have hcz10_4 := bk BK214 4
      have hcz10_5 := bk BK214 5
      have hcz10_6 := bk BK214 6
      have hfz10_0 := blk_frozen BK214.out 0
      have hfz10_1 := blk_frozen BK214.out 1
      have hfz10_2 := blk_frozen BK214.out 2
      have hfz10_3 := blk_frozen BK214.out 3
      have hfz10_4 := blk_frozen BK214.out 4
      have hfz10_5 := blk_frozen BK214.out 5
      have hfz10_6 := blk_frozen BK214.out 6
      go_wp2_with (first | ((with_reducible refine gate_callee (f := 122) rfl ?_); refine gl_ 7 Try.func122 #[.int .i64 a0_2] ?_; (with_reducible refine (impl_isNeed.calls a0_2 true _ A4.out).mono ?_); rintro e w' ⟨rfl, ⟨nd, rfl⟩⟩; refine ⟨_, rfl, ?_⟩) | (go_at_call 122; (with_reducible refine (impl_isNeed.calls a0_3 false _ A6.out).mono ?_); rintro e w' ⟨rfl, ⟨nd, rfl⟩⟩))
      go_meet
      case rel => exact ⟨_, (false), (by first | rfl | (simp; done) | (simp [*]; done)), H', ⟨by first | omega | exact Nat.le_refl _⟩, ⟨by (with_reducible repeat (first | refine blk_drewN ?_ _ | refine blk_drew ?_ | refine blk_alloc ?_ _)); exact BK214.out⟩, ⟨bb_⟩⟩
  · replace c5 := Bool.eq_false_iff.mpr c5
    subst c5
    have H1 : (impl_IsClause.j0 k false a0_0 a0_1 a0_2 a0_3 a0_4 a0_5 a0_6) = some r := by rw [if_neg (show ¬ (false = true) by decide)] at H; exact H
    clear H
    have H := H1
    clear H1
    have H' := Aside0.mk H
    clear H
    have hcz11_0 := bk BK214 0
    have hcz11_1 := bk BK214 1
    have hcz11_2 := bk BK214 2
    have hcz11_3 := bk BK214 3
    have hcz11_4 := bk BK214 4
    have hcz11_5 := bk BK214 5
    have hcz11_6 := bk BK214 6
    have hfz11_0 := blk_frozen BK214.out 0
    have hfz11_1 := blk_frozen BK214.out 1
    have hfz11_2 := blk_frozen BK214.out 2
    have hfz11_3 := blk_frozen BK214.out 3
    have hfz11_4 := blk_frozen BK214.out 4
    have hfz11_5 := blk_frozen BK214.out 5
    have hfz11_6 := blk_frozen BK214.out 6
    go_wp2_with (first | ((with_reducible refine gate_callee (f := 122) rfl ?_); refine gl_ 7 Try.func122 #[.int .i64 a0_2] ?_; (with_reducible refine (impl_isNeed.calls a0_2 false _ A4.out).mono ?_); rintro e w' ⟨rfl, ⟨nd, rfl⟩⟩; refine ⟨_, rfl, ?_⟩))
    go_meet
    case rel => exact ⟨_, (false), (by first | rfl | (simp; done) | (simp [*]; done)), H', ⟨by first | omega | exact Nat.le_refl _⟩, ⟨by (with_reducible repeat (first | refine blk_drewN ?_ _ | refine blk_drew ?_ | refine blk_alloc ?_ _)); exact BK214.out⟩, ⟨bb_⟩⟩
 case rest =>
  clear HC2
  try clear c1
  try clear p2
  try clear c5
  try clear c7
  try clear c10
  try clear hcz10_0
  try clear hcz10_1
  try clear hcz10_2
  try clear hcz10_3
  try clear hcz10_4
  try clear hcz10_5
  try clear hcz10_6
  try clear hcz11_0
  try clear hcz11_1
  try clear hcz11_2
  try clear hcz11_3
  try clear hcz11_4
  try clear hcz11_5
  try clear hcz11_6
  try clear hcz9_0
  try clear hcz9_1
  try clear hcz9_2
  try clear hcz9_3
  try clear hcz9_4
  try clear hcz9_5
  try clear hcz9_6
  try clear hfz10_0
  try clear hfz10_1
  try clear hfz10_2
  try clear hfz10_3
  try clear hfz10_4
  try clear hfz10_5
  try clear hfz10_6
  try clear hfz11_0
  try clear hfz11_1
  try clear hfz11_2
  try clear hfz11_3
  try clear hfz11_4
  try clear hfz11_5
  try clear hfz11_6
  try clear hfz9_0
  try clear hfz9_1
  try clear hfz9_2
  try clear hfz9_3
  try clear hfz9_4
  try clear hfz9_5
  try clear hfz9_6
  obtain ⟨kq, x3_1, rfl, HA, HJ1, BK214, HB⟩ := hcut
  cases kq with
  | zero => exact absurd HA.out (by simp [impl_IsClause.j0])
  | succ kj1 =>
   have H := HA.out
   clear HA
   simp only [impl_IsClause.j0] at H
   by_cases c12 : a0_5 = 3
   · rw [if_pos c12] at H
     have c12b0 : (a0_5 == 3) = true := beq_iff_eq.mpr c12
     have c12b1 : (a0_5 != 3) = false := bne_eq_false_iff_eq.mpr c12
     clear c12
     replace H := Option.bind_eq_some_iff.mp H
     obtain ⟨t218, A130, H⟩ := H
     replace H : ((impl_IsPartyCode.f kj1 a0_0).bind fun t219 => (if t219 = true then ((impl_in.f a0_1 (-1) 6).bind fun t220 => (if t220 = true then (if x3_1 = true then ((impl_in.f a0_5 0 3).bind fun t221 => (if t221 = true then (some t218) else (some false))) else (some false)) else (some false))) else (some false))) = some r := H
     have A13 := Aside0.mk A130
     clear A130
     replace H := Option.bind_eq_some_iff.mp H
     obtain ⟨t219, A140, H⟩ := H
     replace H : (if t219 = true then ((impl_in.f a0_1 (-1) 6).bind fun t220 => (if t220 = true then (if x3_1 = true then ((impl_in.f a0_5 0 3).bind fun t221 => (if t221 = true then (some t218) else (some false))) else (some false)) else (some false))) else (some false)) = some r := H
     have A14 := Aside0.mk A140
     clear A140
     by_cases c15 : t219 = true
     · subst c15
       have H1 : ((impl_in.f a0_1 (-1) 6).bind fun t220 => (if t220 = true then (if x3_1 = true then ((impl_in.f a0_5 0 3).bind fun t221 => (if t221 = true then (some t218) else (some false))) else (some false)) else (some false))) = some r := by rw [if_pos rfl] at H; exact H
       clear H
       have H := H1
       clear H1
       replace H := Option.bind_eq_some_iff.mp H
       obtain ⟨t220, A160, H⟩ := H
       replace H : (if t220 = true then (if x3_1 = true then ((impl_in.f a0_5 0 3).bind fun t221 => (if t221 = true then (some t218) else (some false))) else (some false)) else (some false)) = some r := H
       have A16 := Aside0.mk A160
       clear A160
       by_cases c17 : t220 = true
       · subst c17
         have H1 : (if x3_1 = true then ((impl_in.f a0_5 0 3).bind fun t221 => (if t221 = true then (some t218) else (some false))) else (some false)) = some r := by rw [if_pos rfl] at H; exact H
         clear H
         have H := H1
         clear H1
         by_cases c18 : x3_1 = true
         · subst c18
           have H1 : ((impl_in.f a0_5 0 3).bind fun t221 => (if t221 = true then (some t218) else (some false))) = some r := by rw [if_pos rfl] at H; exact H
           clear H
           have H := H1
           clear H1
           replace H := Option.bind_eq_some_iff.mp H
           obtain ⟨t221, A190, H⟩ := H
           replace H : (if t221 = true then (some t218) else (some false)) = some r := H
           have A19 := Aside0.mk A190
           clear A190
           by_cases c20 : t221 = true
           · subst c20
             have H1 : (some t218) = some r := by rw [if_pos rfl] at H; exact H
             clear H
             have H := H1
             clear H1
             obtain rfl := Option.some.inj H
             have hcz21_0 := bk BK214 0
             have hcz21_1 := bk BK214 1
             have hcz21_2 := bk BK214 2
             have hcz21_3 := bk BK214 3
             have hcz21_4 := bk BK214 4
             have hcz21_5 := bk BK214 5
             have hcz21_6 := bk BK214 6
             have hfz21_0 := blk_frozen BK214.out 0
             have hfz21_1 := blk_frozen BK214.out 1
             have hfz21_2 := blk_frozen BK214.out 2
             have hfz21_3 := blk_frozen BK214.out 3
             have hfz21_4 := blk_frozen BK214.out 4
             have hfz21_5 := blk_frozen BK214.out 5
             have hfz21_6 := blk_frozen BK214.out 6
             go_wp2_with (first | ((with_reducible refine gate_callee (f := 113) rfl ?_); refine gl_ 26 Try.func113 #[.string a0_6] ?_; (with_reducible refine (impl_IsPartyCode.calls kj1 a0_6 t218 _ A13.out).mono ?_); rintro e w' ⟨rfl, ⟨nd, rfl⟩⟩; refine ⟨_, rfl, ?_⟩) | ((with_reducible refine gate_callee (f := 113) rfl ?_); refine gl_ 29 Try.func113 #[.string a0_0] ?_; (with_reducible refine (impl_IsPartyCode.calls kj1 a0_0 true _ A14.out).mono ?_); rintro e w' ⟨rfl, ⟨nd, rfl⟩⟩; refine ⟨_, rfl, ?_⟩) | (go_at_call 112; (with_reducible refine (impl_in.calls a0_1 (-1) 6 true _ A16.out).mono ?_); rintro e w' ⟨rfl, ⟨nd, rfl⟩⟩) | (go_at_call 112; (with_reducible refine (impl_in.calls a0_5 0 3 true _ A19.out).mono ?_); rintro e w' ⟨rfl, ⟨nd, rfl⟩⟩))
             go_ret
             exact ⟨by first | rfl | (simp [errW_none, errW_some] <;> rfl) | (simp [*, errW_none, errW_some] <;> rfl), bb_⟩
           · replace c20 := Bool.eq_false_iff.mpr c20
             subst c20
             have H1 : (some false) = some r := by rw [if_neg (show ¬ (false = true) by decide)] at H; exact H
             clear H
             have H := H1
             clear H1
             obtain rfl := Option.some.inj H
             have hcz22_0 := bk BK214 0
             have hcz22_1 := bk BK214 1
             have hcz22_2 := bk BK214 2
             have hcz22_3 := bk BK214 3
             have hcz22_4 := bk BK214 4
             have hcz22_5 := bk BK214 5
             have hcz22_6 := bk BK214 6
             have hfz22_0 := blk_frozen BK214.out 0
             have hfz22_1 := blk_frozen BK214.out 1
             have hfz22_2 := blk_frozen BK214.out 2
             have hfz22_3 := blk_frozen BK214.out 3
             have hfz22_4 := blk_frozen BK214.out 4
             have hfz22_5 := blk_frozen BK214.out 5
             have hfz22_6 := blk_frozen BK214.out 6
             go_wp2_with (first | ((with_reducible refine gate_callee (f := 113) rfl ?_); refine gl_ 26 Try.func113 #[.string a0_6] ?_; (with_reducible refine (impl_IsPartyCode.calls kj1 a0_6 t218 _ A13.out).mono ?_); rintro e w' ⟨rfl, ⟨nd, rfl⟩⟩; refine ⟨_, rfl, ?_⟩) | ((with_reducible refine gate_callee (f := 113) rfl ?_); refine gl_ 29 Try.func113 #[.string a0_0] ?_; (with_reducible refine (impl_IsPartyCode.calls kj1 a0_0 true _ A14.out).mono ?_); rintro e w' ⟨rfl, ⟨nd, rfl⟩⟩; refine ⟨_, rfl, ?_⟩) | (go_at_call 112; (with_reducible refine (impl_in.calls a0_1 (-1) 6 true _ A16.out).mono ?_); rintro e w' ⟨rfl, ⟨nd, rfl⟩⟩) | (go_at_call 112; (with_reducible refine (impl_in.calls a0_5 0 3 false _ A19.out).mono ?_); rintro e w' ⟨rfl, ⟨nd, rfl⟩⟩))
             go_ret
             exact ⟨by first | rfl | (simp [errW_none, errW_some] <;> rfl) | (simp [*, errW_none, errW_some] <;> rfl), bb_⟩
         · replace c18 := Bool.eq_false_iff.mpr c18
           subst c18
           have H1 : (some false) = some r := by rw [if_neg (show ¬ (false = true) by decide)] at H; exact H
           clear H
           have H := H1
           clear H1
           obtain rfl := Option.some.inj H
           have hcz23_0 := bk BK214 0
           have hcz23_1 := bk BK214 1
           have hcz23_2 := bk BK214 2
           have hcz23_3 := bk BK214 3
           have hcz23_4 := bk BK214 4
           have hcz23_5 := bk BK214 5
           have hcz23_6 := bk BK214 6
           have hfz23_0 := blk_frozen BK214.out 0
           have hfz23_1 := blk_frozen BK214.out 1
           have hfz23_2 := blk_frozen BK214.out 2
           have hfz23_3 := blk_frozen BK214.out 3
           have hfz23_4 := blk_frozen BK214.out 4
           have hfz23_5 := blk_frozen BK214.out 5
           have hfz23_6 := blk_frozen BK214.out 6
           go_wp2_with (first | ((with_reducible refine gate_callee (f := 113) rfl ?_); refine gl_ 26 Try.func113 #[.string a0_6] ?_; (with_reducible refine (impl_IsPartyCode.calls kj1 a0_6 t218 _ A13.out).mono ?_); rintro e w' ⟨rfl, ⟨nd, rfl⟩⟩; refine ⟨_, rfl, ?_⟩) | ((with_reducible refine gate_callee (f := 113) rfl ?_); refine gl_ 29 Try.func113 #[.string a0_0] ?_; (with_reducible refine (impl_IsPartyCode.calls kj1 a0_0 true _ A14.out).mono ?_); rintro e w' ⟨rfl, ⟨nd, rfl⟩⟩; refine ⟨_, rfl, ?_⟩) | (go_at_call 112; (with_reducible refine (impl_in.calls a0_1 (-1) 6 true _ A16.out).mono ?_); rintro e w' ⟨rfl, ⟨nd, rfl⟩⟩))
           go_ret
           exact ⟨by first | rfl | (simp [errW_none, errW_some] <;> rfl) | (simp [*, errW_none, errW_some] <;> rfl), bb_⟩
       · replace c17 := Bool.eq_false_iff.mpr c17
         subst c17
         have H1 : (some false) = some r := by rw [if_neg (show ¬ (false = true) by decide)] at H; exact H
         clear H
         have H := H1
         clear H1
         obtain rfl := Option.some.inj H
         have hcz24_0 := bk BK214 0
         have hcz24_1 := bk BK214 1
         have hcz24_2 := bk BK214 2
         have hcz24_3 := bk BK214 3
         have hcz24_4 := bk BK214 4
         have hcz24_5 := bk BK214 5
         have hcz24_6 := bk BK214 6
         have hfz24_0 := blk_frozen BK214.out 0
         have hfz24_1 := blk_frozen BK214.out 1
         have hfz24_2 := blk_frozen BK214.out 2
         have hfz24_3 := blk_frozen BK214.out 3
         have hfz24_4 := blk_frozen BK214.out 4
         have hfz24_5 := blk_frozen BK214.out 5
         have hfz24_6 := blk_frozen BK214.out 6
         go_wp2_with (first | ((with_reducible refine gate_callee (f := 113) rfl ?_); refine gl_ 26 Try.func113 #[.string a0_6] ?_; (with_reducible refine (impl_IsPartyCode.calls kj1 a0_6 t218 _ A13.out).mono ?_); rintro e w' ⟨rfl, ⟨nd, rfl⟩⟩; refine ⟨_, rfl, ?_⟩) | ((with_reducible refine gate_callee (f := 113) rfl ?_); refine gl_ 29 Try.func113 #[.string a0_0] ?_; (with_reducible refine (impl_IsPartyCode.calls kj1 a0_0 true _ A14.out).mono ?_); rintro e w' ⟨rfl, ⟨nd, rfl⟩⟩; refine ⟨_, rfl, ?_⟩) | (go_at_call 112; (with_reducible refine (impl_in.calls a0_1 (-1) 6 false _ A16.out).mono ?_); rintro e w' ⟨rfl, ⟨nd, rfl⟩⟩))
         go_ret
         exact ⟨by first | rfl | (simp [errW_none, errW_some] <;> rfl) | (simp [*, errW_none, errW_some] <;> rfl), bb_⟩
     · replace c15 := Bool.eq_false_iff.mpr c15
       subst c15
       have H1 : (some false) = some r := by rw [if_neg (show ¬ (false = true) by decide)] at H; exact H
       clear H
       have H := H1
       clear H1
       obtain rfl := Option.some.inj H
       have hcz25_0 := bk BK214 0
       have hcz25_1 := bk BK214 1
       have hcz25_2 := bk BK214 2
       have hcz25_3 := bk BK214 3
       have hcz25_4 := bk BK214 4
       have hcz25_5 := bk BK214 5
       have hcz25_6 := bk BK214 6
       have hfz25_0 := blk_frozen BK214.out 0
       have hfz25_1 := blk_frozen BK214.out 1
       have hfz25_2 := blk_frozen BK214.out 2
       have hfz25_3 := blk_frozen BK214.out 3
       have hfz25_4 := blk_frozen BK214.out 4
       have hfz25_5 := blk_frozen BK214.out 5
       have hfz25_6 := blk_frozen BK214.out 6
       go_wp2_with (first | ((with_reducible refine gate_callee (f := 113) rfl ?_); refine gl_ 26 Try.func113 #[.string a0_6] ?_; (with_reducible refine (impl_IsPartyCode.calls kj1 a0_6 t218 _ A13.out).mono ?_); rintro e w' ⟨rfl, ⟨nd, rfl⟩⟩; refine ⟨_, rfl, ?_⟩) | ((with_reducible refine gate_callee (f := 113) rfl ?_); refine gl_ 29 Try.func113 #[.string a0_0] ?_; (with_reducible refine (impl_IsPartyCode.calls kj1 a0_0 false _ A14.out).mono ?_); rintro e w' ⟨rfl, ⟨nd, rfl⟩⟩; refine ⟨_, rfl, ?_⟩))
       go_ret
       exact ⟨by first | rfl | (simp [errW_none, errW_some] <;> rfl) | (simp [*, errW_none, errW_some] <;> rfl), bb_⟩
   · rw [if_neg c12] at H
     have c12b0 : (a0_5 == 3) = false := beq_eq_false_iff_ne.mpr c12
     have c12b1 : (a0_5 != 3) = true := bne_iff_ne.mpr c12
     replace H := Option.bind_eq_some_iff.mp H
     obtain ⟨t222, A260, H⟩ := H
     replace H : (if t222 = true then ((impl_in.f a0_1 (-1) 6).bind fun t223 => (if t223 = true then (if x3_1 = true then ((impl_in.f a0_5 0 3).bind fun t224 => (if t224 = true then (some (a0_6.toList == ([] : List UInt8))) else (some false))) else (some false)) else (some false))) else (some false)) = some r := H
     have A26 := Aside0.mk A260
     clear A260
     by_cases c27 : t222 = true
     · subst c27
       have H1 : ((impl_in.f a0_1 (-1) 6).bind fun t223 => (if t223 = true then (if x3_1 = true then ((impl_in.f a0_5 0 3).bind fun t224 => (if t224 = true then (some (a0_6.toList == ([] : List UInt8))) else (some false))) else (some false)) else (some false))) = some r := by rw [if_pos rfl] at H; exact H
       clear H
       have H := H1
       clear H1
       replace H := Option.bind_eq_some_iff.mp H
       obtain ⟨t223, A280, H⟩ := H
       replace H : (if t223 = true then (if x3_1 = true then ((impl_in.f a0_5 0 3).bind fun t224 => (if t224 = true then (some (a0_6.toList == ([] : List UInt8))) else (some false))) else (some false)) else (some false)) = some r := H
       have A28 := Aside0.mk A280
       clear A280
       by_cases c29 : t223 = true
       · subst c29
         have H1 : (if x3_1 = true then ((impl_in.f a0_5 0 3).bind fun t224 => (if t224 = true then (some (a0_6.toList == ([] : List UInt8))) else (some false))) else (some false)) = some r := by rw [if_pos rfl] at H; exact H
         clear H
         have H := H1
         clear H1
         by_cases c30 : x3_1 = true
         · subst c30
           have H1 : ((impl_in.f a0_5 0 3).bind fun t224 => (if t224 = true then (some (a0_6.toList == ([] : List UInt8))) else (some false))) = some r := by rw [if_pos rfl] at H; exact H
           clear H
           have H := H1
           clear H1
           replace H := Option.bind_eq_some_iff.mp H
           obtain ⟨t224, A310, H⟩ := H
           replace H : (if t224 = true then (some (a0_6.toList == ([] : List UInt8))) else (some false)) = some r := H
           have A31 := Aside0.mk A310
           clear A310
           by_cases c32 : t224 = true
           · subst c32
             have H1 : (some (a0_6.toList == ([] : List UInt8))) = some r := by rw [if_pos rfl] at H; exact H
             clear H
             have H := H1
             clear H1
             obtain rfl := Option.some.inj H
             have hcz33_0 := bk BK214 0
             have hcz33_1 := bk BK214 1
             have hcz33_2 := bk BK214 2
             have hcz33_3 := bk BK214 3
             have hcz33_4 := bk BK214 4
             have hcz33_5 := bk BK214 5
             have hcz33_6 := bk BK214 6
             have hfz33_0 := blk_frozen BK214.out 0
             have hfz33_1 := blk_frozen BK214.out 1
             have hfz33_2 := blk_frozen BK214.out 2
             have hfz33_3 := blk_frozen BK214.out 3
             have hfz33_4 := blk_frozen BK214.out 4
             have hfz33_5 := blk_frozen BK214.out 5
             have hfz33_6 := blk_frozen BK214.out 6
             go_wp2_with (first | ((with_reducible refine gate_callee (f := 113) rfl ?_); refine gl_ 29 Try.func113 #[.string a0_0] ?_; (with_reducible refine (impl_IsPartyCode.calls kj1 a0_0 true _ A26.out).mono ?_); rintro e w' ⟨rfl, ⟨nd, rfl⟩⟩; refine ⟨_, rfl, ?_⟩) | (go_at_call 112; (with_reducible refine (impl_in.calls a0_1 (-1) 6 true _ A28.out).mono ?_); rintro e w' ⟨rfl, ⟨nd, rfl⟩⟩) | (go_at_call 112; (with_reducible refine (impl_in.calls a0_5 0 3 true _ A31.out).mono ?_); rintro e w' ⟨rfl, ⟨nd, rfl⟩⟩))
             go_ret
             exact ⟨by first | rfl | (simp [errW_none, errW_some] <;> rfl) | (simp [*, errW_none, errW_some] <;> rfl), bb_⟩
           · replace c32 := Bool.eq_false_iff.mpr c32
             subst c32
             have H1 : (some false) = some r := by rw [if_neg (show ¬ (false = true) by decide)] at H; exact H
             clear H
             have H := H1
             clear H1
             obtain rfl := Option.some.inj H
             have hcz34_0 := bk BK214 0
             have hcz34_1 := bk BK214 1
             have hcz34_2 := bk BK214 2
             have hcz34_3 := bk BK214 3
             have hcz34_4 := bk BK214 4
             have hcz34_5 := bk BK214 5
             have hcz34_6 := bk BK214 6
             have hfz34_0 := blk_frozen BK214.out 0
             have hfz34_1 := blk_frozen BK214.out 1
             have hfz34_2 := blk_frozen BK214.out 2
             have hfz34_3 := blk_frozen BK214.out 3
             have hfz34_4 := blk_frozen BK214.out 4
             have hfz34_5 := blk_frozen BK214.out 5
             have hfz34_6 := blk_frozen BK214.out 6
             go_wp2_with (first | ((with_reducible refine gate_callee (f := 113) rfl ?_); refine gl_ 29 Try.func113 #[.string a0_0] ?_; (with_reducible refine (impl_IsPartyCode.calls kj1 a0_0 true _ A26.out).mono ?_); rintro e w' ⟨rfl, ⟨nd, rfl⟩⟩; refine ⟨_, rfl, ?_⟩) | (go_at_call 112; (with_reducible refine (impl_in.calls a0_1 (-1) 6 true _ A28.out).mono ?_); rintro e w' ⟨rfl, ⟨nd, rfl⟩⟩) | (go_at_call 112; (with_reducible refine (impl_in.calls a0_5 0 3 false _ A31.out).mono ?_); rintro e w' ⟨rfl, ⟨nd, rfl⟩⟩))
             go_ret
             exact ⟨by first | rfl | (simp [errW_none, errW_some] <;> rfl) | (simp [*, errW_none, errW_some] <;> rfl), bb_⟩
         · replace c30 := Bool.eq_false_iff.mpr c30
           subst c30
           have H1 : (some false) = some r := by rw [if_neg (show ¬ (false = true) by decide)] at H; exact H
           clear H
           have H := H1
           clear H1
           obtain rfl := Option.some.inj H
           have hcz35_0 := bk BK214 0
           have hcz35_1 := bk BK214 1
           have hcz35_2 := bk BK214 2
           have hcz35_3 := bk BK214 3
           have hcz35_4 := bk BK214 4
           have hcz35_5 := bk BK214 5
           have hcz35_6 := bk BK214 6
           have hfz35_0 := blk_frozen BK214.out 0
           have hfz35_1 := blk_frozen BK214.out 1
           have hfz35_2 := blk_frozen BK214.out 2
           have hfz35_3 := blk_frozen BK214.out 3
           have hfz35_4 := blk_frozen BK214.out 4
           have hfz35_5 := blk_frozen BK214.out 5
           have hfz35_6 := blk_frozen BK214.out 6
           go_wp2_with (first | ((with_reducible refine gate_callee (f := 113) rfl ?_); refine gl_ 29 Try.func113 #[.string a0_0] ?_; (with_reducible refine (impl_IsPartyCode.calls kj1 a0_0 true _ A26.out).mono ?_); rintro e w' ⟨rfl, ⟨nd, rfl⟩⟩; refine ⟨_, rfl, ?_⟩) | (go_at_call 112; (with_reducible refine (impl_in.calls a0_1 (-1) 6 true _ A28.out).mono ?_); rintro e w' ⟨rfl, ⟨nd, rfl⟩⟩))
           go_ret
           exact ⟨by first | rfl | (simp [errW_none, errW_some] <;> rfl) | (simp [*, errW_none, errW_some] <;> rfl), bb_⟩
       · replace c29 := Bool.eq_false_iff.mpr c29
         subst c29
         have H1 : (some false) = some r := by rw [if_neg (show ¬ (false = true) by decide)] at H; exact H
         clear H
         have H := H1
         clear H1
         obtain rfl := Option.some.inj H
         have hcz36_0 := bk BK214 0
         have hcz36_1 := bk BK214 1
         have hcz36_2 := bk BK214 2
         have hcz36_3 := bk BK214 3
         have hcz36_4 := bk BK214 4
         have hcz36_5 := bk BK214 5
         have hcz36_6 := bk BK214 6
         have hfz36_0 := blk_frozen BK214.out 0
         have hfz36_1 := blk_frozen BK214.out 1
         have hfz36_2 := blk_frozen BK214.out 2
         have hfz36_3 := blk_frozen BK214.out 3
         have hfz36_4 := blk_frozen BK214.out 4
         have hfz36_5 := blk_frozen BK214.out 5
         have hfz36_6 := blk_frozen BK214.out 6
         go_wp2_with (first | ((with_reducible refine gate_callee (f := 113) rfl ?_); refine gl_ 29 Try.func113 #[.string a0_0] ?_; (with_reducible refine (impl_IsPartyCode.calls kj1 a0_0 true _ A26.out).mono ?_); rintro e w' ⟨rfl, ⟨nd, rfl⟩⟩; refine ⟨_, rfl, ?_⟩) | (go_at_call 112; (with_reducible refine (impl_in.calls a0_1 (-1) 6 false _ A28.out).mono ?_); rintro e w' ⟨rfl, ⟨nd, rfl⟩⟩))
         go_ret
         exact ⟨by first | rfl | (simp [errW_none, errW_some] <;> rfl) | (simp [*, errW_none, errW_some] <;> rfl), bb_⟩
     · replace c27 := Bool.eq_false_iff.mpr c27
       subst c27
       have H1 : (some false) = some r := by rw [if_neg (show ¬ (false = true) by decide)] at H; exact H
       clear H
       have H := H1
       clear H1
       obtain rfl := Option.some.inj H
       have hcz37_0 := bk BK214 0
       have hcz37_1 := bk BK214 1
       have hcz37_2 := bk BK214 2
       have hcz37_3 := bk BK214 3
       have hcz37_4 := bk BK214 4
       have hcz37_5 := bk BK214 5
       have hcz37_6 := bk BK214 6
       have hfz37_0 := blk_frozen BK214.out 0
       have hfz37_1 := blk_frozen BK214.out 1
       have hfz37_2 := blk_frozen BK214.out 2
       have hfz37_3 := blk_frozen BK214.out 3
       have hfz37_4 := blk_frozen BK214.out 4
       have hfz37_5 := blk_frozen BK214.out 5
       have hfz37_6 := blk_frozen BK214.out 6
       go_wp2_with (first | ((with_reducible refine gate_callee (f := 113) rfl ?_); refine gl_ 29 Try.func113 #[.string a0_0] ?_; (with_reducible refine (impl_IsPartyCode.calls kj1 a0_0 false _ A26.out).mono ?_); rintro e w' ⟨rfl, ⟨nd, rfl⟩⟩; refine ⟨_, rfl, ?_⟩))
       go_ret
       exact ⟨by first | rfl | (simp [errW_none, errW_some] <;> rfl) | (simp [*, errW_none, errW_some] <;> rfl), bb_⟩

end Go.Proofs.Ytmfbkbbgokjhnaa.F
namespace Go.Proofs.Ytmfbkbbgokjhnaa.F
open Go.RowKit Go.Proofs.YtmfbkbbgokjhnaaW.PrintWords Go.Proofs.YtmfbkbbgokjhnaaW.PrintLast Go.Proofs.YtmfbkbbgokjhnaaW.PrintMore
attribute [local go_sem] max2_int min2_int max_two min_two max_three min_three max_four min_four   -- for this text's walks alone
set_option linter.unusedVariables false
set_option linter.unusedSimpArgs false

-- NOT PRINTED: function 124 (impl_findClause_1)

/-! ### impl_findClause: function 102 -/
def hasCode (code : ByteArray) (x : S94) : Bool := x.f0.toList == code.toList
theorem findClause_1.calls (B : Nat) (code : ByteArray) (x : S94) (w : World) (hB : B < w.heap.size) (hc : w.cell? ⟨B, 0, none⟩ = some (.string code)) :
 Calls Try.prog 124 #[val_T94 x, .pointer (some ⟨B, 0, none⟩)] w fun e w' => e = .returned (.bool (hasCode code x)) ∧ Below w.heap.size w w' := by
 have hu := Try.underlying94
 unfold val_T94 hasCode
 go_enter Try.func124, Try.ntmps124
 go_wp2
 go_ret
 exact ⟨rfl, below_alloc (Below.refl _ _) _⟩
def impl_findClause.f (l0 : List S94) (a1 : ByteArray) : Option Int := some (idxP (hasCode a1) l0)
theorem impl_findClause.calls (A0 : Option Addr) (c0 : Nat) (l0 : List S94) (a1 : ByteArray) (r : Int) (w : World) (hr0 : Kd.C k94 w A0 l0.length l0) (hc0 : l0.length ≤ c0) (h : impl_findClause.f l0 a1 = some r) :
 Calls Try.prog 102 #[.slice A0 l0.length c0, .string a1] w fun e w' => e = .returned (.int .i64 r) ∧ Below w.heap.size w w' := by
 obtain rfl := Option.some.inj h
 clear h
 have hb0 : Below w.heap.size w (w.alloc (.cells #[.string a1] 9)) := below_alloc (Below.refl _ _) _
 have e1 : ∀ args w, (callFunc 124 args).run Try.prog w = .ok (.enter 124 args) w := enters_of Try.func124 (by kernel_rfl) rfl
 have HA := Aside0.mk (IndexFunc_T94.calls 124 #[.pointer (some ⟨w.heap.size, 0, none⟩)] (hasCode a1) A0 c0 l0 (w.alloc (.cells #[.string a1] 9)) (Kd.C_below hr0 hb0) hc0 e1 (fun W x hx hW => by
  have hsz : w.heap.size < W.heap.size := by have := hW.size; simp at this; omega
  exact findClause_1.calls w.heap.size a1 x W hsz ((hW.cell (p := ⟨w.heap.size, 0, none⟩) (by simp)).trans (by simp))))
 have HB := Aside0.mk hb0
 clear hr0 hc0 hb0
 generalize idxP (hasCode a1) l0 = q at HA
 go_enter Try.func102, Try.ntmps102
 go_wp2_with (go_at_call 123; refine HA.out.mono ?_; rintro e w' ⟨rfl, hb⟩)
 go_ret
 exact ⟨rfl, below_then HB.out HB.out.size hb⟩

/-! ### impl_IsRulebook: function 66 -/
def needB (n : Int) : Bool := decide (0 ≤ n ∧ n ≤ 2)
def clauseB (c : S94) : Bool := codeB c.f0 && decide (-1 ≤ c.f1 ∧ c.f1 ≤ 6) && needB c.f2 && needB c.f3 && needB c.f4 && decide (0 ≤ c.f5 ∧ c.f5 ≤ 3) && (if c.f5 = 3 then codeB c.f6 else c.f6.toList == [])
def linkB (l : List S94) (i : Nat) : Bool := decide (idxP (hasCode (l.getD i z94).f0) l = i) && decide ((l.getD i z94).f5 = 3 → (i : Int) < idxP (hasCode (l.getD i z94).f6) l)
def lastB (c : S94) : Bool := decide (c.f1 = -1 ∧ c.f2 + c.f3 + c.f4 = 0 ∧ c.f5 ≠ 3)
def rulebookB (l : List S94) : Bool := decide (1 ≤ l.length ∧ l.length ≤ 12) && l.all clauseB && decide (∀ i, i < l.length → linkB l i = true) && lastB (l.getD (l.length - 1) z94)
def clausesAt (k : Nat) (l : List S94) : Bool := l.all fun c => impl_IsClause.f k c.f0 c.f1 c.f2 c.f3 c.f4 c.f5 c.f6 == some (clauseB c)
def impl_IsRulebook.f (k : Nat) (l0 : List S94) : Option Bool := if clausesAt k l0 = true then some (rulebookB l0) else none
theorem impl_IsRulebook.mono : ∀ a0 k, LeO (impl_IsRulebook.f k a0) (impl_IsRulebook.f (k + 1) a0) := by
 intro a0 k r h
 unfold impl_IsRulebook.f at h ⊢
 by_cases hc : clausesAt k a0 = true
 · rw [if_pos hc] at h
   have : clausesAt (k + 1) a0 = true := by
    unfold clausesAt at hc ⊢
    rw [List.all_eq_true] at hc ⊢
    intro x hx
    have := hc x hx
    rw [beq_iff_eq] at this ⊢
    exact impl_IsClause.mono _ _ _ _ _ _ _ k _ this
   rw [if_pos this]; exact h
 · rw [if_neg hc] at h; cases h
theorem rd_at_C (l : List S94) (i : Nat) (h : i < l.length) : rd_T94 l (i : Int) = l[i] := by
 simp [rd_T94, List.getD_eq_getElem?_getD, h]
theorem getD_C (l : List S94) (i : Nat) (h : i < l.length) (x : S94) (hx : l[i] = x) : l.getD i z94 = x := by simp [List.getD_eq_getElem?_getD, h, hx]
theorem rulebook_bad (l : List S94) (i : Nat) (h : i < l.length) (hb : linkB l i = false) : rulebookB l = false := by
 unfold rulebookB
 have : decide (∀ i, i < l.length → linkB l i = true) = false := by
  rw [decide_eq_false_iff_not]; intro H; rw [H i h] at hb; cases hb
 rw [this]; simp
set_option maxHeartbeats 2000000 in
set_option maxRecDepth 100000 in
theorem impl_IsRulebook.calls (k : Nat) (A0 : Option Addr) (c0 : Nat) (l0 : List S94) (r : Bool) (w : World) (hr0 : Kd.C k94 w A0 l0.length l0) (hc0 : l0.length ≤ c0) (h : impl_IsRulebook.f k l0 = some r) :
 Calls Try.prog 66 #[.slice A0 l0.length c0] w fun e w' => e = .returned (.bool r) ∧ Below w.heap.size w w' := by
 have hbig : l0.length ≤ 9223372036854775807 := hr0.2.1
 have hu := Try.underlying94
 unfold impl_IsRulebook.f at h
 by_cases hcl : clausesAt k l0 = true
 · rw [if_pos hcl] at h
   obtain rfl := Option.some.inj h
   clear h
   have hcl' : ∀ x, x ∈ l0 → impl_IsClause.f k x.f0 x.f1 x.f2 x.f3 x.f4 x.f5 x.f6 = some (clauseB x) := fun x hx => by
    have := List.all_eq_true.1 hcl x hx
    exact beq_iff_eq.1 this
   have e1 : ∀ args w, (callFunc 101 args).run Try.prog w = .ok (.enter 101 args) w := enters_of Try.func101 (by kernel_rfl) rfl
   have HA := Aside0.mk (all_T94.calls 101 #[] clauseB A0 c0 l0 w hr0 hc0 e1 (fun W x hx hW => impl_IsClause.calls k x.f0 x.f1 x.f2 x.f3 x.f4 x.f5 x.f6 (clauseB x) W (hcl' x hx)))
   have HF := Aside0.mk (fun (W : World) (hW : Below w.heap.size w W) (a : ByteArray) => impl_findClause.calls A0 c0 l0 a (idxP (hasCode a) l0) W (Kd.C_below hr0 hW) hc0 rfl)
   have HR0 := Aside0.mk hr0
   clear hr0 hc0 hcl hcl' e1
   by_cases hlen : 1 ≤ l0.length ∧ l0.length ≤ 12
   · have s1 : ¬ (l0.length : Int) < 1 := by omega
     have s2 : ¬ (12 : Int) < (l0.length : Int) := by omega
     cases hall : l0.all clauseB with
     | false =>
      have FIN := Aside0.mk (show rulebookB l0 = false by unfold rulebookB; rw [hall]; simp)
      rw [hall] at HA
      clear hall hlen
      go_enter Try.func66, Try.ntmps66
      go_wp2_with (go_at_call 100; refine HA.out.mono ?_; rintro e w' ⟨rfl, hb⟩)
      go_ret
      exact ⟨by rw [FIN.out]; rfl, hb⟩
     | true =>
      have ALL := Aside0.mk hall
      have HLEN := Aside0.mk hlen
      rw [hall] at HA
      clear hall hlen
      go_enter Try.func66, Try.ntmps66
      go_wp2_with (go_at_call 100; refine HA.out.mono ?_; rintro e w1 ⟨rfl, hb⟩)
      have HB1 := Aside0.mk hb
      clear hb
      go_loopg [21] l0.length (fun gg s21 wr => ∃ kk : Nat, kk ≤ l0.length ∧ l0.length - kk ≤ gg ∧ s21 = .int .i64 kk ∧ Aside0 (Below w.heap.size w wr) ∧ Aside0 (∀ j, j < kk → linkB l0 j = true))
      case atStart => exact ⟨0, by omega, by omega, rfl, HB1, ⟨fun j h => by omega⟩⟩
      case round =>
       clear HB1
       obtain ⟨kk, hkk, hg, rfl, BW, A⟩ := hrel
       by_cases hlt : kk < l0.length
       · have hltz : (kk : Int) < (l0.length : Int) := by omega
         have o2 := at_T94 HR0.out (kk : Int) (by omega) (by omega)
         rw [rd_at_C l0 kk hlt, Int.toNat_natCast] at o2
         have s7 : 0 ≤ (kk : Int) := by omega
         have X := Aside0.mk (getD_C l0 kk hlt l0[kk] rfl)
         generalize l0[kk] = x at o2 X
         obtain ⟨ae, e_ae, hz0, hz1, hz2, hz3, hz4, hz5, hz6⟩ := o2
         cases e_ae
         replace hz0 := (BW.out.cell (World.block_lt_of_cell? w _ hz0)).trans hz0
         replace hz1 := (BW.out.cell (World.block_lt_of_cell? w _ hz1)).trans hz1
         replace hz2 := (BW.out.cell (World.block_lt_of_cell? w _ hz2)).trans hz2
         replace hz3 := (BW.out.cell (World.block_lt_of_cell? w _ hz3)).trans hz3
         replace hz4 := (BW.out.cell (World.block_lt_of_cell? w _ hz4)).trans hz4
         replace hz5 := (BW.out.cell (World.block_lt_of_cell? w _ hz5)).trans hz5
         replace hz6 := (BW.out.cell (World.block_lt_of_cell? w _ hz6)).trans hz6
         have B1 := Aside0.mk (below_alloc BW.out (.cells #[.string x.f0, .int .i64 x.f1, .int .i64 x.f2, .int .i64 x.f3, .int .i64 x.f4, .int .i64 x.f5, .string x.f6] 94))
         have F1 := Aside0.mk (HF.out _ B1.out x.f0)
         have rq := idxP_range (hasCode x.f0) l0
         have rq2 := idxP_range (hasCode x.f6) l0
         have L0 := Aside0.mk (show linkB l0 kk = (decide (idxP (hasCode x.f0) l0 = kk) && decide (x.f5 = 3 → (kk : Int) < idxP (hasCode x.f6) l0)) by unfold linkB; rw [X.out])
         have F2 := Aside0.mk (fun (W : World) (hW : Below w.heap.size w W) => HF.out W hW x.f6)
         generalize idxP (hasCode x.f0) l0 = q at F1 rq L0
         generalize idxP (hasCode x.f6) l0 = q2 at F2 rq2 L0
         by_cases hq : q = (kk : Int)
         · subst hq
           by_cases h3 : x.f5 = 3
           · have T3 : (x.f5 == 3) = true := by simpa using h3
             have L1 := Aside0.mk (show linkB l0 kk = decide ((kk : Int) < q2) by rw [L0.out]; simp [h3])
             clear h3 L0
             by_cases h4 : q2 ≤ (kk : Int)
             · have BAD := Aside0.mk (rulebook_bad l0 kk hlt (by rw [L1.out]; exact decide_eq_false (by omega)))
               go_wp2_with (first | (go_at_call 102; refine F1.out.mono ?_; rintro e w2 ⟨rfl, hb⟩; clear F1; have g5 := (hb.cell (p := ⟨wr.heap.size, 5, none⟩) (by simp)).trans (by simp : _ = some (Value.int .i64 x.f5)); have g6 := (hb.cell (p := ⟨wr.heap.size, 6, none⟩) (by simp)).trans (by simp : _ = some (Value.string x.f6)); have B2 := Aside0.mk (below_then B1.out B1.out.size hb); clear hb) | (go_at_call 102; refine (F2.out _ B2.out).mono ?_; rintro e w3 ⟨rfl, hb⟩; have B3 := Aside0.mk (below_then B2.out B2.out.size hb); clear hb))
               go_ret
               exact ⟨by rw [BAD.out]; rfl, B3.out⟩
             · have GOOD := Aside0.mk (show linkB l0 kk = true by rw [L1.out]; exact decide_eq_true (by omega))
               go_wp2_with (first | (go_at_call 102; refine F1.out.mono ?_; rintro e w2 ⟨rfl, hb⟩; clear F1; have g5 := (hb.cell (p := ⟨wr.heap.size, 5, none⟩) (by simp)).trans (by simp : _ = some (Value.int .i64 x.f5)); have g6 := (hb.cell (p := ⟨wr.heap.size, 6, none⟩) (by simp)).trans (by simp : _ = some (Value.string x.f6)); have B2 := Aside0.mk (below_then B1.out B1.out.size hb); clear hb) | (go_at_call 102; refine (F2.out _ B2.out).mono ?_; rintro e w3 ⟨rfl, hb⟩; have B3 := Aside0.mk (below_then B2.out B2.out.size hb); clear hb))
               go_roundg (l0.length - (kk + 1))
               case measure => omega
               case rel =>
                refine ⟨kk + 1, by omega, by omega, by go_num, B3, ⟨fun j hjk => ?_⟩⟩
                by_cases e : j = kk
                · subst e; exact GOOD.out
                · exact A.out j (by omega)
           · have T3 : (x.f5 == 3) = false := by simpa using h3
             have GOOD := Aside0.mk (show linkB l0 kk = true by rw [L0.out]; simp [h3])
             clear h3 L0 F2
             go_wp2_with (go_at_call 102; refine F1.out.mono ?_; rintro e w2 ⟨rfl, hb⟩; clear F1; have g5 := (hb.cell (p := ⟨wr.heap.size, 5, none⟩) (by simp)).trans (by simp : _ = some (Value.int .i64 x.f5)); have B2 := Aside0.mk (below_then B1.out B1.out.size hb); clear hb)
             go_roundg (l0.length - (kk + 1))
             case measure => omega
             case rel =>
              refine ⟨kk + 1, by omega, by omega, by go_num, B2, ⟨fun j hjk => ?_⟩⟩
              by_cases e : j = kk
              · subst e; exact GOOD.out
              · exact A.out j (by omega)
         · have T3 : (q != (kk : Int)) = true := by simpa using hq
           have BAD := Aside0.mk (rulebook_bad l0 kk hlt (by rw [L0.out, decide_eq_false hq]; rfl))
           clear hq L0 F2
           go_wp2_with (go_at_call 102; refine F1.out.mono ?_; rintro e w2 ⟨rfl, hb⟩; have B2 := Aside0.mk (below_then B1.out B1.out.size hb); clear hb)
           go_ret
           exact ⟨by rw [BAD.out]; rfl, B2.out⟩
       · have hltz : ¬ (kk : Int) < (l0.length : Int) := by omega
         have LINK := Aside0.mk (decide_eq_true (show ∀ i, i < l0.length → linkB l0 i = true from fun i hi => A.out i (by omega)))
         have h0 : l0.length - 1 < l0.length := by have := HLEN.out; omega
         have o2 := at_T94 HR0.out ((l0.length - 1 : Nat) : Int) (by omega) (by omega)
         rw [rd_at_C l0 (l0.length - 1) h0, Int.toNat_natCast] at o2
         have X := Aside0.mk (getD_C l0 (l0.length - 1) h0 l0[l0.length - 1] rfl)
         have CB := Aside0.mk (List.all_eq_true.1 ALL.out l0[l0.length - 1] (List.getElem_mem h0))
         have s0 : IntKind.i64.wrap ((l0.length : Int) - 1) = (l0.length : Int) - 1 := IntWalk.i64_in _ (by omega)
         have s4 : ((l0.length : Int) - 1).toNat = l0.length - 1 := by omega
         have s5 : 1 ≤ (l0.length : Int) := by omega
         have s6 : (l0.length : Int) - 1 < (l0.length : Int) := by omega
         have s8 : 0 ≤ (l0.length : Int) - 1 := by omega
         generalize l0[l0.length - 1] = x at o2 X CB
         obtain ⟨ae, e_ae, hz0, hz1, hz2, hz3, hz4, hz5, hz6⟩ := o2
         cases e_ae
         replace hz0 := (BW.out.cell (World.block_lt_of_cell? w _ hz0)).trans hz0
         replace hz1 := (BW.out.cell (World.block_lt_of_cell? w _ hz1)).trans hz1
         replace hz2 := (BW.out.cell (World.block_lt_of_cell? w _ hz2)).trans hz2
         replace hz3 := (BW.out.cell (World.block_lt_of_cell? w _ hz3)).trans hz3
         replace hz4 := (BW.out.cell (World.block_lt_of_cell? w _ hz4)).trans hz4
         replace hz5 := (BW.out.cell (World.block_lt_of_cell? w _ hz5)).trans hz5
         replace hz6 := (BW.out.cell (World.block_lt_of_cell? w _ hz6)).trans hz6
         have hn : 0 ≤ x.f2 ∧ x.f2 ≤ 2 ∧ 0 ≤ x.f3 ∧ x.f3 ≤ 2 ∧ 0 ≤ x.f4 ∧ x.f4 ≤ 2 := by
          have := CB.out
          simp only [clauseB, needB, Bool.and_eq_true, decide_eq_true_eq] at this
          omega
         obtain ⟨n0, n1, n2, n3, n4, n5⟩ := hn
         have FIN := Aside0.mk (show rulebookB l0 = lastB x by
          unfold rulebookB
          rw [decide_eq_true HLEN.out, ALL.out, LINK.out, X.out]; rfl)
         have B1 := Aside0.mk (below_alloc BW.out (.cells #[.string x.f0, .int .i64 x.f1, .int .i64 x.f2, .int .i64 x.f3, .int .i64 x.f4, .int .i64 x.f5, .string x.f6] 94))
         clear X CB LINK
         by_cases c1 : x.f1 = -1
         · have T1 : (x.f1 == -1) = true := by simpa using c1
           by_cases c2 : x.f2 + x.f3 + x.f4 = 0
           · have T2 : (x.f2 + x.f3 + x.f4 == 0) = true := by simpa using c2
             have FIN2 := Aside0.mk (show lastB x = (x.f5 != 3) by unfold lastB; rw [Bool.eq_iff_iff]; simp [c1, c2])
             clear c1 c2
             go_wp2
             go_ret
             exact ⟨by rw [FIN.out, FIN2.out]; rfl, B1.out⟩
           · have T2 : (x.f2 + x.f3 + x.f4 == 0) = false := by simpa using c2
             have FIN2 := Aside0.mk (show lastB x = false by unfold lastB; simp [c2])
             clear c1 c2
             go_wp2
             go_ret
             exact ⟨by rw [FIN.out, FIN2.out]; rfl, B1.out⟩
         · have T1 : (x.f1 == -1) = false := by simpa using c1
           have FIN2 := Aside0.mk (show lastB x = false by unfold lastB; simp [c1])
           clear c1
           go_wp2
           go_ret
           exact ⟨by rw [FIN.out, FIN2.out]; rfl, B1.out⟩
   · have FIN := Aside0.mk (show rulebookB l0 = false by unfold rulebookB; rw [decide_eq_false hlen]; simp)
     by_cases h1 : (l0.length : Int) < 1
     · clear hlen
       go_enter Try.func66, Try.ntmps66
       go_wp2
       go_ret
       exact ⟨by rw [FIN.out]; rfl, Below.refl _ _⟩
     · have s2 : (12 : Int) < (l0.length : Int) := by omega
       clear hlen
       go_enter Try.func66, Try.ntmps66
       go_wp2
       go_ret
       exact ⟨by rw [FIN.out]; rfl, Below.refl _ _⟩
 · rw [if_neg hcl] at h; cases h

/-! ### impl_IsAmount: function 84 -/
def impl_IsAmount.f (a0 : Int) : Option (Bool) := (impl_in.f a0 0 1000000000).bind fun t225 => (some t225)
set_option maxHeartbeats 8000000 in
set_option maxRecDepth 100000 in
theorem impl_IsAmount.calls (a0 : Int) (r : Bool) (w : World) (h : impl_IsAmount.f a0 = some r) :
 Calls Try.prog 84 #[.int .i64 a0] w fun e w' => e = .returned (.bool r) ∧ Drawn0 w w' := by
 have H : ((impl_in.f a0 0 1000000000).bind fun t225 => (some t225)) = some r := h
 clear h
 replace H := Option.bind_eq_some_iff.mp H
 obtain ⟨t225, A20, H⟩ := H
 replace H : (some t225) = some r := H
 have A2 := Aside0.mk A20
 clear A20
 obtain rfl := Option.some.inj H
 go_enter Try.func84, Try.ntmps84
 go_wp2_with (first | ((with_reducible refine gate_callee (f := 112) rfl ?_); refine gl_ 4 Try.func112 #[.int .i64 a0, .int .i64 0, .int .i64 1000000000] ?_; (with_reducible refine (impl_in.calls a0 0 1000000000 t225 _ A2.out).mono ?_); rintro e w' ⟨rfl, ⟨nd, rfl⟩⟩; refine ⟨_, rfl, ?_⟩))
 go_ret
 exact ⟨by first | rfl | (simp; done) | (simp [*]; done), by repeat (first | exact Drawn0.refl _ | apply Drawn0.step)⟩

end Go.Proofs.Ytmfbkbbgokjhnaa.F
namespace Go.Proofs.Ytmfbkbbgokjhnaa.F
open Go.RowKit Go.Proofs.YtmfbkbbgokjhnaaW.PrintWords Go.Proofs.YtmfbkbbgokjhnaaW.PrintLast Go.Proofs.YtmfbkbbgokjhnaaW.PrintMore
attribute [local go_sem] max2_int min2_int max_two min_two max_three min_three max_four min_four   -- for this text's walks alone
set_option linter.unusedVariables false
set_option linter.unusedSimpArgs false

/-! ### impl_daysIn: function 136 -/
def impl_daysIn.j0 : Nat → Int → Bool → Option (Int)
 | 0, _, _ => none
 | k + 1, x1, x5 => if x5 = true then (some 29) else (if x1 = 2 then (some 28) else (if x1 = 4 then (some 30) else (if x1 = 6 then (some 30) else (if x1 = 9 then (some 30) else (if x1 = 11 then (some 30) else (some 31))))))
def impl_daysIn.f (k : Nat) (a0 : Int) (a1 : Int) : Option (Int) := if a1 = 2 then (impl_daysIn.j0 k a1 ((Int.tmod a0 4) == 0)) else (impl_daysIn.j0 k a1 false)
theorem impl_daysIn.mono_l : ∀ k, (∀ y0 y1, LeO (impl_daysIn.j0 k y0 y1) (impl_daysIn.j0 (k + 1) y0 y1))
 | 0 => fun _ _ r h => by simp [impl_daysIn.j0] at h
 | k + 1 => by
  have ih0 := impl_daysIn.mono_l k
  · intro y0 y1
    unfold impl_daysIn.j0
    repeat' first
    | (with_reducible exact ih0 _ _)
    | (with_reducible exact LeO.refl _)
    | (with_reducible exact LeO.none _)
    | (with_reducible refine LeO.ite ?_ ?_)
    | (with_reducible refine LeO.bind ?_ (fun _ => ?_))
    | exact ih0 _ _
    | exact LeO.none _
    | refine LeO.ite ?_ ?_
    | refine LeO.bind ?_ (fun _ => ?_)
theorem impl_daysIn.mono : ∀ a0 a1 k, LeO (impl_daysIn.f k a0 a1) (impl_daysIn.f (k + 1) a0 a1) := by
 intro a0 a1 k
 have ih0 := impl_daysIn.mono_l k
 unfold impl_daysIn.f
 repeat' first
  | (with_reducible exact ih0 _ _)
  | (with_reducible exact LeO.refl _)
  | (with_reducible exact LeO.none _)
  | (with_reducible refine LeO.ite ?_ ?_)
  | (with_reducible refine LeO.bind ?_ (fun _ => ?_))
  | exact ih0 _ _
  | exact LeO.none _
  | refine LeO.ite ?_ ?_
  | refine LeO.bind ?_ (fun _ => ?_)
set_option maxHeartbeats 8000000 in
set_option maxRecDepth 100000 in
theorem impl_daysIn.calls (k : Nat) (a0 : Int) (a1 : Int) (r : Int) (w : World) (h : impl_daysIn.f k a0 a1 = some r) :
 Calls Try.prog 136 #[.int .i64 a0, .int .i64 a1] w fun e w' => e = .returned (.int .i64 r) ∧ Drawn0 w w' := by
 have H : (if a1 = 2 then (impl_daysIn.j0 k a1 ((Int.tmod a0 4) == 0)) else (impl_daysIn.j0 k a1 false)) = some r := h
 clear h
 have HC3 := Aside0.mk H
 clear H
 go_enter Try.func136, Try.ntmps136
 go_upto_region 1 with (fail)
 go_cut [5] (fun v5 wc => ∃ (kq : Nat) (x5_2 : Bool), v5 = .bool x5_2 ∧ Aside0 (impl_daysIn.j0 kq a1 x5_2 = some r) ∧ Aside0 (kq ≤ k) ∧ Drawn0 w wc)
 case first =>
  have H := HC3.out
  clear HC3
  by_cases c4 : a1 = 2
  · rw [if_pos c4] at H
    have c4b0 : (a1 == 2) = true := beq_iff_eq.mpr c4
    have c4b1 : (a1 != 2) = false := bne_eq_false_iff_eq.mpr c4
    clear c4
    (first | rw [c4b0] | (simp only [i64_w, i32_w]; rw [c4b0]) | skip)
    have H' := Aside0.mk H
    clear H
    go_wp2
    go_meet
    case rel => exact ⟨_, (((Int.tmod a0 4) == 0)), (by first | rfl | (simp; done) | (simp [*]; done)), H', ⟨by first | omega | exact Nat.le_refl _⟩, by repeat (first | exact Drawn0.refl _ | apply Drawn0.step)⟩
  · rw [if_neg c4] at H
    have c4b0 : (a1 == 2) = false := beq_eq_false_iff_ne.mpr c4
    have c4b1 : (a1 != 2) = true := bne_iff_ne.mpr c4
    (first | rw [c4b0] | (simp only [i64_w, i32_w]; rw [c4b0]) | skip)
    have H' := Aside0.mk H
    clear H
    go_wp2
    go_meet
    case rel => exact ⟨_, (false), (by first | rfl | (simp; done) | (simp [*]; done)), H', ⟨by first | omega | exact Nat.le_refl _⟩, by repeat (first | exact Drawn0.refl _ | apply Drawn0.step)⟩
 case rest =>
  clear HC3
  try clear c1
  try clear p2
  try clear c4
  try clear c4b0
  try clear c4b1
  obtain ⟨kq, x5_2, rfl, HA, HJ2, ⟨mc2, rfl⟩⟩ := hcut
  cases kq with
  | zero => exact absurd HA.out (by simp [impl_daysIn.j0])
  | succ kj2 =>
   have H := HA.out
   clear HA
   simp only [impl_daysIn.j0] at H
   by_cases c5 : x5_2 = true
   · subst c5
     have H1 : (some 29) = some r := by rw [if_pos rfl] at H; exact H
     clear H
     have H := H1
     clear H1
     obtain rfl := Option.some.inj H
     go_wp2
     go_ret
     exact ⟨by first | rfl | (simp; done) | (simp [*]; done), by repeat (first | exact Drawn0.refl _ | apply Drawn0.step)⟩
   · replace c5 := Bool.eq_false_iff.mpr c5
     subst c5
     have H1 : (if a1 = 2 then (some 28) else (if a1 = 4 then (some 30) else (if a1 = 6 then (some 30) else (if a1 = 9 then (some 30) else (if a1 = 11 then (some 30) else (some 31)))))) = some r := by rw [if_neg (show ¬ (false = true) by decide)] at H; exact H
     clear H
     have H := H1
     clear H1
     by_cases c6 : a1 = 2
     · rw [if_pos c6] at H
       have c6b0 : (a1 == 2) = true := beq_iff_eq.mpr c6
       have c6b1 : (a1 != 2) = false := bne_eq_false_iff_eq.mpr c6
       clear c6
       obtain rfl := Option.some.inj H
       go_wp2
       go_ret
       exact ⟨by first | rfl | (simp; done) | (simp [*]; done), by repeat (first | exact Drawn0.refl _ | apply Drawn0.step)⟩
     · rw [if_neg c6] at H
       have c6b0 : (a1 == 2) = false := beq_eq_false_iff_ne.mpr c6
       have c6b1 : (a1 != 2) = true := bne_iff_ne.mpr c6
       by_cases c7 : a1 = 4
       · rw [if_pos c7] at H
         have c7b0 : (a1 == 4) = true := beq_iff_eq.mpr c7
         have c7b1 : (a1 != 4) = false := bne_eq_false_iff_eq.mpr c7
         clear c7
         obtain rfl := Option.some.inj H
         go_wp2
         go_ret
         exact ⟨by first | rfl | (simp; done) | (simp [*]; done), by repeat (first | exact Drawn0.refl _ | apply Drawn0.step)⟩
       · rw [if_neg c7] at H
         have c7b0 : (a1 == 4) = false := beq_eq_false_iff_ne.mpr c7
         have c7b1 : (a1 != 4) = true := bne_iff_ne.mpr c7
         by_cases c8 : a1 = 6
         · rw [if_pos c8] at H
           have c8b0 : (a1 == 6) = true := beq_iff_eq.mpr c8
           have c8b1 : (a1 != 6) = false := bne_eq_false_iff_eq.mpr c8
           clear c8
           obtain rfl := Option.some.inj H
           go_wp2
           go_ret
           exact ⟨by first | rfl | (simp; done) | (simp [*]; done), by repeat (first | exact Drawn0.refl _ | apply Drawn0.step)⟩
         · rw [if_neg c8] at H
           have c8b0 : (a1 == 6) = false := beq_eq_false_iff_ne.mpr c8
           have c8b1 : (a1 != 6) = true := bne_iff_ne.mpr c8
           by_cases c9 : a1 = 9
           · rw [if_pos c9] at H
             have c9b0 : (a1 == 9) = true := beq_iff_eq.mpr c9
             have c9b1 : (a1 != 9) = false := bne_eq_false_iff_eq.mpr c9
             clear c9
             obtain rfl := Option.some.inj H
             go_wp2
             go_ret
             exact ⟨by first | rfl | (simp; done) | (simp [*]; done), by repeat (first | exact Drawn0.refl _ | apply Drawn0.step)⟩
           · rw [if_neg c9] at H
             have c9b0 : (a1 == 9) = false := beq_eq_false_iff_ne.mpr c9
             have c9b1 : (a1 != 9) = true := bne_iff_ne.mpr c9
             by_cases c10 : a1 = 11
             · rw [if_pos c10] at H
               have c10b0 : (a1 == 11) = true := beq_iff_eq.mpr c10
               have c10b1 : (a1 != 11) = false := bne_eq_false_iff_eq.mpr c10
               clear c10
               obtain rfl := Option.some.inj H
               go_wp2
               go_ret
               exact ⟨by first | rfl | (simp; done) | (simp [*]; done), by repeat (first | exact Drawn0.refl _ | apply Drawn0.step)⟩
             · rw [if_neg c10] at H
               have c10b0 : (a1 == 11) = false := beq_eq_false_iff_ne.mpr c10
               have c10b1 : (a1 != 11) = true := bne_iff_ne.mpr c10
               obtain rfl := Option.some.inj H
               go_wp2
               go_ret
               exact ⟨by first | rfl | (simp; done) | (simp [*]; done), by repeat (first | exact Drawn0.refl _ | apply Drawn0.step)⟩

/-! ### impl_dayOf: function 132 -/
def impl_dayOf.l0 : Nat → Int → Int → Int → Int → Int → Option (Int)
 | 0, _, _, _, _, _ => none
 | k + 1, x4, x5, x227000, x227001, x227002 => if x5 < x227001 then ((impl_daysIn.f k x227000 x5).bind fun t227 => (impl_dayOf.l0 k (wrap64 (x4 + t227)) (wrap64 (x5 + 1)) x227000 x227001 x227002)) else (some x4)
def impl_dayOf.f (k : Nat) (a0_0 : Int) (a0_1 : Int) (a0_2 : Int) : Option (Int) := impl_dayOf.l0 k (wrap64 ((wrap64 ((wrap64 ((wrap64 (365 * (wrap64 (a0_0 - 1970)))) + (wrap64 (Int.tdiv (wrap64 ((wrap64 (a0_0 - 1970)) + 1)) 4)))) + a0_2)) - 1)) 1 a0_0 a0_1 a0_2
theorem impl_dayOf.mono_l : ∀ k, (∀ y0 y1 y2 y3 y4, LeO (impl_dayOf.l0 k y0 y1 y2 y3 y4) (impl_dayOf.l0 (k + 1) y0 y1 y2 y3 y4))
 | 0 => fun _ _ _ _ _ r h => by simp [impl_dayOf.l0] at h
 | k + 1 => by
  have ih0 := impl_dayOf.mono_l k
  · intro y0 y1 y2 y3 y4
    unfold impl_dayOf.l0
    repeat' first
    | (with_reducible exact ih0 _ _ _ _ _)
    | (with_reducible exact impl_daysIn.mono _ _ _)
    | (with_reducible exact LeO.refl _)
    | (with_reducible exact LeO.none _)
    | (with_reducible refine LeO.ite ?_ ?_)
    | (with_reducible refine LeO.bind ?_ (fun _ => ?_))
    | exact ih0 _ _ _ _ _
    | exact impl_daysIn.mono _ _ _
    | exact LeO.none _
    | refine LeO.ite ?_ ?_
    | refine LeO.bind ?_ (fun _ => ?_)
theorem impl_dayOf.mono : ∀ a0 a1 a2 k, LeO (impl_dayOf.f k a0 a1 a2) (impl_dayOf.f (k + 1) a0 a1 a2) := by
 intro a0 a1 a2 k
 have ih0 := impl_dayOf.mono_l k
 unfold impl_dayOf.f
 repeat' first
  | (with_reducible exact ih0 _ _ _ _ _)
  | (with_reducible exact impl_daysIn.mono _ _ _)
  | (with_reducible exact LeO.refl _)
  | (with_reducible exact LeO.none _)
  | (with_reducible refine LeO.ite ?_ ?_)
  | (with_reducible refine LeO.bind ?_ (fun _ => ?_))
  | exact ih0 _ _ _ _ _
  | exact impl_daysIn.mono _ _ _
  | exact LeO.none _
  | refine LeO.ite ?_ ?_
  | refine LeO.bind ?_ (fun _ => ?_)
set_option maxHeartbeats 8000000 in
set_option maxRecDepth 100000 in
theorem impl_dayOf.calls (k : Nat) (a0_0 : Int) (a0_1 : Int) (a0_2 : Int) (r : Int) (w : World) (h : impl_dayOf.f k a0_0 a0_1 a0_2 = some r) :
 Calls Try.prog 132 #[.agg #[.int .i64 a0_0, .int .i64 a0_1, .int .i64 a0_2]] w fun e w' => e = .returned (.int .i64 r) ∧ Below w.heap.size w w' := by
 have hu147 := Try.underlying147
 have HB := Aside0.mk (Below.refl w.heap.size w)
 have H : (impl_dayOf.l0 k (wrap64 ((wrap64 ((wrap64 ((wrap64 (365 * (wrap64 (a0_0 - 1970)))) + (wrap64 (Int.tdiv (wrap64 ((wrap64 (a0_0 - 1970)) + 1)) 4)))) + a0_2)) - 1)) 1 a0_0 a0_1 a0_2) = some r := h
 clear h
 have H' := Aside0.mk H
 clear H
 go_enter Try.func132, Try.ntmps132
 go_wp2_with (first | ((with_reducible refine gate_dst (N := 1) rfl ?_); refine bx_ 1 #[.int .i64 a0_0, .int .i64 a0_1, .int .i64 a0_2] 147 ?_; intro gb226 hg w2 hbox hb; have n0_ := Aside0.mk (bs_ hb); have n1_ := Aside0.mk (hbox); have n2_ := Aside0.mk ((by rw [hg]; exact (bz_) : w.heap.size ≤ gb226)); have n3_ := Aside0.mk ((by rw [hg]; exact (bz_) : w.heap.size ≤ gb226)); clear HB; revert n0_ n1_ n2_ n3_; intro HB BK226 GW226 GE226; clear hb hbox hg; have hcz3_0 := bk BK226 0; have hcz3_1 := bk BK226 1; have hcz3_2 := bk BK226 2; have hfz3_0 := blk_frozen BK226.out 0; have hfz3_1 := blk_frozen BK226.out 1; have hfz3_2 := blk_frozen BK226.out 2))
 go_loopg [4, 5] k (fun kq v4 v5 w' => ∃ (x4_1 : Int) (x5_1 : Int), v4 = .int .i64 x4_1 ∧ v5 = .int .i64 x5_1 ∧ Aside0 (impl_dayOf.l0 kq x4_1 x5_1 a0_0 a0_1 a0_2 = some r) ∧ Aside0 (kq ≤ k) ∧ Aside0 (w'.heap[gb226]? = some (.cells #[.int .i64 a0_0, .int .i64 a0_1, .int .i64 a0_2] 147 (0, 0))) ∧ Aside0 (Below w.heap.size w w'))
 case atStart => exact ⟨(wrap64 ((wrap64 ((wrap64 ((wrap64 (365 * (wrap64 (a0_0 - 1970)))) + (wrap64 (Int.tdiv (wrap64 ((wrap64 (a0_0 - 1970)) + 1)) 4)))) + a0_2)) - 1)), (1), (by first | rfl | (simp; done) | (simp [*]; done)), (by first | rfl | (simp; done) | (simp [*]; done)), H', ⟨Nat.le_refl _⟩, ⟨by (with_reducible repeat (first | refine blk_drewN ?_ _ | refine blk_drew ?_ | refine blk_alloc ?_ _)); exact BK226.out⟩, ⟨bb_⟩⟩
 case round =>
  clear H'
  try clear c1
  try clear p2
  try clear hcz3_0
  try clear hcz3_1
  try clear hcz3_2
  try clear hfz3_0
  try clear hfz3_1
  try clear hfz3_2
  obtain ⟨x4_1, x5_1, rfl, rfl, HA, HK1, BK226, HB⟩ := hrel
  cases gk with
  | zero => exact absurd HA.out (by simp [impl_dayOf.l0])
  | succ k1 =>
   have H := HA.out
   clear HA
   simp only [impl_dayOf.l0] at H
   by_cases c4 : x5_1 < a0_1
   · rw [if_pos c4] at H
     have c4b0 : decide (x5_1 < a0_1) = true := decide_eq_true c4
     clear c4
     replace H := Option.bind_eq_some_iff.mp H
     obtain ⟨t227, A50, H⟩ := H
     replace H : (impl_dayOf.l0 k1 (wrap64 (x4_1 + t227)) (wrap64 (x5_1 + 1)) a0_0 a0_1 a0_2) = some r := H
     have A5 := Aside0.mk A50
     clear A50
     have H' := Aside0.mk H
     clear H
     have hcz6_0 := bk BK226 0
     have hcz6_1 := bk BK226 1
     have hcz6_2 := bk BK226 2
     have hfz6_0 := blk_frozen BK226.out 0
     have hfz6_1 := blk_frozen BK226.out 1
     have hfz6_2 := blk_frozen BK226.out 2
     go_wp2_with (first | ((with_reducible refine gate_callee (f := 136) rfl ?_); refine gl_ 29 Try.func136 #[.int .i64 a0_0, .int .i64 x5_1] ?_; (with_reducible refine (impl_daysIn.calls k1 a0_0 x5_1 t227 _ A5.out).mono ?_); rintro e w' ⟨rfl, ⟨nd, rfl⟩⟩; refine ⟨_, rfl, ?_⟩))
     go_roundg k1
     case measure => have := HK1.out; omega
     case rel => exact ⟨(wrap64 (x4_1 + t227)), (wrap64 (x5_1 + 1)), (by first | rfl | (simp; done) | (simp [*]; done)), (by first | rfl | (simp; done) | (simp [*]; done)), H', ⟨by have := HK1.out; omega⟩, ⟨by (with_reducible repeat (first | refine blk_drewN ?_ _ | refine blk_drew ?_ | refine blk_alloc ?_ _)); exact BK226.out⟩, ⟨bb_⟩⟩
   · rw [if_neg c4] at H
     have c4b0 : decide (x5_1 < a0_1) = false := decide_eq_false c4
     clear c4
     obtain rfl := Option.some.inj H
     have hcz7_0 := bk BK226 0
     have hcz7_1 := bk BK226 1
     have hcz7_2 := bk BK226 2
     have hfz7_0 := blk_frozen BK226.out 0
     have hfz7_1 := blk_frozen BK226.out 1
     have hfz7_2 := blk_frozen BK226.out 2
     go_wp2
     go_ret
     exact ⟨by first | rfl | (simp [errW_none, errW_some] <;> rfl) | (simp [*, errW_none, errW_some] <;> rfl), bb_⟩

/-! ### impl_isDay: function 118 -/
def impl_isDay.f (k : Nat) (a0 : Int) : Option (Bool) := (impl_dayOf.f k 2069 12 31).bind fun t228 => ((impl_in.f a0 0 t228).bind fun t229 => (some t229))
theorem impl_isDay.mono : ∀ a0 k, LeO (impl_isDay.f k a0) (impl_isDay.f (k + 1) a0) := by
 intro a0 k
 unfold impl_isDay.f
 repeat' first
  | (with_reducible exact impl_dayOf.mono _ _ _ _)
  | (with_reducible exact LeO.refl _)
  | (with_reducible exact LeO.none _)
  | (with_reducible refine LeO.ite ?_ ?_)
  | (with_reducible refine LeO.bind ?_ (fun _ => ?_))
  | exact impl_dayOf.mono _ _ _ _
  | exact LeO.none _
  | refine LeO.ite ?_ ?_
  | refine LeO.bind ?_ (fun _ => ?_)
set_option maxHeartbeats 8000000 in
set_option maxRecDepth 100000 in
theorem impl_isDay.calls (k : Nat) (a0 : Int) (r : Bool) (w : World) (h : impl_isDay.f k a0 = some r) :
 Calls Try.prog 118 #[.int .i64 a0] w fun e w' => e = .returned (.bool r) ∧ Below w.heap.size w w' := by
 have hu147 := Try.underlying147
 have HB := Aside0.mk (Below.refl w.heap.size w)
 have H : ((impl_dayOf.f k 2069 12 31).bind fun t228 => ((impl_in.f a0 0 t228).bind fun t229 => (some t229))) = some r := h
 clear h
 replace H := Option.bind_eq_some_iff.mp H
 obtain ⟨t228, A20, H⟩ := H
 replace H : ((impl_in.f a0 0 t228).bind fun t229 => (some t229)) = some r := H
 have A2 := Aside0.mk A20
 clear A20
 replace H := Option.bind_eq_some_iff.mp H
 obtain ⟨t229, A30, H⟩ := H
 replace H : (some t229) = some r := H
 have A3 := Aside0.mk A30
 clear A30
 obtain rfl := Option.some.inj H
 go_enter Try.func118, Try.ntmps118
 go_wp2_with (first | ((with_reducible refine gate_callee (f := 132) rfl ?_); refine gl_ 5 Try.func132 #[.agg #[.int .i64 2069, .int .i64 12, .int .i64 31]] ?_; (with_reducible refine (impl_dayOf.calls k 2069 12 31 t228 _ A2.out).mono ?_); rintro e w4 ⟨rfl, hb⟩; refine ⟨_, rfl, ?_⟩; have n0_ := Aside0.mk (bs_ hb); clear HB; revert n0_; intro HB; (try clear hb); (try clear hb2); (try clear hk); (try clear hi)) | ((with_reducible refine gate_callee (f := 112) rfl ?_); refine gl_ 6 Try.func112 #[.int .i64 a0, .int .i64 0, .int .i64 t228] ?_; (with_reducible refine (impl_in.calls a0 0 t228 t229 _ A3.out).mono ?_); rintro e w' ⟨rfl, ⟨nd, rfl⟩⟩; refine ⟨_, rfl, ?_⟩))
 go_ret
 exact ⟨by first | rfl | (simp [errW_none, errW_some] <;> rfl) | (simp [*, errW_none, errW_some] <;> rfl), bb_⟩

/-! ### impl_isEventKind: function 119 -/
def impl_isEventKind.f (a0 : Int) : Option (Bool) := (impl_in.f a0 0 6).bind fun t230 => (some t230)
set_option maxHeartbeats 8000000 in
set_option maxRecDepth 100000 in
theorem impl_isEventKind.calls (a0 : Int) (r : Bool) (w : World) (h : impl_isEventKind.f a0 = some r) :
 Calls Try.prog 119 #[.int .i64 a0] w fun e w' => e = .returned (.bool r) ∧ Drawn0 w w' := by
 have H : ((impl_in.f a0 0 6).bind fun t230 => (some t230)) = some r := h
 clear h
 replace H := Option.bind_eq_some_iff.mp H
 obtain ⟨t230, A20, H⟩ := H
 replace H : (some t230) = some r := H
 have A2 := Aside0.mk A20
 clear A20
 obtain rfl := Option.some.inj H
 go_enter Try.func119, Try.ntmps119
 go_wp2_with (first | ((with_reducible refine gate_callee (f := 112) rfl ?_); refine gl_ 4 Try.func112 #[.int .i64 a0, .int .i64 0, .int .i64 6] ?_; (with_reducible refine (impl_in.calls a0 0 6 t230 _ A2.out).mono ?_); rintro e w' ⟨rfl, ⟨nd, rfl⟩⟩; refine ⟨_, rfl, ?_⟩))
 go_ret
 exact ⟨by first | rfl | (simp; done) | (simp [*]; done), by repeat (first | exact Drawn0.refl _ | apply Drawn0.step)⟩

end Go.Proofs.Ytmfbkbbgokjhnaa.F
