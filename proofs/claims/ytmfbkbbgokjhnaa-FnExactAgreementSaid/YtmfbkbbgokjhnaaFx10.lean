-- Written by this session's program (wip/bin/hp.py) over the kit's print: a function's Lean form, and a proof that the call does what it says.
import Derived.Test.YtmfbkbbgokjhnaaFx0
import Derived.Test.YtmfbkbbgokjhnaaSq
import Derived.Test.YtmfbkbbgokjhnaaFx5
import Derived.Test.YtmfbkbbgokjhnaaFx8
namespace Go.Proofs.Ytmfbkbbgokjhnaa.F
open Go.RowKit Go.Proofs.YtmfbkbbgokjhnaaW.PrintWords Go.Proofs.YtmfbkbbgokjhnaaW.PrintLast Go.Proofs.YtmfbkbbgokjhnaaW.PrintMore
attribute [local go_sem] max2_int min2_int max_two min_two max_three min_three max_four min_four   -- for this text's walks alone
set_option linter.unusedVariables false
set_option linter.unusedSimpArgs false

/-! ### spec_IsRulebook: function 55 -/
mutual
def spec_IsRulebook.l0 : Nat → List (S94) → Int → Option (Bool)
 | 0, _, _ => none
 | k + 1, x0, x3 => if x3 < (x0.length : Int) then (if 0 ≤ x3 then ((spec_IsClause.f k ((rd_T94 x0 x3).f0) ((rd_T94 x0 x3).f1) ((rd_T94 x0 x3).f2) ((rd_T94 x0 x3).f3) ((rd_T94 x0 x3).f4) ((rd_T94 x0 x3).f5) ((rd_T94 x0 x3).f6)).bind fun t163 => (if t163 = true then ((spec_l09Find.f k x0 ((rd_T94 x0 x3).f0)).bind fun t164 => (spec_IsRulebook.j1 k x0 x3 (t164 != x3) ((rd_T94 x0 x3).f0) ((rd_T94 x0 x3).f1) ((rd_T94 x0 x3).f2) ((rd_T94 x0 x3).f3) ((rd_T94 x0 x3).f4) ((rd_T94 x0 x3).f5) ((rd_T94 x0 x3).f6))) else (spec_IsRulebook.j1 k x0 x3 true ((rd_T94 x0 x3).f0) ((rd_T94 x0 x3).f1) ((rd_T94 x0 x3).f2) ((rd_T94 x0 x3).f3) ((rd_T94 x0 x3).f4) ((rd_T94 x0 x3).f5) ((rd_T94 x0 x3).f6)))) else (none)) else (if 0 ≤ (wrap64 ((x0.length : Int) - 1)) then (if (wrap64 ((x0.length : Int) - 1)) < (x0.length : Int) then (if ((rd_T94 x0 (wrap64 ((x0.length : Int) - 1))).f1) = (-1) then (if ((rd_T94 x0 (wrap64 ((x0.length : Int) - 1))).f2) = 0 then (if ((rd_T94 x0 (wrap64 ((x0.length : Int) - 1))).f3) = 0 then (if ((rd_T94 x0 (wrap64 ((x0.length : Int) - 1))).f4) = 0 then (some (((rd_T94 x0 (wrap64 ((x0.length : Int) - 1))).f5) != 3)) else (some false)) else (some false)) else (some false)) else (some false)) else (none)) else (none))
def spec_IsRulebook.j1 : Nat → List (S94) → Int → Bool → ByteArray → Int → Int → Int → Int → Int → ByteArray → Option (Bool)
 | 0, _, _, _, _, _, _, _, _, _, _ => none
 | k + 1, x0, x3, x30, x163000, x163001, x163002, x163003, x163004, x163005, x163006 => if x30 = true then (some false) else (if x163005 = 3 then ((spec_l09Find.f k x0 x163006).bind fun t165 => (if t165 ≤ x3 then (some false) else (spec_IsRulebook.l0 k x0 (wrap64 (x3 + 1))))) else (spec_IsRulebook.l0 k x0 (wrap64 (x3 + 1))))
end
def spec_IsRulebook.f (k : Nat) (l0 : List (S94)) : Option (Bool) := (spec_l01In.f (l0.length : Int) 1 12).bind fun t158 => (if t158 = true then (spec_IsRulebook.l0 k l0 0) else (some false))
theorem spec_IsRulebook.mono_l : ∀ k, (∀ y0 y1, LeO (spec_IsRulebook.l0 k y0 y1) (spec_IsRulebook.l0 (k + 1) y0 y1)) ∧ (∀ y0 y1 y2 y3 y4 y5 y6 y7 y8 y9, LeO (spec_IsRulebook.j1 k y0 y1 y2 y3 y4 y5 y6 y7 y8 y9) (spec_IsRulebook.j1 (k + 1) y0 y1 y2 y3 y4 y5 y6 y7 y8 y9))
 | 0 => ⟨fun _ _ r h => by simp [spec_IsRulebook.l0] at h, fun _ _ _ _ _ _ _ _ _ _ r h => by simp [spec_IsRulebook.j1] at h⟩
 | k + 1 => by
  obtain ⟨ih0, ih1⟩ := spec_IsRulebook.mono_l k
  refine ⟨?_, ?_⟩
  · intro y0 y1
    unfold spec_IsRulebook.l0
    repeat' first
    | (with_reducible exact ih0 _ _)
    | (with_reducible exact ih1 _ _ _ _ _ _ _ _ _ _)
    | (with_reducible exact spec_IsClause.mono _ _ _ _ _ _ _ _)
    | (with_reducible exact spec_l09Find.mono _ _ _)
    | (with_reducible exact LeO.refl _)
    | (with_reducible exact LeO.none _)
    | (with_reducible refine LeO.ite ?_ ?_)
    | (with_reducible refine LeO.bind ?_ (fun _ => ?_))
    | exact ih0 _ _
    | exact ih1 _ _ _ _ _ _ _ _ _ _
    | exact spec_IsClause.mono _ _ _ _ _ _ _ _
    | exact spec_l09Find.mono _ _ _
    | exact LeO.none _
    | refine LeO.ite ?_ ?_
    | refine LeO.bind ?_ (fun _ => ?_)
  · intro y0 y1 y2 y3 y4 y5 y6 y7 y8 y9
    unfold spec_IsRulebook.j1
    repeat' first
    | (with_reducible exact ih0 _ _)
    | (with_reducible exact ih1 _ _ _ _ _ _ _ _ _ _)
    | (with_reducible exact spec_IsClause.mono _ _ _ _ _ _ _ _)
    | (with_reducible exact spec_l09Find.mono _ _ _)
    | (with_reducible exact LeO.refl _)
    | (with_reducible exact LeO.none _)
    | (with_reducible refine LeO.ite ?_ ?_)
    | (with_reducible refine LeO.bind ?_ (fun _ => ?_))
    | exact ih0 _ _
    | exact ih1 _ _ _ _ _ _ _ _ _ _
    | exact spec_IsClause.mono _ _ _ _ _ _ _ _
    | exact spec_l09Find.mono _ _ _
    | exact LeO.none _
    | refine LeO.ite ?_ ?_
    | refine LeO.bind ?_ (fun _ => ?_)
theorem spec_IsRulebook.mono : ∀ a0 k, LeO (spec_IsRulebook.f k a0) (spec_IsRulebook.f (k + 1) a0) := by
 intro a0 k
 obtain ⟨ih0, ih1⟩ := spec_IsRulebook.mono_l k
 unfold spec_IsRulebook.f
 repeat' first
  | (with_reducible exact ih0 _ _)
  | (with_reducible exact ih1 _ _ _ _ _ _ _ _ _ _)
  | (with_reducible exact spec_IsClause.mono _ _ _ _ _ _ _ _)
  | (with_reducible exact spec_l09Find.mono _ _ _)
  | (with_reducible exact LeO.refl _)
  | (with_reducible exact LeO.none _)
  | (with_reducible refine LeO.ite ?_ ?_)
  | (with_reducible refine LeO.bind ?_ (fun _ => ?_))
  | exact ih0 _ _
  | exact ih1 _ _ _ _ _ _ _ _ _ _
  | exact spec_IsClause.mono _ _ _ _ _ _ _ _
  | exact spec_l09Find.mono _ _ _
  | exact LeO.none _
  | refine LeO.ite ?_ ?_
  | refine LeO.bind ?_ (fun _ => ?_)
set_option maxHeartbeats 8000000 in
set_option maxRecDepth 100000 in
theorem spec_IsRulebook.calls (k : Nat) (A0 : Option Addr) (c0 : Nat) (l0 : List (S94)) (r : Bool) (w : World) (hr0 : Kd.C k94 w A0 l0.length l0) (hc0 : l0.length ≤ c0) (h : spec_IsRulebook.f k l0 = some r) :
 Calls Try.prog 55 #[.slice A0 l0.length c0] w fun e w' => e = .returned (.bool r) ∧ Below w.heap.size w w' := by
 have hu94 := Try.underlying94
 have HR0 := Aside0.mk hr0
 have HC0 := Aside0.mk hc0
 clear hr0 hc0
 have HB := Aside0.mk (Below.refl w.heap.size w)
 have H : ((spec_l01In.f (l0.length : Int) 1 12).bind fun t158 => (if t158 = true then (spec_IsRulebook.l0 k l0 0) else (some false))) = some r := h
 clear h
 replace H := Option.bind_eq_some_iff.mp H
 obtain ⟨t158, A20, H⟩ := H
 replace H : (if t158 = true then (spec_IsRulebook.l0 k l0 0) else (some false)) = some r := H
 have A2 := Aside0.mk A20
 clear A20
 by_cases c3 : t158 = true
 · subst c3
   have H1 : (spec_IsRulebook.l0 k l0 0) = some r := by rw [if_pos rfl] at H; exact H
   clear H
   have H := H1
   clear H1
   have H' := Aside0.mk H
   clear H
   go_enter Try.func55, Try.ntmps55
   go_wp2_with (first | ((with_reducible refine gate_callee (f := 92) rfl ?_); refine gl_ 8 Try.func92 #[.int .i64 (l0.length : Int), .int .i64 1, .int .i64 12] ?_; (with_reducible refine (spec_l01In.calls (l0.length : Int) 1 12 true _ A2.out).mono ?_); rintro e w' ⟨rfl, ⟨nd, rfl⟩⟩; refine ⟨_, rfl, ?_⟩))
   go_loopg [3] k (fun kq v3 w' => ∃ (x3_1 : Int), v3 = .int .i64 x3_1 ∧ Aside0 (spec_IsRulebook.l0 kq l0 x3_1 = some r) ∧ Aside0 (kq ≤ k) ∧ Aside0 (Below w.heap.size w w'))
   case atStart => exact ⟨(0), (by first | rfl | (simp; done) | (simp [*]; done)), H', ⟨Nat.le_refl _⟩, ⟨bb_⟩⟩
   case round =>
    clear H'
    try clear p2
    try clear c3
    obtain ⟨x3_1, rfl, HA, HK1, HB⟩ := hrel
    cases gk with
    | zero => exact absurd HA.out (by simp [spec_IsRulebook.l0])
    | succ k1 =>
     have H := HA.out
     clear HA
     simp only [spec_IsRulebook.l0] at H
     by_cases c4 : x3_1 < (l0.length : Int)
     · rw [if_pos c4] at H
       have c4b0 : decide (x3_1 < (l0.length : Int)) = true := decide_eq_true c4
       clear c4
       by_cases c5 : 0 ≤ x3_1
       · rw [if_pos c5] at H
         have c5b0 : decide (0 ≤ x3_1) = true := decide_eq_true c5
         clear c5
         have HC6 := Aside0.mk H
         clear H
         have p161 : 0 ≤ (x3_1 : Int) := od_
         have q161 : x3_1 < (l0.length : Int) := od_
         obtain ⟨ad161, e161, hx161_0, hx161_1, hx161_2, hx161_3, hx161_4, hx161_5, hx161_6⟩ := at_T94 HR0.out x3_1 p161 q161
         cases e161
         replace hx161_0 := cel HB hx161_0
         replace hx161_1 := cel HB hx161_1
         replace hx161_2 := cel HB hx161_2
         replace hx161_3 := cel HB hx161_3
         replace hx161_4 := cel HB hx161_4
         replace hx161_5 := cel HB hx161_5
         replace hx161_6 := cel HB hx161_6
         replace p161 := eq_true p161
         replace q161 := eq_true q161
         go_upto_region 7 with (first | ((with_reducible refine gate_dst (N := 4) rfl ?_); refine bx_ 4 #[.string (⟨#[]⟩ : ByteArray), .int .i64 0, .int .i64 0, .int .i64 0, .int .i64 0, .int .i64 0, .string (⟨#[]⟩ : ByteArray)] 94 ?_; intro gb162 hg w7 hbox hb; have n0_ := Aside0.mk (bs_ hb); have n1_ := Aside0.mk (hbox); have n2_ := Aside0.mk ((by rw [hg]; exact (bz_) : w.heap.size ≤ gb162)); have n3_ := Aside0.mk ((by rw [hg]; exact (bz_) : w.heap.size ≤ gb162)); clear HB; revert n0_ n1_ n2_ n3_; intro HB BK162 GW162 GE162; clear hb hbox hg; have hcz8_0 := bk BK162 0; have hcz8_1 := bk BK162 1; have hcz8_2 := bk BK162 2; have hcz8_3 := bk BK162 3; have hcz8_4 := bk BK162 4; have hcz8_5 := bk BK162 5; have hcz8_6 := bk BK162 6; have hfz8_0 := blk_frozen BK162.out 0; have hfz8_1 := blk_frozen BK162.out 1; have hfz8_2 := blk_frozen BK162.out 2; have hfz8_3 := blk_frozen BK162.out 3; have hfz8_4 := blk_frozen BK162.out 4; have hfz8_5 := blk_frozen BK162.out 5; have hfz8_6 := blk_frozen BK162.out 6))
         (try simp only [Act.put, List.setIfInBounds_toArray, List.set_cons_zero, List.set_cons_succ])
         go_cut [30] (fun v30 wc => ∃ (kq : Nat) (x30_5 : Bool), v30 = .bool x30_5 ∧ Aside0 (spec_IsRulebook.j1 kq l0 x3_1 x30_5 ((rd_T94 l0 x3_1).f0) ((rd_T94 l0 x3_1).f1) ((rd_T94 l0 x3_1).f2) ((rd_T94 l0 x3_1).f3) ((rd_T94 l0 x3_1).f4) ((rd_T94 l0 x3_1).f5) ((rd_T94 l0 x3_1).f6) = some r) ∧ Aside0 (kq ≤ k1) ∧ Aside0 (wc.heap[gb162]? = some (.cells #[.string ((rd_T94 l0 x3_1).f0), .int .i64 ((rd_T94 l0 x3_1).f1), .int .i64 ((rd_T94 l0 x3_1).f2), .int .i64 ((rd_T94 l0 x3_1).f3), .int .i64 ((rd_T94 l0 x3_1).f4), .int .i64 ((rd_T94 l0 x3_1).f5), .string ((rd_T94 l0 x3_1).f6)] 94 (0, 0))) ∧ Aside0 (Below w.heap.size w wc))
         case first =>
          have H := HC6.out
          clear HC6
          replace H := Option.bind_eq_some_iff.mp H
          obtain ⟨t163, A90, H⟩ := H
          replace H : (if t163 = true then ((spec_l09Find.f k1 l0 ((rd_T94 l0 x3_1).f0)).bind fun t164 => (spec_IsRulebook.j1 k1 l0 x3_1 (t164 != x3_1) ((rd_T94 l0 x3_1).f0) ((rd_T94 l0 x3_1).f1) ((rd_T94 l0 x3_1).f2) ((rd_T94 l0 x3_1).f3) ((rd_T94 l0 x3_1).f4) ((rd_T94 l0 x3_1).f5) ((rd_T94 l0 x3_1).f6))) else (spec_IsRulebook.j1 k1 l0 x3_1 true ((rd_T94 l0 x3_1).f0) ((rd_T94 l0 x3_1).f1) ((rd_T94 l0 x3_1).f2) ((rd_T94 l0 x3_1).f3) ((rd_T94 l0 x3_1).f4) ((rd_T94 l0 x3_1).f5) ((rd_T94 l0 x3_1).f6))) = some r := H
          have A9 := Aside0.mk A90
          clear A90
          by_cases c10 : t163 = true
          · subst c10
            have H1 : ((spec_l09Find.f k1 l0 ((rd_T94 l0 x3_1).f0)).bind fun t164 => (spec_IsRulebook.j1 k1 l0 x3_1 (t164 != x3_1) ((rd_T94 l0 x3_1).f0) ((rd_T94 l0 x3_1).f1) ((rd_T94 l0 x3_1).f2) ((rd_T94 l0 x3_1).f3) ((rd_T94 l0 x3_1).f4) ((rd_T94 l0 x3_1).f5) ((rd_T94 l0 x3_1).f6))) = some r := by rw [if_pos rfl] at H; exact H
            clear H
            have H := H1
            clear H1
            replace H := Option.bind_eq_some_iff.mp H
            obtain ⟨t164, A110, H⟩ := H
            replace H : (spec_IsRulebook.j1 k1 l0 x3_1 (t164 != x3_1) ((rd_T94 l0 x3_1).f0) ((rd_T94 l0 x3_1).f1) ((rd_T94 l0 x3_1).f2) ((rd_T94 l0 x3_1).f3) ((rd_T94 l0 x3_1).f4) ((rd_T94 l0 x3_1).f5) ((rd_T94 l0 x3_1).f6)) = some r := H
            have A11 := Aside0.mk A110
            clear A110
            have H' := Aside0.mk H
            clear H
            have hcz12_0 := bk BK162 0
            have hcz12_1 := bk BK162 1
            have hcz12_2 := bk BK162 2
            have hcz12_3 := bk BK162 3
            have hcz12_4 := bk BK162 4
            have hcz12_5 := bk BK162 5
            have hcz12_6 := bk BK162 6
            have hfz12_0 := blk_frozen BK162.out 0
            have hfz12_1 := blk_frozen BK162.out 1
            have hfz12_2 := blk_frozen BK162.out 2
            have hfz12_3 := blk_frozen BK162.out 3
            have hfz12_4 := blk_frozen BK162.out 4
            have hfz12_5 := blk_frozen BK162.out 5
            have hfz12_6 := blk_frozen BK162.out 6
            go_wp2_with (first | ((with_reducible refine gate_callee (f := 93) rfl ?_); refine gl_ 21 Try.func93 #[.agg #[.string ((rd_T94 l0 x3_1).f0), .int .i64 ((rd_T94 l0 x3_1).f1), .int .i64 ((rd_T94 l0 x3_1).f2), .int .i64 ((rd_T94 l0 x3_1).f3), .int .i64 ((rd_T94 l0 x3_1).f4), .int .i64 ((rd_T94 l0 x3_1).f5), .string ((rd_T94 l0 x3_1).f6)]] ?_; (with_reducible refine (spec_IsClause.calls k1 ((rd_T94 l0 x3_1).f0) ((rd_T94 l0 x3_1).f1) ((rd_T94 l0 x3_1).f2) ((rd_T94 l0 x3_1).f3) ((rd_T94 l0 x3_1).f4) ((rd_T94 l0 x3_1).f5) ((rd_T94 l0 x3_1).f6) true _ A9.out).mono ?_); rintro e w13 ⟨rfl, hb⟩; refine ⟨_, rfl, ?_⟩; have n0_ := Aside0.mk (blk_below (g := gb162) (o := .cells #[.string ((rd_T94 l0 x3_1).f0), .int .i64 ((rd_T94 l0 x3_1).f1), .int .i64 ((rd_T94 l0 x3_1).f2), .int .i64 ((rd_T94 l0 x3_1).f3), .int .i64 ((rd_T94 l0 x3_1).f4), .int .i64 ((rd_T94 l0 x3_1).f5), .string ((rd_T94 l0 x3_1).f6)] 94 (0, 0)) (by (with_reducible repeat (first | refine blk_drewN ?_ _ | refine blk_drew ?_ | refine blk_alloc ?_ _)); refine blk_put (cs := #[.string ((rd_T94 l0 x3_1).f0), .int .i64 ((rd_T94 l0 x3_1).f1), .int .i64 ((rd_T94 l0 x3_1).f2), .int .i64 ((rd_T94 l0 x3_1).f3), .int .i64 ((rd_T94 l0 x3_1).f4), .int .i64 ((rd_T94 l0 x3_1).f5), .string (⟨#[]⟩ : ByteArray)]) ?_ 6 _ rfl; (with_reducible repeat (first | refine blk_drewN ?_ _ | refine blk_drew ?_ | refine blk_alloc ?_ _)); refine blk_put (cs := #[.string ((rd_T94 l0 x3_1).f0), .int .i64 ((rd_T94 l0 x3_1).f1), .int .i64 ((rd_T94 l0 x3_1).f2), .int .i64 ((rd_T94 l0 x3_1).f3), .int .i64 ((rd_T94 l0 x3_1).f4), .int .i64 0, .string (⟨#[]⟩ : ByteArray)]) ?_ 5 _ rfl; (with_reducible repeat (first | refine blk_drewN ?_ _ | refine blk_drew ?_ | refine blk_alloc ?_ _)); refine blk_put (cs := #[.string ((rd_T94 l0 x3_1).f0), .int .i64 ((rd_T94 l0 x3_1).f1), .int .i64 ((rd_T94 l0 x3_1).f2), .int .i64 ((rd_T94 l0 x3_1).f3), .int .i64 0, .int .i64 0, .string (⟨#[]⟩ : ByteArray)]) ?_ 4 _ rfl; (with_reducible repeat (first | refine blk_drewN ?_ _ | refine blk_drew ?_ | refine blk_alloc ?_ _)); refine blk_put (cs := #[.string ((rd_T94 l0 x3_1).f0), .int .i64 ((rd_T94 l0 x3_1).f1), .int .i64 ((rd_T94 l0 x3_1).f2), .int .i64 0, .int .i64 0, .int .i64 0, .string (⟨#[]⟩ : ByteArray)]) ?_ 3 _ rfl; (with_reducible repeat (first | refine blk_drewN ?_ _ | refine blk_drew ?_ | refine blk_alloc ?_ _)); refine blk_put (cs := #[.string ((rd_T94 l0 x3_1).f0), .int .i64 ((rd_T94 l0 x3_1).f1), .int .i64 0, .int .i64 0, .int .i64 0, .int .i64 0, .string (⟨#[]⟩ : ByteArray)]) ?_ 2 _ rfl; (with_reducible repeat (first | refine blk_drewN ?_ _ | refine blk_drew ?_ | refine blk_alloc ?_ _)); refine blk_put (cs := #[.string ((rd_T94 l0 x3_1).f0), .int .i64 0, .int .i64 0, .int .i64 0, .int .i64 0, .int .i64 0, .string (⟨#[]⟩ : ByteArray)]) ?_ 1 _ rfl; (with_reducible repeat (first | refine blk_drewN ?_ _ | refine blk_drew ?_ | refine blk_alloc ?_ _)); refine blk_put (cs := #[.string (⟨#[]⟩ : ByteArray), .int .i64 0, .int .i64 0, .int .i64 0, .int .i64 0, .int .i64 0, .string (⟨#[]⟩ : ByteArray)]) ?_ 0 _ rfl; (with_reducible repeat (first | refine blk_drewN ?_ _ | refine blk_drew ?_ | refine blk_alloc ?_ _)); exact BK162.out) hb); have n1_ := Aside0.mk (bs_ hb); clear BK162 HB; revert n0_ n1_; intro BK162 HB; (try clear hb); (try clear hb2); (try clear hk); (try clear hi); have hcz14_0 := bk BK162 0; have hcz14_1 := bk BK162 1; have hcz14_2 := bk BK162 2; have hcz14_3 := bk BK162 3; have hcz14_4 := bk BK162 4; have hcz14_5 := bk BK162 5; have hcz14_6 := bk BK162 6; have hfz14_0 := blk_frozen BK162.out 0; have hfz14_1 := blk_frozen BK162.out 1; have hfz14_2 := blk_frozen BK162.out 2; have hfz14_3 := blk_frozen BK162.out 3; have hfz14_4 := blk_frozen BK162.out 4; have hfz14_5 := blk_frozen BK162.out 5; have hfz14_6 := blk_frozen BK162.out 6) | (go_at_call 94; (with_reducible refine (spec_l09Find.calls k1 _ _ l0 ((rd_T94 l0 x3_1).f0) t164 _ ?side1 ?side2 A11.out).mono ?_); (case side1 => repeat (first | exact (Kd.C_below HR0.out HB.out) | (with_reducible refine Kd.C_alloc ?_ _) | (with_reducible refine Kd.C_drewN ?_ _) | (with_reducible refine Kd.C_drew ?_))); (case side2 => exact HC0.out); rintro e w' ⟨rfl, ⟨nd, rfl⟩⟩))
            go_meet
            case rel => exact ⟨_, ((t164 != x3_1)), (by first | rfl | (simp; done) | (simp [*]; done)), H', ⟨by have := HK1.out; first | omega | exact Nat.le_refl _⟩, ⟨by (with_reducible repeat (first | refine blk_drewN ?_ _ | refine blk_drew ?_ | refine blk_alloc ?_ _)); exact BK162.out⟩, ⟨bb_⟩⟩
          · replace c10 := Bool.eq_false_iff.mpr c10
            subst c10
            have H1 : (spec_IsRulebook.j1 k1 l0 x3_1 true ((rd_T94 l0 x3_1).f0) ((rd_T94 l0 x3_1).f1) ((rd_T94 l0 x3_1).f2) ((rd_T94 l0 x3_1).f3) ((rd_T94 l0 x3_1).f4) ((rd_T94 l0 x3_1).f5) ((rd_T94 l0 x3_1).f6)) = some r := by rw [if_neg (show ¬ (false = true) by decide)] at H; exact H
            clear H
            have H := H1
            clear H1
            have H' := Aside0.mk H
            clear H
            have hcz15_0 := bk BK162 0
            have hcz15_1 := bk BK162 1
            have hcz15_2 := bk BK162 2
            have hcz15_3 := bk BK162 3
            have hcz15_4 := bk BK162 4
            have hcz15_5 := bk BK162 5
            have hcz15_6 := bk BK162 6
            have hfz15_0 := blk_frozen BK162.out 0
            have hfz15_1 := blk_frozen BK162.out 1
            have hfz15_2 := blk_frozen BK162.out 2
            have hfz15_3 := blk_frozen BK162.out 3
            have hfz15_4 := blk_frozen BK162.out 4
            have hfz15_5 := blk_frozen BK162.out 5
            have hfz15_6 := blk_frozen BK162.out 6
            go_wp2_with (first | ((with_reducible refine gate_callee (f := 93) rfl ?_); refine gl_ 21 Try.func93 #[.agg #[.string ((rd_T94 l0 x3_1).f0), .int .i64 ((rd_T94 l0 x3_1).f1), .int .i64 ((rd_T94 l0 x3_1).f2), .int .i64 ((rd_T94 l0 x3_1).f3), .int .i64 ((rd_T94 l0 x3_1).f4), .int .i64 ((rd_T94 l0 x3_1).f5), .string ((rd_T94 l0 x3_1).f6)]] ?_; (with_reducible refine (spec_IsClause.calls k1 ((rd_T94 l0 x3_1).f0) ((rd_T94 l0 x3_1).f1) ((rd_T94 l0 x3_1).f2) ((rd_T94 l0 x3_1).f3) ((rd_T94 l0 x3_1).f4) ((rd_T94 l0 x3_1).f5) ((rd_T94 l0 x3_1).f6) false _ A9.out).mono ?_); rintro e w16 ⟨rfl, hb⟩; refine ⟨_, rfl, ?_⟩; have n0_ := Aside0.mk (blk_below (g := gb162) (o := .cells #[.string ((rd_T94 l0 x3_1).f0), .int .i64 ((rd_T94 l0 x3_1).f1), .int .i64 ((rd_T94 l0 x3_1).f2), .int .i64 ((rd_T94 l0 x3_1).f3), .int .i64 ((rd_T94 l0 x3_1).f4), .int .i64 ((rd_T94 l0 x3_1).f5), .string ((rd_T94 l0 x3_1).f6)] 94 (0, 0)) (by (with_reducible repeat (first | refine blk_drewN ?_ _ | refine blk_drew ?_ | refine blk_alloc ?_ _)); refine blk_put (cs := #[.string ((rd_T94 l0 x3_1).f0), .int .i64 ((rd_T94 l0 x3_1).f1), .int .i64 ((rd_T94 l0 x3_1).f2), .int .i64 ((rd_T94 l0 x3_1).f3), .int .i64 ((rd_T94 l0 x3_1).f4), .int .i64 ((rd_T94 l0 x3_1).f5), .string (⟨#[]⟩ : ByteArray)]) ?_ 6 _ rfl; (with_reducible repeat (first | refine blk_drewN ?_ _ | refine blk_drew ?_ | refine blk_alloc ?_ _)); refine blk_put (cs := #[.string ((rd_T94 l0 x3_1).f0), .int .i64 ((rd_T94 l0 x3_1).f1), .int .i64 ((rd_T94 l0 x3_1).f2), .int .i64 ((rd_T94 l0 x3_1).f3), .int .i64 ((rd_T94 l0 x3_1).f4), .int .i64 0, .string (⟨#[]⟩ : ByteArray)]) ?_ 5 _ rfl; (with_reducible repeat (first | refine blk_drewN ?_ _ | refine blk_drew ?_ | refine blk_alloc ?_ _)); refine blk_put (cs := #[.string ((rd_T94 l0 x3_1).f0), .int .i64 ((rd_T94 l0 x3_1).f1), .int .i64 ((rd_T94 l0 x3_1).f2), .int .i64 ((rd_T94 l0 x3_1).f3), .int .i64 0, .int .i64 0, .string (⟨#[]⟩ : ByteArray)]) ?_ 4 _ rfl; (with_reducible repeat (first | refine blk_drewN ?_ _ | refine blk_drew ?_ | refine blk_alloc ?_ _)); refine blk_put (cs := #[.string ((rd_T94 l0 x3_1).f0), .int .i64 ((rd_T94 l0 x3_1).f1), .int .i64 ((rd_T94 l0 x3_1).f2), .int .i64 0, .int .i64 0, .int .i64 0, .string (⟨#[]⟩ : ByteArray)]) ?_ 3 _ rfl; (with_reducible repeat (first | refine blk_drewN ?_ _ | refine blk_drew ?_ | refine blk_alloc ?_ _)); refine blk_put (cs := #[.string ((rd_T94 l0 x3_1).f0), .int .i64 ((rd_T94 l0 x3_1).f1), .int .i64 0, .int .i64 0, .int .i64 0, .int .i64 0, .string (⟨#[]⟩ : ByteArray)]) ?_ 2 _ rfl; (with_reducible repeat (first | refine blk_drewN ?_ _ | refine blk_drew ?_ | refine blk_alloc ?_ _)); refine blk_put (cs := #[.string ((rd_T94 l0 x3_1).f0), .int .i64 0, .int .i64 0, .int .i64 0, .int .i64 0, .int .i64 0, .string (⟨#[]⟩ : ByteArray)]) ?_ 1 _ rfl; (with_reducible repeat (first | refine blk_drewN ?_ _ | refine blk_drew ?_ | refine blk_alloc ?_ _)); refine blk_put (cs := #[.string (⟨#[]⟩ : ByteArray), .int .i64 0, .int .i64 0, .int .i64 0, .int .i64 0, .int .i64 0, .string (⟨#[]⟩ : ByteArray)]) ?_ 0 _ rfl; (with_reducible repeat (first | refine blk_drewN ?_ _ | refine blk_drew ?_ | refine blk_alloc ?_ _)); exact BK162.out) hb); have n1_ := Aside0.mk (bs_ hb); clear BK162 HB; revert n0_ n1_; intro BK162 HB; (try clear hb); (try clear hb2); (try clear hk); (try clear hi)))
            go_meet
            case rel => exact ⟨_, (true), (by first | rfl | (simp; done) | (simp [*]; done)), H', ⟨by have := HK1.out; first | omega | exact Nat.le_refl _⟩, ⟨by (with_reducible repeat (first | refine blk_drewN ?_ _ | refine blk_drew ?_ | refine blk_alloc ?_ _)); exact BK162.out⟩, ⟨bb_⟩⟩
         case rest =>
          clear HC6
          try clear c1
          try clear p1
          try clear q1
          try clear hx1
          try clear p2
          try clear c3
          try clear c4
          try clear c4b0
          try clear c5
          try clear c5b0
          try clear c9
          try clear c10
          try clear p16
          try clear q16
          try clear hx16
          try clear hcz12_0
          try clear hcz12_1
          try clear hcz12_2
          try clear hcz12_3
          try clear hcz12_4
          try clear hcz12_5
          try clear hcz12_6
          try clear hcz14_0
          try clear hcz14_1
          try clear hcz14_2
          try clear hcz14_3
          try clear hcz14_4
          try clear hcz14_5
          try clear hcz14_6
          try clear hcz15_0
          try clear hcz15_1
          try clear hcz15_2
          try clear hcz15_3
          try clear hcz15_4
          try clear hcz15_5
          try clear hcz15_6
          try clear hcz8_0
          try clear hcz8_1
          try clear hcz8_2
          try clear hcz8_3
          try clear hcz8_4
          try clear hcz8_5
          try clear hcz8_6
          try clear hfz12_0
          try clear hfz12_1
          try clear hfz12_2
          try clear hfz12_3
          try clear hfz12_4
          try clear hfz12_5
          try clear hfz12_6
          try clear hfz14_0
          try clear hfz14_1
          try clear hfz14_2
          try clear hfz14_3
          try clear hfz14_4
          try clear hfz14_5
          try clear hfz14_6
          try clear hfz15_0
          try clear hfz15_1
          try clear hfz15_2
          try clear hfz15_3
          try clear hfz15_4
          try clear hfz15_5
          try clear hfz15_6
          try clear hfz8_0
          try clear hfz8_1
          try clear hfz8_2
          try clear hfz8_3
          try clear hfz8_4
          try clear hfz8_5
          try clear hfz8_6
          try clear hx161_0
          try clear hx161_1
          try clear hx161_2
          try clear hx161_3
          try clear hx161_4
          try clear hx161_5
          try clear hx161_6
          try clear p161
          try clear p2
          try clear q161
          obtain ⟨kq, x30_5, rfl, HA, HJ5, BK162, HB⟩ := hcut
          cases kq with
          | zero => exact absurd HA.out (by simp [spec_IsRulebook.j1])
          | succ kj5 =>
           have H := HA.out
           clear HA
           simp only [spec_IsRulebook.j1] at H
           by_cases c17 : x30_5 = true
           · subst c17
             have H1 : (some false) = some r := by rw [if_pos rfl] at H; exact H
             clear H
             have H := H1
             clear H1
             obtain rfl := Option.some.inj H
             go_wp2
             go_ret
             exact ⟨by first | rfl | (simp [errW_none, errW_some] <;> rfl) | (simp [*, errW_none, errW_some] <;> rfl), bb_⟩
           · replace c17 := Bool.eq_false_iff.mpr c17
             subst c17
             have H1 : (if ((rd_T94 l0 x3_1).f5) = 3 then ((spec_l09Find.f kj5 l0 ((rd_T94 l0 x3_1).f6)).bind fun t165 => (if t165 ≤ x3_1 then (some false) else (spec_IsRulebook.l0 kj5 l0 (wrap64 (x3_1 + 1))))) else (spec_IsRulebook.l0 kj5 l0 (wrap64 (x3_1 + 1)))) = some r := by rw [if_neg (show ¬ (false = true) by decide)] at H; exact H
             clear H
             have H := H1
             clear H1
             by_cases c18 : ((rd_T94 l0 x3_1).f5) = 3
             · rw [if_pos c18] at H
               have c18b0 : (((rd_T94 l0 x3_1).f5) == 3) = true := beq_iff_eq.mpr c18
               have c18b1 : (((rd_T94 l0 x3_1).f5) != 3) = false := bne_eq_false_iff_eq.mpr c18
               clear c18
               replace H := Option.bind_eq_some_iff.mp H
               obtain ⟨t165, A190, H⟩ := H
               replace H : (if t165 ≤ x3_1 then (some false) else (spec_IsRulebook.l0 kj5 l0 (wrap64 (x3_1 + 1)))) = some r := H
               have A19 := Aside0.mk A190
               clear A190
               by_cases c20 : t165 ≤ x3_1
               · rw [if_pos c20] at H
                 have c20b0 : decide (t165 ≤ x3_1) = true := decide_eq_true c20
                 clear c20
                 obtain rfl := Option.some.inj H
                 have hcz21_0 := bk BK162 0
                 have hcz21_1 := bk BK162 1
                 have hcz21_2 := bk BK162 2
                 have hcz21_3 := bk BK162 3
                 have hcz21_4 := bk BK162 4
                 have hcz21_5 := bk BK162 5
                 have hcz21_6 := bk BK162 6
                 have hfz21_0 := blk_frozen BK162.out 0
                 have hfz21_1 := blk_frozen BK162.out 1
                 have hfz21_2 := blk_frozen BK162.out 2
                 have hfz21_3 := blk_frozen BK162.out 3
                 have hfz21_4 := blk_frozen BK162.out 4
                 have hfz21_5 := blk_frozen BK162.out 5
                 have hfz21_6 := blk_frozen BK162.out 6
                 go_wp2_with (first | (go_at_call 94; (with_reducible refine (spec_l09Find.calls kj5 _ _ l0 ((rd_T94 l0 x3_1).f6) t165 _ ?side1 ?side2 A19.out).mono ?_); (case side1 => repeat (first | exact (Kd.C_below HR0.out HB.out) | (with_reducible refine Kd.C_alloc ?_ _) | (with_reducible refine Kd.C_drewN ?_ _) | (with_reducible refine Kd.C_drew ?_))); (case side2 => exact HC0.out); rintro e w' ⟨rfl, ⟨nd, rfl⟩⟩))
                 go_ret
                 exact ⟨by first | rfl | (simp [errW_none, errW_some] <;> rfl) | (simp [*, errW_none, errW_some] <;> rfl), bb_⟩
               · rw [if_neg c20] at H
                 have c20b0 : decide (t165 ≤ x3_1) = false := decide_eq_false c20
                 clear c20
                 have H' := Aside0.mk H
                 clear H
                 have hcz22_0 := bk BK162 0
                 have hcz22_1 := bk BK162 1
                 have hcz22_2 := bk BK162 2
                 have hcz22_3 := bk BK162 3
                 have hcz22_4 := bk BK162 4
                 have hcz22_5 := bk BK162 5
                 have hcz22_6 := bk BK162 6
                 have hfz22_0 := blk_frozen BK162.out 0
                 have hfz22_1 := blk_frozen BK162.out 1
                 have hfz22_2 := blk_frozen BK162.out 2
                 have hfz22_3 := blk_frozen BK162.out 3
                 have hfz22_4 := blk_frozen BK162.out 4
                 have hfz22_5 := blk_frozen BK162.out 5
                 have hfz22_6 := blk_frozen BK162.out 6
                 go_wp2_with (first | (go_at_call 94; (with_reducible refine (spec_l09Find.calls kj5 _ _ l0 ((rd_T94 l0 x3_1).f6) t165 _ ?side1 ?side2 A19.out).mono ?_); (case side1 => repeat (first | exact (Kd.C_below HR0.out HB.out) | (with_reducible refine Kd.C_alloc ?_ _) | (with_reducible refine Kd.C_drewN ?_ _) | (with_reducible refine Kd.C_drew ?_))); (case side2 => exact HC0.out); rintro e w' ⟨rfl, ⟨nd, rfl⟩⟩))
                 go_roundg kj5
                 case measure => have := HK1.out; have := HJ5.out; omega
                 case rel => exact ⟨(wrap64 (x3_1 + 1)), (by first | rfl | (simp; done) | (simp [*]; done)), H', ⟨by have := HK1.out; have := HJ5.out; omega⟩, ⟨bb_⟩⟩
             · rw [if_neg c18] at H
               have c18b0 : (((rd_T94 l0 x3_1).f5) == 3) = false := beq_eq_false_iff_ne.mpr c18
               have c18b1 : (((rd_T94 l0 x3_1).f5) != 3) = true := bne_iff_ne.mpr c18
               have H' := Aside0.mk H
               clear H
               have hcz23_0 := bk BK162 0
               have hcz23_1 := bk BK162 1
               have hcz23_2 := bk BK162 2
               have hcz23_3 := bk BK162 3
               have hcz23_4 := bk BK162 4
               have hcz23_5 := bk BK162 5
               have hcz23_6 := bk BK162 6
               have hfz23_0 := blk_frozen BK162.out 0
               have hfz23_1 := blk_frozen BK162.out 1
               have hfz23_2 := blk_frozen BK162.out 2
               have hfz23_3 := blk_frozen BK162.out 3
               have hfz23_4 := blk_frozen BK162.out 4
               have hfz23_5 := blk_frozen BK162.out 5
               have hfz23_6 := blk_frozen BK162.out 6
               go_wp2
               go_roundg kj5
               case measure => have := HK1.out; have := HJ5.out; omega
               case rel => exact ⟨(wrap64 (x3_1 + 1)), (by first | rfl | (simp; done) | (simp [*]; done)), H', ⟨by have := HK1.out; have := HJ5.out; omega⟩, ⟨bb_⟩⟩
       · rw [if_neg c5] at H
         exact absurd H (by simp)
     · rw [if_neg c4] at H
       have c4b0 : decide (x3_1 < (l0.length : Int)) = false := decide_eq_false c4
       clear c4
       obtain ⟨ji24, hji24⟩ : ∃ j_ : Int, (wrap64 ((l0.length : Int) - 1)) = j_ := ⟨_, rfl⟩
       replace H : (if 0 ≤ (ji24) then (if (ji24) < (l0.length : Int) then (if ((rd_T94 l0 (ji24)).f1) = (-1) then (if ((rd_T94 l0 (ji24)).f2) = 0 then (if ((rd_T94 l0 (ji24)).f3) = 0 then (if ((rd_T94 l0 (ji24)).f4) = 0 then (some (((rd_T94 l0 (ji24)).f5) != 3)) else (some false)) else (some false)) else (some false)) else (some false)) else (none)) else (none)) = some r := by first | (rw [hji24] at H; exact H) | (simp only [hji24] at H ⊢; exact H)
       have hji24w : (IntKind.i64.wrap ((l0.length : Int) - 1)) = ji24 := (i64_w _).trans hji24
       by_cases c25 : 0 ≤ (ji24)
       · rw [if_pos c25] at H
         have c25b0 : decide (0 ≤ (ji24)) = true := decide_eq_true c25
         clear c25
         by_cases c26 : (ji24) < (l0.length : Int)
         · rw [if_pos c26] at H
           have c26b0 : decide ((ji24) < (l0.length : Int)) = true := decide_eq_true c26
           clear c26
           by_cases c27 : ((rd_T94 l0 (ji24)).f1) = (-1)
           · rw [if_pos c27] at H
             have c27b0 : (((rd_T94 l0 (ji24)).f1) == (-1)) = true := beq_iff_eq.mpr c27
             have c27b1 : (((rd_T94 l0 (ji24)).f1) != (-1)) = false := bne_eq_false_iff_eq.mpr c27
             clear c27
             by_cases c28 : ((rd_T94 l0 (ji24)).f2) = 0
             · rw [if_pos c28] at H
               have c28b0 : (((rd_T94 l0 (ji24)).f2) == 0) = true := beq_iff_eq.mpr c28
               have c28b1 : (((rd_T94 l0 (ji24)).f2) != 0) = false := bne_eq_false_iff_eq.mpr c28
               clear c28
               by_cases c29 : ((rd_T94 l0 (ji24)).f3) = 0
               · rw [if_pos c29] at H
                 have c29b0 : (((rd_T94 l0 (ji24)).f3) == 0) = true := beq_iff_eq.mpr c29
                 have c29b1 : (((rd_T94 l0 (ji24)).f3) != 0) = false := bne_eq_false_iff_eq.mpr c29
                 clear c29
                 by_cases c30 : ((rd_T94 l0 (ji24)).f4) = 0
                 · rw [if_pos c30] at H
                   have c30b0 : (((rd_T94 l0 (ji24)).f4) == 0) = true := beq_iff_eq.mpr c30
                   have c30b1 : (((rd_T94 l0 (ji24)).f4) != 0) = false := bne_eq_false_iff_eq.mpr c30
                   clear c30
                   obtain rfl := Option.some.inj H
                   have p159 : 0 ≤ ((ji24) : Int) := od_
                   have q159 : (ji24) < (l0.length : Int) := od_
                   obtain ⟨ad159, e159, hx159_0, hx159_1, hx159_2, hx159_3, hx159_4, hx159_5, hx159_6⟩ := at_T94 HR0.out (ji24) p159 q159
                   cases e159
                   replace hx159_0 := cel HB hx159_0
                   replace hx159_1 := cel HB hx159_1
                   replace hx159_2 := cel HB hx159_2
                   replace hx159_3 := cel HB hx159_3
                   replace hx159_4 := cel HB hx159_4
                   replace hx159_5 := cel HB hx159_5
                   replace hx159_6 := cel HB hx159_6
                   replace p159 := eq_true p159
                   replace q159 := eq_true q159
                   go_wp2_with (first | ((with_reducible refine gate_dst (N := 5) rfl ?_); refine bx_ 5 #[.string (⟨#[]⟩ : ByteArray), .int .i64 0, .int .i64 0, .int .i64 0, .int .i64 0, .int .i64 0, .string (⟨#[]⟩ : ByteArray)] 94 ?_; intro gb160 hg w31 hbox hb; have n0_ := Aside0.mk (bs_ hb); have n1_ := Aside0.mk (hbox); have n2_ := Aside0.mk ((by rw [hg]; exact (bz_) : w.heap.size ≤ gb160)); have n3_ := Aside0.mk ((by rw [hg]; exact (bz_) : w.heap.size ≤ gb160)); clear HB; revert n0_ n1_ n2_ n3_; intro HB BK160 GW160 GE160; clear hb hbox hg; have hcz32_0 := bk BK160 0; have hcz32_1 := bk BK160 1; have hcz32_2 := bk BK160 2; have hcz32_3 := bk BK160 3; have hcz32_4 := bk BK160 4; have hcz32_5 := bk BK160 5; have hcz32_6 := bk BK160 6; have hfz32_0 := blk_frozen BK160.out 0; have hfz32_1 := blk_frozen BK160.out 1; have hfz32_2 := blk_frozen BK160.out 2; have hfz32_3 := blk_frozen BK160.out 3; have hfz32_4 := blk_frozen BK160.out 4; have hfz32_5 := blk_frozen BK160.out 5; have hfz32_6 := blk_frozen BK160.out 6))
                   go_ret
                   exact ⟨by first | rfl | (simp [errW_none, errW_some] <;> rfl) | (simp only [← hji24]; first | rfl | (simp [errW_none, errW_some] <;> rfl)) | (simp [*, errW_none, errW_some] <;> rfl), bb_⟩
                 · rw [if_neg c30] at H
                   have c30b0 : (((rd_T94 l0 (ji24)).f4) == 0) = false := beq_eq_false_iff_ne.mpr c30
                   have c30b1 : (((rd_T94 l0 (ji24)).f4) != 0) = true := bne_iff_ne.mpr c30
                   obtain rfl := Option.some.inj H
                   have p159 : 0 ≤ ((ji24) : Int) := od_
                   have q159 : (ji24) < (l0.length : Int) := od_
                   obtain ⟨ad159, e159, hx159_0, hx159_1, hx159_2, hx159_3, hx159_4, hx159_5, hx159_6⟩ := at_T94 HR0.out (ji24) p159 q159
                   cases e159
                   replace hx159_0 := cel HB hx159_0
                   replace hx159_1 := cel HB hx159_1
                   replace hx159_2 := cel HB hx159_2
                   replace hx159_3 := cel HB hx159_3
                   replace hx159_4 := cel HB hx159_4
                   replace hx159_5 := cel HB hx159_5
                   replace hx159_6 := cel HB hx159_6
                   replace p159 := eq_true p159
                   replace q159 := eq_true q159
                   go_wp2_with (first | ((with_reducible refine gate_dst (N := 5) rfl ?_); refine bx_ 5 #[.string (⟨#[]⟩ : ByteArray), .int .i64 0, .int .i64 0, .int .i64 0, .int .i64 0, .int .i64 0, .string (⟨#[]⟩ : ByteArray)] 94 ?_; intro gb160 hg w33 hbox hb; have n0_ := Aside0.mk (bs_ hb); have n1_ := Aside0.mk (hbox); have n2_ := Aside0.mk ((by rw [hg]; exact (bz_) : w.heap.size ≤ gb160)); have n3_ := Aside0.mk ((by rw [hg]; exact (bz_) : w.heap.size ≤ gb160)); clear HB; revert n0_ n1_ n2_ n3_; intro HB BK160 GW160 GE160; clear hb hbox hg; have hcz34_0 := bk BK160 0; have hcz34_1 := bk BK160 1; have hcz34_2 := bk BK160 2; have hcz34_3 := bk BK160 3; have hcz34_4 := bk BK160 4; have hcz34_5 := bk BK160 5; have hcz34_6 := bk BK160 6; have hfz34_0 := blk_frozen BK160.out 0; have hfz34_1 := blk_frozen BK160.out 1; have hfz34_2 := blk_frozen BK160.out 2; have hfz34_3 := blk_frozen BK160.out 3; have hfz34_4 := blk_frozen BK160.out 4; have hfz34_5 := blk_frozen BK160.out 5; have hfz34_6 := blk_frozen BK160.out 6))
                   go_ret
                   exact ⟨by first | rfl | (simp [errW_none, errW_some] <;> rfl) | (simp only [← hji24]; first | rfl | (simp [errW_none, errW_some] <;> rfl)) | (simp [*, errW_none, errW_some] <;> rfl), bb_⟩
               · rw [if_neg c29] at H
                 have c29b0 : (((rd_T94 l0 (ji24)).f3) == 0) = false := beq_eq_false_iff_ne.mpr c29
                 have c29b1 : (((rd_T94 l0 (ji24)).f3) != 0) = true := bne_iff_ne.mpr c29
                 obtain rfl := Option.some.inj H
                 have p159 : 0 ≤ ((ji24) : Int) := od_
                 have q159 : (ji24) < (l0.length : Int) := od_
                 obtain ⟨ad159, e159, hx159_0, hx159_1, hx159_2, hx159_3, hx159_4, hx159_5, hx159_6⟩ := at_T94 HR0.out (ji24) p159 q159
                 cases e159
                 replace hx159_0 := cel HB hx159_0
                 replace hx159_1 := cel HB hx159_1
                 replace hx159_2 := cel HB hx159_2
                 replace hx159_3 := cel HB hx159_3
                 replace hx159_4 := cel HB hx159_4
                 replace hx159_5 := cel HB hx159_5
                 replace hx159_6 := cel HB hx159_6
                 replace p159 := eq_true p159
                 replace q159 := eq_true q159
                 go_wp2_with (first | ((with_reducible refine gate_dst (N := 5) rfl ?_); refine bx_ 5 #[.string (⟨#[]⟩ : ByteArray), .int .i64 0, .int .i64 0, .int .i64 0, .int .i64 0, .int .i64 0, .string (⟨#[]⟩ : ByteArray)] 94 ?_; intro gb160 hg w35 hbox hb; have n0_ := Aside0.mk (bs_ hb); have n1_ := Aside0.mk (hbox); have n2_ := Aside0.mk ((by rw [hg]; exact (bz_) : w.heap.size ≤ gb160)); have n3_ := Aside0.mk ((by rw [hg]; exact (bz_) : w.heap.size ≤ gb160)); clear HB; revert n0_ n1_ n2_ n3_; intro HB BK160 GW160 GE160; clear hb hbox hg; have hcz36_0 := bk BK160 0; have hcz36_1 := bk BK160 1; have hcz36_2 := bk BK160 2; have hcz36_3 := bk BK160 3; have hcz36_4 := bk BK160 4; have hcz36_5 := bk BK160 5; have hcz36_6 := bk BK160 6; have hfz36_0 := blk_frozen BK160.out 0; have hfz36_1 := blk_frozen BK160.out 1; have hfz36_2 := blk_frozen BK160.out 2; have hfz36_3 := blk_frozen BK160.out 3; have hfz36_4 := blk_frozen BK160.out 4; have hfz36_5 := blk_frozen BK160.out 5; have hfz36_6 := blk_frozen BK160.out 6))
                 go_ret
                 exact ⟨by first | rfl | (simp [errW_none, errW_some] <;> rfl) | (simp only [← hji24]; first | rfl | (simp [errW_none, errW_some] <;> rfl)) | (simp [*, errW_none, errW_some] <;> rfl), bb_⟩
             · rw [if_neg c28] at H
               have c28b0 : (((rd_T94 l0 (ji24)).f2) == 0) = false := beq_eq_false_iff_ne.mpr c28
               have c28b1 : (((rd_T94 l0 (ji24)).f2) != 0) = true := bne_iff_ne.mpr c28
               obtain rfl := Option.some.inj H
               have p159 : 0 ≤ ((ji24) : Int) := od_
               have q159 : (ji24) < (l0.length : Int) := od_
               obtain ⟨ad159, e159, hx159_0, hx159_1, hx159_2, hx159_3, hx159_4, hx159_5, hx159_6⟩ := at_T94 HR0.out (ji24) p159 q159
               cases e159
               replace hx159_0 := cel HB hx159_0
               replace hx159_1 := cel HB hx159_1
               replace hx159_2 := cel HB hx159_2
               replace hx159_3 := cel HB hx159_3
               replace hx159_4 := cel HB hx159_4
               replace hx159_5 := cel HB hx159_5
               replace hx159_6 := cel HB hx159_6
               replace p159 := eq_true p159
               replace q159 := eq_true q159
               go_wp2_with (first | ((with_reducible refine gate_dst (N := 5) rfl ?_); refine bx_ 5 #[.string (⟨#[]⟩ : ByteArray), .int .i64 0, .int .i64 0, .int .i64 0, .int .i64 0, .int .i64 0, .string (⟨#[]⟩ : ByteArray)] 94 ?_; intro gb160 hg w37 hbox hb; have n0_ := Aside0.mk (bs_ hb); have n1_ := Aside0.mk (hbox); have n2_ := Aside0.mk ((by rw [hg]; exact (bz_) : w.heap.size ≤ gb160)); have n3_ := Aside0.mk ((by rw [hg]; exact (bz_) : w.heap.size ≤ gb160)); clear HB; revert n0_ n1_ n2_ n3_; intro HB BK160 GW160 GE160; clear hb hbox hg; have hcz38_0 := bk BK160 0; have hcz38_1 := bk BK160 1; have hcz38_2 := bk BK160 2; have hcz38_3 := bk BK160 3; have hcz38_4 := bk BK160 4; have hcz38_5 := bk BK160 5; have hcz38_6 := bk BK160 6; have hfz38_0 := blk_frozen BK160.out 0; have hfz38_1 := blk_frozen BK160.out 1; have hfz38_2 := blk_frozen BK160.out 2; have hfz38_3 := blk_frozen BK160.out 3; have hfz38_4 := blk_frozen BK160.out 4; have hfz38_5 := blk_frozen BK160.out 5; have hfz38_6 := blk_frozen BK160.out 6))
               go_ret
               exact ⟨by first | rfl | (simp [errW_none, errW_some] <;> rfl) | (simp only [← hji24]; first | rfl | (simp [errW_none, errW_some] <;> rfl)) | (simp [*, errW_none, errW_some] <;> rfl), bb_⟩
           · rw [if_neg c27] at H
             have c27b0 : (((rd_T94 l0 (ji24)).f1) == (-1)) = false := beq_eq_false_iff_ne.mpr c27
             have c27b1 : (((rd_T94 l0 (ji24)).f1) != (-1)) = true := bne_iff_ne.mpr c27
             obtain rfl := Option.some.inj H
             have p159 : 0 ≤ ((ji24) : Int) := od_
             have q159 : (ji24) < (l0.length : Int) := od_
             obtain ⟨ad159, e159, hx159_0, hx159_1, hx159_2, hx159_3, hx159_4, hx159_5, hx159_6⟩ := at_T94 HR0.out (ji24) p159 q159
             cases e159
             replace hx159_0 := cel HB hx159_0
             replace hx159_1 := cel HB hx159_1
             replace hx159_2 := cel HB hx159_2
             replace hx159_3 := cel HB hx159_3
             replace hx159_4 := cel HB hx159_4
             replace hx159_5 := cel HB hx159_5
             replace hx159_6 := cel HB hx159_6
             replace p159 := eq_true p159
             replace q159 := eq_true q159
             go_wp2_with (first | ((with_reducible refine gate_dst (N := 5) rfl ?_); refine bx_ 5 #[.string (⟨#[]⟩ : ByteArray), .int .i64 0, .int .i64 0, .int .i64 0, .int .i64 0, .int .i64 0, .string (⟨#[]⟩ : ByteArray)] 94 ?_; intro gb160 hg w39 hbox hb; have n0_ := Aside0.mk (bs_ hb); have n1_ := Aside0.mk (hbox); have n2_ := Aside0.mk ((by rw [hg]; exact (bz_) : w.heap.size ≤ gb160)); have n3_ := Aside0.mk ((by rw [hg]; exact (bz_) : w.heap.size ≤ gb160)); clear HB; revert n0_ n1_ n2_ n3_; intro HB BK160 GW160 GE160; clear hb hbox hg; have hcz40_0 := bk BK160 0; have hcz40_1 := bk BK160 1; have hcz40_2 := bk BK160 2; have hcz40_3 := bk BK160 3; have hcz40_4 := bk BK160 4; have hcz40_5 := bk BK160 5; have hcz40_6 := bk BK160 6; have hfz40_0 := blk_frozen BK160.out 0; have hfz40_1 := blk_frozen BK160.out 1; have hfz40_2 := blk_frozen BK160.out 2; have hfz40_3 := blk_frozen BK160.out 3; have hfz40_4 := blk_frozen BK160.out 4; have hfz40_5 := blk_frozen BK160.out 5; have hfz40_6 := blk_frozen BK160.out 6))
             go_ret
             exact ⟨by first | rfl | (simp [errW_none, errW_some] <;> rfl) | (simp only [← hji24]; first | rfl | (simp [errW_none, errW_some] <;> rfl)) | (simp [*, errW_none, errW_some] <;> rfl), bb_⟩
         · rw [if_neg c26] at H
           exact absurd H (by simp)
       · rw [if_neg c25] at H
         exact absurd H (by simp)
 · replace c3 := Bool.eq_false_iff.mpr c3
   subst c3
   have H1 : (some false) = some r := by rw [if_neg (show ¬ (false = true) by decide)] at H; exact H
   clear H
   have H := H1
   clear H1
   obtain rfl := Option.some.inj H
   go_enter Try.func55, Try.ntmps55
   go_wp2_with (first | ((with_reducible refine gate_callee (f := 92) rfl ?_); refine gl_ 8 Try.func92 #[.int .i64 (l0.length : Int), .int .i64 1, .int .i64 12] ?_; (with_reducible refine (spec_l01In.calls (l0.length : Int) 1 12 false _ A2.out).mono ?_); rintro e w' ⟨rfl, ⟨nd, rfl⟩⟩; refine ⟨_, rfl, ?_⟩))
   go_ret
   exact ⟨by first | rfl | (simp [errW_none, errW_some] <;> rfl) | (simp [*, errW_none, errW_some] <;> rfl), bb_⟩

end Go.Proofs.Ytmfbkbbgokjhnaa.F
namespace Go.Proofs.Ytmfbkbbgokjhnaa.F
open Go.RowKit Go.Proofs.YtmfbkbbgokjhnaaW.PrintWords Go.Proofs.YtmfbkbbgokjhnaaW.PrintLast Go.Proofs.YtmfbkbbgokjhnaaW.PrintMore
attribute [local go_sem] max2_int min2_int max_two min_two max_three min_three max_four min_four   -- for this text's walks alone
set_option linter.unusedVariables false
set_option linter.unusedSimpArgs false

/-! ### spec_IsAmount: function 77 -/
def spec_IsAmount.f (a0 : Int) : Option (Bool) := (spec_l01In.f a0 0 1000000000).bind fun t166 => (some t166)
set_option maxHeartbeats 8000000 in
set_option maxRecDepth 100000 in
theorem spec_IsAmount.calls (a0 : Int) (r : Bool) (w : World) (h : spec_IsAmount.f a0 = some r) :
 Calls Try.prog 77 #[.int .i64 a0] w fun e w' => e = .returned (.bool r) ∧ Drawn0 w w' := by
 have H : ((spec_l01In.f a0 0 1000000000).bind fun t166 => (some t166)) = some r := h
 clear h
 replace H := Option.bind_eq_some_iff.mp H
 obtain ⟨t166, A20, H⟩ := H
 replace H : (some t166) = some r := H
 have A2 := Aside0.mk A20
 clear A20
 obtain rfl := Option.some.inj H
 go_enter Try.func77, Try.ntmps77
 go_wp2_with (first | ((with_reducible refine gate_callee (f := 92) rfl ?_); refine gl_ 4 Try.func92 #[.int .i64 a0, .int .i64 0, .int .i64 1000000000] ?_; (with_reducible refine (spec_l01In.calls a0 0 1000000000 t166 _ A2.out).mono ?_); rintro e w' ⟨rfl, ⟨nd, rfl⟩⟩; refine ⟨_, rfl, ?_⟩))
 go_ret
 exact ⟨by first | rfl | (simp; done) | (simp [*]; done), by repeat (first | exact Drawn0.refl _ | apply Drawn0.step)⟩

/-! ### spec_l02Is: function 95 -/
def spec_l02Is.f (a0 : Int) : Option (Bool) := (spec_l01In.f a0 0 36524).bind fun t167 => (some t167)
set_option maxHeartbeats 8000000 in
set_option maxRecDepth 100000 in
theorem spec_l02Is.calls (a0 : Int) (r : Bool) (w : World) (h : spec_l02Is.f a0 = some r) :
 Calls Try.prog 95 #[.int .i64 a0] w fun e w' => e = .returned (.bool r) ∧ Drawn0 w w' := by
 have H : ((spec_l01In.f a0 0 36524).bind fun t167 => (some t167)) = some r := h
 clear h
 replace H := Option.bind_eq_some_iff.mp H
 obtain ⟨t167, A20, H⟩ := H
 replace H : (some t167) = some r := H
 have A2 := Aside0.mk A20
 clear A20
 obtain rfl := Option.some.inj H
 go_enter Try.func95, Try.ntmps95
 go_wp2_with (first | ((with_reducible refine gate_callee (f := 92) rfl ?_); refine gl_ 4 Try.func92 #[.int .i64 a0, .int .i64 0, .int .i64 36524] ?_; (with_reducible refine (spec_l01In.calls a0 0 36524 t167 _ A2.out).mono ?_); rintro e w' ⟨rfl, ⟨nd, rfl⟩⟩; refine ⟨_, rfl, ?_⟩))
 go_ret
 exact ⟨by first | rfl | (simp; done) | (simp [*]; done), by repeat (first | exact Drawn0.refl _ | apply Drawn0.step)⟩

/-! ### spec_IsEvent: function 56 -/
def spec_IsEvent.f (k : Nat) (a0_0 : Int) (a0_1 : Int) (a0_2 : ByteArray) (a0_3 : Int) (a0_4 : Bool) (a0_5 : Bool) (a0_6 : Bool) : Option (Bool) := (spec_l02Is.f a0_0).bind fun t169 => (if t169 = true then ((spec_l01In.f a0_1 0 6).bind fun t170 => (if t170 = true then ((spec_IsPartyCode.f k a0_2).bind fun t171 => (if t171 = true then ((spec_IsAmount.f a0_3).bind fun t172 => (some t172)) else (some false))) else (some false))) else (some false))
theorem spec_IsEvent.mono : ∀ a0 a1 a2 a3 a4 a5 a6 k, LeO (spec_IsEvent.f k a0 a1 a2 a3 a4 a5 a6) (spec_IsEvent.f (k + 1) a0 a1 a2 a3 a4 a5 a6) := by
 intro a0 a1 a2 a3 a4 a5 a6 k
 unfold spec_IsEvent.f
 repeat' first
  | (with_reducible exact spec_IsPartyCode.mono _ _)
  | (with_reducible exact LeO.refl _)
  | (with_reducible exact LeO.none _)
  | (with_reducible refine LeO.ite ?_ ?_)
  | (with_reducible refine LeO.bind ?_ (fun _ => ?_))
  | exact spec_IsPartyCode.mono _ _
  | exact LeO.none _
  | refine LeO.ite ?_ ?_
  | refine LeO.bind ?_ (fun _ => ?_)
set_option maxHeartbeats 8000000 in
set_option maxRecDepth 100000 in
theorem spec_IsEvent.calls (k : Nat) (a0_0 : Int) (a0_1 : Int) (a0_2 : ByteArray) (a0_3 : Int) (a0_4 : Bool) (a0_5 : Bool) (a0_6 : Bool) (r : Bool) (w : World) (h : spec_IsEvent.f k a0_0 a0_1 a0_2 a0_3 a0_4 a0_5 a0_6 = some r) :
 Calls Try.prog 56 #[.agg #[.int .i64 a0_0, .int .i64 a0_1, .string a0_2, .int .i64 a0_3, .bool a0_4, .bool a0_5, .bool a0_6]] w fun e w' => e = .returned (.bool r) ∧ Below w.heap.size w w' := by
 have hu43 := Try.underlying43
 have HB := Aside0.mk (Below.refl w.heap.size w)
 have H : ((spec_l02Is.f a0_0).bind fun t169 => (if t169 = true then ((spec_l01In.f a0_1 0 6).bind fun t170 => (if t170 = true then ((spec_IsPartyCode.f k a0_2).bind fun t171 => (if t171 = true then ((spec_IsAmount.f a0_3).bind fun t172 => (some t172)) else (some false))) else (some false))) else (some false))) = some r := h
 clear h
 replace H := Option.bind_eq_some_iff.mp H
 obtain ⟨t169, A20, H⟩ := H
 replace H : (if t169 = true then ((spec_l01In.f a0_1 0 6).bind fun t170 => (if t170 = true then ((spec_IsPartyCode.f k a0_2).bind fun t171 => (if t171 = true then ((spec_IsAmount.f a0_3).bind fun t172 => (some t172)) else (some false))) else (some false))) else (some false)) = some r := H
 have A2 := Aside0.mk A20
 clear A20
 by_cases c3 : t169 = true
 subst c3
 have H1 : ((spec_l01In.f a0_1 0 6).bind fun t170 => (if t170 = true then ((spec_IsPartyCode.f k a0_2).bind fun t171 => (if t171 = true then ((spec_IsAmount.f a0_3).bind fun t172 => (some t172)) else (some false))) else (some false))) = some r := by rw [if_pos rfl] at H; exact H
 clear H
 have H := H1
 clear H1
 replace H := Option.bind_eq_some_iff.mp H
 obtain ⟨t170, A40, H⟩ := H
 replace H : (if t170 = true then ((spec_IsPartyCode.f k a0_2).bind fun t171 => (if t171 = true then ((spec_IsAmount.f a0_3).bind fun t172 => (some t172)) else (some false))) else (some false)) = some r := H
 have A4 := Aside0.mk A40
 clear A40
 by_cases c5 : t170 = true
 subst c5
 have H1 : ((spec_IsPartyCode.f k a0_2).bind fun t171 => (if t171 = true then ((spec_IsAmount.f a0_3).bind fun t172 => (some t172)) else (some false))) = some r := by rw [if_pos rfl] at H; exact H
 clear H
 have H := H1
 clear H1
 replace H := Option.bind_eq_some_iff.mp H
 obtain ⟨t171, A60, H⟩ := H
 replace H : (if t171 = true then ((spec_IsAmount.f a0_3).bind fun t172 => (some t172)) else (some false)) = some r := H
 have A6 := Aside0.mk A60
 clear A60
 by_cases c7 : t171 = true
 subst c7
 have H1 : ((spec_IsAmount.f a0_3).bind fun t172 => (some t172)) = some r := by rw [if_pos rfl] at H; exact H
 clear H
 have H := H1
 clear H1
 replace H := Option.bind_eq_some_iff.mp H
 obtain ⟨t172, A80, H⟩ := H
 replace H : (some t172) = some r := H
 have A8 := Aside0.mk A80
 clear A80
 obtain rfl := Option.some.inj H
 rotate_left
 replace c7 := Bool.eq_false_iff.mpr c7
 subst c7
 have H1 : (some false) = some r := by rw [if_neg (show ¬ (false = true) by decide)] at H; exact H
 clear H
 have H := H1
 clear H1
 obtain rfl := Option.some.inj H
 rotate_left
 replace c5 := Bool.eq_false_iff.mpr c5
 subst c5
 have H1 : (some false) = some r := by rw [if_neg (show ¬ (false = true) by decide)] at H; exact H
 clear H
 have H := H1
 clear H1
 obtain rfl := Option.some.inj H
 rotate_left
 replace c3 := Bool.eq_false_iff.mpr c3
 subst c3
 have H1 : (some false) = some r := by rw [if_neg (show ¬ (false = true) by decide)] at H; exact H
 clear H
 have H := H1
 clear H1
 obtain rfl := Option.some.inj H
 rotate_left
 all_goals
  go_enter Try.func56, Try.ntmps56
  go_wp2_with (first | ((with_reducible refine gate_dst (N := 1) rfl ?_); refine bx_ 1 #[.int .i64 a0_0, .int .i64 a0_1, .string a0_2, .int .i64 a0_3, .bool a0_4, .bool a0_5, .bool a0_6] 43 ?_; intro gb168 hg w9 hbox hb; have n0_ := Aside0.mk (bs_ hb); have n1_ := Aside0.mk (hbox); have n2_ := Aside0.mk ((by rw [hg]; exact (bz_) : w.heap.size ≤ gb168)); have n3_ := Aside0.mk ((by rw [hg]; exact (bz_) : w.heap.size ≤ gb168)); clear HB; revert n0_ n1_ n2_ n3_; intro HB BK168 GW168 GE168; clear hb hbox hg; have hcz10_0 := bk BK168 0; have hcz10_1 := bk BK168 1; have hcz10_2 := bk BK168 2; have hcz10_3 := bk BK168 3; have hcz10_4 := bk BK168 4; have hcz10_5 := bk BK168 5; have hcz10_6 := bk BK168 6; have hfz10_0 := blk_frozen BK168.out 0; have hfz10_1 := blk_frozen BK168.out 1; have hfz10_2 := blk_frozen BK168.out 2; have hfz10_3 := blk_frozen BK168.out 3; have hfz10_4 := blk_frozen BK168.out 4; have hfz10_5 := blk_frozen BK168.out 5; have hfz10_6 := blk_frozen BK168.out 6) | ((with_reducible refine gate_callee (f := 95) rfl ?_); refine gl_ 5 Try.func95 #[.int .i64 a0_0] ?_; (with_reducible refine (spec_l02Is.calls a0_0 _ _ A2.out).mono ?_); rintro e w' ⟨rfl, ⟨nd, rfl⟩⟩; refine ⟨_, rfl, ?_⟩) | (go_at_call 92; (with_reducible refine (spec_l01In.calls a0_1 0 6 _ _ A4.out).mono ?_); rintro e w' ⟨rfl, ⟨nd, rfl⟩⟩) | (go_at_call 96; (with_reducible refine (spec_IsPartyCode.calls k a0_2 _ _ A6.out).mono ?_); rintro e w' ⟨rfl, ⟨nd, rfl⟩⟩) | (go_at_call 77; (with_reducible refine (spec_IsAmount.calls a0_3 t172 _ A8.out).mono ?_); rintro e w' ⟨rfl, ⟨nd, rfl⟩⟩))
  go_ret
  exact ⟨by first | rfl | (simp [errW_none, errW_some] <;> rfl) | (simp [*, errW_none, errW_some] <;> rfl), bb_⟩

end Go.Proofs.Ytmfbkbbgokjhnaa.F
