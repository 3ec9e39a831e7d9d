-- Written by this session's program (wip/bin/hp.py) over the kit's print: a function's Lean form, and a proof that the call does what it says.
import Derived.Test.YtmfbkbbgokjhnaaGreatFx0
import Derived.Test.YtmfbkbbgokjhnaaGreatSq
import Derived.Test.YtmfbkbbgokjhnaaGreatFx7
namespace Go.Proofs.YtmfbkbbgokjhnaaGreat.F
open Go.RowKit Go.Proofs.YtmfbkbbgokjhnaaGreatW.PrintWords Go.Proofs.YtmfbkbbgokjhnaaGreatW.PrintLast Go.Proofs.YtmfbkbbgokjhnaaGreatW.PrintMore
attribute [local go_sem] max2_int min2_int max_two min_two max_three min_three max_four min_four   -- for this text's walks alone
set_option linter.unusedVariables false
set_option linter.unusedSimpArgs false

/-! ### spec_IsRulebook: function 36 -/
mutual
def spec_IsRulebook.l0 : Nat → List (S105) → Int → Option (Bool)
 | 0, _, _ => none
 | k + 1, x0, x3 => if x3 < (x0.length : Int) then (if 0 ≤ x3 then ((spec_IsClause.f k ((rd_T105 x0 x3).f0) ((rd_T105 x0 x3).f1) ((rd_T105 x0 x3).f2) ((rd_T105 x0 x3).f3) ((rd_T105 x0 x3).f4) ((rd_T105 x0 x3).f5) ((rd_T105 x0 x3).f6)).bind fun t149 => (if t149 = true then ((spec_l09Find.f k x0 ((rd_T105 x0 x3).f0)).bind fun t150 => (spec_IsRulebook.j1 k x0 x3 (t150 != x3) ((rd_T105 x0 x3).f0) ((rd_T105 x0 x3).f1) ((rd_T105 x0 x3).f2) ((rd_T105 x0 x3).f3) ((rd_T105 x0 x3).f4) ((rd_T105 x0 x3).f5) ((rd_T105 x0 x3).f6))) else (spec_IsRulebook.j1 k x0 x3 true ((rd_T105 x0 x3).f0) ((rd_T105 x0 x3).f1) ((rd_T105 x0 x3).f2) ((rd_T105 x0 x3).f3) ((rd_T105 x0 x3).f4) ((rd_T105 x0 x3).f5) ((rd_T105 x0 x3).f6)))) else (none)) else (if 0 ≤ (wrap64 ((x0.length : Int) - 1)) then (if (wrap64 ((x0.length : Int) - 1)) < (x0.length : Int) then (if ((rd_T105 x0 (wrap64 ((x0.length : Int) - 1))).f1) = (-1) then (if ((rd_T105 x0 (wrap64 ((x0.length : Int) - 1))).f2) = 0 then (if ((rd_T105 x0 (wrap64 ((x0.length : Int) - 1))).f3) = 0 then (if ((rd_T105 x0 (wrap64 ((x0.length : Int) - 1))).f4) = 0 then (some (((rd_T105 x0 (wrap64 ((x0.length : Int) - 1))).f5) != 3)) else (some false)) else (some false)) else (some false)) else (some false)) else (none)) else (none))
def spec_IsRulebook.j1 : Nat → List (S105) → Int → Bool → ByteArray → Int → Int → Int → Int → Int → ByteArray → Option (Bool)
 | 0, _, _, _, _, _, _, _, _, _, _ => none
 | k + 1, x0, x3, x30, x149000, x149001, x149002, x149003, x149004, x149005, x149006 => if x30 = true then (some false) else (if x149005 = 3 then ((spec_l09Find.f k x0 x149006).bind fun t151 => (if t151 ≤ x3 then (some false) else (spec_IsRulebook.l0 k x0 (wrap64 (x3 + 1))))) else (spec_IsRulebook.l0 k x0 (wrap64 (x3 + 1))))
end
def spec_IsRulebook.f (k : Nat) (l0 : List (S105)) : Option (Bool) := (spec_l01In.f (l0.length : Int) 1 12).bind fun t144 => (if t144 = true then (spec_IsRulebook.l0 k l0 0) else (some false))
theorem spec_IsRulebook.mono_l : ∀ k, (∀ y0 y1, LeO (spec_IsRulebook.l0 k y0 y1) (spec_IsRulebook.l0 (k + 1) y0 y1)) ∧ (∀ y0 y1 y2 y3 y4 y5 y6 y7 y8 y9, LeO (spec_IsRulebook.j1 k y0 y1 y2 y3 y4 y5 y6 y7 y8 y9) (spec_IsRulebook.j1 (k + 1) y0 y1 y2 y3 y4 y5 y6 y7 y8 y9))
 | 0 => ⟨fun _ _ r h => by simp [spec_IsRulebook.l0] at h, fun _ _ _ _ _ _ _ _ _ _ r h => by simp [spec_IsRulebook.j1] at h⟩
 | k + 1 => by
  obtain ⟨ih0, ih1⟩ := spec_IsRulebook.mono_l k
  refine ⟨?_, ?_⟩
  · intro y0 y1
    unfold spec_IsRulebook.l0
    repeat' first
    | (with_reducible exact ih0 _ _)
    | (with_reducible exact ih1 _ _ _ _ _ _ _ _ _ _)
    | (with_reducible exact spec_IsClause.mono _ _ _ _ _ _ _ _)
    | (with_reducible exact spec_l09Find.mono _ _ _)
    | (with_reducible exact LeO.refl _)
    | (with_reducible exact LeO.none _)
    | (with_reducible refine LeO.ite ?_ ?_)
    | (with_reducible refine LeO.bind ?_ (fun _ => ?_))
    | exact ih0 _ _
    | exact ih1 _ _ _ _ _ _ _ _ _ _
    | exact spec_IsClause.mono _ _ _ _ _ _ _ _
    | exact spec_l09Find.mono _ _ _
    | exact LeO.none _
    | refine LeO.ite ?_ ?_
    | refine LeO.bind ?_ (fun _ => ?_)
  · intro y0 y1 y2 y3 y4 y5 y6 y7 y8 y9
    unfold spec_IsRulebook.j1
    repeat' first
    | (with_reducible exact ih0 _ _)
    | (with_reducible exact ih1 _ _ _ _ _ _ _ _ _ _)
    | (with_reducible exact spec_IsClause.mono _ _ _ _ _ _ _ _)
    | (with_reducible exact spec_l09Find.mono _ _ _)
    | (with_reducible exact LeO.refl _)
    | (with_reducible exact LeO.none _)
    | (with_reducible refine LeO.ite ?_ ?_)
    | (with_reducible refine LeO.bind ?_ (fun _ => ?_))
    | exact ih0 _ _
    | exact ih1 _ _ _ _ _ _ _ _ _ _
    | exact spec_IsClause.mono _ _ _ _ _ _ _ _
    | exact spec_l09Find.mono _ _ _
    | exact LeO.none _
    | refine LeO.ite ?_ ?_
    | refine LeO.bind ?_ (fun _ => ?_)
theorem spec_IsRulebook.mono : ∀ a0 k, LeO (spec_IsRulebook.f k a0) (spec_IsRulebook.f (k + 1) a0) := by
 intro a0 k
 obtain ⟨ih0, ih1⟩ := spec_IsRulebook.mono_l k
 unfold spec_IsRulebook.f
 repeat' first
  | (with_reducible exact ih0 _ _)
  | (with_reducible exact ih1 _ _ _ _ _ _ _ _ _ _)
  | (with_reducible exact spec_IsClause.mono _ _ _ _ _ _ _ _)
  | (with_reducible exact spec_l09Find.mono _ _ _)
  | (with_reducible exact LeO.refl _)
  | (with_reducible exact LeO.none _)
  | (with_reducible refine LeO.ite ?_ ?_)
  | (with_reducible refine LeO.bind ?_ (fun _ => ?_))
  | exact ih0 _ _
  | exact ih1 _ _ _ _ _ _ _ _ _ _
  | exact spec_IsClause.mono _ _ _ _ _ _ _ _
  | exact spec_l09Find.mono _ _ _
  | exact LeO.none _
  | refine LeO.ite ?_ ?_
  | refine LeO.bind ?_ (fun _ => ?_)
set_option maxHeartbeats 8000000 in
set_option maxRecDepth 100000 in
theorem spec_IsRulebook.calls (k : Nat) (A0 : Option Addr) (c0 : Nat) (l0 : List (S105)) (r : Bool) (w : World) (hr0 : Kd.C k105 w A0 l0.length l0) (hc0 : l0.length ≤ c0) (h : spec_IsRulebook.f k l0 = some r) :
 Calls Tryz.prog 36 #[.slice A0 l0.length c0] w fun e w' => e = .returned (.bool r) ∧ Below w.heap.size w w' := by
 have hu105 := Tryz.underlying105
 have HR0 := Aside0.mk hr0
 have HC0 := Aside0.mk hc0
 clear hr0 hc0
 have HB := Aside0.mk (Below.refl w.heap.size w)
 have H : ((spec_l01In.f (l0.length : Int) 1 12).bind fun t144 => (if t144 = true then (spec_IsRulebook.l0 k l0 0) else (some false))) = some r := h
 clear h
 replace H := Option.bind_eq_some_iff.mp H
 obtain ⟨t144, A20, H⟩ := H
 replace H : (if t144 = true then (spec_IsRulebook.l0 k l0 0) else (some false)) = some r := H
 have A2 := Aside0.mk A20
 clear A20
 by_cases c3 : t144 = true
 · subst c3
   have H1 : (spec_IsRulebook.l0 k l0 0) = some r := by rw [if_pos rfl] at H; exact H
   clear H
   have H := H1
   clear H1
   have H' := Aside0.mk H
   clear H
   go_enter Tryz.func36, Tryz.ntmps36
   go_wp2_with (first | ((with_reducible refine gate_callee (f := 86) rfl ?_); refine goesL_ (some 8) rfl rfl Tryz.func86 (by kernel_rfl) rfl #[.int .i64 (l0.length : Int), .int .i64 1, .int .i64 12] rfl (by (try simp only [List.map_toArray, List.map_cons, List.map_nil]); first | done | rfl | (simp only [List.length_drop, List.length_take]; rfl)) ?_; (with_reducible refine (spec_l01In.calls (l0.length : Int) 1 12 true _ A2.out).mono ?_); rintro e w' ⟨rfl, ⟨nd, rfl⟩⟩; refine ⟨_, rfl, ?_⟩))
   go_loopg [3] k (fun kq v3 w' => ∃ (x3_1 : Int), v3 = .int .i64 x3_1 ∧ Aside0 (spec_IsRulebook.l0 kq l0 x3_1 = some r) ∧ Aside0 (kq ≤ k) ∧ Aside0 (Below w.heap.size w w'))
   case atStart => exact ⟨(0), (by first | rfl | (simp; done) | (simp [*]; done)), H', ⟨Nat.le_refl _⟩, ⟨bb_⟩⟩
   case round =>
    clear H'
    try clear p2
    try clear c3
    obtain ⟨x3_1, rfl, HA, HK1, HB⟩ := hrel
    cases gk with
    | zero => exact absurd HA.out (by simp [spec_IsRulebook.l0])
    | succ k1 =>
     have H := HA.out
     clear HA
     simp only [spec_IsRulebook.l0] at H
     by_cases c4 : x3_1 < (l0.length : Int)
     · rw [if_pos c4] at H
       have c4b0 : decide (x3_1 < (l0.length : Int)) = true := decide_eq_true c4
       clear c4
       by_cases c5 : 0 ≤ x3_1
       · rw [if_pos c5] at H
         have c5b0 : decide (0 ≤ x3_1) = true := decide_eq_true c5
         clear c5
         have HC6 := Aside0.mk H
         clear H
         have p147 : 0 ≤ (x3_1 : Int) := of_decide_eq_true (by first | (with_reducible assumption) | assumption)
         have q147 : x3_1 < (l0.length : Int) := of_decide_eq_true (by first | (with_reducible assumption) | assumption)
         obtain ⟨ad147, e147, hx147_0, hx147_1, hx147_2, hx147_3, hx147_4, hx147_5, hx147_6⟩ := at_T105 HR0.out x3_1 p147 q147
         cases e147
         replace hx147_0 := cel HB hx147_0
         replace hx147_1 := cel HB hx147_1
         replace hx147_2 := cel HB hx147_2
         replace hx147_3 := cel HB hx147_3
         replace hx147_4 := cel HB hx147_4
         replace hx147_5 := cel HB hx147_5
         replace hx147_6 := cel HB hx147_6
         replace p147 := eq_true p147
         replace q147 := eq_true q147
         go_upto_region 7 with (first | ((with_reducible refine gate_dst (N := 4) rfl ?_); refine box_event ?hg (N := 4) ?hd (cs := #[.string (⟨#[]⟩ : ByteArray), .int .i64 0, .int .i64 0, .int .i64 0, .int .i64 0, .int .i64 0, .string (⟨#[]⟩ : ByteArray)]) (t := 105) ?hr ?_; (case hd => rfl); (case hg => rfl); (case hr => first | (go_simp; done) | (go_simp; rfl)); intro gb148 hg w7 hbox hb; have n0_ := Aside0.mk (bs_ hb); have n1_ := Aside0.mk (hbox); have n2_ := Aside0.mk ((by rw [hg]; exact (bz_) : w.heap.size ≤ gb148)); have n3_ := Aside0.mk ((by rw [hg]; exact (bz_) : w.heap.size ≤ gb148)); clear HB; have HB := n0_; have BK148 := n1_; have GW148 := n2_; have GE148 := n3_; clear n0_ n1_ n2_ n3_; clear hb hbox hg; have hcz8_0 := bk BK148 0; have hcz8_1 := bk BK148 1; have hcz8_2 := bk BK148 2; have hcz8_3 := bk BK148 3; have hcz8_4 := bk BK148 4; have hcz8_5 := bk BK148 5; have hcz8_6 := bk BK148 6; have hfz8_0 := blk_frozen BK148.out 0; have hfz8_1 := blk_frozen BK148.out 1; have hfz8_2 := blk_frozen BK148.out 2; have hfz8_3 := blk_frozen BK148.out 3; have hfz8_4 := blk_frozen BK148.out 4; have hfz8_5 := blk_frozen BK148.out 5; have hfz8_6 := blk_frozen BK148.out 6))
         (try simp only [Act.put, List.setIfInBounds_toArray, List.set_cons_zero, List.set_cons_succ])
         go_cut [30] (fun v30 wc => ∃ (kq : Nat) (x30_5 : Bool), v30 = .bool x30_5 ∧ Aside0 (spec_IsRulebook.j1 kq l0 x3_1 x30_5 ((rd_T105 l0 x3_1).f0) ((rd_T105 l0 x3_1).f1) ((rd_T105 l0 x3_1).f2) ((rd_T105 l0 x3_1).f3) ((rd_T105 l0 x3_1).f4) ((rd_T105 l0 x3_1).f5) ((rd_T105 l0 x3_1).f6) = some r) ∧ Aside0 (kq ≤ k1) ∧ Aside0 (wc.heap[gb148]? = some (.cells #[.string ((rd_T105 l0 x3_1).f0), .int .i64 ((rd_T105 l0 x3_1).f1), .int .i64 ((rd_T105 l0 x3_1).f2), .int .i64 ((rd_T105 l0 x3_1).f3), .int .i64 ((rd_T105 l0 x3_1).f4), .int .i64 ((rd_T105 l0 x3_1).f5), .string ((rd_T105 l0 x3_1).f6)] 105 (0, 0))) ∧ Aside0 (Below w.heap.size w wc))
         case first =>
          have H := HC6.out
          clear HC6
          replace H := Option.bind_eq_some_iff.mp H
          obtain ⟨t149, A90, H⟩ := H
          replace H : (if t149 = true then ((spec_l09Find.f k1 l0 ((rd_T105 l0 x3_1).f0)).bind fun t150 => (spec_IsRulebook.j1 k1 l0 x3_1 (t150 != x3_1) ((rd_T105 l0 x3_1).f0) ((rd_T105 l0 x3_1).f1) ((rd_T105 l0 x3_1).f2) ((rd_T105 l0 x3_1).f3) ((rd_T105 l0 x3_1).f4) ((rd_T105 l0 x3_1).f5) ((rd_T105 l0 x3_1).f6))) else (spec_IsRulebook.j1 k1 l0 x3_1 true ((rd_T105 l0 x3_1).f0) ((rd_T105 l0 x3_1).f1) ((rd_T105 l0 x3_1).f2) ((rd_T105 l0 x3_1).f3) ((rd_T105 l0 x3_1).f4) ((rd_T105 l0 x3_1).f5) ((rd_T105 l0 x3_1).f6))) = some r := H
          have A9 := Aside0.mk A90
          clear A90
          by_cases c10 : t149 = true
          · subst c10
            have H1 : ((spec_l09Find.f k1 l0 ((rd_T105 l0 x3_1).f0)).bind fun t150 => (spec_IsRulebook.j1 k1 l0 x3_1 (t150 != x3_1) ((rd_T105 l0 x3_1).f0) ((rd_T105 l0 x3_1).f1) ((rd_T105 l0 x3_1).f2) ((rd_T105 l0 x3_1).f3) ((rd_T105 l0 x3_1).f4) ((rd_T105 l0 x3_1).f5) ((rd_T105 l0 x3_1).f6))) = some r := by rw [if_pos rfl] at H; exact H
            clear H
            have H := H1
            clear H1
            replace H := Option.bind_eq_some_iff.mp H
            obtain ⟨t150, A110, H⟩ := H
            replace H : (spec_IsRulebook.j1 k1 l0 x3_1 (t150 != x3_1) ((rd_T105 l0 x3_1).f0) ((rd_T105 l0 x3_1).f1) ((rd_T105 l0 x3_1).f2) ((rd_T105 l0 x3_1).f3) ((rd_T105 l0 x3_1).f4) ((rd_T105 l0 x3_1).f5) ((rd_T105 l0 x3_1).f6)) = some r := H
            have A11 := Aside0.mk A110
            clear A110
            have H' := Aside0.mk H
            clear H
            have hcz12_0 := bk BK148 0
            have hcz12_1 := bk BK148 1
            have hcz12_2 := bk BK148 2
            have hcz12_3 := bk BK148 3
            have hcz12_4 := bk BK148 4
            have hcz12_5 := bk BK148 5
            have hcz12_6 := bk BK148 6
            have hfz12_0 := blk_frozen BK148.out 0
            have hfz12_1 := blk_frozen BK148.out 1
            have hfz12_2 := blk_frozen BK148.out 2
            have hfz12_3 := blk_frozen BK148.out 3
            have hfz12_4 := blk_frozen BK148.out 4
            have hfz12_5 := blk_frozen BK148.out 5
            have hfz12_6 := blk_frozen BK148.out 6
            go_wp2_with (first | ((with_reducible refine gate_callee (f := 87) rfl ?_); refine goesL_ (some 21) rfl rfl Tryz.func87 (by kernel_rfl) rfl #[.agg #[.string ((rd_T105 l0 x3_1).f0), .int .i64 ((rd_T105 l0 x3_1).f1), .int .i64 ((rd_T105 l0 x3_1).f2), .int .i64 ((rd_T105 l0 x3_1).f3), .int .i64 ((rd_T105 l0 x3_1).f4), .int .i64 ((rd_T105 l0 x3_1).f5), .string ((rd_T105 l0 x3_1).f6)]] rfl (by (try simp only [List.map_toArray, List.map_cons, List.map_nil]); first | done | rfl | (simp only [List.length_drop, List.length_take]; rfl)) ?_; (with_reducible refine (spec_IsClause.calls k1 ((rd_T105 l0 x3_1).f0) ((rd_T105 l0 x3_1).f1) ((rd_T105 l0 x3_1).f2) ((rd_T105 l0 x3_1).f3) ((rd_T105 l0 x3_1).f4) ((rd_T105 l0 x3_1).f5) ((rd_T105 l0 x3_1).f6) true _ A9.out).mono ?_); rintro e w13 ⟨rfl, hb⟩; refine ⟨_, rfl, ?_⟩; have n0_ := Aside0.mk (blk_below (g := gb148) (o := .cells #[.string ((rd_T105 l0 x3_1).f0), .int .i64 ((rd_T105 l0 x3_1).f1), .int .i64 ((rd_T105 l0 x3_1).f2), .int .i64 ((rd_T105 l0 x3_1).f3), .int .i64 ((rd_T105 l0 x3_1).f4), .int .i64 ((rd_T105 l0 x3_1).f5), .string ((rd_T105 l0 x3_1).f6)] 105 (0, 0)) (by (with_reducible repeat (first | refine blk_drewN ?_ _ | refine blk_drew ?_ | refine blk_alloc ?_ _)); refine blk_put (cs := #[.string ((rd_T105 l0 x3_1).f0), .int .i64 ((rd_T105 l0 x3_1).f1), .int .i64 ((rd_T105 l0 x3_1).f2), .int .i64 ((rd_T105 l0 x3_1).f3), .int .i64 ((rd_T105 l0 x3_1).f4), .int .i64 ((rd_T105 l0 x3_1).f5), .string (⟨#[]⟩ : ByteArray)]) ?_ 6 _ rfl; (with_reducible repeat (first | refine blk_drewN ?_ _ | refine blk_drew ?_ | refine blk_alloc ?_ _)); refine blk_put (cs := #[.string ((rd_T105 l0 x3_1).f0), .int .i64 ((rd_T105 l0 x3_1).f1), .int .i64 ((rd_T105 l0 x3_1).f2), .int .i64 ((rd_T105 l0 x3_1).f3), .int .i64 ((rd_T105 l0 x3_1).f4), .int .i64 0, .string (⟨#[]⟩ : ByteArray)]) ?_ 5 _ rfl; (with_reducible repeat (first | refine blk_drewN ?_ _ | refine blk_drew ?_ | refine blk_alloc ?_ _)); refine blk_put (cs := #[.string ((rd_T105 l0 x3_1).f0), .int .i64 ((rd_T105 l0 x3_1).f1), .int .i64 ((rd_T105 l0 x3_1).f2), .int .i64 ((rd_T105 l0 x3_1).f3), .int .i64 0, .int .i64 0, .string (⟨#[]⟩ : ByteArray)]) ?_ 4 _ rfl; (with_reducible repeat (first | refine blk_drewN ?_ _ | refine blk_drew ?_ | refine blk_alloc ?_ _)); refine blk_put (cs := #[.string ((rd_T105 l0 x3_1).f0), .int .i64 ((rd_T105 l0 x3_1).f1), .int .i64 ((rd_T105 l0 x3_1).f2), .int .i64 0, .int .i64 0, .int .i64 0, .string (⟨#[]⟩ : ByteArray)]) ?_ 3 _ rfl; (with_reducible repeat (first | refine blk_drewN ?_ _ | refine blk_drew ?_ | refine blk_alloc ?_ _)); refine blk_put (cs := #[.string ((rd_T105 l0 x3_1).f0), .int .i64 ((rd_T105 l0 x3_1).f1), .int .i64 0, .int .i64 0, .int .i64 0, .int .i64 0, .string (⟨#[]⟩ : ByteArray)]) ?_ 2 _ rfl; (with_reducible repeat (first | refine blk_drewN ?_ _ | refine blk_drew ?_ | refine blk_alloc ?_ _)); refine blk_put (cs := #[.string ((rd_T105 l0 x3_1).f0), .int .i64 0, .int .i64 0, .int .i64 0, .int .i64 0, .int .i64 0, .string (⟨#[]⟩ : ByteArray)]) ?_ 1 _ rfl; (with_reducible repeat (first | refine blk_drewN ?_ _ | refine blk_drew ?_ | refine blk_alloc ?_ _)); refine blk_put (cs := #[.string (⟨#[]⟩ : ByteArray), .int .i64 0, .int .i64 0, .int .i64 0, .int .i64 0, .int .i64 0, .string (⟨#[]⟩ : ByteArray)]) ?_ 0 _ rfl; (with_reducible repeat (first | refine blk_drewN ?_ _ | refine blk_drew ?_ | refine blk_alloc ?_ _)); exact BK148.out) hb); have n1_ := Aside0.mk (bs_ hb); clear BK148; clear HB; have BK148 := n0_; have HB := n1_; clear n0_ n1_; (try clear hb); (try clear hb2); (try clear hk); (try clear hi); have hcz14_0 := bk BK148 0; have hcz14_1 := bk BK148 1; have hcz14_2 := bk BK148 2; have hcz14_3 := bk BK148 3; have hcz14_4 := bk BK148 4; have hcz14_5 := bk BK148 5; have hcz14_6 := bk BK148 6; have hfz14_0 := blk_frozen BK148.out 0; have hfz14_1 := blk_frozen BK148.out 1; have hfz14_2 := blk_frozen BK148.out 2; have hfz14_3 := blk_frozen BK148.out 3; have hfz14_4 := blk_frozen BK148.out 4; have hfz14_5 := blk_frozen BK148.out 5; have hfz14_6 := blk_frozen BK148.out 6) | (go_at_call 88; (with_reducible refine (spec_l09Find.calls k1 _ _ l0 ((rd_T105 l0 x3_1).f0) t150 _ ?side1 ?side2 A11.out).mono ?_); (case side1 => repeat (first | exact (Kd.C_below HR0.out HB.out) | (with_reducible refine Kd.C_alloc ?_ _) | (with_reducible refine Kd.C_drewN ?_ _) | (with_reducible refine Kd.C_drew ?_))); (case side2 => exact HC0.out); rintro e w' ⟨rfl, ⟨nd, rfl⟩⟩))
            go_meet
            case rel => exact ⟨_, ((t150 != x3_1)), (by first | rfl | (simp; done) | (simp [*]; done)), H', ⟨by have := HK1.out; first | omega | exact Nat.le_refl _⟩, ⟨by (with_reducible repeat (first | refine blk_drewN ?_ _ | refine blk_drew ?_ | refine blk_alloc ?_ _)); exact BK148.out⟩, ⟨bb_⟩⟩
          · replace c10 := Bool.eq_false_iff.mpr c10
            subst c10
            have H1 : (spec_IsRulebook.j1 k1 l0 x3_1 true ((rd_T105 l0 x3_1).f0) ((rd_T105 l0 x3_1).f1) ((rd_T105 l0 x3_1).f2) ((rd_T105 l0 x3_1).f3) ((rd_T105 l0 x3_1).f4) ((rd_T105 l0 x3_1).f5) ((rd_T105 l0 x3_1).f6)) = some r := by rw [if_neg (show ¬ (false = true) by decide)] at H; exact H
            clear H
            have H := H1
            clear H1
            have H' := Aside0.mk H
            clear H
            have hcz15_0 := bk BK148 0
            have hcz15_1 := bk BK148 1
            have hcz15_2 := bk BK148 2
            have hcz15_3 := bk BK148 3
            have hcz15_4 := bk BK148 4
            have hcz15_5 := bk BK148 5
            have hcz15_6 := bk BK148 6
            have hfz15_0 := blk_frozen BK148.out 0
            have hfz15_1 := blk_frozen BK148.out 1
            have hfz15_2 := blk_frozen BK148.out 2
            have hfz15_3 := blk_frozen BK148.out 3
            have hfz15_4 := blk_frozen BK148.out 4
            have hfz15_5 := blk_frozen BK148.out 5
            have hfz15_6 := blk_frozen BK148.out 6
            go_wp2_with (first | ((with_reducible refine gate_callee (f := 87) rfl ?_); refine goesL_ (some 21) rfl rfl Tryz.func87 (by kernel_rfl) rfl #[.agg #[.string ((rd_T105 l0 x3_1).f0), .int .i64 ((rd_T105 l0 x3_1).f1), .int .i64 ((rd_T105 l0 x3_1).f2), .int .i64 ((rd_T105 l0 x3_1).f3), .int .i64 ((rd_T105 l0 x3_1).f4), .int .i64 ((rd_T105 l0 x3_1).f5), .string ((rd_T105 l0 x3_1).f6)]] rfl (by (try simp only [List.map_toArray, List.map_cons, List.map_nil]); first | done | rfl | (simp only [List.length_drop, List.length_take]; rfl)) ?_; (with_reducible refine (spec_IsClause.calls k1 ((rd_T105 l0 x3_1).f0) ((rd_T105 l0 x3_1).f1) ((rd_T105 l0 x3_1).f2) ((rd_T105 l0 x3_1).f3) ((rd_T105 l0 x3_1).f4) ((rd_T105 l0 x3_1).f5) ((rd_T105 l0 x3_1).f6) false _ A9.out).mono ?_); rintro e w16 ⟨rfl, hb⟩; refine ⟨_, rfl, ?_⟩; have n0_ := Aside0.mk (blk_below (g := gb148) (o := .cells #[.string ((rd_T105 l0 x3_1).f0), .int .i64 ((rd_T105 l0 x3_1).f1), .int .i64 ((rd_T105 l0 x3_1).f2), .int .i64 ((rd_T105 l0 x3_1).f3), .int .i64 ((rd_T105 l0 x3_1).f4), .int .i64 ((rd_T105 l0 x3_1).f5), .string ((rd_T105 l0 x3_1).f6)] 105 (0, 0)) (by (with_reducible repeat (first | refine blk_drewN ?_ _ | refine blk_drew ?_ | refine blk_alloc ?_ _)); refine blk_put (cs := #[.string ((rd_T105 l0 x3_1).f0), .int .i64 ((rd_T105 l0 x3_1).f1), .int .i64 ((rd_T105 l0 x3_1).f2), .int .i64 ((rd_T105 l0 x3_1).f3), .int .i64 ((rd_T105 l0 x3_1).f4), .int .i64 ((rd_T105 l0 x3_1).f5), .string (⟨#[]⟩ : ByteArray)]) ?_ 6 _ rfl; (with_reducible repeat (first | refine blk_drewN ?_ _ | refine blk_drew ?_ | refine blk_alloc ?_ _)); refine blk_put (cs := #[.string ((rd_T105 l0 x3_1).f0), .int .i64 ((rd_T105 l0 x3_1).f1), .int .i64 ((rd_T105 l0 x3_1).f2), .int .i64 ((rd_T105 l0 x3_1).f3), .int .i64 ((rd_T105 l0 x3_1).f4), .int .i64 0, .string (⟨#[]⟩ : ByteArray)]) ?_ 5 _ rfl; (with_reducible repeat (first | refine blk_drewN ?_ _ | refine blk_drew ?_ | refine blk_alloc ?_ _)); refine blk_put (cs := #[.string ((rd_T105 l0 x3_1).f0), .int .i64 ((rd_T105 l0 x3_1).f1), .int .i64 ((rd_T105 l0 x3_1).f2), .int .i64 ((rd_T105 l0 x3_1).f3), .int .i64 0, .int .i64 0, .string (⟨#[]⟩ : ByteArray)]) ?_ 4 _ rfl; (with_reducible repeat (first | refine blk_drewN ?_ _ | refine blk_drew ?_ | refine blk_alloc ?_ _)); refine blk_put (cs := #[.string ((rd_T105 l0 x3_1).f0), .int .i64 ((rd_T105 l0 x3_1).f1), .int .i64 ((rd_T105 l0 x3_1).f2), .int .i64 0, .int .i64 0, .int .i64 0, .string (⟨#[]⟩ : ByteArray)]) ?_ 3 _ rfl; (with_reducible repeat (first | refine blk_drewN ?_ _ | refine blk_drew ?_ | refine blk_alloc ?_ _)); refine blk_put (cs := #[.string ((rd_T105 l0 x3_1).f0), .int .i64 ((rd_T105 l0 x3_1).f1), .int .i64 0, .int .i64 0, .int .i64 0, .int .i64 0, .string (⟨#[]⟩ : ByteArray)]) ?_ 2 _ rfl; (with_reducible repeat (first | refine blk_drewN ?_ _ | refine blk_drew ?_ | refine blk_alloc ?_ _)); refine blk_put (cs := #[.string ((rd_T105 l0 x3_1).f0), .int .i64 0, .int .i64 0, .int .i64 0, .int .i64 0, .int .i64 0, .string (⟨#[]⟩ : ByteArray)]) ?_ 1 _ rfl; (with_reducible repeat (first | refine blk_drewN ?_ _ | refine blk_drew ?_ | refine blk_alloc ?_ _)); refine blk_put (cs := #[.string (⟨#[]⟩ : ByteArray), .int .i64 0, .int .i64 0, .int .i64 0, .int .i64 0, .int .i64 0, .string (⟨#[]⟩ : ByteArray)]) ?_ 0 _ rfl; (with_reducible repeat (first | refine blk_drewN ?_ _ | refine blk_drew ?_ | refine blk_alloc ?_ _)); exact BK148.out) hb); have n1_ := Aside0.mk (bs_ hb); clear BK148; clear HB; have BK148 := n0_; have HB := n1_; clear n0_ n1_; (try clear hb); (try clear hb2); (try clear hk); (try clear hi)))
            go_meet
            case rel => exact ⟨_, (true), (by first | rfl | (simp; done) | (simp [*]; done)), H', ⟨by have := HK1.out; first | omega | exact Nat.le_refl _⟩, ⟨by (with_reducible repeat (first | refine blk_drewN ?_ _ | refine blk_drew ?_ | refine blk_alloc ?_ _)); exact BK148.out⟩, ⟨bb_⟩⟩
         case rest =>
          clear HC6
          try clear c1
          try clear p1
          try clear q1
          try clear hx1
          try clear p2
          try clear c3
          try clear c4
          try clear c4b0
          try clear c5
          try clear c5b0
          try clear c8
          try clear c10
          try clear p14
          try clear q14
          try clear hx14
          try clear hcz12_0
          try clear hcz12_1
          try clear hcz12_2
          try clear hcz12_3
          try clear hcz12_4
          try clear hcz12_5
          try clear hcz12_6
          try clear hcz14_0
          try clear hcz14_1
          try clear hcz14_2
          try clear hcz14_3
          try clear hcz14_4
          try clear hcz14_5
          try clear hcz14_6
          try clear hcz15_0
          try clear hcz15_1
          try clear hcz15_2
          try clear hcz15_3
          try clear hcz15_4
          try clear hcz15_5
          try clear hcz15_6
          try clear hcz8_0
          try clear hcz8_1
          try clear hcz8_2
          try clear hcz8_3
          try clear hcz8_4
          try clear hcz8_5
          try clear hcz8_6
          try clear hfz12_0
          try clear hfz12_1
          try clear hfz12_2
          try clear hfz12_3
          try clear hfz12_4
          try clear hfz12_5
          try clear hfz12_6
          try clear hfz14_0
          try clear hfz14_1
          try clear hfz14_2
          try clear hfz14_3
          try clear hfz14_4
          try clear hfz14_5
          try clear hfz14_6
          try clear hfz15_0
          try clear hfz15_1
          try clear hfz15_2
          try clear hfz15_3
          try clear hfz15_4
          try clear hfz15_5
          try clear hfz15_6
          try clear hfz8_0
          try clear hfz8_1
          try clear hfz8_2
          try clear hfz8_3
          try clear hfz8_4
          try clear hfz8_5
          try clear hfz8_6
          try clear hx147_0
          try clear hx147_1
          try clear hx147_2
          try clear hx147_3
          try clear hx147_4
          try clear hx147_5
          try clear hx147_6
          try clear p147
          try clear p2
          try clear q147
          obtain ⟨kq, x30_5, rfl, HA, HJ5, BK148, HB⟩ := hcut
          cases kq with
          | zero => exact absurd HA.out (by simp [spec_IsRulebook.j1])
          | succ kj5 =>
           have H := HA.out
           clear HA
           simp only [spec_IsRulebook.j1] at H
           by_cases c17 : x30_5 = true
           · subst c17
             have H1 : (some false) = some r := by rw [if_pos rfl] at H; exact H
             clear H
             have H := H1
             clear H1
             obtain rfl := Option.some.inj H
             go_wp2
             go_ret
             exact ⟨by first | rfl | (simp [errW_none, errW_some] <;> rfl) | (simp [*, errW_none, errW_some] <;> rfl), bb_⟩
           · replace c17 := Bool.eq_false_iff.mpr c17
             subst c17
             have H1 : (if ((rd_T105 l0 x3_1).f5) = 3 then ((spec_l09Find.f kj5 l0 ((rd_T105 l0 x3_1).f6)).bind fun t151 => (if t151 ≤ x3_1 then (some false) else (spec_IsRulebook.l0 kj5 l0 (wrap64 (x3_1 + 1))))) else (spec_IsRulebook.l0 kj5 l0 (wrap64 (x3_1 + 1)))) = some r := by rw [if_neg (show ¬ (false = true) by decide)] at H; exact H
             clear H
             have H := H1
             clear H1
             by_cases c18 : ((rd_T105 l0 x3_1).f5) = 3
             · rw [if_pos c18] at H
               have c18b0 : (((rd_T105 l0 x3_1).f5) == 3) = true := beq_iff_eq.mpr c18
               have c18b1 : (((rd_T105 l0 x3_1).f5) != 3) = false := bne_eq_false_iff_eq.mpr c18
               clear c18
               replace H := Option.bind_eq_some_iff.mp H
               obtain ⟨t151, A190, H⟩ := H
               replace H : (if t151 ≤ x3_1 then (some false) else (spec_IsRulebook.l0 kj5 l0 (wrap64 (x3_1 + 1)))) = some r := H
               have A19 := Aside0.mk A190
               clear A190
               by_cases c20 : t151 ≤ x3_1
               · rw [if_pos c20] at H
                 have c20b0 : decide (t151 ≤ x3_1) = true := decide_eq_true c20
                 clear c20
                 obtain rfl := Option.some.inj H
                 have hcz21_0 := bk BK148 0
                 have hcz21_1 := bk BK148 1
                 have hcz21_2 := bk BK148 2
                 have hcz21_3 := bk BK148 3
                 have hcz21_4 := bk BK148 4
                 have hcz21_5 := bk BK148 5
                 have hcz21_6 := bk BK148 6
                 have hfz21_0 := blk_frozen BK148.out 0
                 have hfz21_1 := blk_frozen BK148.out 1
                 have hfz21_2 := blk_frozen BK148.out 2
                 have hfz21_3 := blk_frozen BK148.out 3
                 have hfz21_4 := blk_frozen BK148.out 4
                 have hfz21_5 := blk_frozen BK148.out 5
                 have hfz21_6 := blk_frozen BK148.out 6
                 go_wp2_with (first | (go_at_call 88; (with_reducible refine (spec_l09Find.calls kj5 _ _ l0 ((rd_T105 l0 x3_1).f6) t151 _ ?side1 ?side2 A19.out).mono ?_); (case side1 => repeat (first | exact (Kd.C_below HR0.out HB.out) | (with_reducible refine Kd.C_alloc ?_ _) | (with_reducible refine Kd.C_drewN ?_ _) | (with_reducible refine Kd.C_drew ?_))); (case side2 => exact HC0.out); rintro e w' ⟨rfl, ⟨nd, rfl⟩⟩))
                 go_ret
                 exact ⟨by first | rfl | (simp [errW_none, errW_some] <;> rfl) | (simp [*, errW_none, errW_some] <;> rfl), bb_⟩
               · rw [if_neg c20] at H
                 have c20b0 : decide (t151 ≤ x3_1) = false := decide_eq_false c20
                 clear c20
                 have H' := Aside0.mk H
                 clear H
                 have hcz22_0 := bk BK148 0
                 have hcz22_1 := bk BK148 1
                 have hcz22_2 := bk BK148 2
                 have hcz22_3 := bk BK148 3
                 have hcz22_4 := bk BK148 4
                 have hcz22_5 := bk BK148 5
                 have hcz22_6 := bk BK148 6
                 have hfz22_0 := blk_frozen BK148.out 0
                 have hfz22_1 := blk_frozen BK148.out 1
                 have hfz22_2 := blk_frozen BK148.out 2
                 have hfz22_3 := blk_frozen BK148.out 3
                 have hfz22_4 := blk_frozen BK148.out 4
                 have hfz22_5 := blk_frozen BK148.out 5
                 have hfz22_6 := blk_frozen BK148.out 6
                 go_wp2_with (first | (go_at_call 88; (with_reducible refine (spec_l09Find.calls kj5 _ _ l0 ((rd_T105 l0 x3_1).f6) t151 _ ?side1 ?side2 A19.out).mono ?_); (case side1 => repeat (first | exact (Kd.C_below HR0.out HB.out) | (with_reducible refine Kd.C_alloc ?_ _) | (with_reducible refine Kd.C_drewN ?_ _) | (with_reducible refine Kd.C_drew ?_))); (case side2 => exact HC0.out); rintro e w' ⟨rfl, ⟨nd, rfl⟩⟩))
                 go_roundg kj5
                 case measure => have := HK1.out; have := HJ5.out; omega
                 case rel => exact ⟨(wrap64 (x3_1 + 1)), (by first | rfl | (simp; done) | (simp [*]; done)), H', ⟨by have := HK1.out; have := HJ5.out; omega⟩, ⟨bb_⟩⟩
             · rw [if_neg c18] at H
               have c18b0 : (((rd_T105 l0 x3_1).f5) == 3) = false := beq_eq_false_iff_ne.mpr c18
               have c18b1 : (((rd_T105 l0 x3_1).f5) != 3) = true := bne_iff_ne.mpr c18
               have H' := Aside0.mk H
               clear H
               have hcz23_0 := bk BK148 0
               have hcz23_1 := bk BK148 1
               have hcz23_2 := bk BK148 2
               have hcz23_3 := bk BK148 3
               have hcz23_4 := bk BK148 4
               have hcz23_5 := bk BK148 5
               have hcz23_6 := bk BK148 6
               have hfz23_0 := blk_frozen BK148.out 0
               have hfz23_1 := blk_frozen BK148.out 1
               have hfz23_2 := blk_frozen BK148.out 2
               have hfz23_3 := blk_frozen BK148.out 3
               have hfz23_4 := blk_frozen BK148.out 4
               have hfz23_5 := blk_frozen BK148.out 5
               have hfz23_6 := blk_frozen BK148.out 6
               go_wp2
               go_roundg kj5
               case measure => have := HK1.out; have := HJ5.out; omega
               case rel => exact ⟨(wrap64 (x3_1 + 1)), (by first | rfl | (simp; done) | (simp [*]; done)), H', ⟨by have := HK1.out; have := HJ5.out; omega⟩, ⟨bb_⟩⟩
       · rw [if_neg c5] at H
         exact absurd H (by simp)
     · rw [if_neg c4] at H
       have c4b0 : decide (x3_1 < (l0.length : Int)) = false := decide_eq_false c4
       clear c4
       obtain ⟨ji24, hji24⟩ : ∃ j_ : Int, (wrap64 ((l0.length : Int) - 1)) = j_ := ⟨_, rfl⟩
       replace H : (if 0 ≤ (ji24) then (if (ji24) < (l0.length : Int) then (if ((rd_T105 l0 (ji24)).f1) = (-1) then (if ((rd_T105 l0 (ji24)).f2) = 0 then (if ((rd_T105 l0 (ji24)).f3) = 0 then (if ((rd_T105 l0 (ji24)).f4) = 0 then (some (((rd_T105 l0 (ji24)).f5) != 3)) else (some false)) else (some false)) else (some false)) else (some false)) else (none)) else (none)) = some r := by first | (rw [hji24] at H; exact H) | (simp only [hji24] at H ⊢; exact H)
       have hji24w : (IntKind.i64.wrap ((l0.length : Int) - 1)) = ji24 := (i64_w _).trans hji24
       by_cases c25 : 0 ≤ (ji24)
       · rw [if_pos c25] at H
         have c25b0 : decide (0 ≤ (ji24)) = true := decide_eq_true c25
         clear c25
         by_cases c26 : (ji24) < (l0.length : Int)
         · rw [if_pos c26] at H
           have c26b0 : decide ((ji24) < (l0.length : Int)) = true := decide_eq_true c26
           clear c26
           by_cases c27 : ((rd_T105 l0 (ji24)).f1) = (-1)
           · rw [if_pos c27] at H
             have c27b0 : (((rd_T105 l0 (ji24)).f1) == (-1)) = true := beq_iff_eq.mpr c27
             have c27b1 : (((rd_T105 l0 (ji24)).f1) != (-1)) = false := bne_eq_false_iff_eq.mpr c27
             clear c27
             by_cases c28 : ((rd_T105 l0 (ji24)).f2) = 0
             · rw [if_pos c28] at H
               have c28b0 : (((rd_T105 l0 (ji24)).f2) == 0) = true := beq_iff_eq.mpr c28
               have c28b1 : (((rd_T105 l0 (ji24)).f2) != 0) = false := bne_eq_false_iff_eq.mpr c28
               clear c28
               by_cases c29 : ((rd_T105 l0 (ji24)).f3) = 0
               · rw [if_pos c29] at H
                 have c29b0 : (((rd_T105 l0 (ji24)).f3) == 0) = true := beq_iff_eq.mpr c29
                 have c29b1 : (((rd_T105 l0 (ji24)).f3) != 0) = false := bne_eq_false_iff_eq.mpr c29
                 clear c29
                 by_cases c30 : ((rd_T105 l0 (ji24)).f4) = 0
                 · rw [if_pos c30] at H
                   have c30b0 : (((rd_T105 l0 (ji24)).f4) == 0) = true := beq_iff_eq.mpr c30
                   have c30b1 : (((rd_T105 l0 (ji24)).f4) != 0) = false := bne_eq_false_iff_eq.mpr c30
                   clear c30
                   obtain rfl := Option.some.inj H
                   have p145 : 0 ≤ ((ji24) : Int) := of_decide_eq_true (by first | (with_reducible assumption) | assumption)
                   have q145 : (ji24) < (l0.length : Int) := of_decide_eq_true (by first | (with_reducible assumption) | assumption)
                   obtain ⟨ad145, e145, hx145_0, hx145_1, hx145_2, hx145_3, hx145_4, hx145_5, hx145_6⟩ := at_T105 HR0.out (ji24) p145 q145
                   cases e145
                   replace hx145_0 := cel HB hx145_0
                   replace hx145_1 := cel HB hx145_1
                   replace hx145_2 := cel HB hx145_2
                   replace hx145_3 := cel HB hx145_3
                   replace hx145_4 := cel HB hx145_4
                   replace hx145_5 := cel HB hx145_5
                   replace hx145_6 := cel HB hx145_6
                   replace p145 := eq_true p145
                   replace q145 := eq_true q145
                   go_wp2_with (first | ((with_reducible refine gate_dst (N := 5) rfl ?_); refine box_event ?hg (N := 5) ?hd (cs := #[.string (⟨#[]⟩ : ByteArray), .int .i64 0, .int .i64 0, .int .i64 0, .int .i64 0, .int .i64 0, .string (⟨#[]⟩ : ByteArray)]) (t := 105) ?hr ?_; (case hd => rfl); (case hg => rfl); (case hr => first | (go_simp; done) | (go_simp; rfl)); intro gb146 hg w31 hbox hb; have n0_ := Aside0.mk (bs_ hb); have n1_ := Aside0.mk (hbox); have n2_ := Aside0.mk ((by rw [hg]; exact (bz_) : w.heap.size ≤ gb146)); have n3_ := Aside0.mk ((by rw [hg]; exact (bz_) : w.heap.size ≤ gb146)); clear HB; have HB := n0_; have BK146 := n1_; have GW146 := n2_; have GE146 := n3_; clear n0_ n1_ n2_ n3_; clear hb hbox hg; have hcz32_0 := bk BK146 0; have hcz32_1 := bk BK146 1; have hcz32_2 := bk BK146 2; have hcz32_3 := bk BK146 3; have hcz32_4 := bk BK146 4; have hcz32_5 := bk BK146 5; have hcz32_6 := bk BK146 6; have hfz32_0 := blk_frozen BK146.out 0; have hfz32_1 := blk_frozen BK146.out 1; have hfz32_2 := blk_frozen BK146.out 2; have hfz32_3 := blk_frozen BK146.out 3; have hfz32_4 := blk_frozen BK146.out 4; have hfz32_5 := blk_frozen BK146.out 5; have hfz32_6 := blk_frozen BK146.out 6))
                   go_ret
                   exact ⟨by first | rfl | (simp [errW_none, errW_some] <;> rfl) | (simp only [← hji24]; first | rfl | (simp [errW_none, errW_some] <;> rfl)) | (simp [*, errW_none, errW_some] <;> rfl), bb_⟩
                 · rw [if_neg c30] at H
                   have c30b0 : (((rd_T105 l0 (ji24)).f4) == 0) = false := beq_eq_false_iff_ne.mpr c30
                   have c30b1 : (((rd_T105 l0 (ji24)).f4) != 0) = true := bne_iff_ne.mpr c30
                   obtain rfl := Option.some.inj H
                   have p145 : 0 ≤ ((ji24) : Int) := of_decide_eq_true (by first | (with_reducible assumption) | assumption)
                   have q145 : (ji24) < (l0.length : Int) := of_decide_eq_true (by first | (with_reducible assumption) | assumption)
                   obtain ⟨ad145, e145, hx145_0, hx145_1, hx145_2, hx145_3, hx145_4, hx145_5, hx145_6⟩ := at_T105 HR0.out (ji24) p145 q145
                   cases e145
                   replace hx145_0 := cel HB hx145_0
                   replace hx145_1 := cel HB hx145_1
                   replace hx145_2 := cel HB hx145_2
                   replace hx145_3 := cel HB hx145_3
                   replace hx145_4 := cel HB hx145_4
                   replace hx145_5 := cel HB hx145_5
                   replace hx145_6 := cel HB hx145_6
                   replace p145 := eq_true p145
                   replace q145 := eq_true q145
                   go_wp2_with (first | ((with_reducible refine gate_dst (N := 5) rfl ?_); refine box_event ?hg (N := 5) ?hd (cs := #[.string (⟨#[]⟩ : ByteArray), .int .i64 0, .int .i64 0, .int .i64 0, .int .i64 0, .int .i64 0, .string (⟨#[]⟩ : ByteArray)]) (t := 105) ?hr ?_; (case hd => rfl); (case hg => rfl); (case hr => first | (go_simp; done) | (go_simp; rfl)); intro gb146 hg w33 hbox hb; have n0_ := Aside0.mk (bs_ hb); have n1_ := Aside0.mk (hbox); have n2_ := Aside0.mk ((by rw [hg]; exact (bz_) : w.heap.size ≤ gb146)); have n3_ := Aside0.mk ((by rw [hg]; exact (bz_) : w.heap.size ≤ gb146)); clear HB; have HB := n0_; have BK146 := n1_; have GW146 := n2_; have GE146 := n3_; clear n0_ n1_ n2_ n3_; clear hb hbox hg; have hcz34_0 := bk BK146 0; have hcz34_1 := bk BK146 1; have hcz34_2 := bk BK146 2; have hcz34_3 := bk BK146 3; have hcz34_4 := bk BK146 4; have hcz34_5 := bk BK146 5; have hcz34_6 := bk BK146 6; have hfz34_0 := blk_frozen BK146.out 0; have hfz34_1 := blk_frozen BK146.out 1; have hfz34_2 := blk_frozen BK146.out 2; have hfz34_3 := blk_frozen BK146.out 3; have hfz34_4 := blk_frozen BK146.out 4; have hfz34_5 := blk_frozen BK146.out 5; have hfz34_6 := blk_frozen BK146.out 6))
                   go_ret
                   exact ⟨by first | rfl | (simp [errW_none, errW_some] <;> rfl) | (simp only [← hji24]; first | rfl | (simp [errW_none, errW_some] <;> rfl)) | (simp [*, errW_none, errW_some] <;> rfl), bb_⟩
               · rw [if_neg c29] at H
                 have c29b0 : (((rd_T105 l0 (ji24)).f3) == 0) = false := beq_eq_false_iff_ne.mpr c29
                 have c29b1 : (((rd_T105 l0 (ji24)).f3) != 0) = true := bne_iff_ne.mpr c29
                 obtain rfl := Option.some.inj H
                 have p145 : 0 ≤ ((ji24) : Int) := of_decide_eq_true (by first | (with_reducible assumption) | assumption)
                 have q145 : (ji24) < (l0.length : Int) := of_decide_eq_true (by first | (with_reducible assumption) | assumption)
                 obtain ⟨ad145, e145, hx145_0, hx145_1, hx145_2, hx145_3, hx145_4, hx145_5, hx145_6⟩ := at_T105 HR0.out (ji24) p145 q145
                 cases e145
                 replace hx145_0 := cel HB hx145_0
                 replace hx145_1 := cel HB hx145_1
                 replace hx145_2 := cel HB hx145_2
                 replace hx145_3 := cel HB hx145_3
                 replace hx145_4 := cel HB hx145_4
                 replace hx145_5 := cel HB hx145_5
                 replace hx145_6 := cel HB hx145_6
                 replace p145 := eq_true p145
                 replace q145 := eq_true q145
                 go_wp2_with (first | ((with_reducible refine gate_dst (N := 5) rfl ?_); refine box_event ?hg (N := 5) ?hd (cs := #[.string (⟨#[]⟩ : ByteArray), .int .i64 0, .int .i64 0, .int .i64 0, .int .i64 0, .int .i64 0, .string (⟨#[]⟩ : ByteArray)]) (t := 105) ?hr ?_; (case hd => rfl); (case hg => rfl); (case hr => first | (go_simp; done) | (go_simp; rfl)); intro gb146 hg w35 hbox hb; have n0_ := Aside0.mk (bs_ hb); have n1_ := Aside0.mk (hbox); have n2_ := Aside0.mk ((by rw [hg]; exact (bz_) : w.heap.size ≤ gb146)); have n3_ := Aside0.mk ((by rw [hg]; exact (bz_) : w.heap.size ≤ gb146)); clear HB; have HB := n0_; have BK146 := n1_; have GW146 := n2_; have GE146 := n3_; clear n0_ n1_ n2_ n3_; clear hb hbox hg; have hcz36_0 := bk BK146 0; have hcz36_1 := bk BK146 1; have hcz36_2 := bk BK146 2; have hcz36_3 := bk BK146 3; have hcz36_4 := bk BK146 4; have hcz36_5 := bk BK146 5; have hcz36_6 := bk BK146 6; have hfz36_0 := blk_frozen BK146.out 0; have hfz36_1 := blk_frozen BK146.out 1; have hfz36_2 := blk_frozen BK146.out 2; have hfz36_3 := blk_frozen BK146.out 3; have hfz36_4 := blk_frozen BK146.out 4; have hfz36_5 := blk_frozen BK146.out 5; have hfz36_6 := blk_frozen BK146.out 6))
                 go_ret
                 exact ⟨by first | rfl | (simp [errW_none, errW_some] <;> rfl) | (simp only [← hji24]; first | rfl | (simp [errW_none, errW_some] <;> rfl)) | (simp [*, errW_none, errW_some] <;> rfl), bb_⟩
             · rw [if_neg c28] at H
               have c28b0 : (((rd_T105 l0 (ji24)).f2) == 0) = false := beq_eq_false_iff_ne.mpr c28
               have c28b1 : (((rd_T105 l0 (ji24)).f2) != 0) = true := bne_iff_ne.mpr c28
               obtain rfl := Option.some.inj H
               have p145 : 0 ≤ ((ji24) : Int) := of_decide_eq_true (by first | (with_reducible assumption) | assumption)
               have q145 : (ji24) < (l0.length : Int) := of_decide_eq_true (by first | (with_reducible assumption) | assumption)
               obtain ⟨ad145, e145, hx145_0, hx145_1, hx145_2, hx145_3, hx145_4, hx145_5, hx145_6⟩ := at_T105 HR0.out (ji24) p145 q145
               cases e145
               replace hx145_0 := cel HB hx145_0
               replace hx145_1 := cel HB hx145_1
               replace hx145_2 := cel HB hx145_2
               replace hx145_3 := cel HB hx145_3
               replace hx145_4 := cel HB hx145_4
               replace hx145_5 := cel HB hx145_5
               replace hx145_6 := cel HB hx145_6
               replace p145 := eq_true p145
               replace q145 := eq_true q145
               go_wp2_with (first | ((with_reducible refine gate_dst (N := 5) rfl ?_); refine box_event ?hg (N := 5) ?hd (cs := #[.string (⟨#[]⟩ : ByteArray), .int .i64 0, .int .i64 0, .int .i64 0, .int .i64 0, .int .i64 0, .string (⟨#[]⟩ : ByteArray)]) (t := 105) ?hr ?_; (case hd => rfl); (case hg => rfl); (case hr => first | (go_simp; done) | (go_simp; rfl)); intro gb146 hg w37 hbox hb; have n0_ := Aside0.mk (bs_ hb); have n1_ := Aside0.mk (hbox); have n2_ := Aside0.mk ((by rw [hg]; exact (bz_) : w.heap.size ≤ gb146)); have n3_ := Aside0.mk ((by rw [hg]; exact (bz_) : w.heap.size ≤ gb146)); clear HB; have HB := n0_; have BK146 := n1_; have GW146 := n2_; have GE146 := n3_; clear n0_ n1_ n2_ n3_; clear hb hbox hg; have hcz38_0 := bk BK146 0; have hcz38_1 := bk BK146 1; have hcz38_2 := bk BK146 2; have hcz38_3 := bk BK146 3; have hcz38_4 := bk BK146 4; have hcz38_5 := bk BK146 5; have hcz38_6 := bk BK146 6; have hfz38_0 := blk_frozen BK146.out 0; have hfz38_1 := blk_frozen BK146.out 1; have hfz38_2 := blk_frozen BK146.out 2; have hfz38_3 := blk_frozen BK146.out 3; have hfz38_4 := blk_frozen BK146.out 4; have hfz38_5 := blk_frozen BK146.out 5; have hfz38_6 := blk_frozen BK146.out 6))
               go_ret
               exact ⟨by first | rfl | (simp [errW_none, errW_some] <;> rfl) | (simp only [← hji24]; first | rfl | (simp [errW_none, errW_some] <;> rfl)) | (simp [*, errW_none, errW_some] <;> rfl), bb_⟩
           · rw [if_neg c27] at H
             have c27b0 : (((rd_T105 l0 (ji24)).f1) == (-1)) = false := beq_eq_false_iff_ne.mpr c27
             have c27b1 : (((rd_T105 l0 (ji24)).f1) != (-1)) = true := bne_iff_ne.mpr c27
             obtain rfl := Option.some.inj H
             have p145 : 0 ≤ ((ji24) : Int) := of_decide_eq_true (by first | (with_reducible assumption) | assumption)
             have q145 : (ji24) < (l0.length : Int) := of_decide_eq_true (by first | (with_reducible assumption) | assumption)
             obtain ⟨ad145, e145, hx145_0, hx145_1, hx145_2, hx145_3, hx145_4, hx145_5, hx145_6⟩ := at_T105 HR0.out (ji24) p145 q145
             cases e145
             replace hx145_0 := cel HB hx145_0
             replace hx145_1 := cel HB hx145_1
             replace hx145_2 := cel HB hx145_2
             replace hx145_3 := cel HB hx145_3
             replace hx145_4 := cel HB hx145_4
             replace hx145_5 := cel HB hx145_5
             replace hx145_6 := cel HB hx145_6
             replace p145 := eq_true p145
             replace q145 := eq_true q145
             go_wp2_with (first | ((with_reducible refine gate_dst (N := 5) rfl ?_); refine box_event ?hg (N := 5) ?hd (cs := #[.string (⟨#[]⟩ : ByteArray), .int .i64 0, .int .i64 0, .int .i64 0, .int .i64 0, .int .i64 0, .string (⟨#[]⟩ : ByteArray)]) (t := 105) ?hr ?_; (case hd => rfl); (case hg => rfl); (case hr => first | (go_simp; done) | (go_simp; rfl)); intro gb146 hg w39 hbox hb; have n0_ := Aside0.mk (bs_ hb); have n1_ := Aside0.mk (hbox); have n2_ := Aside0.mk ((by rw [hg]; exact (bz_) : w.heap.size ≤ gb146)); have n3_ := Aside0.mk ((by rw [hg]; exact (bz_) : w.heap.size ≤ gb146)); clear HB; have HB := n0_; have BK146 := n1_; have GW146 := n2_; have GE146 := n3_; clear n0_ n1_ n2_ n3_; clear hb hbox hg; have hcz40_0 := bk BK146 0; have hcz40_1 := bk BK146 1; have hcz40_2 := bk BK146 2; have hcz40_3 := bk BK146 3; have hcz40_4 := bk BK146 4; have hcz40_5 := bk BK146 5; have hcz40_6 := bk BK146 6; have hfz40_0 := blk_frozen BK146.out 0; have hfz40_1 := blk_frozen BK146.out 1; have hfz40_2 := blk_frozen BK146.out 2; have hfz40_3 := blk_frozen BK146.out 3; have hfz40_4 := blk_frozen BK146.out 4; have hfz40_5 := blk_frozen BK146.out 5; have hfz40_6 := blk_frozen BK146.out 6))
             go_ret
             exact ⟨by first | rfl | (simp [errW_none, errW_some] <;> rfl) | (simp only [← hji24]; first | rfl | (simp [errW_none, errW_some] <;> rfl)) | (simp [*, errW_none, errW_some] <;> rfl), bb_⟩
         · rw [if_neg c26] at H
           exact absurd H (by simp)
       · rw [if_neg c25] at H
         exact absurd H (by simp)
 · replace c3 := Bool.eq_false_iff.mpr c3
   subst c3
   have H1 : (some false) = some r := by rw [if_neg (show ¬ (false = true) by decide)] at H; exact H
   clear H
   have H := H1
   clear H1
   obtain rfl := Option.some.inj H
   go_enter Tryz.func36, Tryz.ntmps36
   go_wp2_with (first | ((with_reducible refine gate_callee (f := 86) rfl ?_); refine goesL_ (some 8) rfl rfl Tryz.func86 (by kernel_rfl) rfl #[.int .i64 (l0.length : Int), .int .i64 1, .int .i64 12] rfl (by (try simp only [List.map_toArray, List.map_cons, List.map_nil]); first | done | rfl | (simp only [List.length_drop, List.length_take]; rfl)) ?_; (with_reducible refine (spec_l01In.calls (l0.length : Int) 1 12 false _ A2.out).mono ?_); rintro e w' ⟨rfl, ⟨nd, rfl⟩⟩; refine ⟨_, rfl, ?_⟩))
   go_ret
   exact ⟨by first | rfl | (simp [errW_none, errW_some] <;> rfl) | (simp [*, errW_none, errW_some] <;> rfl), bb_⟩

end Go.Proofs.YtmfbkbbgokjhnaaGreat.F
namespace Go.Proofs.YtmfbkbbgokjhnaaGreat.F
open Go.RowKit Go.Proofs.YtmfbkbbgokjhnaaGreatW.PrintWords Go.Proofs.YtmfbkbbgokjhnaaGreatW.PrintLast Go.Proofs.YtmfbkbbgokjhnaaGreatW.PrintMore
attribute [local go_sem] max2_int min2_int max_two min_two max_three min_three max_four min_four   -- for this text's walks alone
set_option linter.unusedVariables false
set_option linter.unusedSimpArgs false

/-! ### spec_l04Points: function 40 -/
def spec_l04Points.f (a0 : Int) : Option (Bool) := (spec_l01In.f a0 0 10000).bind fun t152 => (some t152)
set_option maxHeartbeats 8000000 in
set_option maxRecDepth 100000 in
theorem spec_l04Points.calls (a0 : Int) (r : Bool) (w : World) (h : spec_l04Points.f a0 = some r) :
 Calls Tryz.prog 40 #[.int .i64 a0] w fun e w' => e = .returned (.bool r) ∧ Drawn0 w w' := by
 have H : ((spec_l01In.f a0 0 10000).bind fun t152 => (some t152)) = some r := h
 clear h
 replace H := Option.bind_eq_some_iff.mp H
 obtain ⟨t152, A20, H⟩ := H
 replace H : (some t152) = some r := H
 have A2 := Aside0.mk A20
 clear A20
 obtain rfl := Option.some.inj H
 go_enter Tryz.func40, Tryz.ntmps40
 go_wp2_with (first | ((with_reducible refine gate_callee (f := 86) rfl ?_); refine goesL_ (some 4) rfl rfl Tryz.func86 (by kernel_rfl) rfl #[.int .i64 a0, .int .i64 0, .int .i64 10000] rfl (by (try simp only [List.map_toArray, List.map_cons, List.map_nil]); first | done | rfl | (simp only [List.length_drop, List.length_take]; rfl)) ?_; (with_reducible refine (spec_l01In.calls a0 0 10000 t152 _ A2.out).mono ?_); rintro e w' ⟨rfl, ⟨nd, rfl⟩⟩; refine ⟨_, rfl, ?_⟩))
 go_ret
 exact ⟨by first | rfl | (simp; done) | (simp [*]; done), by repeat (first | exact Drawn0.refl _ | apply Drawn0.step)⟩

/-! ### spec_IsScale: function 37 -/
theorem rd_at_B (l : List S109) (i : Nat) (h : i < l.length) : rd_T109 l (i : Int) = l[i] := by
 simp [rd_T109, List.getD_eq_getElem?_getD, h]
def bandOK (l : List S109) (i : Nat) : Bool :=
 decide (0 ≤ (l.getD i z109).f0 ∧ (l.getD i z109).f0 ≤ 60) && decide (0 ≤ (l.getD i z109).f1 ∧ (l.getD i z109).f1 ≤ 10000) &&
  decide (0 < i → (l.getD (i - 1) z109).f0 < (l.getD i z109).f0 ∧ (l.getD (i - 1) z109).f1 ≤ (l.getD i z109).f1)
def isScale (l : List S109) : Bool := decide (∀ i, i < l.length → bandOK l i = true) && decide (1 ≤ l.length ∧ l.length ≤ 6 ∧ (l.getD 0 z109).f0 = 0)
theorem isScale_bad (l : List S109) (i : Nat) (h : i < l.length) (hb : bandOK l i = false) : isScale l = false := by
 unfold isScale
 rw [Bool.and_eq_false_iff]
 left
 rw [decide_eq_false_iff_not]
 intro H
 rw [H i h] at hb
 cases hb
theorem bandOK_at (l : List S109) (i : Nat) (h : i < l.length) (x : S109) (hx : l[i] = x) : l.getD i z109 = x := by simp [List.getD_eq_getElem?_getD, h, hx]
def spec_IsScale.f (k : Nat) (l0 : List S109) : Option Bool := some (isScale l0)
theorem spec_IsScale.mono : ∀ a0 k, LeO (spec_IsScale.f k a0) (spec_IsScale.f (k + 1) a0) := fun _ _ => LeO.refl _
theorem in_quietB (a lo hi : Int) (b : Bool) (hb : decide (lo ≤ a ∧ a ≤ hi) = b) (w : World) (n : Nat) : Calls Tryz.prog 86 #[.int .i64 a, .int .i64 lo, .int .i64 hi] (w.drewN n) fun e w'' => e = .returned (.bool b) ∧ ∃ m, w'' = w.drewN m :=
 Calls.quiet_of ((spec_l01In.calls a lo hi b (w.drewN n) (by rw [← hb]; unfold spec_l01In.f; by_cases h : a ≥ lo <;> simp [h])).mono fun e w' ⟨he, hd⟩ => ⟨he, hd.out⟩)
theorem pts_quietB (a : Int) (b : Bool) (hb : decide (0 ≤ a ∧ a ≤ 10000) = b) (w : World) (n : Nat) : Calls Tryz.prog 40 #[.int .i64 a] (w.drewN n) fun e w'' => e = .returned (.bool b) ∧ ∃ m, w'' = w.drewN m :=
 Calls.quiet_of ((spec_l04Points.calls a b (w.drewN n) (by rw [← hb]; unfold spec_l04Points.f spec_l01In.f; by_cases h : a ≥ 0 <;> simp [h])).mono fun e w' ⟨he, hd⟩ => ⟨he, hd.out⟩)
set_option maxHeartbeats 2000000 in
set_option maxRecDepth 100000 in
theorem spec_IsScale.calls (k : Nat) (A0 : Option Addr) (c0 : Nat) (l0 : List S109) (r : Bool) (w : World) (hr0 : Kd.C k109 w A0 l0.length l0) (hc0 : l0.length ≤ c0) (h : spec_IsScale.f k l0 = some r) :
 Calls Tryz.prog 37 #[.slice A0 l0.length c0] w fun e w' => e = .returned (.bool r) ∧ Below w.heap.size w w' := by
 have hbig : l0.length ≤ 9223372036854775807 := hr0.2.1
 have hu := Tryz.underlying109
 have HR0 := Aside0.mk hr0
 clear hr0 hc0
 obtain rfl := Option.some.inj h
 clear h
 go_enter Tryz.func37, Tryz.ntmps37
 go_wp2
 go_loopg [3] l0.length (fun gg s5 wr => ∃ kk : Nat, kk ≤ l0.length ∧ l0.length - kk ≤ gg ∧ s5 = .int .i64 kk ∧ Aside0 (Below w.heap.size w wr) ∧ Aside0 (∀ j, j < kk → bandOK l0 j = true))
 case atStart => exact ⟨0, by omega, by omega, rfl, ⟨Below.refl _ w⟩, ⟨fun j h => by omega⟩⟩
 case round =>
  obtain ⟨kk, hkk, hg, rfl, BW, A⟩ := hrel
  by_cases hlt : kk < l0.length
  · have hltz : (kk : Int) < (l0.length : Int) := by omega
    have o2 := at_T109 HR0.out (kk : Int) (by omega) (by omega)
    rw [rd_at_B l0 kk hlt, Int.toNat_natCast] at o2
    have s7 : 0 ≤ (kk : Int) := by omega
    have X := Aside0.mk (bandOK_at l0 kk hlt l0[kk] rfl)
    generalize l0[kk] = x at o2 X
    obtain ⟨ae, e_ae, hz0, hz1⟩ := o2
    cases e_ae
    replace hz0 := (BW.out.cell (World.block_lt_of_cell? w _ hz0)).trans hz0
    replace hz1 := (BW.out.cell (World.block_lt_of_cell? w _ hz1)).trans hz1
    by_cases ha : 0 ≤ x.f0 ∧ x.f0 ≤ 60
    · have C1 := Aside0.mk ha
      have HI := Aside0.mk (fun (wx : World) (n : Nat) => in_quietB x.f0 0 60 true (by simpa using C1.out) wx n)
      clear ha
      by_cases hp : 0 ≤ x.f1 ∧ x.f1 ≤ 10000
      · have C2 := Aside0.mk hp
        have HP := Aside0.mk (fun (wx : World) (n : Nat) => pts_quietB x.f1 true (by simpa using C2.out) wx n)
        clear hp
        by_cases hk0 : 1 ≤ kk
        · have o1 := at_T109 HR0.out ((kk - 1 : Nat) : Int) (by omega) (by omega)
          rw [rd_at_B l0 (kk - 1) (by omega), Int.toNat_natCast] at o1
          have Y := Aside0.mk (bandOK_at l0 (kk - 1) (by omega) l0[kk - 1] rfl)
          generalize l0[kk - 1] = y at o1 Y
          obtain ⟨ad, e_ad, hx0, hx1⟩ := o1
          cases e_ad
          replace hx0 := (BW.out.cell (World.block_lt_of_cell? w _ hx0)).trans hx0
          replace hx1 := (BW.out.cell (World.block_lt_of_cell? w _ hx1)).trans hx1
          have s1 : IntKind.i64.wrap ((kk : Int) - 1) = (kk : Int) - 1 := IntWalk.i64_in _ (by omega)
          have s2 : 0 ≤ (kk : Int) - 1 := by omega
          have s3 : ((kk : Int) - 1).toNat = kk - 1 := by omega
          have s4 : (kk : Int) - 1 < (l0.length : Int) := by omega
          have s5 : 1 ≤ (kk : Int) := by omega
          have s6 : decide (0 < kk) = true := by simp; omega
          by_cases hle : x.f0 ≤ y.f0
          · have N := Aside0.mk hle
            have Q1 : decide (x.f0 ≤ y.f0) = true := decide_eq_true hle
            clear hle
            go_wp2_with fail
            go_quiet ((first | (go_at_call 86; exact HI.out _ _) | (go_at_call 40; exact HP.out _ _)))
            go_wp2
            go_ret
            refine ⟨?_, pw_below_drewN BW.out _⟩
            rw [isScale_bad l0 kk hlt (by unfold bandOK; rw [X.out, Y.out, Bool.and_eq_false_iff, decide_eq_false_iff_not]; exact .inr (fun H => by have := (H hk0).1; have := N.out; omega))]
            rfl
          · have Q1 : decide (x.f0 ≤ y.f0) = false := decide_eq_false hle
            have N := Aside0.mk hle
            clear hle
            by_cases hlt2 : x.f1 < y.f1
            · have N2 := Aside0.mk hlt2
              have Q2 : decide (x.f1 < y.f1) = true := decide_eq_true hlt2
              clear hlt2
              go_wp2_with fail
              go_quiet ((first | (go_at_call 86; exact HI.out _ _) | (go_at_call 40; exact HP.out _ _)))
              go_wp2
              go_ret
              refine ⟨?_, pw_below_drewN BW.out _⟩
              rw [isScale_bad l0 kk hlt (by unfold bandOK; rw [X.out, Y.out, Bool.and_eq_false_iff, decide_eq_false_iff_not]; exact .inr (fun H => by have := (H hk0).2; have := N2.out; omega))]
              rfl
            · have N2 := Aside0.mk hlt2
              have Q2 : decide (x.f1 < y.f1) = false := decide_eq_false hlt2
              clear hlt2
              go_wp2_with fail
              go_quiet ((first | (go_at_call 86; exact HI.out _ _) | (go_at_call 40; exact HP.out _ _)))
              go_wp2
              go_roundg (l0.length - (kk + 1))
              case measure => omega
              case rel =>
               refine ⟨kk + 1, by omega, by omega, by go_num, ⟨pw_below_drewN BW.out _⟩, ⟨fun j hjk => ?_⟩⟩
               by_cases e : j = kk
               · subst e
                 unfold bandOK
                 rw [X.out, Y.out]
                 simp only [C1.out, C2.out, and_self, decide_true, Bool.true_and, decide_eq_true_eq]
                 intro _
                 have := N.out; have := N2.out; omega
               · exact A.out j (by omega)
        · have s6 : decide (0 < kk) = false := by simp; omega
          go_wp2_with fail
          go_quiet ((first | (go_at_call 86; exact HI.out _ _) | (go_at_call 40; exact HP.out _ _)))
          go_wp2
          go_roundg (l0.length - (kk + 1))
          case measure => omega
          case rel =>
           refine ⟨kk + 1, by omega, by omega, by go_num, ⟨pw_below_drewN BW.out _⟩, ⟨fun j hjk => ?_⟩⟩
           by_cases e : j = kk
           · subst e
             unfold bandOK
             rw [X.out]
             simp only [C1.out, C2.out, and_self, decide_true, Bool.true_and, decide_eq_true_eq]
             intro h; omega
           · exact A.out j (by omega)
      · have C2 := Aside0.mk hp
        have HP := Aside0.mk (fun (wx : World) (n : Nat) => pts_quietB x.f1 false (by simpa using C2.out) wx n)
        clear hp
        go_wp2_with fail
        go_quiet ((first | (go_at_call 86; exact HI.out _ _) | (go_at_call 40; exact HP.out _ _)))
        go_wp2
        go_ret
        refine ⟨?_, pw_below_drewN BW.out _⟩
        rw [isScale_bad l0 kk hlt (by unfold bandOK; rw [X.out]; simp only [C2.out, decide_false, Bool.and_false, Bool.false_and])]
        rfl
    · have C1 := Aside0.mk ha
      have HI := Aside0.mk (fun (wx : World) (n : Nat) => in_quietB x.f0 0 60 false (by simpa using C1.out) wx n)
      clear ha
      go_wp2_with fail
      go_quiet ((go_at_call 86; exact HI.out _ _))
      go_wp2
      go_ret
      refine ⟨?_, pw_below_drewN BW.out _⟩
      rw [isScale_bad l0 kk hlt (by unfold bandOK; rw [X.out]; simp only [C1.out, decide_false, Bool.false_and])]
      rfl
  · have hltz : ¬ (kk : Int) < (l0.length : Int) := by omega
    have ALL := Aside0.mk (decide_eq_true (show ∀ i, i < l0.length → bandOK l0 i = true from fun i hi => A.out i (by omega)))
    by_cases hn : 1 ≤ l0.length ∧ l0.length ≤ 6
    · have hI := Aside0.mk (fun (wx : World) (n : Nat) => in_quietB (l0.length : Int) 1 6 true (by simp; omega) wx n)
      have o1 := at_T109 HR0.out ((0 : Nat) : Int) (by omega) (by omega)
      rw [rd_at_B l0 0 (by omega), Int.toNat_natCast] at o1
      have Y := Aside0.mk (bandOK_at l0 0 (by omega) l0[0] rfl)
      generalize l0[0] = y at o1 Y
      obtain ⟨ad, e_ad, hx0, hx1⟩ := o1
      cases e_ad
      replace hx0 := (BW.out.cell (World.block_lt_of_cell? w _ hx0)).trans hx0
      rw [Nat.zero_mul, Addr.add_zero'] at hx0
      have s9 : 0 < l0.length := by omega
      have s8 : (0 : Int) < (l0.length : Int) := by omega
      have N := Aside0.mk hn
      have FIN := Aside0.mk (show isScale l0 = (y.f0 == 0) by
       unfold isScale
       rw [ALL.out, Bool.true_and, Y.out, Bool.eq_iff_iff]
       simp [N.out])
      clear hn hI
      have HF := Aside0.mk (show spec_l01In.f (l0.length : Int) 1 6 = some true by
       unfold spec_l01In.f; have := N.out; rw [if_pos (by omega)]; simp; omega)
      go_wp2_with (go_at_call 86; refine (spec_l01In.calls (l0.length : Int) 1 6 true _ HF.out).mono ?_; rintro e w' ⟨rfl, ⟨nd, rfl⟩⟩)
      go_ret
      exact ⟨by rw [FIN.out]; rfl, pw_below_drewN BW.out _⟩
    · have hI := Aside0.mk (fun (wx : World) (n : Nat) => in_quietB (l0.length : Int) 1 6 false (by simp; omega) wx n)
      have FIN := Aside0.mk (show isScale l0 = false by
       unfold isScale
       rw [Bool.and_eq_false_iff, decide_eq_false_iff_not (p := _ ∧ _)]
       exact .inr (fun H => hn ⟨H.1, H.2.1⟩))
      have HF := Aside0.mk (show spec_l01In.f (l0.length : Int) 1 6 = some false by
       unfold spec_l01In.f
       by_cases h1 : (l0.length : Int) ≥ 1
       · rw [if_pos h1]; simp; omega
       · rw [if_neg h1])
      clear hn hI
      go_wp2_with (go_at_call 86; refine (spec_l01In.calls (l0.length : Int) 1 6 false _ HF.out).mono ?_; rintro e w' ⟨rfl, ⟨nd, rfl⟩⟩)
      go_ret
      exact ⟨by rw [FIN.out]; rfl, pw_below_drewN BW.out _⟩

end Go.Proofs.YtmfbkbbgokjhnaaGreat.F
