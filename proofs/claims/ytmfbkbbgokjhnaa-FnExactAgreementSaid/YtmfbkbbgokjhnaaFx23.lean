-- Written by this session's program (wip/bin/hp.py) over the kit's print: a function's Lean form, and a proof that the call does what it says.
import Derived.Test.YtmfbkbbgokjhnaaFx0
import Derived.Test.YtmfbkbbgokjhnaaSq
import Derived.Test.YtmfbkbbgokjhnaaFx16
import Derived.Test.YtmfbkbbgokjhnaaFx18
namespace Go.Proofs.Ytmfbkbbgokjhnaa.F
open Go.RowKit Go.Proofs.YtmfbkbbgokjhnaaW.PrintWords Go.Proofs.YtmfbkbbgokjhnaaW.PrintLast Go.Proofs.YtmfbkbbgokjhnaaW.PrintMore
attribute [local go_sem] max2_int min2_int max_two min_two max_three min_three max_four min_four   -- for this text's walks alone
set_option linter.unusedVariables false
set_option linter.unusedSimpArgs false

/-! ### impl_count_int64: function 72 -/
def impl_count_int64.f (l0 : List Int) : Option (Int) := some (l0.length : Int)
set_option maxHeartbeats 8000000 in
set_option maxRecDepth 100000 in
theorem impl_count_int64.calls (A0 : Option Addr) (c0 : Nat) (l0 : List Int) (r : Int) (w : World) (hr0 : Kd.C (Kd.int .i64) w A0 l0.length l0) (hc0 : l0.length ≤ c0) (h : impl_count_int64.f l0 = some r) :
 Calls Try.prog 72 #[.slice A0 l0.length c0] w fun e w' => e = .returned (.int .i64 r) ∧ Drawn0 w w' := by
 have HR0 := Aside0.mk hr0
 have HC0 := Aside0.mk hc0
 clear hr0 hc0
 have H : (some (l0.length : Int)) = some r := h
 clear h
 obtain rfl := Option.some.inj H
 go_enter Try.func72, Try.ntmps72
 go_wp2
 go_ret
 exact ⟨by first | rfl | (simp; done) | (simp [*]; done), by repeat (first | exact Drawn0.refl _ | apply Drawn0.step)⟩

-- NOT PRINTED: function 73 (impl_Event)

/-! ### impl_met: function 133 -/
def impl_met.f (a0 : Int) (a1 : Bool) : Option (Bool) := if a0 = 0 then (some true) else (some ((a0 == 1) == a1))
set_option maxHeartbeats 8000000 in
set_option maxRecDepth 100000 in
theorem impl_met.calls (a0 : Int) (a1 : Bool) (r : Bool) (w : World) (h : impl_met.f a0 a1 = some r) :
 Calls Try.prog 133 #[.int .i64 a0, .bool a1] w fun e w' => e = .returned (.bool r) ∧ Drawn0 w w' := by
 have H : (if a0 = 0 then (some true) else (some ((a0 == 1) == a1))) = some r := h
 clear h
 by_cases c3 : a0 = 0
 rw [if_pos c3] at H
 have c3b0 : (a0 == 0) = true := beq_iff_eq.mpr c3
 have c3b1 : (a0 != 0) = false := bne_eq_false_iff_eq.mpr c3
 clear c3
 obtain rfl := Option.some.inj H
 rotate_left
 rw [if_neg c3] at H
 have c3b0 : (a0 == 0) = false := beq_eq_false_iff_ne.mpr c3
 have c3b1 : (a0 != 0) = true := bne_iff_ne.mpr c3
 obtain rfl := Option.some.inj H
 rotate_left
 all_goals
  go_enter Try.func133, Try.ntmps133
  go_wp2
  go_ret
  exact ⟨by first | rfl | (simp; done) | (simp [*]; done), by repeat (first | exact Drawn0.refl _ | apply Drawn0.step)⟩

/-! ### impl_Clause_matches: function 126 -/
def impl_Clause_matches.f (a0_0 : ByteArray) (a0_1 : Int) (a0_2 : Int) (a0_3 : Int) (a0_4 : Int) (a0_5 : Int) (a0_6 : ByteArray) (a1_0 : Int) (a1_1 : Int) (a1_2 : ByteArray) (a1_3 : Int) (a1_4 : Bool) (a1_5 : Bool) (a1_6 : Bool) : Option (Bool) := if a0_1 = (-1) then ((impl_met.f a0_2 a1_4).bind fun t242 => (if t242 = true then ((impl_met.f a0_3 a1_5).bind fun t243 => (if t243 = true then ((impl_met.f a0_4 a1_6).bind fun t244 => (some t244)) else (some false))) else (some false))) else (if a0_1 = a1_1 then ((impl_met.f a0_2 a1_4).bind fun t245 => (if t245 = true then ((impl_met.f a0_3 a1_5).bind fun t246 => (if t246 = true then ((impl_met.f a0_4 a1_6).bind fun t247 => (some t247)) else (some false))) else (some false))) else (some false))
set_option maxHeartbeats 8000000 in
set_option maxRecDepth 100000 in
theorem impl_Clause_matches.calls (a0_0 : ByteArray) (a0_1 : Int) (a0_2 : Int) (a0_3 : Int) (a0_4 : Int) (a0_5 : Int) (a0_6 : ByteArray) (a1_0 : Int) (a1_1 : Int) (a1_2 : ByteArray) (a1_3 : Int) (a1_4 : Bool) (a1_5 : Bool) (a1_6 : Bool) (r : Bool) (w : World) (h : impl_Clause_matches.f a0_0 a0_1 a0_2 a0_3 a0_4 a0_5 a0_6 a1_0 a1_1 a1_2 a1_3 a1_4 a1_5 a1_6 = some r) :
 Calls Try.prog 126 #[.agg #[.string a0_0, .int .i64 a0_1, .int .i64 a0_2, .int .i64 a0_3, .int .i64 a0_4, .int .i64 a0_5, .string a0_6], .agg #[.int .i64 a1_0, .int .i64 a1_1, .string a1_2, .int .i64 a1_3, .bool a1_4, .bool a1_5, .bool a1_6]] w fun e w' => e = .returned (.bool r) ∧ Below w.heap.size w w' := by
 have hu94 := Try.underlying94
 have hu43 := Try.underlying43
 have HB := Aside0.mk (Below.refl w.heap.size w)
 have H : (if a0_1 = (-1) then ((impl_met.f a0_2 a1_4).bind fun t242 => (if t242 = true then ((impl_met.f a0_3 a1_5).bind fun t243 => (if t243 = true then ((impl_met.f a0_4 a1_6).bind fun t244 => (some t244)) else (some false))) else (some false))) else (if a0_1 = a1_1 then ((impl_met.f a0_2 a1_4).bind fun t245 => (if t245 = true then ((impl_met.f a0_3 a1_5).bind fun t246 => (if t246 = true then ((impl_met.f a0_4 a1_6).bind fun t247 => (some t247)) else (some false))) else (some false))) else (some false))) = some r := h
 clear h
 by_cases c3 : a0_1 = (-1)
 rw [if_pos c3] at H
 have c3b0 : (a0_1 == (-1)) = true := beq_iff_eq.mpr c3
 have c3b1 : (a0_1 != (-1)) = false := bne_eq_false_iff_eq.mpr c3
 clear c3
 replace H := Option.bind_eq_some_iff.mp H
 obtain ⟨t242, A40, H⟩ := H
 replace H : (if t242 = true then ((impl_met.f a0_3 a1_5).bind fun t243 => (if t243 = true then ((impl_met.f a0_4 a1_6).bind fun t244 => (some t244)) else (some false))) else (some false)) = some r := H
 have A4 := Aside0.mk A40
 clear A40
 by_cases c5 : t242 = true
 subst c5
 have H1 : ((impl_met.f a0_3 a1_5).bind fun t243 => (if t243 = true then ((impl_met.f a0_4 a1_6).bind fun t244 => (some t244)) else (some false))) = some r := by rw [if_pos rfl] at H; exact H
 clear H
 have H := H1
 clear H1
 replace H := Option.bind_eq_some_iff.mp H
 obtain ⟨t243, A60, H⟩ := H
 replace H : (if t243 = true then ((impl_met.f a0_4 a1_6).bind fun t244 => (some t244)) else (some false)) = some r := H
 have A6 := Aside0.mk A60
 clear A60
 by_cases c7 : t243 = true
 subst c7
 have H1 : ((impl_met.f a0_4 a1_6).bind fun t244 => (some t244)) = some r := by rw [if_pos rfl] at H; exact H
 clear H
 have H := H1
 clear H1
 replace H := Option.bind_eq_some_iff.mp H
 obtain ⟨t244, A80, H⟩ := H
 replace H : (some t244) = some r := H
 have A8 := Aside0.mk A80
 clear A80
 obtain rfl := Option.some.inj H
 rotate_left
 replace c7 := Bool.eq_false_iff.mpr c7
 subst c7
 have H1 : (some false) = some r := by rw [if_neg (show ¬ (false = true) by decide)] at H; exact H
 clear H
 have H := H1
 clear H1
 obtain rfl := Option.some.inj H
 rotate_left
 replace c5 := Bool.eq_false_iff.mpr c5
 subst c5
 have H1 : (some false) = some r := by rw [if_neg (show ¬ (false = true) by decide)] at H; exact H
 clear H
 have H := H1
 clear H1
 obtain rfl := Option.some.inj H
 rotate_left
 rw [if_neg c3] at H
 have c3b0 : (a0_1 == (-1)) = false := beq_eq_false_iff_ne.mpr c3
 have c3b1 : (a0_1 != (-1)) = true := bne_iff_ne.mpr c3
 by_cases c24 : a0_1 = a1_1
 rw [if_pos c24] at H
 have c24b0 : (a0_1 == a1_1) = true := beq_iff_eq.mpr c24
 have c24b1 : (a0_1 != a1_1) = false := bne_eq_false_iff_eq.mpr c24
 clear c24
 replace H := Option.bind_eq_some_iff.mp H
 obtain ⟨t245, A250, H⟩ := H
 replace H : (if t245 = true then ((impl_met.f a0_3 a1_5).bind fun t246 => (if t246 = true then ((impl_met.f a0_4 a1_6).bind fun t247 => (some t247)) else (some false))) else (some false)) = some r := H
 have A25 := Aside0.mk A250
 clear A250
 by_cases c26 : t245 = true
 subst c26
 have H1 : ((impl_met.f a0_3 a1_5).bind fun t246 => (if t246 = true then ((impl_met.f a0_4 a1_6).bind fun t247 => (some t247)) else (some false))) = some r := by rw [if_pos rfl] at H; exact H
 clear H
 have H := H1
 clear H1
 replace H := Option.bind_eq_some_iff.mp H
 obtain ⟨t246, A270, H⟩ := H
 replace H : (if t246 = true then ((impl_met.f a0_4 a1_6).bind fun t247 => (some t247)) else (some false)) = some r := H
 have A27 := Aside0.mk A270
 clear A270
 by_cases c28 : t246 = true
 subst c28
 have H1 : ((impl_met.f a0_4 a1_6).bind fun t247 => (some t247)) = some r := by rw [if_pos rfl] at H; exact H
 clear H
 have H := H1
 clear H1
 replace H := Option.bind_eq_some_iff.mp H
 obtain ⟨t247, A290, H⟩ := H
 replace H : (some t247) = some r := H
 have A29 := Aside0.mk A290
 clear A290
 obtain rfl := Option.some.inj H
 rotate_left
 replace c28 := Bool.eq_false_iff.mpr c28
 subst c28
 have H1 : (some false) = some r := by rw [if_neg (show ¬ (false = true) by decide)] at H; exact H
 clear H
 have H := H1
 clear H1
 obtain rfl := Option.some.inj H
 rotate_left
 replace c26 := Bool.eq_false_iff.mpr c26
 subst c26
 have H1 : (some false) = some r := by rw [if_neg (show ¬ (false = true) by decide)] at H; exact H
 clear H
 have H := H1
 clear H1
 obtain rfl := Option.some.inj H
 rotate_left
 rw [if_neg c24] at H
 have c24b0 : (a0_1 == a1_1) = false := beq_eq_false_iff_ne.mpr c24
 have c24b1 : (a0_1 != a1_1) = true := bne_iff_ne.mpr c24
 obtain rfl := Option.some.inj H
 rotate_left
 all_goals
  go_enter Try.func126, Try.ntmps126
  go_wp2_with (first | ((with_reducible refine gate_dst (N := 2) rfl ?_); refine bx_ 2 #[.string a0_0, .int .i64 a0_1, .int .i64 a0_2, .int .i64 a0_3, .int .i64 a0_4, .int .i64 a0_5, .string a0_6] 94 ?_; intro gb240 hg w9 hbox hb; have n0_ := Aside0.mk (bs_ hb); have n1_ := Aside0.mk (hbox); have n2_ := Aside0.mk ((by rw [hg]; exact (bz_) : w.heap.size ≤ gb240)); have n3_ := Aside0.mk ((by rw [hg]; exact (bz_) : w.heap.size ≤ gb240)); clear HB; revert n0_ n1_ n2_ n3_; intro HB BK240 GW240 GE240; clear hb hbox hg) | ((with_reducible refine gate_dst (N := 3) rfl ?_); refine bx_ 3 #[.int .i64 a1_0, .int .i64 a1_1, .string a1_2, .int .i64 a1_3, .bool a1_4, .bool a1_5, .bool a1_6] 43 ?_; intro gb241 hg w10 hbox hb; have n0_ := Aside0.mk (bkb BK240 hb); have n1_ := Aside0.mk (bs_ hb); have n2_ := Aside0.mk (hbox); have n3_ := Aside0.mk ((by rw [hg]; exact (bz_) : w.heap.size ≤ gb241)); have n4_ := Aside0.mk ((by rw [hg]; exact (bz_) : w.heap.size ≤ gb241)); have n5_ := Aside0.mk ((by rw [hg]; exact Nat.ne_of_lt (blk_lt (g := gb240) (o := .cells #[.string a0_0, .int .i64 a0_1, .int .i64 a0_2, .int .i64 a0_3, .int .i64 a0_4, .int .i64 a0_5, .string a0_6] 94 (0, 0)) (by (with_reducible repeat (first | refine blk_drewN ?_ _ | refine blk_drew ?_ | refine blk_alloc ?_ _)); exact BK240.out)) : gb240 ≠ gb241)); have n6_ := Aside0.mk ((by rw [hg]; exact Nat.ne_of_gt (blk_lt (g := gb240) (o := .cells #[.string a0_0, .int .i64 a0_1, .int .i64 a0_2, .int .i64 a0_3, .int .i64 a0_4, .int .i64 a0_5, .string a0_6] 94 (0, 0)) (by (with_reducible repeat (first | refine blk_drewN ?_ _ | refine blk_drew ?_ | refine blk_alloc ?_ _)); exact BK240.out)) : gb241 ≠ gb240)); clear BK240 HB; revert n0_ n1_ n2_ n3_ n4_ n5_ n6_; intro BK240 HB BK241 GW241 GE241 NB240_241 NB241_240; clear hb hbox hg; have hnb11 := NB240_241.out; have hnc11 := NB241_240.out; have hcz12_0 := bk BK240 0; have hcz12_1 := bk BK240 1; have hcz12_2 := bk BK240 2; have hcz12_3 := bk BK240 3; have hcz12_4 := bk BK240 4; have hcz12_5 := bk BK240 5; have hcz12_6 := bk BK240 6; have hfz12_0 := blk_frozen BK240.out 0; have hfz12_1 := blk_frozen BK240.out 1; have hfz12_2 := blk_frozen BK240.out 2; have hfz12_3 := blk_frozen BK240.out 3; have hfz12_4 := blk_frozen BK240.out 4; have hfz12_5 := blk_frozen BK240.out 5; have hfz12_6 := blk_frozen BK240.out 6; have hcz13_0 := bk BK241 0; have hcz13_1 := bk BK241 1; have hcz13_2 := bk BK241 2; have hcz13_3 := bk BK241 3; have hcz13_4 := bk BK241 4; have hcz13_5 := bk BK241 5; have hcz13_6 := bk BK241 6; have hfz13_0 := blk_frozen BK241.out 0; have hfz13_1 := blk_frozen BK241.out 1; have hfz13_2 := blk_frozen BK241.out 2; have hfz13_3 := blk_frozen BK241.out 3; have hfz13_4 := blk_frozen BK241.out 4; have hfz13_5 := blk_frozen BK241.out 5; have hfz13_6 := blk_frozen BK241.out 6) | (go_at_call 133; (with_reducible refine (impl_met.calls a0_2 a1_4 _ _ A4.out).mono ?_); rintro e w' ⟨rfl, ⟨nd, rfl⟩⟩) | (go_at_call 133; (with_reducible refine (impl_met.calls a0_3 a1_5 _ _ A6.out).mono ?_); rintro e w' ⟨rfl, ⟨nd, rfl⟩⟩) | (go_at_call 133; (with_reducible refine (impl_met.calls a0_4 a1_6 t244 _ A8.out).mono ?_); rintro e w' ⟨rfl, ⟨nd, rfl⟩⟩) | (go_at_call 133; (with_reducible refine (impl_met.calls a0_2 a1_4 _ _ A25.out).mono ?_); rintro e w' ⟨rfl, ⟨nd, rfl⟩⟩) | (go_at_call 133; (with_reducible refine (impl_met.calls a0_3 a1_5 _ _ A27.out).mono ?_); rintro e w' ⟨rfl, ⟨nd, rfl⟩⟩) | (go_at_call 133; (with_reducible refine (impl_met.calls a0_4 a1_6 t247 _ A29.out).mono ?_); rintro e w' ⟨rfl, ⟨nd, rfl⟩⟩))
  go_ret
  exact ⟨by first | rfl | (simp [errW_none, errW_some] <;> rfl) | (simp [*, errW_none, errW_some] <;> rfl), bb_⟩

-- NOT PRINTED: function 125 (impl_firstMatch_1)

/-! ### impl_firstMatch: function 105 -/
def needM (need : Int) (is : Bool) : Bool := need == 0 || (need == 1) == is
def matchB (e : S43) (c : S94) : Bool := (c.f1 == -1 || c.f1 == e.f1) && needM c.f2 e.f4 && needM c.f3 e.f5 && needM c.f4 e.f6
theorem matchB_f (e : S43) (c : S94) : impl_Clause_matches.f c.f0 c.f1 c.f2 c.f3 c.f4 c.f5 c.f6 e.f0 e.f1 e.f2 e.f3 e.f4 e.f5 e.f6 = some (matchB e c) := by
 have hm : ∀ n b, impl_met.f n b = some (needM n b) := fun n b => by
  unfold impl_met.f needM
  by_cases h : n = 0 <;> simp [h]
 unfold impl_Clause_matches.f matchB
 simp only [hm, Option.bind_some]
 by_cases h1 : c.f1 = -1
 · simp only [h1, if_true, beq_self_eq_true, Bool.true_or, Bool.true_and]
   cases needM c.f2 e.f4 <;> cases needM c.f3 e.f5 <;> simp
 · have h1' : (c.f1 == -1) = false := by simpa using h1
   rw [if_neg h1, h1', Bool.false_or]
   by_cases h2 : c.f1 = e.f1
   · simp only [h2, if_true, beq_self_eq_true, Bool.true_and]
     cases needM c.f2 e.f4 <;> cases needM c.f3 e.f5 <;> simp
   · have h2' : (c.f1 == e.f1) = false := by simpa using h2
     rw [if_neg h2, h2']; simp
theorem firstMatch_1.calls (B : Nat) (e : S43) (x : S94) (w : World) (hB : B < w.heap.size) (h0 : w.cell? ⟨B, 0, none⟩ = some (.int .i64 e.f0)) (h1 : w.cell? ⟨B, 1, none⟩ = some (.int .i64 e.f1)) (h2 : w.cell? ⟨B, 2, none⟩ = some (.string e.f2)) (h3 : w.cell? ⟨B, 3, none⟩ = some (.int .i64 e.f3)) (h4 : w.cell? ⟨B, 4, none⟩ = some (.bool e.f4)) (h5 : w.cell? ⟨B, 5, none⟩ = some (.bool e.f5)) (h6 : w.cell? ⟨B, 6, none⟩ = some (.bool e.f6)) :
 Calls Try.prog 125 #[val_T94 x, .pointer (some ⟨B, 0, none⟩)] w fun e' w' => e' = .returned (.bool (matchB e x)) ∧ Below w.heap.size w w' := by
 have hu := Try.underlying94
 have hu2 := Try.underlying43
 have HM := Aside0.mk (matchB_f e x)
 unfold val_T94
 generalize matchB e x = b at HM ⊢
 go_enter Try.func125, Try.ntmps125
 go_wp2_with (go_at_call 126; refine (impl_Clause_matches.calls x.f0 x.f1 x.f2 x.f3 x.f4 x.f5 x.f6 e.f0 e.f1 e.f2 e.f3 e.f4 e.f5 e.f6 b _ HM.out).mono ?_; rintro e' w' ⟨rfl, hb⟩)
 go_ret
 exact ⟨rfl, below_then (below_alloc (Below.refl _ _) _) (below_alloc (Below.refl _ _) _).size hb⟩
def impl_firstMatch.f (l0 : List S94) (a1 : Int) (a2_0 : Int) (a2_1 : Int) (a2_2 : ByteArray) (a2_3 : Int) (a2_4 : Bool) (a2_5 : Bool) (a2_6 : Bool) : Option Int :=
 if 0 ≤ a1 ∧ a1 < l0.length then some (a1 + idxP (matchB ⟨a2_0, a2_1, a2_2, a2_3, a2_4, a2_5, a2_6⟩) (l0.drop a1.toNat)) else none
set_option maxHeartbeats 400000 in
set_option maxRecDepth 100000 in
theorem impl_firstMatch.calls (A0 : Option Addr) (c0 : Nat) (l0 : List S94) (a1 : Int) (a2_0 : Int) (a2_1 : Int) (a2_2 : ByteArray) (a2_3 : Int) (a2_4 : Bool) (a2_5 : Bool) (a2_6 : Bool) (r : Int) (w : World) (hr0 : Kd.C k94 w A0 l0.length l0) (hc0 : l0.length ≤ c0) (h : impl_firstMatch.f l0 a1 a2_0 a2_1 a2_2 a2_3 a2_4 a2_5 a2_6 = some r) :
 Calls Try.prog 105 #[.slice A0 l0.length c0, .int .i64 a1, .agg #[.int .i64 a2_0, .int .i64 a2_1, .string a2_2, .int .i64 a2_3, .bool a2_4, .bool a2_5, .bool a2_6]] w fun e w' => e = .returned (.int .i64 r) ∧ Below w.heap.size w w' := by
 have hu := Try.underlying94
 have hu2 := Try.underlying43
 have hbig : l0.length ≤ 9223372036854775807 := hr0.2.1
 unfold impl_firstMatch.f at h
 by_cases hm : 0 ≤ a1 ∧ a1 < l0.length
 · rw [if_pos hm] at h
   obtain rfl := Option.some.inj h
   clear h
   obtain ⟨hm0, hm1⟩ := hm
   obtain ⟨m, rfl⟩ := Int.eq_ofNat_of_zero_le hm0
   have hm1' : m < l0.length := by omega
   obtain ⟨ad, e_ad, -⟩ := hr0.2.2 (by omega)
   subst e_ad
   rw [Int.toNat_natCast]
   have hb0 : Below w.heap.size w (w.alloc (.cells #[.int .i64 a2_0, .int .i64 a2_1, .string a2_2, .int .i64 a2_3, .bool a2_4, .bool a2_5, .bool a2_6] 43)) := below_alloc (Below.refl _ _) _
   have e1 : ∀ args w, (callFunc 125 args).run Try.prog w = .ok (.enter 125 args) w := enters_of Try.func125 (by kernel_rfl) rfl
   have hr1 : Kd.C k94 (w.alloc (.cells #[.int .i64 a2_0, .int .i64 a2_1, .string a2_2, .int .i64 a2_3, .bool a2_4, .bool a2_5, .bool a2_6] 43)) (some (ad.add (m * 7))) (l0.drop m).length (l0.drop m) := Kd.C_below (C_dropK hr0 m hm1') hb0
   have HA := Aside0.mk (IndexFunc_T94.calls 125 #[.pointer (some ⟨w.heap.size, 0, none⟩)] (matchB ⟨a2_0, a2_1, a2_2, a2_3, a2_4, a2_5, a2_6⟩) (some (ad.add (m * 7))) (c0 - m) (l0.drop m) _ hr1 (by rw [List.length_drop]; omega) e1 (fun W x hx hW => by
    have hsz : w.heap.size < W.heap.size := by have := hW.size; simp at this; omega
    have hcell : ∀ i v, (w.alloc (.cells #[.int .i64 a2_0, .int .i64 a2_1, .string a2_2, .int .i64 a2_3, .bool a2_4, .bool a2_5, .bool a2_6] 43)).cell? ⟨w.heap.size, i, none⟩ = some v → W.cell? ⟨w.heap.size, i, none⟩ = some v := fun i v h => (hW.cell (p := ⟨w.heap.size, i, none⟩) (by simp)).trans h
    exact firstMatch_1.calls w.heap.size ⟨a2_0, a2_1, a2_2, a2_3, a2_4, a2_5, a2_6⟩ x W hsz (hcell 0 _ (by simp)) (hcell 1 _ (by simp)) (hcell 2 _ (by simp)) (hcell 3 _ (by simp)) (hcell 4 _ (by simp)) (hcell 5 _ (by simp)) (hcell 6 _ (by simp))))
   have hq : -1 ≤ idxP (matchB ⟨a2_0, a2_1, a2_2, a2_3, a2_4, a2_5, a2_6⟩) (l0.drop m) ∧ idxP (matchB ⟨a2_0, a2_1, a2_2, a2_3, a2_4, a2_5, a2_6⟩) (l0.drop m) < (l0.length : Int) - m := by
    have := idxP_range (matchB ⟨a2_0, a2_1, a2_2, a2_3, a2_4, a2_5, a2_6⟩) (l0.drop m)
    rw [List.length_drop] at this
    omega
   rw [List.length_drop] at HA
   have HB := Aside0.mk hb0
   have hcap : m ≠ c0 := by omega
   have hcap2 : m ≤ c0 := by omega
   clear hr0 hr1 hb0 hm0 e1
   generalize idxP (matchB ⟨a2_0, a2_1, a2_2, a2_3, a2_4, a2_5, a2_6⟩) (l0.drop m) = q at HA hq
   obtain ⟨hq0, hq1⟩ := hq
   go_enter Try.func105, Try.ntmps105
   go_wp2_with (go_at_call 123; refine HA.out.mono ?_; rintro e w' ⟨rfl, hb⟩)
   go_ret
   exact ⟨rfl, below_then HB.out HB.out.size hb⟩
 · rw [if_neg hm] at h; cases h

end Go.Proofs.Ytmfbkbbgokjhnaa.F
namespace Go.Proofs.Ytmfbkbbgokjhnaa.F
open Go.RowKit Go.Proofs.YtmfbkbbgokjhnaaW.PrintWords Go.Proofs.YtmfbkbbgokjhnaaW.PrintLast Go.Proofs.YtmfbkbbgokjhnaaW.PrintMore
attribute [local go_sem] max2_int min2_int max_two min_two max_three min_three max_four min_four   -- for this text's walks alone
set_option linter.unusedVariables false
set_option linter.unusedSimpArgs false

/-! ### impl_decide: function 75 -/
def impl_decide.l0 : Nat → List (S94) → List ByteArray → Int → Int → Int → ByteArray → Int → Bool → Bool → Bool → Option (Int × List ByteArray)
 | 0, _, _, _, _, _, _, _, _, _, _ => none
 | k + 1, x0, x5, x6, x249000, x249001, x249002, x249003, x249004, x249005, x249006 => (impl_firstMatch.f x0 x6 x249000 x249001 x249002 x249003 x249004 x249005 x249006).bind fun t253 => (if 0 ≤ t253 then (if t253 < (x0.length : Int) then (if x5.length < 8796093022208 then ((some (x5 ++ [(rd_T94 x0 t253).f0] : List ByteArray)).bind fun y256 => (if ((rd_T94 x0 t253).f5) = 3 then ((impl_findClause.f x0 ((rd_T94 x0 t253).f6)).bind fun t259 => (impl_decide.l0 k x0 y256 t259 x249000 x249001 x249002 x249003 x249004 x249005 x249006)) else (some ((rd_T94 x0 t253).f5, y256)))) else (none)) else (none)) else (none))
def impl_decide.f (k : Nat) (l0 : List (S94)) (a1_0 : Int) (a1_1 : Int) (a1_2 : ByteArray) (a1_3 : Int) (a1_4 : Bool) (a1_5 : Bool) (a1_6 : Bool) : Option (Int × List ByteArray) := impl_decide.l0 k l0 (([] : List ByteArray)) 0 a1_0 a1_1 a1_2 a1_3 a1_4 a1_5 a1_6
theorem impl_decide.mono_l : ∀ k, (∀ y0 y1 y2 y3 y4 y5 y6 y7 y8 y9, LeO (impl_decide.l0 k y0 y1 y2 y3 y4 y5 y6 y7 y8 y9) (impl_decide.l0 (k + 1) y0 y1 y2 y3 y4 y5 y6 y7 y8 y9))
 | 0 => fun _ _ _ _ _ _ _ _ _ _ r h => by simp [impl_decide.l0] at h
 | k + 1 => by
  have ih0 := impl_decide.mono_l k
  · intro y0 y1 y2 y3 y4 y5 y6 y7 y8 y9
    unfold impl_decide.l0
    repeat' first
    | (with_reducible exact ih0 _ _ _ _ _ _ _ _ _ _)
    | (with_reducible exact LeO.refl _)
    | (with_reducible exact LeO.none _)
    | (with_reducible refine LeO.ite ?_ ?_)
    | (with_reducible refine LeO.bind ?_ (fun _ => ?_))
    | exact ih0 _ _ _ _ _ _ _ _ _ _
    | exact LeO.none _
    | refine LeO.ite ?_ ?_
    | refine LeO.bind ?_ (fun _ => ?_)
theorem impl_decide.mono : ∀ a0 a1 a2 a3 a4 a5 a6 a7 k, LeO (impl_decide.f k a0 a1 a2 a3 a4 a5 a6 a7) (impl_decide.f (k + 1) a0 a1 a2 a3 a4 a5 a6 a7) := by
 intro a0 a1 a2 a3 a4 a5 a6 a7 k
 have ih0 := impl_decide.mono_l k
 unfold impl_decide.f
 repeat' first
  | (with_reducible exact ih0 _ _ _ _ _ _ _ _ _ _)
  | (with_reducible exact LeO.refl _)
  | (with_reducible exact LeO.none _)
  | (with_reducible refine LeO.ite ?_ ?_)
  | (with_reducible refine LeO.bind ?_ (fun _ => ?_))
  | exact ih0 _ _ _ _ _ _ _ _ _ _
  | exact LeO.none _
  | refine LeO.ite ?_ ?_
  | refine LeO.bind ?_ (fun _ => ?_)
set_option maxHeartbeats 8000000 in
set_option maxRecDepth 100000 in
theorem impl_decide.calls (k : Nat) (A0 : Option Addr) (c0 : Nat) (l0 : List (S94)) (a1_0 : Int) (a1_1 : Int) (a1_2 : ByteArray) (a1_3 : Int) (a1_4 : Bool) (a1_5 : Bool) (a1_6 : Bool) (r1 : Int) (r2 : List ByteArray) (w : World) (hr0 : Kd.C k94 w A0 l0.length l0) (hc0 : l0.length ≤ c0) (h : impl_decide.f k l0 a1_0 a1_1 a1_2 a1_3 a1_4 a1_5 a1_6 = some (r1, r2)) :
 Calls Try.prog 75 #[.slice A0 l0.length c0, .agg #[.int .i64 a1_0, .int .i64 a1_1, .string a1_2, .int .i64 a1_3, .bool a1_4, .bool a1_5, .bool a1_6]] w fun e w' => ∃ v1_ : Value, e = .returned (.agg #[.int .i64 r1, v1_]) ∧ Kd.R Kd.string 9 w' w.heap.size (fun _ => True) v1_ r2 ∧ Below w.heap.size w w' := by
 have hu43 := Try.underlying43
 have hu45 := Try.underlying45
 have hu94 := Try.underlying94
 have HR0 := Aside0.mk hr0
 have HC0 := Aside0.mk hc0
 clear hr0 hc0
 have HB := Aside0.mk (Below.refl w.heap.size w)
 have H : (impl_decide.l0 k l0 (([] : List ByteArray)) 0 a1_0 a1_1 a1_2 a1_3 a1_4 a1_5 a1_6) = some (r1, r2) := h
 clear h
 obtain ⟨y250, hy250⟩ : ∃ y_ : List ByteArray, y_ = (([] : List ByteArray)) := ⟨_, rfl⟩
 replace H : (impl_decide.l0 k l0 y250 0 a1_0 a1_1 a1_2 a1_3 a1_4 a1_5 a1_6) = some (r1, r2) := by first | (rw [hy250]; with_reducible exact H) | (have H2_ := (Option.bind_some _ _).symm.trans H; rw [hy250]; with_reducible exact H2_) | (have H2_ := (Option.bind_some _ _).symm.trans H; with_reducible exact H2_) | with_reducible exact H | (rw [hy250]; exact H) | exact H
 have Ny250 := Aside0.mk hy250
 clear hy250
 have H' := Aside0.mk H
 clear H
 go_enter Try.func75, Try.ntmps75
 go_wp2_with (first | ((with_reducible refine gate_dst (N := 3) rfl ?_); refine bx_ 3 #[.int .i64 a1_0, .int .i64 a1_1, .string a1_2, .int .i64 a1_3, .bool a1_4, .bool a1_5, .bool a1_6] 43 ?_; intro gb248 hg w3 hbox hb; have n0_ := Aside0.mk (bs_ hb); have n1_ := Aside0.mk (hbox); have n2_ := Aside0.mk ((by rw [hg]; exact (bz_) : w.heap.size ≤ gb248)); have n3_ := Aside0.mk ((by rw [hg]; exact (bz_) : w.heap.size ≤ gb248)); clear HB; revert n0_ n1_ n2_ n3_; intro HB BK248 GW248 GE248; clear hb hbox hg) | ((with_reducible refine gate_dst (N := 4) rfl ?_); refine bx_ 4 #[.int .i64 0, .slice none 0 0] 45 ?_; intro gb249 hg w4 hbox hb; have n0_ := Aside0.mk (bkb BK248 hb); have n1_ := Aside0.mk (bs_ hb); have n2_ := Aside0.mk (hbox); have n3_ := Aside0.mk ((by rw [hg]; exact (bz_) : w.heap.size ≤ gb249)); have n4_ := Aside0.mk ((by rw [hg]; exact (bz_) : w.heap.size ≤ gb249)); have n5_ := Aside0.mk ((by rw [hg]; exact Nat.ne_of_lt (blk_lt (g := gb248) (o := .cells #[.int .i64 a1_0, .int .i64 a1_1, .string a1_2, .int .i64 a1_3, .bool a1_4, .bool a1_5, .bool a1_6] 43 (0, 0)) (by (with_reducible repeat (first | refine blk_drewN ?_ _ | refine blk_drew ?_ | refine blk_alloc ?_ _)); exact BK248.out)) : gb248 ≠ gb249)); have n6_ := Aside0.mk ((by rw [hg]; exact Nat.ne_of_gt (blk_lt (g := gb248) (o := .cells #[.int .i64 a1_0, .int .i64 a1_1, .string a1_2, .int .i64 a1_3, .bool a1_4, .bool a1_5, .bool a1_6] 43 (0, 0)) (by (with_reducible repeat (first | refine blk_drewN ?_ _ | refine blk_drew ?_ | refine blk_alloc ?_ _)); exact BK248.out)) : gb249 ≠ gb248)); clear BK248 HB; revert n0_ n1_ n2_ n3_ n4_ n5_ n6_; intro BK248 HB BK249 GW249 GE249 NB248_249 NB249_248; clear hb hbox hg) | ((with_reducible refine gate_dst (N := 8) rfl ?_); refine Kd.R_lit Kd.string _ 9 ?hg (N := 8) ?hd (xs := ([] : List ByteArray)) (inner := []) (ok := fun _ => True) (okp := fun _ => True) ?hr ?hp (fun _ hk => hk) trivial (Below.refl _ _) (Nat.le_refl _) (by simp) ?_; (case hd => rfl); (case hg => rfl); (case hr => first | (go_simp; done) | (go_simp; rfl)); (case hp => exact (Reps.none _ _)); intro v251 w5 ho6 hb hg_ hnew_; clear hg_ hnew_; (first | rw [← Ny250.out] at ho6 | (simp only [Int.reduceToNat] at ho6; rw [← Ny250.out] at ho6)); have n0_ := Aside0.mk (Kd.R_lower ho6 (bz_)); have n1_ := Aside0.mk (bkb BK248 hb); have n2_ := Aside0.mk (bkb BK249 hb); have n3_ := Aside0.mk (bs_ hb); clear BK248 BK249 HB; revert n0_ n1_ n2_ n3_; intro HO252 BK248 BK249 HB; clear hb ho6))
 go_loopg [5, 6] k (fun kq v5 v6 w' => ∃ (x5_1 : List ByteArray) (x6_1 : Int) (x250000_1 : Int), v6 = .int .i64 x6_1 ∧ Aside0 (impl_decide.l0 kq l0 x5_1 x6_1 a1_0 a1_1 a1_2 a1_3 a1_4 a1_5 a1_6 = some (r1, r2)) ∧ Aside0 (kq ≤ k) ∧ Aside0 (Kd.R Kd.string 9 w' w.heap.size (fun _ => True) v5 x5_1) ∧ Aside0 (w'.heap[gb248]? = some (.cells #[.int .i64 a1_0, .int .i64 a1_1, .string a1_2, .int .i64 a1_3, .bool a1_4, .bool a1_5, .bool a1_6] 43 (0, 0))) ∧ Aside0 (w'.heap[gb249]? = some (.cells #[.int .i64 x250000_1, (.slice none 0 0)] 45 (0, 0))) ∧ Aside0 (Below w.heap.size w w'))
 case atStart => exact ⟨(y250), (0), (0), (by first | rfl | (simp; done) | (simp [*]; done)), H', ⟨Nat.le_refl _⟩, ⟨by (with_reducible repeat (first | apply Kd.R_alloc | apply Kd.R_drewN | apply Kd.R_drew)); exact HO252.out⟩, ⟨by (with_reducible repeat (first | refine blk_drewN ?_ _ | refine blk_drew ?_ | refine blk_alloc ?_ _)); exact BK248.out⟩, ⟨by (with_reducible repeat (first | refine blk_drewN ?_ _ | refine blk_drew ?_ | refine blk_alloc ?_ _)); exact BK249.out⟩, ⟨bb_⟩⟩
 case round =>
  clear H'
  try clear p2
  obtain ⟨x5_1, x6_1, x250000_1, rfl, HA, HK1, HO_5, BK248, BK249, HB⟩ := hrel
  cases gk with
  | zero => exact absurd HA.out (by simp [impl_decide.l0])
  | succ k1 =>
   have H := HA.out
   clear HA
   simp only [impl_decide.l0] at H
   replace H := Option.bind_eq_some_iff.mp H
   obtain ⟨t253, A70, H⟩ := H
   replace H : (if 0 ≤ t253 then (if t253 < (l0.length : Int) then (if x5_1.length < 8796093022208 then ((some (x5_1 ++ [(rd_T94 l0 t253).f0] : List ByteArray)).bind fun y256 => (if ((rd_T94 l0 t253).f5) = 3 then ((impl_findClause.f l0 ((rd_T94 l0 t253).f6)).bind fun t259 => (impl_decide.l0 k1 l0 y256 t259 a1_0 a1_1 a1_2 a1_3 a1_4 a1_5 a1_6)) else (some ((rd_T94 l0 t253).f5, y256)))) else (none)) else (none)) else (none)) = some (r1, r2) := H
   have A7 := Aside0.mk A70
   clear A70
   by_cases c8 : 0 ≤ t253
   · rw [if_pos c8] at H
     have c8b0 : decide (0 ≤ t253) = true := decide_eq_true c8
     clear c8
     by_cases c9 : t253 < (l0.length : Int)
     · rw [if_pos c9] at H
       have c9b0 : decide (t253 < (l0.length : Int)) = true := decide_eq_true c9
       clear c9
       by_cases c10 : x5_1.length < 8796093022208
       · rw [if_pos c10] at H
         have LMc10 := Aside0.mk c10
         clear c10
         obtain ⟨y256, hy256⟩ : ∃ y_ : List ByteArray, y_ = (x5_1 ++ [(rd_T94 l0 t253).f0]) := ⟨_, rfl⟩
         replace H : (if ((rd_T94 l0 t253).f5) = 3 then ((impl_findClause.f l0 ((rd_T94 l0 t253).f6)).bind fun t259 => (impl_decide.l0 k1 l0 y256 t259 a1_0 a1_1 a1_2 a1_3 a1_4 a1_5 a1_6)) else (some ((rd_T94 l0 t253).f5, y256))) = some (r1, r2) := by first | (rw [hy256]; with_reducible exact H) | (have H2_ := (Option.bind_some _ _).symm.trans H; rw [hy256]; with_reducible exact H2_) | (have H2_ := (Option.bind_some _ _).symm.trans H; with_reducible exact H2_) | with_reducible exact H | (rw [hy256]; exact H) | exact H
         have Ny256 := Aside0.mk hy256
         clear hy256
         by_cases c11 : ((rd_T94 l0 t253).f5) = 3
         · rw [if_pos c11] at H
           have c11b0 : (((rd_T94 l0 t253).f5) == 3) = true := beq_iff_eq.mpr c11
           have c11b1 : (((rd_T94 l0 t253).f5) != 3) = false := bne_eq_false_iff_eq.mpr c11
           clear c11
           replace H := Option.bind_eq_some_iff.mp H
           obtain ⟨t259, A120, H⟩ := H
           replace H : (impl_decide.l0 k1 l0 y256 t259 a1_0 a1_1 a1_2 a1_3 a1_4 a1_5 a1_6) = some (r1, r2) := H
           have A12 := Aside0.mk A120
           clear A120
           have H' := Aside0.mk H
           clear H
           have hnb13 := NB248_249.out
           have hnc13 := NB249_248.out
           have hcz14_0 := bk BK248 0
           have hcz14_1 := bk BK248 1
           have hcz14_2 := bk BK248 2
           have hcz14_3 := bk BK248 3
           have hcz14_4 := bk BK248 4
           have hcz14_5 := bk BK248 5
           have hcz14_6 := bk BK248 6
           have hfz14_0 := blk_frozen BK248.out 0
           have hfz14_1 := blk_frozen BK248.out 1
           have hfz14_2 := blk_frozen BK248.out 2
           have hfz14_3 := blk_frozen BK248.out 3
           have hfz14_4 := blk_frozen BK248.out 4
           have hfz14_5 := blk_frozen BK248.out 5
           have hfz14_6 := blk_frozen BK248.out 6
           go_wp2_with (first | ((with_reducible refine gate_callee (f := 105) rfl ?_); refine gl_ 13 Try.func105 #[.slice A0 l0.length c0, .int .i64 x6_1, .agg #[.int .i64 a1_0, .int .i64 a1_1, .string a1_2, .int .i64 a1_3, .bool a1_4, .bool a1_5, .bool a1_6]] ?_; (with_reducible refine (impl_firstMatch.calls _ _ l0 x6_1 a1_0 a1_1 a1_2 a1_3 a1_4 a1_5 a1_6 t253 _ ?side1 ?side2 A7.out).mono ?_); (case side1 => repeat (first | exact (Kd.C_below HR0.out HB.out) | (with_reducible refine Kd.C_alloc ?_ _) | (with_reducible refine Kd.C_drewN ?_ _) | (with_reducible refine Kd.C_drew ?_))); (case side2 => exact HC0.out); rintro e w15 ⟨rfl, hb⟩; refine ⟨_, rfl, ?_⟩; have n0_ := Aside0.mk (Kd.R_below (rm_ HO_5) hb); have n1_ := Aside0.mk (bkb BK248 hb); have n2_ := Aside0.mk (bkb BK249 hb); have n3_ := Aside0.mk (bs_ hb); clear HO_5 BK248 BK249 HB; revert n0_ n1_ n2_ n3_; intro HO_5 BK248 BK249 HB; (try clear hb); (try clear hb2); (try clear hk); (try clear hi); have p254 : 0 ≤ (t253 : Int) := od_; have q254 : t253 < (l0.length : Int) := od_; obtain ⟨ad254, e254, hx254_0, hx254_1, hx254_2, hx254_3, hx254_4, hx254_5, hx254_6⟩ := at_T94 HR0.out t253 p254 q254; cases e254; replace hx254_0 := cel HB hx254_0; replace hx254_1 := cel HB hx254_1; replace hx254_2 := cel HB hx254_2; replace hx254_3 := cel HB hx254_3; replace hx254_4 := cel HB hx254_4; replace hx254_5 := cel HB hx254_5; replace hx254_6 := cel HB hx254_6; replace p254 := eq_true p254; replace q254 := eq_true q254) | ((with_reducible refine gate_dst (N := 7) rfl ?_); refine bx_ 7 #[.string (⟨#[]⟩ : ByteArray), .int .i64 0, .int .i64 0, .int .i64 0, .int .i64 0, .int .i64 0, .string (⟨#[]⟩ : ByteArray)] 94 ?_; intro gb255 hg w16 hbox hb; have n0_ := Aside0.mk (Kd.R_below (rm_ HO_5) hb); have n1_ := Aside0.mk (bkb BK248 hb); have n2_ := Aside0.mk (bkb BK249 hb); have n3_ := Aside0.mk (bs_ hb); have n4_ := Aside0.mk (hbox); have n5_ := Aside0.mk ((by rw [hg]; exact (bz_) : w.heap.size ≤ gb255)); have n6_ := Aside0.mk ((by rw [hg]; exact (bz_) : w.heap.size ≤ gb255)); have n7_ := Aside0.mk ((by rw [hg]; exact Nat.ne_of_lt (blk_lt (g := gb248) (o := .cells #[.int .i64 a1_0, .int .i64 a1_1, .string a1_2, .int .i64 a1_3, .bool a1_4, .bool a1_5, .bool a1_6] 43 (0, 0)) (by (with_reducible repeat (first | refine blk_drewN ?_ _ | refine blk_drew ?_ | refine blk_alloc ?_ _)); exact BK248.out)) : gb248 ≠ gb255)); have n8_ := Aside0.mk ((by rw [hg]; exact Nat.ne_of_gt (blk_lt (g := gb248) (o := .cells #[.int .i64 a1_0, .int .i64 a1_1, .string a1_2, .int .i64 a1_3, .bool a1_4, .bool a1_5, .bool a1_6] 43 (0, 0)) (by (with_reducible repeat (first | refine blk_drewN ?_ _ | refine blk_drew ?_ | refine blk_alloc ?_ _)); exact BK248.out)) : gb255 ≠ gb248)); have n9_ := Aside0.mk ((by rw [hg]; exact Nat.ne_of_lt (blk_lt (g := gb249) (o := .cells #[.int .i64 x250000_1, .slice none 0 0] 45 (0, 0)) (by (with_reducible repeat (first | refine blk_drewN ?_ _ | refine blk_drew ?_ | refine blk_alloc ?_ _)); exact BK249.out)) : gb249 ≠ gb255)); have n10_ := Aside0.mk ((by rw [hg]; exact Nat.ne_of_gt (blk_lt (g := gb249) (o := .cells #[.int .i64 x250000_1, .slice none 0 0] 45 (0, 0)) (by (with_reducible repeat (first | refine blk_drewN ?_ _ | refine blk_drew ?_ | refine blk_alloc ?_ _)); exact BK249.out)) : gb255 ≠ gb249)); clear HO_5 BK248 BK249 HB; revert n0_ n1_ n2_ n3_ n4_ n5_ n6_ n7_ n8_ n9_ n10_; intro HO_5 BK248 BK249 HB BK255 GW255 GE255 NB248_255 NB255_248 NB249_255 NB255_249; clear hb hbox hg; have hnb17 := NB255_248.out; have hnc17 := NB248_255.out; have hnb18 := NB255_249.out; have hnc18 := NB249_255.out; have hcz19_0 := bk BK255 0; have hcz19_1 := bk BK255 1; have hcz19_2 := bk BK255 2; have hcz19_3 := bk BK255 3; have hcz19_4 := bk BK255 4; have hcz19_5 := bk BK255 5; have hcz19_6 := bk BK255 6; have hfz19_0 := blk_frozen BK255.out 0; have hfz19_1 := blk_frozen BK255.out 1; have hfz19_2 := blk_frozen BK255.out 2; have hfz19_3 := blk_frozen BK255.out 3; have hfz19_4 := blk_frozen BK255.out 4; have hfz19_5 := blk_frozen BK255.out 5; have hfz19_6 := blk_frozen BK255.out 6) | ((with_reducible refine gate_builtin (b := .append) (xs := #[.tmp 16, .tmp 19]) rfl ?_); at_builtin; refine Kd.R_append Kd.string (w0 := w) w.heap.size rfl (.tmp 16) (.tmp 19) 33 9 (.string ⟨#[]⟩) 16 rfl Try.underlying33 info9 rfl (by decide) (by omega) u5 x5_1 ((rd_T94 l0 t253).f0) [.string ((rd_T94 l0 t253).f0)] (fun _ => True) (fun _ => False) rfl (by first | (go_simp; done) | (go_simp; rfl)) ?aP (fun _ hk => hk.elim) ?aF ?aO ?aB ?aS ?aL ?_; (case aP => exact rfl); (case aB => exact bb_); (case aF => exact (fun _ _ => trivial)); (case aO => exact (by (with_reducible repeat (first | apply Kd.R_alloc | apply Kd.R_drewN | apply Kd.R_drew)); exact Kd.R_mono (Kd.R_far (p := ⟨gb255, 6, none⟩) (Kd.R_far (p := ⟨gb255, 5, none⟩) (Kd.R_far (p := ⟨gb255, 4, none⟩) (Kd.R_far (p := ⟨gb255, 3, none⟩) (Kd.R_far (p := ⟨gb255, 2, none⟩) (Kd.R_far (p := ⟨gb255, 1, none⟩) (Kd.R_far (p := ⟨gb255, 0, none⟩) (Kd.R_types HO_5.out BK255.out (by decide)) (fun _ hk => hk.2) (.string ((rd_T94 l0 t253).f0))) (fun _ hk => hk.2) (.int .i64 ((rd_T94 l0 t253).f1))) (fun _ hk => hk.2) (.int .i64 ((rd_T94 l0 t253).f2))) (fun _ hk => hk.2) (.int .i64 ((rd_T94 l0 t253).f3))) (fun _ hk => hk.2) (.int .i64 ((rd_T94 l0 t253).f4))) (fun _ hk => hk.2) (.int .i64 ((rd_T94 l0 t253).f5))) (fun _ hk => hk.2) (.string ((rd_T94 l0 t253).f6))) (fun _ hk => trivial))); (case aS => exact (bz_)); (case aL => have := LMc10.out; omega); intro v257 w20 ho hb hg hat; rw [← Ny256.out] at ho; have n0_ := Aside0.mk (blk_grown (g := gb248) (o := .cells #[.int .i64 a1_0, .int .i64 a1_1, .string a1_2, .int .i64 a1_3, .bool a1_4, .bool a1_5, .bool a1_6] 43 (0, 0)) (by (with_reducible repeat (first | refine blk_drewN ?_ _ | refine blk_drew ?_ | refine blk_alloc ?_ _)); refine blk_far ?_ NB248_255.out _; (with_reducible repeat (first | refine blk_drewN ?_ _ | refine blk_drew ?_ | refine blk_alloc ?_ _)); refine blk_far ?_ NB248_255.out _; (with_reducible repeat (first | refine blk_drewN ?_ _ | refine blk_drew ?_ | refine blk_alloc ?_ _)); refine blk_far ?_ NB248_255.out _; (with_reducible repeat (first | refine blk_drewN ?_ _ | refine blk_drew ?_ | refine blk_alloc ?_ _)); refine blk_far ?_ NB248_255.out _; (with_reducible repeat (first | refine blk_drewN ?_ _ | refine blk_drew ?_ | refine blk_alloc ?_ _)); refine blk_far ?_ NB248_255.out _; (with_reducible repeat (first | refine blk_drewN ?_ _ | refine blk_drew ?_ | refine blk_alloc ?_ _)); refine blk_far ?_ NB248_255.out _; (with_reducible repeat (first | refine blk_drewN ?_ _ | refine blk_drew ?_ | refine blk_alloc ?_ _)); refine blk_far ?_ NB248_255.out _; (with_reducible repeat (first | refine blk_drewN ?_ _ | refine blk_drew ?_ | refine blk_alloc ?_ _)); exact BK248.out) hg (Kd.R_ne HO_5.out BK248.out (by decide))); have n1_ := Aside0.mk (blk_grown (g := gb249) (o := .cells #[.int .i64 x250000_1, .slice none 0 0] 45 (0, 0)) (by (with_reducible repeat (first | refine blk_drewN ?_ _ | refine blk_drew ?_ | refine blk_alloc ?_ _)); refine blk_far ?_ NB249_255.out _; (with_reducible repeat (first | refine blk_drewN ?_ _ | refine blk_drew ?_ | refine blk_alloc ?_ _)); refine blk_far ?_ NB249_255.out _; (with_reducible repeat (first | refine blk_drewN ?_ _ | refine blk_drew ?_ | refine blk_alloc ?_ _)); refine blk_far ?_ NB249_255.out _; (with_reducible repeat (first | refine blk_drewN ?_ _ | refine blk_drew ?_ | refine blk_alloc ?_ _)); refine blk_far ?_ NB249_255.out _; (with_reducible repeat (first | refine blk_drewN ?_ _ | refine blk_drew ?_ | refine blk_alloc ?_ _)); refine blk_far ?_ NB249_255.out _; (with_reducible repeat (first | refine blk_drewN ?_ _ | refine blk_drew ?_ | refine blk_alloc ?_ _)); refine blk_far ?_ NB249_255.out _; (with_reducible repeat (first | refine blk_drewN ?_ _ | refine blk_drew ?_ | refine blk_alloc ?_ _)); refine blk_far ?_ NB249_255.out _; (with_reducible repeat (first | refine blk_drewN ?_ _ | refine blk_drew ?_ | refine blk_alloc ?_ _)); exact BK249.out) hg (Kd.R_ne HO_5.out BK249.out (by decide))); have n2_ := Aside0.mk (blk_grown (g := gb255) (o := .cells #[.string ((rd_T94 l0 t253).f0), .int .i64 ((rd_T94 l0 t253).f1), .int .i64 ((rd_T94 l0 t253).f2), .int .i64 ((rd_T94 l0 t253).f3), .int .i64 ((rd_T94 l0 t253).f4), .int .i64 ((rd_T94 l0 t253).f5), .string ((rd_T94 l0 t253).f6)] 94 (0, 0)) (by (with_reducible repeat (first | refine blk_drewN ?_ _ | refine blk_drew ?_ | refine blk_alloc ?_ _)); refine blk_put (cs := #[.string ((rd_T94 l0 t253).f0), .int .i64 ((rd_T94 l0 t253).f1), .int .i64 ((rd_T94 l0 t253).f2), .int .i64 ((rd_T94 l0 t253).f3), .int .i64 ((rd_T94 l0 t253).f4), .int .i64 ((rd_T94 l0 t253).f5), .string (⟨#[]⟩ : ByteArray)]) ?_ 6 _ rfl; (with_reducible repeat (first | refine blk_drewN ?_ _ | refine blk_drew ?_ | refine blk_alloc ?_ _)); refine blk_put (cs := #[.string ((rd_T94 l0 t253).f0), .int .i64 ((rd_T94 l0 t253).f1), .int .i64 ((rd_T94 l0 t253).f2), .int .i64 ((rd_T94 l0 t253).f3), .int .i64 ((rd_T94 l0 t253).f4), .int .i64 0, .string (⟨#[]⟩ : ByteArray)]) ?_ 5 _ rfl; (with_reducible repeat (first | refine blk_drewN ?_ _ | refine blk_drew ?_ | refine blk_alloc ?_ _)); refine blk_put (cs := #[.string ((rd_T94 l0 t253).f0), .int .i64 ((rd_T94 l0 t253).f1), .int .i64 ((rd_T94 l0 t253).f2), .int .i64 ((rd_T94 l0 t253).f3), .int .i64 0, .int .i64 0, .string (⟨#[]⟩ : ByteArray)]) ?_ 4 _ rfl; (with_reducible repeat (first | refine blk_drewN ?_ _ | refine blk_drew ?_ | refine blk_alloc ?_ _)); refine blk_put (cs := #[.string ((rd_T94 l0 t253).f0), .int .i64 ((rd_T94 l0 t253).f1), .int .i64 ((rd_T94 l0 t253).f2), .int .i64 0, .int .i64 0, .int .i64 0, .string (⟨#[]⟩ : ByteArray)]) ?_ 3 _ rfl; (with_reducible repeat (first | refine blk_drewN ?_ _ | refine blk_drew ?_ | refine blk_alloc ?_ _)); refine blk_put (cs := #[.string ((rd_T94 l0 t253).f0), .int .i64 ((rd_T94 l0 t253).f1), .int .i64 0, .int .i64 0, .int .i64 0, .int .i64 0, .string (⟨#[]⟩ : ByteArray)]) ?_ 2 _ rfl; (with_reducible repeat (first | refine blk_drewN ?_ _ | refine blk_drew ?_ | refine blk_alloc ?_ _)); refine blk_put (cs := #[.string ((rd_T94 l0 t253).f0), .int .i64 0, .int .i64 0, .int .i64 0, .int .i64 0, .int .i64 0, .string (⟨#[]⟩ : ByteArray)]) ?_ 1 _ rfl; (with_reducible repeat (first | refine blk_drewN ?_ _ | refine blk_drew ?_ | refine blk_alloc ?_ _)); refine blk_put (cs := #[.string (⟨#[]⟩ : ByteArray), .int .i64 0, .int .i64 0, .int .i64 0, .int .i64 0, .int .i64 0, .string (⟨#[]⟩ : ByteArray)]) ?_ 0 _ rfl; (with_reducible repeat (first | refine blk_drewN ?_ _ | refine blk_drew ?_ | refine blk_alloc ?_ _)); exact BK255.out) hg (Kd.R_ne HO_5.out BK255.out (by decide))); have n3_ := Aside0.mk (hb); have n4_ := Aside0.mk (ho); clear BK248 BK249 BK255 HB HO_5; revert n0_ n1_ n2_ n3_ n4_; intro BK248 BK249 BK255 HB HO258; clear ho hb hg hat; have hcz21_0 := bk BK255 0; have hcz21_1 := bk BK255 1; have hcz21_2 := bk BK255 2; have hcz21_3 := bk BK255 3; have hcz21_4 := bk BK255 4; have hcz21_5 := bk BK255 5; have hcz21_6 := bk BK255 6; have hfz21_0 := blk_frozen BK255.out 0; have hfz21_1 := blk_frozen BK255.out 1; have hfz21_2 := blk_frozen BK255.out 2; have hfz21_3 := blk_frozen BK255.out 3; have hfz21_4 := blk_frozen BK255.out 4; have hfz21_5 := blk_frozen BK255.out 5; have hfz21_6 := blk_frozen BK255.out 6) | ((with_reducible refine gate_callee (f := 102) rfl ?_); refine gl_ 31 Try.func102 #[.slice (some ad254) l0.length c0, .string ((rd_T94 l0 t253).f6)] ?_; (with_reducible refine (impl_findClause.calls _ _ l0 ((rd_T94 l0 t253).f6) t259 _ ?side1 ?side2 A12.out).mono ?_); (case side1 => repeat (first | exact (Kd.C_below HR0.out HB.out) | (with_reducible refine Kd.C_alloc ?_ _) | (with_reducible refine Kd.C_drewN ?_ _) | (with_reducible refine Kd.C_drew ?_))); (case side2 => exact HC0.out); rintro e w22 ⟨rfl, hb⟩; refine ⟨_, rfl, ?_⟩; have n0_ := Aside0.mk (Kd.R_below (rm_ HO258) hb); have n1_ := Aside0.mk (bkb BK248 hb); have n2_ := Aside0.mk (bkb BK249 hb); have n3_ := Aside0.mk (bkb BK255 hb); have n4_ := Aside0.mk (bs_ hb); clear HO258 BK248 BK249 BK255 HB; revert n0_ n1_ n2_ n3_ n4_; intro HO258 BK248 BK249 BK255 HB; (try clear hb); (try clear hb2); (try clear hk); (try clear hi)))
           go_roundg k1
           case measure => have := HK1.out; omega
           case rel => exact ⟨(y256), (t259), (x250000_1), (by first | rfl | (simp; done) | (simp [*]; done)), H', ⟨by have := HK1.out; omega⟩, ⟨by (with_reducible repeat (first | apply Kd.R_alloc | apply Kd.R_drewN | apply Kd.R_drew)); exact HO258.out⟩, ⟨by (with_reducible repeat (first | refine blk_drewN ?_ _ | refine blk_drew ?_ | refine blk_alloc ?_ _)); exact BK248.out⟩, ⟨by (with_reducible repeat (first | refine blk_drewN ?_ _ | refine blk_drew ?_ | refine blk_alloc ?_ _)); exact BK249.out⟩, ⟨bb_⟩⟩
         · rw [if_neg c11] at H
           have c11b0 : (((rd_T94 l0 t253).f5) == 3) = false := beq_eq_false_iff_ne.mpr c11
           have c11b1 : (((rd_T94 l0 t253).f5) != 3) = true := bne_iff_ne.mpr c11
           simp only [Option.some.injEq, Prod.mk.injEq] at H
           obtain ⟨rfl, rfl⟩ := H
           have hnb23 := NB248_249.out
           have hnc23 := NB249_248.out
           have hcz24_0 := bk BK248 0
           have hcz24_1 := bk BK248 1
           have hcz24_2 := bk BK248 2
           have hcz24_3 := bk BK248 3
           have hcz24_4 := bk BK248 4
           have hcz24_5 := bk BK248 5
           have hcz24_6 := bk BK248 6
           have hfz24_0 := blk_frozen BK248.out 0
           have hfz24_1 := blk_frozen BK248.out 1
           have hfz24_2 := blk_frozen BK248.out 2
           have hfz24_3 := blk_frozen BK248.out 3
           have hfz24_4 := blk_frozen BK248.out 4
           have hfz24_5 := blk_frozen BK248.out 5
           have hfz24_6 := blk_frozen BK248.out 6
           go_wp2_with (first | ((with_reducible refine gate_callee (f := 105) rfl ?_); refine gl_ 13 Try.func105 #[.slice A0 l0.length c0, .int .i64 x6_1, .agg #[.int .i64 a1_0, .int .i64 a1_1, .string a1_2, .int .i64 a1_3, .bool a1_4, .bool a1_5, .bool a1_6]] ?_; (with_reducible refine (impl_firstMatch.calls _ _ l0 x6_1 a1_0 a1_1 a1_2 a1_3 a1_4 a1_5 a1_6 t253 _ ?side1 ?side2 A7.out).mono ?_); (case side1 => repeat (first | exact (Kd.C_below HR0.out HB.out) | (with_reducible refine Kd.C_alloc ?_ _) | (with_reducible refine Kd.C_drewN ?_ _) | (with_reducible refine Kd.C_drew ?_))); (case side2 => exact HC0.out); rintro e w25 ⟨rfl, hb⟩; refine ⟨_, rfl, ?_⟩; have n0_ := Aside0.mk (Kd.R_below (rm_ HO_5) hb); have n1_ := Aside0.mk (bkb BK248 hb); have n2_ := Aside0.mk (bkb BK249 hb); have n3_ := Aside0.mk (bs_ hb); clear HO_5 BK248 BK249 HB; revert n0_ n1_ n2_ n3_; intro HO_5 BK248 BK249 HB; (try clear hb); (try clear hb2); (try clear hk); (try clear hi); have p254 : 0 ≤ (t253 : Int) := od_; have q254 : t253 < (l0.length : Int) := od_; obtain ⟨ad254, e254, hx254_0, hx254_1, hx254_2, hx254_3, hx254_4, hx254_5, hx254_6⟩ := at_T94 HR0.out t253 p254 q254; cases e254; replace hx254_0 := cel HB hx254_0; replace hx254_1 := cel HB hx254_1; replace hx254_2 := cel HB hx254_2; replace hx254_3 := cel HB hx254_3; replace hx254_4 := cel HB hx254_4; replace hx254_5 := cel HB hx254_5; replace hx254_6 := cel HB hx254_6; replace p254 := eq_true p254; replace q254 := eq_true q254) | ((with_reducible refine gate_dst (N := 7) rfl ?_); refine bx_ 7 #[.string (⟨#[]⟩ : ByteArray), .int .i64 0, .int .i64 0, .int .i64 0, .int .i64 0, .int .i64 0, .string (⟨#[]⟩ : ByteArray)] 94 ?_; intro gb255 hg w26 hbox hb; have n0_ := Aside0.mk (Kd.R_below (rm_ HO_5) hb); have n1_ := Aside0.mk (bkb BK248 hb); have n2_ := Aside0.mk (bkb BK249 hb); have n3_ := Aside0.mk (bs_ hb); have n4_ := Aside0.mk (hbox); have n5_ := Aside0.mk ((by rw [hg]; exact (bz_) : w.heap.size ≤ gb255)); have n6_ := Aside0.mk ((by rw [hg]; exact (bz_) : w.heap.size ≤ gb255)); have n7_ := Aside0.mk ((by rw [hg]; exact Nat.ne_of_lt (blk_lt (g := gb248) (o := .cells #[.int .i64 a1_0, .int .i64 a1_1, .string a1_2, .int .i64 a1_3, .bool a1_4, .bool a1_5, .bool a1_6] 43 (0, 0)) (by (with_reducible repeat (first | refine blk_drewN ?_ _ | refine blk_drew ?_ | refine blk_alloc ?_ _)); exact BK248.out)) : gb248 ≠ gb255)); have n8_ := Aside0.mk ((by rw [hg]; exact Nat.ne_of_gt (blk_lt (g := gb248) (o := .cells #[.int .i64 a1_0, .int .i64 a1_1, .string a1_2, .int .i64 a1_3, .bool a1_4, .bool a1_5, .bool a1_6] 43 (0, 0)) (by (with_reducible repeat (first | refine blk_drewN ?_ _ | refine blk_drew ?_ | refine blk_alloc ?_ _)); exact BK248.out)) : gb255 ≠ gb248)); have n9_ := Aside0.mk ((by rw [hg]; exact Nat.ne_of_lt (blk_lt (g := gb249) (o := .cells #[.int .i64 x250000_1, .slice none 0 0] 45 (0, 0)) (by (with_reducible repeat (first | refine blk_drewN ?_ _ | refine blk_drew ?_ | refine blk_alloc ?_ _)); exact BK249.out)) : gb249 ≠ gb255)); have n10_ := Aside0.mk ((by rw [hg]; exact Nat.ne_of_gt (blk_lt (g := gb249) (o := .cells #[.int .i64 x250000_1, .slice none 0 0] 45 (0, 0)) (by (with_reducible repeat (first | refine blk_drewN ?_ _ | refine blk_drew ?_ | refine blk_alloc ?_ _)); exact BK249.out)) : gb255 ≠ gb249)); clear HO_5 BK248 BK249 HB; revert n0_ n1_ n2_ n3_ n4_ n5_ n6_ n7_ n8_ n9_ n10_; intro HO_5 BK248 BK249 HB BK255 GW255 GE255 NB248_255 NB255_248 NB249_255 NB255_249; clear hb hbox hg; have hnb27 := NB255_248.out; have hnc27 := NB248_255.out; have hnb28 := NB255_249.out; have hnc28 := NB249_255.out; have hcz29_0 := bk BK255 0; have hcz29_1 := bk BK255 1; have hcz29_2 := bk BK255 2; have hcz29_3 := bk BK255 3; have hcz29_4 := bk BK255 4; have hcz29_5 := bk BK255 5; have hcz29_6 := bk BK255 6; have hfz29_0 := blk_frozen BK255.out 0; have hfz29_1 := blk_frozen BK255.out 1; have hfz29_2 := blk_frozen BK255.out 2; have hfz29_3 := blk_frozen BK255.out 3; have hfz29_4 := blk_frozen BK255.out 4; have hfz29_5 := blk_frozen BK255.out 5; have hfz29_6 := blk_frozen BK255.out 6) | ((with_reducible refine gate_builtin (b := .append) (xs := #[.tmp 16, .tmp 19]) rfl ?_); at_builtin; refine Kd.R_append Kd.string (w0 := w) w.heap.size rfl (.tmp 16) (.tmp 19) 33 9 (.string ⟨#[]⟩) 16 rfl Try.underlying33 info9 rfl (by decide) (by omega) u5 x5_1 ((rd_T94 l0 t253).f0) [.string ((rd_T94 l0 t253).f0)] (fun _ => True) (fun _ => False) rfl (by first | (go_simp; done) | (go_simp; rfl)) ?aP (fun _ hk => hk.elim) ?aF ?aO ?aB ?aS ?aL ?_; (case aP => exact rfl); (case aB => exact bb_); (case aF => exact (fun _ _ => trivial)); (case aO => exact (by (with_reducible repeat (first | apply Kd.R_alloc | apply Kd.R_drewN | apply Kd.R_drew)); exact Kd.R_mono (Kd.R_far (p := ⟨gb255, 6, none⟩) (Kd.R_far (p := ⟨gb255, 5, none⟩) (Kd.R_far (p := ⟨gb255, 4, none⟩) (Kd.R_far (p := ⟨gb255, 3, none⟩) (Kd.R_far (p := ⟨gb255, 2, none⟩) (Kd.R_far (p := ⟨gb255, 1, none⟩) (Kd.R_far (p := ⟨gb255, 0, none⟩) (Kd.R_types HO_5.out BK255.out (by decide)) (fun _ hk => hk.2) (.string ((rd_T94 l0 t253).f0))) (fun _ hk => hk.2) (.int .i64 ((rd_T94 l0 t253).f1))) (fun _ hk => hk.2) (.int .i64 ((rd_T94 l0 t253).f2))) (fun _ hk => hk.2) (.int .i64 ((rd_T94 l0 t253).f3))) (fun _ hk => hk.2) (.int .i64 ((rd_T94 l0 t253).f4))) (fun _ hk => hk.2) (.int .i64 ((rd_T94 l0 t253).f5))) (fun _ hk => hk.2) (.string ((rd_T94 l0 t253).f6))) (fun _ hk => trivial))); (case aS => exact (bz_)); (case aL => have := LMc10.out; omega); intro v257 w30 ho hb hg hat; rw [← Ny256.out] at ho; have n0_ := Aside0.mk (blk_grown (g := gb248) (o := .cells #[.int .i64 a1_0, .int .i64 a1_1, .string a1_2, .int .i64 a1_3, .bool a1_4, .bool a1_5, .bool a1_6] 43 (0, 0)) (by (with_reducible repeat (first | refine blk_drewN ?_ _ | refine blk_drew ?_ | refine blk_alloc ?_ _)); refine blk_far ?_ NB248_255.out _; (with_reducible repeat (first | refine blk_drewN ?_ _ | refine blk_drew ?_ | refine blk_alloc ?_ _)); refine blk_far ?_ NB248_255.out _; (with_reducible repeat (first | refine blk_drewN ?_ _ | refine blk_drew ?_ | refine blk_alloc ?_ _)); refine blk_far ?_ NB248_255.out _; (with_reducible repeat (first | refine blk_drewN ?_ _ | refine blk_drew ?_ | refine blk_alloc ?_ _)); refine blk_far ?_ NB248_255.out _; (with_reducible repeat (first | refine blk_drewN ?_ _ | refine blk_drew ?_ | refine blk_alloc ?_ _)); refine blk_far ?_ NB248_255.out _; (with_reducible repeat (first | refine blk_drewN ?_ _ | refine blk_drew ?_ | refine blk_alloc ?_ _)); refine blk_far ?_ NB248_255.out _; (with_reducible repeat (first | refine blk_drewN ?_ _ | refine blk_drew ?_ | refine blk_alloc ?_ _)); refine blk_far ?_ NB248_255.out _; (with_reducible repeat (first | refine blk_drewN ?_ _ | refine blk_drew ?_ | refine blk_alloc ?_ _)); exact BK248.out) hg (Kd.R_ne HO_5.out BK248.out (by decide))); have n1_ := Aside0.mk (blk_grown (g := gb249) (o := .cells #[.int .i64 x250000_1, .slice none 0 0] 45 (0, 0)) (by (with_reducible repeat (first | refine blk_drewN ?_ _ | refine blk_drew ?_ | refine blk_alloc ?_ _)); refine blk_far ?_ NB249_255.out _; (with_reducible repeat (first | refine blk_drewN ?_ _ | refine blk_drew ?_ | refine blk_alloc ?_ _)); refine blk_far ?_ NB249_255.out _; (with_reducible repeat (first | refine blk_drewN ?_ _ | refine blk_drew ?_ | refine blk_alloc ?_ _)); refine blk_far ?_ NB249_255.out _; (with_reducible repeat (first | refine blk_drewN ?_ _ | refine blk_drew ?_ | refine blk_alloc ?_ _)); refine blk_far ?_ NB249_255.out _; (with_reducible repeat (first | refine blk_drewN ?_ _ | refine blk_drew ?_ | refine blk_alloc ?_ _)); refine blk_far ?_ NB249_255.out _; (with_reducible repeat (first | refine blk_drewN ?_ _ | refine blk_drew ?_ | refine blk_alloc ?_ _)); refine blk_far ?_ NB249_255.out _; (with_reducible repeat (first | refine blk_drewN ?_ _ | refine blk_drew ?_ | refine blk_alloc ?_ _)); refine blk_far ?_ NB249_255.out _; (with_reducible repeat (first | refine blk_drewN ?_ _ | refine blk_drew ?_ | refine blk_alloc ?_ _)); exact BK249.out) hg (Kd.R_ne HO_5.out BK249.out (by decide))); have n2_ := Aside0.mk (blk_grown (g := gb255) (o := .cells #[.string ((rd_T94 l0 t253).f0), .int .i64 ((rd_T94 l0 t253).f1), .int .i64 ((rd_T94 l0 t253).f2), .int .i64 ((rd_T94 l0 t253).f3), .int .i64 ((rd_T94 l0 t253).f4), .int .i64 ((rd_T94 l0 t253).f5), .string ((rd_T94 l0 t253).f6)] 94 (0, 0)) (by (with_reducible repeat (first | refine blk_drewN ?_ _ | refine blk_drew ?_ | refine blk_alloc ?_ _)); refine blk_put (cs := #[.string ((rd_T94 l0 t253).f0), .int .i64 ((rd_T94 l0 t253).f1), .int .i64 ((rd_T94 l0 t253).f2), .int .i64 ((rd_T94 l0 t253).f3), .int .i64 ((rd_T94 l0 t253).f4), .int .i64 ((rd_T94 l0 t253).f5), .string (⟨#[]⟩ : ByteArray)]) ?_ 6 _ rfl; (with_reducible repeat (first | refine blk_drewN ?_ _ | refine blk_drew ?_ | refine blk_alloc ?_ _)); refine blk_put (cs := #[.string ((rd_T94 l0 t253).f0), .int .i64 ((rd_T94 l0 t253).f1), .int .i64 ((rd_T94 l0 t253).f2), .int .i64 ((rd_T94 l0 t253).f3), .int .i64 ((rd_T94 l0 t253).f4), .int .i64 0, .string (⟨#[]⟩ : ByteArray)]) ?_ 5 _ rfl; (with_reducible repeat (first | refine blk_drewN ?_ _ | refine blk_drew ?_ | refine blk_alloc ?_ _)); refine blk_put (cs := #[.string ((rd_T94 l0 t253).f0), .int .i64 ((rd_T94 l0 t253).f1), .int .i64 ((rd_T94 l0 t253).f2), .int .i64 ((rd_T94 l0 t253).f3), .int .i64 0, .int .i64 0, .string (⟨#[]⟩ : ByteArray)]) ?_ 4 _ rfl; (with_reducible repeat (first | refine blk_drewN ?_ _ | refine blk_drew ?_ | refine blk_alloc ?_ _)); refine blk_put (cs := #[.string ((rd_T94 l0 t253).f0), .int .i64 ((rd_T94 l0 t253).f1), .int .i64 ((rd_T94 l0 t253).f2), .int .i64 0, .int .i64 0, .int .i64 0, .string (⟨#[]⟩ : ByteArray)]) ?_ 3 _ rfl; (with_reducible repeat (first | refine blk_drewN ?_ _ | refine blk_drew ?_ | refine blk_alloc ?_ _)); refine blk_put (cs := #[.string ((rd_T94 l0 t253).f0), .int .i64 ((rd_T94 l0 t253).f1), .int .i64 0, .int .i64 0, .int .i64 0, .int .i64 0, .string (⟨#[]⟩ : ByteArray)]) ?_ 2 _ rfl; (with_reducible repeat (first | refine blk_drewN ?_ _ | refine blk_drew ?_ | refine blk_alloc ?_ _)); refine blk_put (cs := #[.string ((rd_T94 l0 t253).f0), .int .i64 0, .int .i64 0, .int .i64 0, .int .i64 0, .int .i64 0, .string (⟨#[]⟩ : ByteArray)]) ?_ 1 _ rfl; (with_reducible repeat (first | refine blk_drewN ?_ _ | refine blk_drew ?_ | refine blk_alloc ?_ _)); refine blk_put (cs := #[.string (⟨#[]⟩ : ByteArray), .int .i64 0, .int .i64 0, .int .i64 0, .int .i64 0, .int .i64 0, .string (⟨#[]⟩ : ByteArray)]) ?_ 0 _ rfl; (with_reducible repeat (first | refine blk_drewN ?_ _ | refine blk_drew ?_ | refine blk_alloc ?_ _)); exact BK255.out) hg (Kd.R_ne HO_5.out BK255.out (by decide))); have n3_ := Aside0.mk (hb); have n4_ := Aside0.mk (ho); clear BK248 BK249 BK255 HB HO_5; revert n0_ n1_ n2_ n3_ n4_; intro BK248 BK249 BK255 HB HO258; clear ho hb hg hat; have hcz31_0 := bk BK255 0; have hcz31_1 := bk BK255 1; have hcz31_2 := bk BK255 2; have hcz31_3 := bk BK255 3; have hcz31_4 := bk BK255 4; have hcz31_5 := bk BK255 5; have hcz31_6 := bk BK255 6; have hfz31_0 := blk_frozen BK255.out 0; have hfz31_1 := blk_frozen BK255.out 1; have hfz31_2 := blk_frozen BK255.out 2; have hfz31_3 := blk_frozen BK255.out 3; have hfz31_4 := blk_frozen BK255.out 4; have hfz31_5 := blk_frozen BK255.out 5; have hfz31_6 := blk_frozen BK255.out 6; obtain ⟨Ao32, co32, eo32⟩ := Kd.R_slice HO258.out; subst eo32; have hcz33_0 := bk BK249 0; have hcz33_1 := bk BK249 1; have hfz33_0 := blk_frozen BK249.out 0; have hfz33_1 := blk_frozen BK249.out 1))
           refine bodyPost_ret (results_cell_row rfl _ _ gb249 45 #[.int .i64 ((rd_T94 l0 t253).f5), .slice Ao32 y256.length co32] (0, 0) _ rfl (by (with_reducible repeat (first | refine blk_drewN ?_ _ | refine blk_drew ?_ | refine blk_alloc ?_ _)); refine blk_put (cs := #[.int .i64 ((rd_T94 l0 t253).f5), .slice none 0 0]) ?_ 1 _ rfl; (with_reducible repeat (first | refine blk_drewN ?_ _ | refine blk_drew ?_ | refine blk_alloc ?_ _)); refine blk_put (cs := #[.int .i64 x250000_1, .slice none 0 0]) ?_ 0 _ rfl; (with_reducible repeat (first | refine blk_drewN ?_ _ | refine blk_drew ?_ | refine blk_alloc ?_ _)); exact BK249.out) Try.underlying45 rfl (by kernel_rfl)) rfl ?_
           exact ⟨_, by first | rfl | (simp [errW_none, errW_some] <;> rfl) | (simp [*, errW_none, errW_some] <;> rfl), by (with_reducible repeat (first | apply Kd.R_alloc | apply Kd.R_drewN | apply Kd.R_drew)); exact Kd.R_mono (Kd.R_far (p := ⟨gb249, 1, none⟩) (Kd.R_far (p := ⟨gb249, 0, none⟩) (Kd.R_types HO258.out BK249.out (by decide)) (fun _ hk => hk.2) (.int .i64 ((rd_T94 l0 t253).f5))) (fun _ hk => hk.2) (.slice Ao32 y256.length co32)) (fun _ hk => trivial), bb_⟩
       · rw [if_neg c10] at H
         exact absurd H (by simp)
     · rw [if_neg c9] at H
       exact absurd H (by simp)
   · rw [if_neg c8] at H
     exact absurd H (by simp)

-- NOT PRINTED: function 74 (impl_Agreement_1)

end Go.Proofs.Ytmfbkbbgokjhnaa.F
