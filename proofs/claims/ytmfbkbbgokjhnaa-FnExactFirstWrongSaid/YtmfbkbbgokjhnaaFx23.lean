-- Written by this session's program (wip/bin/hp.py) over the kit's print: a function's Lean form, and a proof that the call does what it says.
import Derived.Test.YtmfbkbbgokjhnaaFx0
import Derived.Test.YtmfbkbbgokjhnaaSq
import Derived.Test.YtmfbkbbgokjhnaaFx15
namespace Go.Proofs.Ytmfbkbbgokjhnaa.F
open Go.RowKit Go.Proofs.YtmfbkbbgokjhnaaW.PrintWords Go.Proofs.YtmfbkbbgokjhnaaW.PrintLast Go.Proofs.YtmfbkbbgokjhnaaW.PrintMore
attribute [local go_sem] max2_int min2_int max_two min_two max_three min_three max_four min_four   -- for this text's walks alone
set_option linter.unusedVariables false
set_option linter.unusedSimpArgs false

/-! ### impl_met: function 133 -/
def impl_met.f (a0 : Int) (a1 : Bool) : Option (Bool) := if a0 = 0 then (some true) else (some ((a0 == 1) == a1))
set_option maxHeartbeats 8000000 in
set_option maxRecDepth 100000 in
theorem impl_met.calls (a0 : Int) (a1 : Bool) (r : Bool) (w : World) (h : impl_met.f a0 a1 = some r) :
 Calls Try.prog 133 #[.int .i64 a0, .bool a1] w fun e w' => e = .returned (.bool r) ∧ Drawn0 w w' := by
 have H : (if a0 = 0 then (some true) else (some ((a0 == 1) == a1))) = some r := h
 clear h
 by_cases c3 : a0 = 0
 rw [if_pos c3] at H
 have c3b0 : (a0 == 0) = true := beq_iff_eq.mpr c3
 have c3b1 : (a0 != 0) = false := bne_eq_false_iff_eq.mpr c3
 clear c3
 obtain rfl := Option.some.inj H
 rotate_left
 rw [if_neg c3] at H
 have c3b0 : (a0 == 0) = false := beq_eq_false_iff_ne.mpr c3
 have c3b1 : (a0 != 0) = true := bne_iff_ne.mpr c3
 obtain rfl := Option.some.inj H
 rotate_left
 all_goals
  go_enter Try.func133, Try.ntmps133
  go_wp2
  go_ret
  exact ⟨by first | rfl | (simp; done) | (simp [*]; done), by repeat (first | exact Drawn0.refl _ | apply Drawn0.step)⟩

/-! ### impl_Clause_matches: function 126 -/
def impl_Clause_matches.f (a0_0 : ByteArray) (a0_1 : Int) (a0_2 : Int) (a0_3 : Int) (a0_4 : Int) (a0_5 : Int) (a0_6 : ByteArray) (a1_0 : Int) (a1_1 : Int) (a1_2 : ByteArray) (a1_3 : Int) (a1_4 : Bool) (a1_5 : Bool) (a1_6 : Bool) : Option (Bool) := if a0_1 = (-1) then ((impl_met.f a0_2 a1_4).bind fun t243 => (if t243 = true then ((impl_met.f a0_3 a1_5).bind fun t244 => (if t244 = true then ((impl_met.f a0_4 a1_6).bind fun t245 => (some t245)) else (some false))) else (some false))) else (if a0_1 = a1_1 then ((impl_met.f a0_2 a1_4).bind fun t246 => (if t246 = true then ((impl_met.f a0_3 a1_5).bind fun t247 => (if t247 = true then ((impl_met.f a0_4 a1_6).bind fun t248 => (some t248)) else (some false))) else (some false))) else (some false))
set_option maxHeartbeats 8000000 in
set_option maxRecDepth 100000 in
theorem impl_Clause_matches.calls (a0_0 : ByteArray) (a0_1 : Int) (a0_2 : Int) (a0_3 : Int) (a0_4 : Int) (a0_5 : Int) (a0_6 : ByteArray) (a1_0 : Int) (a1_1 : Int) (a1_2 : ByteArray) (a1_3 : Int) (a1_4 : Bool) (a1_5 : Bool) (a1_6 : Bool) (r : Bool) (w : World) (h : impl_Clause_matches.f a0_0 a0_1 a0_2 a0_3 a0_4 a0_5 a0_6 a1_0 a1_1 a1_2 a1_3 a1_4 a1_5 a1_6 = some r) :
 Calls Try.prog 126 #[.agg #[.string a0_0, .int .i64 a0_1, .int .i64 a0_2, .int .i64 a0_3, .int .i64 a0_4, .int .i64 a0_5, .string a0_6], .agg #[.int .i64 a1_0, .int .i64 a1_1, .string a1_2, .int .i64 a1_3, .bool a1_4, .bool a1_5, .bool a1_6]] w fun e w' => e = .returned (.bool r) ∧ Below w.heap.size w w' := by
 have hu94 := Try.underlying94
 have hu43 := Try.underlying43
 have HB := Aside0.mk (Below.refl w.heap.size w)
 have H : (if a0_1 = (-1) then ((impl_met.f a0_2 a1_4).bind fun t243 => (if t243 = true then ((impl_met.f a0_3 a1_5).bind fun t244 => (if t244 = true then ((impl_met.f a0_4 a1_6).bind fun t245 => (some t245)) else (some false))) else (some false))) else (if a0_1 = a1_1 then ((impl_met.f a0_2 a1_4).bind fun t246 => (if t246 = true then ((impl_met.f a0_3 a1_5).bind fun t247 => (if t247 = true then ((impl_met.f a0_4 a1_6).bind fun t248 => (some t248)) else (some false))) else (some false))) else (some false))) = some r := h
 clear h
 by_cases c3 : a0_1 = (-1)
 rw [if_pos c3] at H
 have c3b0 : (a0_1 == (-1)) = true := beq_iff_eq.mpr c3
 have c3b1 : (a0_1 != (-1)) = false := bne_eq_false_iff_eq.mpr c3
 clear c3
 replace H := Option.bind_eq_some_iff.mp H
 obtain ⟨t243, A40, H⟩ := H
 replace H : (if t243 = true then ((impl_met.f a0_3 a1_5).bind fun t244 => (if t244 = true then ((impl_met.f a0_4 a1_6).bind fun t245 => (some t245)) else (some false))) else (some false)) = some r := H
 have A4 := Aside0.mk A40
 clear A40
 by_cases c5 : t243 = true
 subst c5
 have H1 : ((impl_met.f a0_3 a1_5).bind fun t244 => (if t244 = true then ((impl_met.f a0_4 a1_6).bind fun t245 => (some t245)) else (some false))) = some r := by rw [if_pos rfl] at H; exact H
 clear H
 have H := H1
 clear H1
 replace H := Option.bind_eq_some_iff.mp H
 obtain ⟨t244, A60, H⟩ := H
 replace H : (if t244 = true then ((impl_met.f a0_4 a1_6).bind fun t245 => (some t245)) else (some false)) = some r := H
 have A6 := Aside0.mk A60
 clear A60
 by_cases c7 : t244 = true
 subst c7
 have H1 : ((impl_met.f a0_4 a1_6).bind fun t245 => (some t245)) = some r := by rw [if_pos rfl] at H; exact H
 clear H
 have H := H1
 clear H1
 replace H := Option.bind_eq_some_iff.mp H
 obtain ⟨t245, A80, H⟩ := H
 replace H : (some t245) = some r := H
 have A8 := Aside0.mk A80
 clear A80
 obtain rfl := Option.some.inj H
 rotate_left
 replace c7 := Bool.eq_false_iff.mpr c7
 subst c7
 have H1 : (some false) = some r := by rw [if_neg (show ¬ (false = true) by decide)] at H; exact H
 clear H
 have H := H1
 clear H1
 obtain rfl := Option.some.inj H
 rotate_left
 replace c5 := Bool.eq_false_iff.mpr c5
 subst c5
 have H1 : (some false) = some r := by rw [if_neg (show ¬ (false = true) by decide)] at H; exact H
 clear H
 have H := H1
 clear H1
 obtain rfl := Option.some.inj H
 rotate_left
 rw [if_neg c3] at H
 have c3b0 : (a0_1 == (-1)) = false := beq_eq_false_iff_ne.mpr c3
 have c3b1 : (a0_1 != (-1)) = true := bne_iff_ne.mpr c3
 by_cases c24 : a0_1 = a1_1
 rw [if_pos c24] at H
 have c24b0 : (a0_1 == a1_1) = true := beq_iff_eq.mpr c24
 have c24b1 : (a0_1 != a1_1) = false := bne_eq_false_iff_eq.mpr c24
 clear c24
 replace H := Option.bind_eq_some_iff.mp H
 obtain ⟨t246, A250, H⟩ := H
 replace H : (if t246 = true then ((impl_met.f a0_3 a1_5).bind fun t247 => (if t247 = true then ((impl_met.f a0_4 a1_6).bind fun t248 => (some t248)) else (some false))) else (some false)) = some r := H
 have A25 := Aside0.mk A250
 clear A250
 by_cases c26 : t246 = true
 subst c26
 have H1 : ((impl_met.f a0_3 a1_5).bind fun t247 => (if t247 = true then ((impl_met.f a0_4 a1_6).bind fun t248 => (some t248)) else (some false))) = some r := by rw [if_pos rfl] at H; exact H
 clear H
 have H := H1
 clear H1
 replace H := Option.bind_eq_some_iff.mp H
 obtain ⟨t247, A270, H⟩ := H
 replace H : (if t247 = true then ((impl_met.f a0_4 a1_6).bind fun t248 => (some t248)) else (some false)) = some r := H
 have A27 := Aside0.mk A270
 clear A270
 by_cases c28 : t247 = true
 subst c28
 have H1 : ((impl_met.f a0_4 a1_6).bind fun t248 => (some t248)) = some r := by rw [if_pos rfl] at H; exact H
 clear H
 have H := H1
 clear H1
 replace H := Option.bind_eq_some_iff.mp H
 obtain ⟨t248, A290, H⟩ := H
 replace H : (some t248) = some r := H
 have A29 := Aside0.mk A290
 clear A290
 obtain rfl := Option.some.inj H
 rotate_left
 replace c28 := Bool.eq_false_iff.mpr c28
 subst c28
 have H1 : (some false) = some r := by rw [if_neg (show ¬ (false = true) by decide)] at H; exact H
 clear H
 have H := H1
 clear H1
 obtain rfl := Option.some.inj H
 rotate_left
 replace c26 := Bool.eq_false_iff.mpr c26
 subst c26
 have H1 : (some false) = some r := by rw [if_neg (show ¬ (false = true) by decide)] at H; exact H
 clear H
 have H := H1
 clear H1
 obtain rfl := Option.some.inj H
 rotate_left
 rw [if_neg c24] at H
 have c24b0 : (a0_1 == a1_1) = false := beq_eq_false_iff_ne.mpr c24
 have c24b1 : (a0_1 != a1_1) = true := bne_iff_ne.mpr c24
 obtain rfl := Option.some.inj H
 rotate_left
 all_goals
  go_enter Try.func126, Try.ntmps126
  go_wp2_with (first | ((with_reducible refine gate_dst (N := 2) rfl ?_); refine bx_ 2 #[.string a0_0, .int .i64 a0_1, .int .i64 a0_2, .int .i64 a0_3, .int .i64 a0_4, .int .i64 a0_5, .string a0_6] 94 ?_; intro gb241 hg w9 hbox hb; have n0_ := Aside0.mk (bs_ hb); have n1_ := Aside0.mk (hbox); have n2_ := Aside0.mk ((by rw [hg]; exact (bz_) : w.heap.size ≤ gb241)); have n3_ := Aside0.mk ((by rw [hg]; exact (bz_) : w.heap.size ≤ gb241)); clear HB; revert n0_ n1_ n2_ n3_; intro HB BK241 GW241 GE241; clear hb hbox hg) | ((with_reducible refine gate_dst (N := 3) rfl ?_); refine bx_ 3 #[.int .i64 a1_0, .int .i64 a1_1, .string a1_2, .int .i64 a1_3, .bool a1_4, .bool a1_5, .bool a1_6] 43 ?_; intro gb242 hg w10 hbox hb; have n0_ := Aside0.mk (bkb BK241 hb); have n1_ := Aside0.mk (bs_ hb); have n2_ := Aside0.mk (hbox); have n3_ := Aside0.mk ((by rw [hg]; exact (bz_) : w.heap.size ≤ gb242)); have n4_ := Aside0.mk ((by rw [hg]; exact (bz_) : w.heap.size ≤ gb242)); have n5_ := Aside0.mk ((by rw [hg]; exact Nat.ne_of_lt (blk_lt (g := gb241) (o := .cells #[.string a0_0, .int .i64 a0_1, .int .i64 a0_2, .int .i64 a0_3, .int .i64 a0_4, .int .i64 a0_5, .string a0_6] 94 (0, 0)) (by (with_reducible repeat (first | refine blk_drewN ?_ _ | refine blk_drew ?_ | refine blk_alloc ?_ _)); exact BK241.out)) : gb241 ≠ gb242)); have n6_ := Aside0.mk ((by rw [hg]; exact Nat.ne_of_gt (blk_lt (g := gb241) (o := .cells #[.string a0_0, .int .i64 a0_1, .int .i64 a0_2, .int .i64 a0_3, .int .i64 a0_4, .int .i64 a0_5, .string a0_6] 94 (0, 0)) (by (with_reducible repeat (first | refine blk_drewN ?_ _ | refine blk_drew ?_ | refine blk_alloc ?_ _)); exact BK241.out)) : gb242 ≠ gb241)); clear BK241 HB; revert n0_ n1_ n2_ n3_ n4_ n5_ n6_; intro BK241 HB BK242 GW242 GE242 NB241_242 NB242_241; clear hb hbox hg; have hnb11 := NB241_242.out; have hnc11 := NB242_241.out; have hcz12_0 := bk BK241 0; have hcz12_1 := bk BK241 1; have hcz12_2 := bk BK241 2; have hcz12_3 := bk BK241 3; have hcz12_4 := bk BK241 4; have hcz12_5 := bk BK241 5; have hcz12_6 := bk BK241 6; have hfz12_0 := blk_frozen BK241.out 0; have hfz12_1 := blk_frozen BK241.out 1; have hfz12_2 := blk_frozen BK241.out 2; have hfz12_3 := blk_frozen BK241.out 3; have hfz12_4 := blk_frozen BK241.out 4; have hfz12_5 := blk_frozen BK241.out 5; have hfz12_6 := blk_frozen BK241.out 6; have hcz13_0 := bk BK242 0; have hcz13_1 := bk BK242 1; have hcz13_2 := bk BK242 2; have hcz13_3 := bk BK242 3; have hcz13_4 := bk BK242 4; have hcz13_5 := bk BK242 5; have hcz13_6 := bk BK242 6; have hfz13_0 := blk_frozen BK242.out 0; have hfz13_1 := blk_frozen BK242.out 1; have hfz13_2 := blk_frozen BK242.out 2; have hfz13_3 := blk_frozen BK242.out 3; have hfz13_4 := blk_frozen BK242.out 4; have hfz13_5 := blk_frozen BK242.out 5; have hfz13_6 := blk_frozen BK242.out 6) | (go_at_call 133; (with_reducible refine (impl_met.calls a0_2 a1_4 _ _ A4.out).mono ?_); rintro e w' ⟨rfl, ⟨nd, rfl⟩⟩) | (go_at_call 133; (with_reducible refine (impl_met.calls a0_3 a1_5 _ _ A6.out).mono ?_); rintro e w' ⟨rfl, ⟨nd, rfl⟩⟩) | (go_at_call 133; (with_reducible refine (impl_met.calls a0_4 a1_6 t245 _ A8.out).mono ?_); rintro e w' ⟨rfl, ⟨nd, rfl⟩⟩) | (go_at_call 133; (with_reducible refine (impl_met.calls a0_2 a1_4 _ _ A25.out).mono ?_); rintro e w' ⟨rfl, ⟨nd, rfl⟩⟩) | (go_at_call 133; (with_reducible refine (impl_met.calls a0_3 a1_5 _ _ A27.out).mono ?_); rintro e w' ⟨rfl, ⟨nd, rfl⟩⟩) | (go_at_call 133; (with_reducible refine (impl_met.calls a0_4 a1_6 t248 _ A29.out).mono ?_); rintro e w' ⟨rfl, ⟨nd, rfl⟩⟩))
  go_ret
  exact ⟨by first | rfl | (simp [errW_none, errW_some] <;> rfl) | (simp [*, errW_none, errW_some] <;> rfl), bb_⟩

-- NOT PRINTED: function 125 (impl_firstMatch_1)

/-! ### impl_firstMatch: function 105 -/
def needM (need : Int) (is : Bool) : Bool := need == 0 || (need == 1) == is
def matchB (e : S43) (c : S94) : Bool := (c.f1 == -1 || c.f1 == e.f1) && needM c.f2 e.f4 && needM c.f3 e.f5 && needM c.f4 e.f6
theorem matchB_f (e : S43) (c : S94) : impl_Clause_matches.f c.f0 c.f1 c.f2 c.f3 c.f4 c.f5 c.f6 e.f0 e.f1 e.f2 e.f3 e.f4 e.f5 e.f6 = some (matchB e c) := by
 have hm : ∀ n b, impl_met.f n b = some (needM n b) := fun n b => by
  unfold impl_met.f needM
  by_cases h : n = 0 <;> simp [h]
 unfold impl_Clause_matches.f matchB
 simp only [hm, Option.bind_some]
 by_cases h1 : c.f1 = -1
 · simp only [h1, if_true, beq_self_eq_true, Bool.true_or, Bool.true_and]
   cases needM c.f2 e.f4 <;> cases needM c.f3 e.f5 <;> simp
 · have h1' : (c.f1 == -1) = false := by simpa using h1
   rw [if_neg h1, h1', Bool.false_or]
   by_cases h2 : c.f1 = e.f1
   · simp only [h2, if_true, beq_self_eq_true, Bool.true_and]
     cases needM c.f2 e.f4 <;> cases needM c.f3 e.f5 <;> simp
   · have h2' : (c.f1 == e.f1) = false := by simpa using h2
     rw [if_neg h2, h2']; simp
theorem firstMatch_1.calls (B : Nat) (e : S43) (x : S94) (w : World) (hB : B < w.heap.size) (h0 : w.cell? ⟨B, 0, none⟩ = some (.int .i64 e.f0)) (h1 : w.cell? ⟨B, 1, none⟩ = some (.int .i64 e.f1)) (h2 : w.cell? ⟨B, 2, none⟩ = some (.string e.f2)) (h3 : w.cell? ⟨B, 3, none⟩ = some (.int .i64 e.f3)) (h4 : w.cell? ⟨B, 4, none⟩ = some (.bool e.f4)) (h5 : w.cell? ⟨B, 5, none⟩ = some (.bool e.f5)) (h6 : w.cell? ⟨B, 6, none⟩ = some (.bool e.f6)) :
 Calls Try.prog 125 #[val_T94 x, .pointer (some ⟨B, 0, none⟩)] w fun e' w' => e' = .returned (.bool (matchB e x)) ∧ Below w.heap.size w w' := by
 have hu := Try.underlying94
 have hu2 := Try.underlying43
 have HM := Aside0.mk (matchB_f e x)
 unfold val_T94
 generalize matchB e x = b at HM ⊢
 go_enter Try.func125, Try.ntmps125
 go_wp2_with (go_at_call 126; refine (impl_Clause_matches.calls x.f0 x.f1 x.f2 x.f3 x.f4 x.f5 x.f6 e.f0 e.f1 e.f2 e.f3 e.f4 e.f5 e.f6 b _ HM.out).mono ?_; rintro e' w' ⟨rfl, hb⟩)
 go_ret
 exact ⟨rfl, below_then (below_alloc (Below.refl _ _) _) (below_alloc (Below.refl _ _) _).size hb⟩
def impl_firstMatch.f (l0 : List S94) (a1 : Int) (a2_0 : Int) (a2_1 : Int) (a2_2 : ByteArray) (a2_3 : Int) (a2_4 : Bool) (a2_5 : Bool) (a2_6 : Bool) : Option Int :=
 if 0 ≤ a1 ∧ a1 < l0.length then some (a1 + idxP (matchB ⟨a2_0, a2_1, a2_2, a2_3, a2_4, a2_5, a2_6⟩) (l0.drop a1.toNat)) else none
set_option maxHeartbeats 400000 in
set_option maxRecDepth 100000 in
theorem impl_firstMatch.calls (A0 : Option Addr) (c0 : Nat) (l0 : List S94) (a1 : Int) (a2_0 : Int) (a2_1 : Int) (a2_2 : ByteArray) (a2_3 : Int) (a2_4 : Bool) (a2_5 : Bool) (a2_6 : Bool) (r : Int) (w : World) (hr0 : Kd.C k94 w A0 l0.length l0) (hc0 : l0.length ≤ c0) (h : impl_firstMatch.f l0 a1 a2_0 a2_1 a2_2 a2_3 a2_4 a2_5 a2_6 = some r) :
 Calls Try.prog 105 #[.slice A0 l0.length c0, .int .i64 a1, .agg #[.int .i64 a2_0, .int .i64 a2_1, .string a2_2, .int .i64 a2_3, .bool a2_4, .bool a2_5, .bool a2_6]] w fun e w' => e = .returned (.int .i64 r) ∧ Below w.heap.size w w' := by
 have hu := Try.underlying94
 have hu2 := Try.underlying43
 have hbig : l0.length ≤ 9223372036854775807 := hr0.2.1
 unfold impl_firstMatch.f at h
 by_cases hm : 0 ≤ a1 ∧ a1 < l0.length
 · rw [if_pos hm] at h
   obtain rfl := Option.some.inj h
   clear h
   obtain ⟨hm0, hm1⟩ := hm
   obtain ⟨m, rfl⟩ := Int.eq_ofNat_of_zero_le hm0
   have hm1' : m < l0.length := by omega
   obtain ⟨ad, e_ad, -⟩ := hr0.2.2 (by omega)
   subst e_ad
   rw [Int.toNat_natCast]
   have hb0 : Below w.heap.size w (w.alloc (.cells #[.int .i64 a2_0, .int .i64 a2_1, .string a2_2, .int .i64 a2_3, .bool a2_4, .bool a2_5, .bool a2_6] 43)) := below_alloc (Below.refl _ _) _
   have e1 : ∀ args w, (callFunc 125 args).run Try.prog w = .ok (.enter 125 args) w := enters_of Try.func125 (by kernel_rfl) rfl
   have hr1 : Kd.C k94 (w.alloc (.cells #[.int .i64 a2_0, .int .i64 a2_1, .string a2_2, .int .i64 a2_3, .bool a2_4, .bool a2_5, .bool a2_6] 43)) (some (ad.add (m * 7))) (l0.drop m).length (l0.drop m) := Kd.C_below (C_dropK hr0 m hm1') hb0
   have HA := Aside0.mk (IndexFunc_T94.calls 125 #[.pointer (some ⟨w.heap.size, 0, none⟩)] (matchB ⟨a2_0, a2_1, a2_2, a2_3, a2_4, a2_5, a2_6⟩) (some (ad.add (m * 7))) (c0 - m) (l0.drop m) _ hr1 (by rw [List.length_drop]; omega) e1 (fun W x hx hW => by
    have hsz : w.heap.size < W.heap.size := by have := hW.size; simp at this; omega
    have hcell : ∀ i v, (w.alloc (.cells #[.int .i64 a2_0, .int .i64 a2_1, .string a2_2, .int .i64 a2_3, .bool a2_4, .bool a2_5, .bool a2_6] 43)).cell? ⟨w.heap.size, i, none⟩ = some v → W.cell? ⟨w.heap.size, i, none⟩ = some v := fun i v h => (hW.cell (p := ⟨w.heap.size, i, none⟩) (by simp)).trans h
    exact firstMatch_1.calls w.heap.size ⟨a2_0, a2_1, a2_2, a2_3, a2_4, a2_5, a2_6⟩ x W hsz (hcell 0 _ (by simp)) (hcell 1 _ (by simp)) (hcell 2 _ (by simp)) (hcell 3 _ (by simp)) (hcell 4 _ (by simp)) (hcell 5 _ (by simp)) (hcell 6 _ (by simp))))
   have hq : -1 ≤ idxP (matchB ⟨a2_0, a2_1, a2_2, a2_3, a2_4, a2_5, a2_6⟩) (l0.drop m) ∧ idxP (matchB ⟨a2_0, a2_1, a2_2, a2_3, a2_4, a2_5, a2_6⟩) (l0.drop m) < (l0.length : Int) - m := by
    have := idxP_range (matchB ⟨a2_0, a2_1, a2_2, a2_3, a2_4, a2_5, a2_6⟩) (l0.drop m)
    rw [List.length_drop] at this
    omega
   rw [List.length_drop] at HA
   have HB := Aside0.mk hb0
   have hcap : m ≠ c0 := by omega
   have hcap2 : m ≤ c0 := by omega
   clear hr0 hr1 hb0 hm0 e1
   generalize idxP (matchB ⟨a2_0, a2_1, a2_2, a2_3, a2_4, a2_5, a2_6⟩) (l0.drop m) = q at HA hq
   obtain ⟨hq0, hq1⟩ := hq
   go_enter Try.func105, Try.ntmps105
   go_wp2_with (go_at_call 123; refine HA.out.mono ?_; rintro e w' ⟨rfl, hb⟩)
   go_ret
   exact ⟨rfl, below_then HB.out HB.out.size hb⟩
 · rw [if_neg hm] at h; cases h

end Go.Proofs.Ytmfbkbbgokjhnaa.F
