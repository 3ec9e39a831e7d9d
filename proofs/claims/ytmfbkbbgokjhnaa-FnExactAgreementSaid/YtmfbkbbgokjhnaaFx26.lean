-- Written by this session's program (wip/bin/hp.py) over the kit's print: a function's Lean form, and a proof that the call does what it says.
import Derived.Test.YtmfbkbbgokjhnaaFx0
import Derived.Test.YtmfbkbbgokjhnaaSq
import Derived.Test.YtmfbkbbgokjhnaaFx3
import Derived.Test.YtmfbkbbgokjhnaaFx5
import Derived.Test.YtmfbkbbgokjhnaaFx16
import Derived.Test.YtmfbkbbgokjhnaaFx25
namespace Go.Proofs.Ytmfbkbbgokjhnaa.F
open Go.RowKit Go.Proofs.YtmfbkbbgokjhnaaW.PrintWords Go.Proofs.YtmfbkbbgokjhnaaW.PrintLast Go.Proofs.YtmfbkbbgokjhnaaW.PrintMore
attribute [local go_sem] max2_int min2_int max_two min_two max_three min_three max_four min_four   -- for this text's walks alone
set_option linter.unusedVariables false
set_option linter.unusedSimpArgs false

/-! ### laws_FnExactAgreement: function 7 -/
def laws_FnExactAgreement.j0 : Nat → List (S89) → List (S89) → List (S32) → List (S94) → List (S94) → List (S43) → Bool → Option (Bool)
 | 0, _, _, _, _, _, _, _ => none
 | k + 1, x0, x1, x2, x10, x11, x12, x60 => if x60 = true then (some false) else ((laws_toClauseS.f k x0).bind fun t285 => ((laws_eqClauseS.f k x10 t285).bind fun t288 => (if t288 = true then ((laws_toClauseS.f k x1).bind fun t289 => ((laws_eqClauseS.f k x11 t289).bind fun t292 => (if t292 = true then ((laws_toEventS.f k x2).bind fun t293 => ((laws_eqEventS.f k x12 t293).bind fun t296 => (if t296 = true then (some true) else (some false)))) else (some false)))) else (some false))))
def laws_FnExactAgreement.f (k : Nat) (l0 : List (S89)) (l1 : List (S89)) (l2 : List (S32)) : Option (Bool) := (laws_szClauseS.f k l0 1048576).bind fun t260 => (if t260 < 0 then (some true) else ((laws_szClauseS.f k l1 t260).bind fun t261 => (if t261 < 0 then (some true) else ((laws_szEventS.f k l2 t261).bind fun t262 => (if t262 < 0 then (some true) else ((laws_toClauseS.f k l0).bind fun t263 => ((laws_toClauseS.f k l1).bind fun t266 => ((laws_toEventS.f k l2).bind fun t269 => ((spec_Agreement.f k t263 t266 t269).bind fun bt272 => ((laws_toClauseS.f k l0).bind fun t274 => ((laws_toClauseS.f k l1).bind fun t277 => ((laws_toEventS.f k l2).bind fun t280 => ((impl_Agreement.f k t274 t277 t280).bind fun bt283 => (if bt283.1 = bt272.1 then (laws_FnExactAgreement.j0 k l0 l1 l2 t274 t277 t280 (bt283.2 != bt272.2)) else (laws_FnExactAgreement.j0 k l0 l1 l2 t274 t277 t280 true)))))))))))))))
theorem laws_FnExactAgreement.mono_l : ∀ k, (∀ y0 y1 y2 y3 y4 y5 y6, LeO (laws_FnExactAgreement.j0 k y0 y1 y2 y3 y4 y5 y6) (laws_FnExactAgreement.j0 (k + 1) y0 y1 y2 y3 y4 y5 y6))
 | 0 => fun _ _ _ _ _ _ _ r h => by simp [laws_FnExactAgreement.j0] at h
 | k + 1 => by
  have ih0 := laws_FnExactAgreement.mono_l k
  · intro y0 y1 y2 y3 y4 y5 y6
    unfold laws_FnExactAgreement.j0
    repeat' first
    | (with_reducible exact ih0 _ _ _ _ _ _ _)
    | (with_reducible exact impl_Agreement.mono _ _ _ _)
    | (with_reducible exact laws_eqClauseS.mono _ _ _)
    | (with_reducible exact laws_eqEventS.mono _ _ _)
    | (with_reducible exact laws_szClauseS.mono _ _ _)
    | (with_reducible exact laws_szEventS.mono _ _ _)
    | (with_reducible exact laws_toClauseS.mono _ _)
    | (with_reducible exact laws_toEventS.mono _ _)
    | (with_reducible exact spec_Agreement.mono _ _ _ _)
    | (with_reducible exact LeO.refl _)
    | (with_reducible exact LeO.none _)
    | (with_reducible refine LeO.ite ?_ ?_)
    | (with_reducible refine LeO.bind ?_ (fun _ => ?_))
    | exact ih0 _ _ _ _ _ _ _
    | exact impl_Agreement.mono _ _ _ _
    | exact laws_eqClauseS.mono _ _ _
    | exact laws_eqEventS.mono _ _ _
    | exact laws_szClauseS.mono _ _ _
    | exact laws_szEventS.mono _ _ _
    | exact laws_toClauseS.mono _ _
    | exact laws_toEventS.mono _ _
    | exact spec_Agreement.mono _ _ _ _
    | exact LeO.none _
    | refine LeO.ite ?_ ?_
    | refine LeO.bind ?_ (fun _ => ?_)
theorem laws_FnExactAgreement.mono : ∀ a0 a1 a2 k, LeO (laws_FnExactAgreement.f k a0 a1 a2) (laws_FnExactAgreement.f (k + 1) a0 a1 a2) := by
 intro a0 a1 a2 k
 have ih0 := laws_FnExactAgreement.mono_l k
 unfold laws_FnExactAgreement.f
 repeat' first
  | (with_reducible exact ih0 _ _ _ _ _ _ _)
  | (with_reducible exact impl_Agreement.mono _ _ _ _)
  | (with_reducible exact laws_eqClauseS.mono _ _ _)
  | (with_reducible exact laws_eqEventS.mono _ _ _)
  | (with_reducible exact laws_szClauseS.mono _ _ _)
  | (with_reducible exact laws_szEventS.mono _ _ _)
  | (with_reducible exact laws_toClauseS.mono _ _)
  | (with_reducible exact laws_toEventS.mono _ _)
  | (with_reducible exact spec_Agreement.mono _ _ _ _)
  | (with_reducible exact LeO.refl _)
  | (with_reducible exact LeO.none _)
  | (with_reducible refine LeO.ite ?_ ?_)
  | (with_reducible refine LeO.bind ?_ (fun _ => ?_))
  | exact ih0 _ _ _ _ _ _ _
  | exact impl_Agreement.mono _ _ _ _
  | exact laws_eqClauseS.mono _ _ _
  | exact laws_eqEventS.mono _ _ _
  | exact laws_szClauseS.mono _ _ _
  | exact laws_szEventS.mono _ _ _
  | exact laws_toClauseS.mono _ _
  | exact laws_toEventS.mono _ _
  | exact spec_Agreement.mono _ _ _ _
  | exact LeO.none _
  | refine LeO.ite ?_ ?_
  | refine LeO.bind ?_ (fun _ => ?_)
set_option maxHeartbeats 8000000 in
set_option maxRecDepth 100000 in
theorem laws_FnExactAgreement.calls (k : Nat) (A0 : Option Addr) (c0 : Nat) (l0 : List (S89)) (A1 : Option Addr) (c1 : Nat) (l1 : List (S89)) (A2 : Option Addr) (c2 : Nat) (l2 : List (S32)) (r : Bool) (hrt : Aside0 (r = true)) (w : World) (hr0 : Kd.C k89 w A0 l0.length l0) (hc0 : l0.length ≤ c0) (hr1 : Kd.C k89 w A1 l1.length l1) (hc1 : l1.length ≤ c1) (hr2 : Kd.C k32 w A2 l2.length l2) (hc2 : l2.length ≤ c2) (h : laws_FnExactAgreement.f k l0 l1 l2 = some r) :
 Calls Try.prog 7 #[.slice A0 l0.length c0, .slice A1 l1.length c1, .slice A2 l2.length c2] w fun e w' => e = .returned (.bool r) ∧ Below w.heap.size w w' := by
 have HR0 := Aside0.mk hr0
 have HC0 := Aside0.mk hc0
 clear hr0 hc0
 have HR1 := Aside0.mk hr1
 have HC1 := Aside0.mk hc1
 clear hr1 hc1
 have HR2 := Aside0.mk hr2
 have HC2 := Aside0.mk hc2
 clear hr2 hc2
 have HB := Aside0.mk (Below.refl w.heap.size w)
 have H : ((laws_szClauseS.f k l0 1048576).bind fun t260 => (if t260 < 0 then (some true) else ((laws_szClauseS.f k l1 t260).bind fun t261 => (if t261 < 0 then (some true) else ((laws_szEventS.f k l2 t261).bind fun t262 => (if t262 < 0 then (some true) else ((laws_toClauseS.f k l0).bind fun t263 => ((laws_toClauseS.f k l1).bind fun t266 => ((laws_toEventS.f k l2).bind fun t269 => ((spec_Agreement.f k t263 t266 t269).bind fun bt272 => ((laws_toClauseS.f k l0).bind fun t274 => ((laws_toClauseS.f k l1).bind fun t277 => ((laws_toEventS.f k l2).bind fun t280 => ((impl_Agreement.f k t274 t277 t280).bind fun bt283 => (if bt283.1 = bt272.1 then (laws_FnExactAgreement.j0 k l0 l1 l2 t274 t277 t280 (bt283.2 != bt272.2)) else (laws_FnExactAgreement.j0 k l0 l1 l2 t274 t277 t280 true)))))))))))))))) = some r := h
 clear h
 replace H := Option.bind_eq_some_iff.mp H
 obtain ⟨t260, A40, H⟩ := H
 replace H : (if t260 < 0 then (some true) else ((laws_szClauseS.f k l1 t260).bind fun t261 => (if t261 < 0 then (some true) else ((laws_szEventS.f k l2 t261).bind fun t262 => (if t262 < 0 then (some true) else ((laws_toClauseS.f k l0).bind fun t263 => ((laws_toClauseS.f k l1).bind fun t266 => ((laws_toEventS.f k l2).bind fun t269 => ((spec_Agreement.f k t263 t266 t269).bind fun bt272 => ((laws_toClauseS.f k l0).bind fun t274 => ((laws_toClauseS.f k l1).bind fun t277 => ((laws_toEventS.f k l2).bind fun t280 => ((impl_Agreement.f k t274 t277 t280).bind fun bt283 => (if bt283.1 = bt272.1 then (laws_FnExactAgreement.j0 k l0 l1 l2 t274 t277 t280 (bt283.2 != bt272.2)) else (laws_FnExactAgreement.j0 k l0 l1 l2 t274 t277 t280 true))))))))))))))) = some r := H
 have A4 := Aside0.mk A40
 clear A40
 by_cases c5 : t260 < 0
 · rw [if_pos c5] at H
   have c5b0 : decide (t260 < 0) = true := decide_eq_true c5
   clear c5
   obtain rfl := Option.some.inj H
   go_enter Try.func7, Try.ntmps7
   go_wp2_with (first | ((with_reducible refine gate_callee (f := 14) rfl ?_); refine gl_ 17 Try.func14 #[.slice A0 l0.length c0, .int .i64 1048576] ?_; (with_reducible refine (laws_szClauseS.calls k _ _ l0 1048576 t260 _ ?side1 ?side2 A4.out).mono ?_); (case side1 => repeat (first | exact HR0.out | (with_reducible refine Kd.C_alloc ?_ _) | (with_reducible refine Kd.C_drewN ?_ _) | (with_reducible refine Kd.C_drew ?_))); (case side2 => exact HC0.out); rintro e w6 ⟨rfl, hb⟩; refine ⟨_, rfl, ?_⟩; have n0_ := Aside0.mk (bs_ hb); clear HB; revert n0_; intro HB; (try clear hb); (try clear hb2); (try clear hk); (try clear hi)))
   go_ret
   exact ⟨by first | rfl | (simp [errW_none, errW_some] <;> rfl) | (simp [*, errW_none, errW_some] <;> rfl), bb_⟩
 · rw [if_neg c5] at H
   have c5b0 : decide (t260 < 0) = false := decide_eq_false c5
   clear c5
   replace H := Option.bind_eq_some_iff.mp H
   obtain ⟨t261, A70, H⟩ := H
   replace H : (if t261 < 0 then (some true) else ((laws_szEventS.f k l2 t261).bind fun t262 => (if t262 < 0 then (some true) else ((laws_toClauseS.f k l0).bind fun t263 => ((laws_toClauseS.f k l1).bind fun t266 => ((laws_toEventS.f k l2).bind fun t269 => ((spec_Agreement.f k t263 t266 t269).bind fun bt272 => ((laws_toClauseS.f k l0).bind fun t274 => ((laws_toClauseS.f k l1).bind fun t277 => ((laws_toEventS.f k l2).bind fun t280 => ((impl_Agreement.f k t274 t277 t280).bind fun bt283 => (if bt283.1 = bt272.1 then (laws_FnExactAgreement.j0 k l0 l1 l2 t274 t277 t280 (bt283.2 != bt272.2)) else (laws_FnExactAgreement.j0 k l0 l1 l2 t274 t277 t280 true))))))))))))) = some r := H
   have A7 := Aside0.mk A70
   clear A70
   by_cases c8 : t261 < 0
   · rw [if_pos c8] at H
     have c8b0 : decide (t261 < 0) = true := decide_eq_true c8
     clear c8
     obtain rfl := Option.some.inj H
     go_enter Try.func7, Try.ntmps7
     go_wp2_with (first | ((with_reducible refine gate_callee (f := 14) rfl ?_); refine gl_ 17 Try.func14 #[.slice A0 l0.length c0, .int .i64 1048576] ?_; (with_reducible refine (laws_szClauseS.calls k _ _ l0 1048576 t260 _ ?side1 ?side2 A4.out).mono ?_); (case side1 => repeat (first | exact HR0.out | (with_reducible refine Kd.C_alloc ?_ _) | (with_reducible refine Kd.C_drewN ?_ _) | (with_reducible refine Kd.C_drew ?_))); (case side2 => exact HC0.out); rintro e w9 ⟨rfl, hb⟩; refine ⟨_, rfl, ?_⟩; have n0_ := Aside0.mk (bs_ hb); clear HB; revert n0_; intro HB; (try clear hb); (try clear hb2); (try clear hk); (try clear hi)) | ((with_reducible refine gate_callee (f := 14) rfl ?_); refine gl_ 22 Try.func14 #[.slice A1 l1.length c1, .int .i64 t260] ?_; (with_reducible refine (laws_szClauseS.calls k _ _ l1 t260 t261 _ ?side1 ?side2 A7.out).mono ?_); (case side1 => repeat (first | exact (Kd.C_below HR1.out HB.out) | (with_reducible refine Kd.C_alloc ?_ _) | (with_reducible refine Kd.C_drewN ?_ _) | (with_reducible refine Kd.C_drew ?_))); (case side2 => exact HC1.out); rintro e w10 ⟨rfl, hb⟩; refine ⟨_, rfl, ?_⟩; have n0_ := Aside0.mk (bs_ hb); clear HB; revert n0_; intro HB; (try clear hb); (try clear hb2); (try clear hk); (try clear hi)))
     go_ret
     exact ⟨by first | rfl | (simp [errW_none, errW_some] <;> rfl) | (simp [*, errW_none, errW_some] <;> rfl), bb_⟩
   · rw [if_neg c8] at H
     have c8b0 : decide (t261 < 0) = false := decide_eq_false c8
     clear c8
     replace H := Option.bind_eq_some_iff.mp H
     obtain ⟨t262, A110, H⟩ := H
     replace H : (if t262 < 0 then (some true) else ((laws_toClauseS.f k l0).bind fun t263 => ((laws_toClauseS.f k l1).bind fun t266 => ((laws_toEventS.f k l2).bind fun t269 => ((spec_Agreement.f k t263 t266 t269).bind fun bt272 => ((laws_toClauseS.f k l0).bind fun t274 => ((laws_toClauseS.f k l1).bind fun t277 => ((laws_toEventS.f k l2).bind fun t280 => ((impl_Agreement.f k t274 t277 t280).bind fun bt283 => (if bt283.1 = bt272.1 then (laws_FnExactAgreement.j0 k l0 l1 l2 t274 t277 t280 (bt283.2 != bt272.2)) else (laws_FnExactAgreement.j0 k l0 l1 l2 t274 t277 t280 true))))))))))) = some r := H
     have A11 := Aside0.mk A110
     clear A110
     by_cases c12 : t262 < 0
     · rw [if_pos c12] at H
       have c12b0 : decide (t262 < 0) = true := decide_eq_true c12
       clear c12
       obtain rfl := Option.some.inj H
       go_enter Try.func7, Try.ntmps7
       go_wp2_with (first | ((with_reducible refine gate_callee (f := 14) rfl ?_); refine gl_ 17 Try.func14 #[.slice A0 l0.length c0, .int .i64 1048576] ?_; (with_reducible refine (laws_szClauseS.calls k _ _ l0 1048576 t260 _ ?side1 ?side2 A4.out).mono ?_); (case side1 => repeat (first | exact HR0.out | (with_reducible refine Kd.C_alloc ?_ _) | (with_reducible refine Kd.C_drewN ?_ _) | (with_reducible refine Kd.C_drew ?_))); (case side2 => exact HC0.out); rintro e w13 ⟨rfl, hb⟩; refine ⟨_, rfl, ?_⟩; have n0_ := Aside0.mk (bs_ hb); clear HB; revert n0_; intro HB; (try clear hb); (try clear hb2); (try clear hk); (try clear hi)) | ((with_reducible refine gate_callee (f := 14) rfl ?_); refine gl_ 22 Try.func14 #[.slice A1 l1.length c1, .int .i64 t260] ?_; (with_reducible refine (laws_szClauseS.calls k _ _ l1 t260 t261 _ ?side1 ?side2 A7.out).mono ?_); (case side1 => repeat (first | exact (Kd.C_below HR1.out HB.out) | (with_reducible refine Kd.C_alloc ?_ _) | (with_reducible refine Kd.C_drewN ?_ _) | (with_reducible refine Kd.C_drew ?_))); (case side2 => exact HC1.out); rintro e w14 ⟨rfl, hb⟩; refine ⟨_, rfl, ?_⟩; have n0_ := Aside0.mk (bs_ hb); clear HB; revert n0_; intro HB; (try clear hb); (try clear hb2); (try clear hk); (try clear hi)) | ((with_reducible refine gate_callee (f := 24) rfl ?_); refine gl_ 27 Try.func24 #[.slice A2 l2.length c2, .int .i64 t261] ?_; (with_reducible refine (laws_szEventS.calls k _ _ l2 t261 t262 _ ?side1 ?side2 A11.out).mono ?_); (case side1 => repeat (first | exact (Kd.C_below HR2.out HB.out) | (with_reducible refine Kd.C_alloc ?_ _) | (with_reducible refine Kd.C_drewN ?_ _) | (with_reducible refine Kd.C_drew ?_))); (case side2 => exact HC2.out); rintro e w15 ⟨rfl, hb⟩; refine ⟨_, rfl, ?_⟩; have n0_ := Aside0.mk (bs_ hb); clear HB; revert n0_; intro HB; (try clear hb); (try clear hb2); (try clear hk); (try clear hi)))
       go_ret
       exact ⟨by first | rfl | (simp [errW_none, errW_some] <;> rfl) | (simp [*, errW_none, errW_some] <;> rfl), bb_⟩
     · rw [if_neg c12] at H
       have c12b0 : decide (t262 < 0) = false := decide_eq_false c12
       clear c12
       replace H := Option.bind_eq_some_iff.mp H
       obtain ⟨t263, A160, H⟩ := H
       replace H : ((laws_toClauseS.f k l1).bind fun t266 => ((laws_toEventS.f k l2).bind fun t269 => ((spec_Agreement.f k t263 t266 t269).bind fun bt272 => ((laws_toClauseS.f k l0).bind fun t274 => ((laws_toClauseS.f k l1).bind fun t277 => ((laws_toEventS.f k l2).bind fun t280 => ((impl_Agreement.f k t274 t277 t280).bind fun bt283 => (if bt283.1 = bt272.1 then (laws_FnExactAgreement.j0 k l0 l1 l2 t274 t277 t280 (bt283.2 != bt272.2)) else (laws_FnExactAgreement.j0 k l0 l1 l2 t274 t277 t280 true))))))))) = some r := H
       have A16 := Aside0.mk A160
       clear A160
       replace H := Option.bind_eq_some_iff.mp H
       obtain ⟨t266, A170, H⟩ := H
       replace H : ((laws_toEventS.f k l2).bind fun t269 => ((spec_Agreement.f k t263 t266 t269).bind fun bt272 => ((laws_toClauseS.f k l0).bind fun t274 => ((laws_toClauseS.f k l1).bind fun t277 => ((laws_toEventS.f k l2).bind fun t280 => ((impl_Agreement.f k t274 t277 t280).bind fun bt283 => (if bt283.1 = bt272.1 then (laws_FnExactAgreement.j0 k l0 l1 l2 t274 t277 t280 (bt283.2 != bt272.2)) else (laws_FnExactAgreement.j0 k l0 l1 l2 t274 t277 t280 true)))))))) = some r := H
       have A17 := Aside0.mk A170
       clear A170
       replace H := Option.bind_eq_some_iff.mp H
       obtain ⟨t269, A180, H⟩ := H
       replace H : ((spec_Agreement.f k t263 t266 t269).bind fun bt272 => ((laws_toClauseS.f k l0).bind fun t274 => ((laws_toClauseS.f k l1).bind fun t277 => ((laws_toEventS.f k l2).bind fun t280 => ((impl_Agreement.f k t274 t277 t280).bind fun bt283 => (if bt283.1 = bt272.1 then (laws_FnExactAgreement.j0 k l0 l1 l2 t274 t277 t280 (bt283.2 != bt272.2)) else (laws_FnExactAgreement.j0 k l0 l1 l2 t274 t277 t280 true))))))) = some r := H
       have A18 := Aside0.mk A180
       clear A180
       replace H := Option.bind_eq_some_iff.mp H
       obtain ⟨⟨t272, t273⟩, A190, H⟩ := H
       replace H : ((laws_toClauseS.f k l0).bind fun t274 => ((laws_toClauseS.f k l1).bind fun t277 => ((laws_toEventS.f k l2).bind fun t280 => ((impl_Agreement.f k t274 t277 t280).bind fun bt283 => (if bt283.1 = t272 then (laws_FnExactAgreement.j0 k l0 l1 l2 t274 t277 t280 (bt283.2 != t273)) else (laws_FnExactAgreement.j0 k l0 l1 l2 t274 t277 t280 true)))))) = some r := H
       have A19 := Aside0.mk A190
       clear A190
       replace H := Option.bind_eq_some_iff.mp H
       obtain ⟨t274, A200, H⟩ := H
       replace H : ((laws_toClauseS.f k l1).bind fun t277 => ((laws_toEventS.f k l2).bind fun t280 => ((impl_Agreement.f k t274 t277 t280).bind fun bt283 => (if bt283.1 = t272 then (laws_FnExactAgreement.j0 k l0 l1 l2 t274 t277 t280 (bt283.2 != t273)) else (laws_FnExactAgreement.j0 k l0 l1 l2 t274 t277 t280 true))))) = some r := H
       have A20 := Aside0.mk A200
       clear A200
       replace H := Option.bind_eq_some_iff.mp H
       obtain ⟨t277, A210, H⟩ := H
       replace H : ((laws_toEventS.f k l2).bind fun t280 => ((impl_Agreement.f k t274 t277 t280).bind fun bt283 => (if bt283.1 = t272 then (laws_FnExactAgreement.j0 k l0 l1 l2 t274 t277 t280 (bt283.2 != t273)) else (laws_FnExactAgreement.j0 k l0 l1 l2 t274 t277 t280 true)))) = some r := H
       have A21 := Aside0.mk A210
       clear A210
       replace H := Option.bind_eq_some_iff.mp H
       obtain ⟨t280, A220, H⟩ := H
       replace H : ((impl_Agreement.f k t274 t277 t280).bind fun bt283 => (if bt283.1 = t272 then (laws_FnExactAgreement.j0 k l0 l1 l2 t274 t277 t280 (bt283.2 != t273)) else (laws_FnExactAgreement.j0 k l0 l1 l2 t274 t277 t280 true))) = some r := H
       have A22 := Aside0.mk A220
       clear A220
       replace H := Option.bind_eq_some_iff.mp H
       obtain ⟨⟨t283, t284⟩, A230, H⟩ := H
       replace H : (if t283 = t272 then (laws_FnExactAgreement.j0 k l0 l1 l2 t274 t277 t280 (t284 != t273)) else (laws_FnExactAgreement.j0 k l0 l1 l2 t274 t277 t280 true)) = some r := H
       have A23 := Aside0.mk A230
       clear A230
       have HC24 := Aside0.mk H
       clear H
       go_enter Try.func7, Try.ntmps7
       go_upto_region 16 with (first | ((with_reducible refine gate_callee (f := 14) rfl ?_); refine gl_ 17 Try.func14 #[.slice A0 l0.length c0, .int .i64 1048576] ?_; (with_reducible refine (laws_szClauseS.calls k _ _ l0 1048576 t260 _ ?side1 ?side2 A4.out).mono ?_); (case side1 => repeat (first | exact HR0.out | (with_reducible refine Kd.C_alloc ?_ _) | (with_reducible refine Kd.C_drewN ?_ _) | (with_reducible refine Kd.C_drew ?_))); (case side2 => exact HC0.out); rintro e w25 ⟨rfl, hb⟩; refine ⟨_, rfl, ?_⟩; have n0_ := Aside0.mk (bs_ hb); clear HB; revert n0_; intro HB; (try clear hb); (try clear hb2); (try clear hk); (try clear hi)) | ((with_reducible refine gate_callee (f := 14) rfl ?_); refine gl_ 22 Try.func14 #[.slice A1 l1.length c1, .int .i64 t260] ?_; (with_reducible refine (laws_szClauseS.calls k _ _ l1 t260 t261 _ ?side1 ?side2 A7.out).mono ?_); (case side1 => repeat (first | exact (Kd.C_below HR1.out HB.out) | (with_reducible refine Kd.C_alloc ?_ _) | (with_reducible refine Kd.C_drewN ?_ _) | (with_reducible refine Kd.C_drew ?_))); (case side2 => exact HC1.out); rintro e w26 ⟨rfl, hb⟩; refine ⟨_, rfl, ?_⟩; have n0_ := Aside0.mk (bs_ hb); clear HB; revert n0_; intro HB; (try clear hb); (try clear hb2); (try clear hk); (try clear hi)) | ((with_reducible refine gate_callee (f := 24) rfl ?_); refine gl_ 27 Try.func24 #[.slice A2 l2.length c2, .int .i64 t261] ?_; (with_reducible refine (laws_szEventS.calls k _ _ l2 t261 t262 _ ?side1 ?side2 A11.out).mono ?_); (case side1 => repeat (first | exact (Kd.C_below HR2.out HB.out) | (with_reducible refine Kd.C_alloc ?_ _) | (with_reducible refine Kd.C_drewN ?_ _) | (with_reducible refine Kd.C_drew ?_))); (case side2 => exact HC2.out); rintro e w27 ⟨rfl, hb⟩; refine ⟨_, rfl, ?_⟩; have n0_ := Aside0.mk (bs_ hb); clear HB; revert n0_; intro HB; (try clear hb); (try clear hb2); (try clear hk); (try clear hi)) | ((with_reducible refine gate_callee (f := 18) rfl ?_); refine gl_ 32 Try.func18 #[.slice A0 l0.length c0] ?_; (with_reducible refine (laws_toClauseS.calls k _ _ l0 t263 _ ?side1 ?side2 A16.out).mono ?_); (case side1 => repeat (first | exact (Kd.C_below HR0.out HB.out) | (with_reducible refine Kd.C_alloc ?_ _) | (with_reducible refine Kd.C_drewN ?_ _) | (with_reducible refine Kd.C_drew ?_))); (case side2 => exact HC0.out); rintro e w28 ⟨v264, rfl, ho0, hb⟩; refine ⟨_, rfl, ?_⟩; have n0_ := Aside0.mk (Kd.R_lower ho0 (bz_)); have n1_ := Aside0.mk (bs_ hb); clear HB; revert n0_ n1_; intro HO265 HB; (try clear hb); (try clear hb2); (try clear hk); (try clear hi); (try clear ho0)) | ((with_reducible refine gate_callee (f := 18) rfl ?_); refine gl_ 34 Try.func18 #[.slice A1 l1.length c1] ?_; (with_reducible refine (laws_toClauseS.calls k _ _ l1 t266 _ ?side1 ?side2 A17.out).mono ?_); (case side1 => repeat (first | exact (Kd.C_below HR1.out HB.out) | (with_reducible refine Kd.C_alloc ?_ _) | (with_reducible refine Kd.C_drewN ?_ _) | (with_reducible refine Kd.C_drew ?_))); (case side2 => exact HC1.out); rintro e w29 ⟨v267, rfl, ho0, hb⟩; refine ⟨_, rfl, ?_⟩; have n0_ := Aside0.mk (Kd.R_elder' (rm_ HO265) (Kd.R_base ho0) hb); have n1_ := Aside0.mk (Kd.R_lower (Kd.R_new' ho0 (Kd.R_lt (rm_ HO265))) (bz_)); have n2_ := Aside0.mk (bs_ hb); clear HO265 HB; revert n0_ n1_ n2_; intro HO265 HO268 HB; (try clear hb); (try clear hb2); (try clear hk); (try clear hi); (try clear ho0)) | ((with_reducible refine gate_callee (f := 27) rfl ?_); refine gl_ 36 Try.func27 #[.slice A2 l2.length c2] ?_; (with_reducible refine (laws_toEventS.calls k _ _ l2 t269 _ ?side1 ?side2 A18.out).mono ?_); (case side1 => repeat (first | exact (Kd.C_below HR2.out HB.out) | (with_reducible refine Kd.C_alloc ?_ _) | (with_reducible refine Kd.C_drewN ?_ _) | (with_reducible refine Kd.C_drew ?_))); (case side2 => exact HC2.out); rintro e w30 ⟨v270, rfl, ho0, hb⟩; refine ⟨_, rfl, ?_⟩; have n0_ := Aside0.mk (Kd.R_below (rm_ HO265) hb); have n1_ := Aside0.mk (Kd.R_below (rm_ HO268) hb); have n2_ := Aside0.mk (Kd.R_lower ho0 (bz_)); have n3_ := Aside0.mk (bs_ hb); clear HO265 HO268 HB; revert n0_ n1_ n2_ n3_; intro HO265 HO268 HO271 HB; (try clear hb); (try clear hb2); (try clear hk); (try clear hi); (try clear ho0); obtain ⟨Ao31, co31, eo31⟩ := Kd.R_slice HO265.out; subst eo31; obtain ⟨Ao32, co32, eo32⟩ := Kd.R_slice HO268.out; subst eo32; obtain ⟨Ao33, co33, eo33⟩ := Kd.R_slice HO271.out; subst eo33) | ((with_reducible refine gate_callee (f := 35) rfl ?_); refine gl_ 37 Try.func35 #[.slice Ao31 t263.length co31, .slice Ao32 t266.length co32, .slice Ao33 t269.length co33] ?_; (with_reducible refine (spec_Agreement.calls k _ _ t263 _ _ t266 _ _ t269 t272 t273 _ ?side1 ?side2 ?side3 ?side4 ?side5 ?side6 A19.out).mono ?_); (case side1 => repeat (first | exact (Kd.R_reads' HO265.out).2.2 | (with_reducible refine Kd.C_alloc ?_ _) | (with_reducible refine Kd.C_drewN ?_ _) | (with_reducible refine Kd.C_drew ?_))); (case side2 => exact (Kd.R_reads' HO265.out).2.1); (case side3 => repeat (first | exact (Kd.R_reads' HO268.out).2.2 | (with_reducible refine Kd.C_alloc ?_ _) | (with_reducible refine Kd.C_drewN ?_ _) | (with_reducible refine Kd.C_drew ?_))); (case side4 => exact (Kd.R_reads' HO268.out).2.1); (case side5 => repeat (first | exact (Kd.R_reads' HO271.out).2.2 | (with_reducible refine Kd.C_alloc ?_ _) | (with_reducible refine Kd.C_drewN ?_ _) | (with_reducible refine Kd.C_drew ?_))); (case side6 => exact (Kd.R_reads' HO271.out).2.1); rintro e w34 ⟨rfl, hb⟩; refine ⟨_, rfl, ?_⟩; have n0_ := Aside0.mk (Kd.R_below (rm_ HO265) hb); have n1_ := Aside0.mk (Kd.R_below (rm_ HO268) hb); have n2_ := Aside0.mk (Kd.R_below (rm_ HO271) hb); have n3_ := Aside0.mk (bs_ hb); clear HO265 HO268 HO271 HB; revert n0_ n1_ n2_ n3_; intro HO265 HO268 HO271 HB; (try clear hb); (try clear hb2); (try clear hk); (try clear hi)) | ((with_reducible refine gate_callee (f := 18) rfl ?_); refine gl_ 41 Try.func18 #[.slice A0 l0.length c0] ?_; (with_reducible refine (laws_toClauseS.calls k _ _ l0 t274 _ ?side1 ?side2 A20.out).mono ?_); (case side1 => repeat (first | exact (Kd.C_below HR0.out HB.out) | (with_reducible refine Kd.C_alloc ?_ _) | (with_reducible refine Kd.C_drewN ?_ _) | (with_reducible refine Kd.C_drew ?_))); (case side2 => exact HC0.out); rintro e w35 ⟨v275, rfl, ho0, hb⟩; refine ⟨_, rfl, ?_⟩; have n0_ := Aside0.mk (Kd.R_elder' (rm_ HO265) (Kd.R_base ho0) hb); have n1_ := Aside0.mk (Kd.R_elder' (rm_ HO268) (Kd.R_base ho0) hb); have n2_ := Aside0.mk (Kd.R_below (rm_ HO271) hb); have n3_ := Aside0.mk (Kd.R_lower (Kd.R_new' (Kd.R_new' ho0 (Kd.R_lt (rm_ HO265))) (Kd.R_lt (rm_ HO268))) (bz_)); have n4_ := Aside0.mk (bs_ hb); clear HO265 HO268 HO271 HB; revert n0_ n1_ n2_ n3_ n4_; intro HO265 HO268 HO271 HO276 HB; (try clear hb); (try clear hb2); (try clear hk); (try clear hi); (try clear ho0)) | ((with_reducible refine gate_callee (f := 18) rfl ?_); refine gl_ 43 Try.func18 #[.slice A1 l1.length c1] ?_; (with_reducible refine (laws_toClauseS.calls k _ _ l1 t277 _ ?side1 ?side2 A21.out).mono ?_); (case side1 => repeat (first | exact (Kd.C_below HR1.out HB.out) | (with_reducible refine Kd.C_alloc ?_ _) | (with_reducible refine Kd.C_drewN ?_ _) | (with_reducible refine Kd.C_drew ?_))); (case side2 => exact HC1.out); rintro e w36 ⟨v278, rfl, ho0, hb⟩; refine ⟨_, rfl, ?_⟩; have n0_ := Aside0.mk (Kd.R_elder' (rm_ HO265) (Kd.R_base ho0) hb); have n1_ := Aside0.mk (Kd.R_elder' (rm_ HO268) (Kd.R_base ho0) hb); have n2_ := Aside0.mk (Kd.R_below (rm_ HO271) hb); have n3_ := Aside0.mk (Kd.R_elder' (rm_ HO276) (Kd.R_base ho0) hb); have n4_ := Aside0.mk (Kd.R_lower (Kd.R_new' (Kd.R_new' (Kd.R_new' ho0 (Kd.R_lt (rm_ HO265))) (Kd.R_lt (rm_ HO268))) (Kd.R_lt (rm_ HO276))) (bz_)); have n5_ := Aside0.mk (bs_ hb); clear HO265 HO268 HO271 HO276 HB; revert n0_ n1_ n2_ n3_ n4_ n5_; intro HO265 HO268 HO271 HO276 HO279 HB; (try clear hb); (try clear hb2); (try clear hk); (try clear hi); (try clear ho0)) | ((with_reducible refine gate_callee (f := 27) rfl ?_); refine gl_ 45 Try.func27 #[.slice A2 l2.length c2] ?_; (with_reducible refine (laws_toEventS.calls k _ _ l2 t280 _ ?side1 ?side2 A22.out).mono ?_); (case side1 => repeat (first | exact (Kd.C_below HR2.out HB.out) | (with_reducible refine Kd.C_alloc ?_ _) | (with_reducible refine Kd.C_drewN ?_ _) | (with_reducible refine Kd.C_drew ?_))); (case side2 => exact HC2.out); rintro e w37 ⟨v281, rfl, ho0, hb⟩; refine ⟨_, rfl, ?_⟩; have n0_ := Aside0.mk (Kd.R_below (rm_ HO265) hb); have n1_ := Aside0.mk (Kd.R_below (rm_ HO268) hb); have n2_ := Aside0.mk (Kd.R_elder' (rm_ HO271) (Kd.R_base ho0) hb); have n3_ := Aside0.mk (Kd.R_below (rm_ HO276) hb); have n4_ := Aside0.mk (Kd.R_below (rm_ HO279) hb); have n5_ := Aside0.mk (Kd.R_lower (Kd.R_new' ho0 (Kd.R_lt (rm_ HO271))) (bz_)); have n6_ := Aside0.mk (bs_ hb); clear HO265 HO268 HO271 HO276 HO279 HB; revert n0_ n1_ n2_ n3_ n4_ n5_ n6_; intro HO265 HO268 HO271 HO276 HO279 HO282 HB; (try clear hb); (try clear hb2); (try clear hk); (try clear hi); (try clear ho0); obtain ⟨Ao38, co38, eo38⟩ := Kd.R_slice HO276.out; subst eo38; obtain ⟨Ao39, co39, eo39⟩ := Kd.R_slice HO279.out; subst eo39; obtain ⟨Ao40, co40, eo40⟩ := Kd.R_slice HO282.out; subst eo40) | ((with_reducible refine gate_callee (f := 36) rfl ?_); refine gl_ 50 Try.func36 #[.slice Ao38 t274.length co38, .slice Ao39 t277.length co39, .slice Ao40 t280.length co40] ?_; (with_reducible refine (impl_Agreement.calls k _ _ t274 _ _ t277 _ _ t280 t283 t284 _ ?side1 ?side2 ?side3 ?side4 ?side5 ?side6 A23.out).mono ?_); (case side1 => repeat (first | exact (Kd.R_reads' HO276.out).2.2 | (with_reducible refine Kd.C_alloc ?_ _) | (with_reducible refine Kd.C_drewN ?_ _) | (with_reducible refine Kd.C_drew ?_))); (case side2 => exact (Kd.R_reads' HO276.out).2.1); (case side3 => repeat (first | exact (Kd.R_reads' HO279.out).2.2 | (with_reducible refine Kd.C_alloc ?_ _) | (with_reducible refine Kd.C_drewN ?_ _) | (with_reducible refine Kd.C_drew ?_))); (case side4 => exact (Kd.R_reads' HO279.out).2.1); (case side5 => repeat (first | exact (Kd.R_reads' HO282.out).2.2 | (with_reducible refine Kd.C_alloc ?_ _) | (with_reducible refine Kd.C_drewN ?_ _) | (with_reducible refine Kd.C_drew ?_))); (case side6 => exact (Kd.R_reads' HO282.out).2.1); rintro e w41 ⟨rfl, hb⟩; refine ⟨_, rfl, ?_⟩; have n0_ := Aside0.mk (Kd.R_below (rm_ HO265) hb); have n1_ := Aside0.mk (Kd.R_below (rm_ HO268) hb); have n2_ := Aside0.mk (Kd.R_below (rm_ HO271) hb); have n3_ := Aside0.mk (Kd.R_below (rm_ HO276) hb); have n4_ := Aside0.mk (Kd.R_below (rm_ HO279) hb); have n5_ := Aside0.mk (Kd.R_below (rm_ HO282) hb); have n6_ := Aside0.mk (bs_ hb); clear HO265 HO268 HO271 HO276 HO279 HO282 HB; revert n0_ n1_ n2_ n3_ n4_ n5_ n6_; intro HO265 HO268 HO271 HO276 HO279 HO282 HB; (try clear hb); (try clear hb2); (try clear hk); (try clear hi)))
       (try simp only [Act.put, List.setIfInBounds_toArray, List.set_cons_zero, List.set_cons_succ])
       go_cut [60] (fun v60 wc => ∃ (kq : Nat) (x60_23 : Bool), v60 = .bool x60_23 ∧ Aside0 (laws_FnExactAgreement.j0 kq l0 l1 l2 t274 t277 t280 x60_23 = some r) ∧ Aside0 (kq ≤ k) ∧ Aside0 (Kd.R k94 94 wc w.heap.size (fun k_ => some k_ ≠ ((.slice Ao39 t277.length co39) : Value).ownBlock) (.slice Ao38 t274.length co38) t274) ∧ Aside0 (Kd.R k94 94 wc w.heap.size (fun k_ => some k_ ≠ ((.slice Ao38 t274.length co38) : Value).ownBlock) (.slice Ao39 t277.length co39) t277) ∧ Aside0 (Kd.R k43 43 wc w.heap.size (fun _ => True) (.slice Ao40 t280.length co40) t280) ∧ Aside0 (Below w.heap.size w wc))
       case first =>
        have H := HC24.out
        clear HC24
        by_cases c42 : t283 = t272
        · rw [if_pos c42] at H
          have c42b0 : (t283 == t272) = true := beq_iff_eq.mpr c42
          have c42b1 : (t283 != t272) = false := bne_eq_false_iff_eq.mpr c42
          clear c42
          (first | rw [c42b0] | (simp only [i64_w, i32_w]; rw [c42b0]) | skip)
          have H' := Aside0.mk H
          clear H
          go_wp2
          go_meet
          case rel => exact ⟨_, ((t284 != t273)), (by first | rfl | (simp; done) | (simp [*]; done)), H', ⟨by first | omega | exact Nat.le_refl _⟩, ⟨by (with_reducible repeat (first | apply Kd.R_alloc | apply Kd.R_drewN | apply Kd.R_drew)); exact Kd.R_mono HO276.out (fun _ hk => hk.2)⟩, ⟨by (with_reducible repeat (first | apply Kd.R_alloc | apply Kd.R_drewN | apply Kd.R_drew)); exact Kd.R_mono HO279.out (fun _ hk => hk.2)⟩, ⟨by (with_reducible repeat (first | apply Kd.R_alloc | apply Kd.R_drewN | apply Kd.R_drew)); exact Kd.R_mono HO282.out (fun _ hk => trivial)⟩, ⟨bb_⟩⟩
        · rw [if_neg c42] at H
          have c42b0 : (t283 == t272) = false := beq_eq_false_iff_ne.mpr c42
          have c42b1 : (t283 != t272) = true := bne_iff_ne.mpr c42
          (first | rw [c42b0] | (simp only [i64_w, i32_w]; rw [c42b0]) | skip)
          have H' := Aside0.mk H
          clear H
          go_wp2
          go_meet
          case rel => exact ⟨_, (true), (by first | rfl | (simp; done) | (simp [*]; done)), H', ⟨by first | omega | exact Nat.le_refl _⟩, ⟨by (with_reducible repeat (first | apply Kd.R_alloc | apply Kd.R_drewN | apply Kd.R_drew)); exact Kd.R_mono HO276.out (fun _ hk => hk.2)⟩, ⟨by (with_reducible repeat (first | apply Kd.R_alloc | apply Kd.R_drewN | apply Kd.R_drew)); exact Kd.R_mono HO279.out (fun _ hk => hk.2)⟩, ⟨by (with_reducible repeat (first | apply Kd.R_alloc | apply Kd.R_drewN | apply Kd.R_drew)); exact Kd.R_mono HO282.out (fun _ hk => trivial)⟩, ⟨bb_⟩⟩
       case rest =>
        clear HC24
        try clear c1
        try clear c2
        try clear p2
        try clear c3
        try clear c4
        try clear c5
        try clear c5b0
        try clear c7
        try clear c8
        try clear c8b0
        try clear c12
        try clear c12b0
        try clear c14
        try clear c18
        try clear c24
        try clear c27
        try clear c35
        try clear c36
        try clear c42
        try clear c42b0
        try clear c42b1
        obtain ⟨kq, x60_23, rfl, HA, HJ23, HO_10, HO_11, HO_12, HB⟩ := hcut
        cases kq with
        | zero => exact absurd HA.out (by simp [laws_FnExactAgreement.j0])
        | succ kj23 =>
         have H := HA.out
         clear HA
         simp only [laws_FnExactAgreement.j0] at H
         by_cases c43 : x60_23 = true
         · subst c43
           have H1 : (some false) = some r := by rw [if_pos rfl] at H; exact H
           clear H
           have H := H1
           clear H1
           rw [hrt.out] at H; cases H
         · replace c43 := Bool.eq_false_iff.mpr c43
           subst c43
           have H1 : ((laws_toClauseS.f kj23 l0).bind fun t285 => ((laws_eqClauseS.f kj23 t274 t285).bind fun t288 => (if t288 = true then ((laws_toClauseS.f kj23 l1).bind fun t289 => ((laws_eqClauseS.f kj23 t277 t289).bind fun t292 => (if t292 = true then ((laws_toEventS.f kj23 l2).bind fun t293 => ((laws_eqEventS.f kj23 t280 t293).bind fun t296 => (if t296 = true then (some true) else (some false)))) else (some false)))) else (some false)))) = some r := by rw [if_neg (show ¬ (false = true) by decide)] at H; exact H
           clear H
           have H := H1
           clear H1
           replace H := Option.bind_eq_some_iff.mp H
           obtain ⟨t285, A440, H⟩ := H
           replace H : ((laws_eqClauseS.f kj23 t274 t285).bind fun t288 => (if t288 = true then ((laws_toClauseS.f kj23 l1).bind fun t289 => ((laws_eqClauseS.f kj23 t277 t289).bind fun t292 => (if t292 = true then ((laws_toEventS.f kj23 l2).bind fun t293 => ((laws_eqEventS.f kj23 t280 t293).bind fun t296 => (if t296 = true then (some true) else (some false)))) else (some false)))) else (some false))) = some r := H
           have A44 := Aside0.mk A440
           clear A440
           replace H := Option.bind_eq_some_iff.mp H
           obtain ⟨t288, A450, H⟩ := H
           replace H : (if t288 = true then ((laws_toClauseS.f kj23 l1).bind fun t289 => ((laws_eqClauseS.f kj23 t277 t289).bind fun t292 => (if t292 = true then ((laws_toEventS.f kj23 l2).bind fun t293 => ((laws_eqEventS.f kj23 t280 t293).bind fun t296 => (if t296 = true then (some true) else (some false)))) else (some false)))) else (some false)) = some r := H
           have A45 := Aside0.mk A450
           clear A450
           by_cases c46 : t288 = true
           · subst c46
             have H1 : ((laws_toClauseS.f kj23 l1).bind fun t289 => ((laws_eqClauseS.f kj23 t277 t289).bind fun t292 => (if t292 = true then ((laws_toEventS.f kj23 l2).bind fun t293 => ((laws_eqEventS.f kj23 t280 t293).bind fun t296 => (if t296 = true then (some true) else (some false)))) else (some false)))) = some r := by rw [if_pos rfl] at H; exact H
             clear H
             have H := H1
             clear H1
             replace H := Option.bind_eq_some_iff.mp H
             obtain ⟨t289, A470, H⟩ := H
             replace H : ((laws_eqClauseS.f kj23 t277 t289).bind fun t292 => (if t292 = true then ((laws_toEventS.f kj23 l2).bind fun t293 => ((laws_eqEventS.f kj23 t280 t293).bind fun t296 => (if t296 = true then (some true) else (some false)))) else (some false))) = some r := H
             have A47 := Aside0.mk A470
             clear A470
             replace H := Option.bind_eq_some_iff.mp H
             obtain ⟨t292, A480, H⟩ := H
             replace H : (if t292 = true then ((laws_toEventS.f kj23 l2).bind fun t293 => ((laws_eqEventS.f kj23 t280 t293).bind fun t296 => (if t296 = true then (some true) else (some false)))) else (some false)) = some r := H
             have A48 := Aside0.mk A480
             clear A480
             by_cases c49 : t292 = true
             · subst c49
               have H1 : ((laws_toEventS.f kj23 l2).bind fun t293 => ((laws_eqEventS.f kj23 t280 t293).bind fun t296 => (if t296 = true then (some true) else (some false)))) = some r := by rw [if_pos rfl] at H; exact H
               clear H
               have H := H1
               clear H1
               replace H := Option.bind_eq_some_iff.mp H
               obtain ⟨t293, A500, H⟩ := H
               replace H : ((laws_eqEventS.f kj23 t280 t293).bind fun t296 => (if t296 = true then (some true) else (some false))) = some r := H
               have A50 := Aside0.mk A500
               clear A500
               replace H := Option.bind_eq_some_iff.mp H
               obtain ⟨t296, A510, H⟩ := H
               replace H : (if t296 = true then (some true) else (some false)) = some r := H
               have A51 := Aside0.mk A510
               clear A510
               by_cases c52 : t296 = true
               · subst c52
                 have H1 : (some true) = some r := by rw [if_pos rfl] at H; exact H
                 clear H
                 have H := H1
                 clear H1
                 obtain rfl := Option.some.inj H
                 go_wp2_with (first | ((with_reducible refine gate_callee (f := 18) rfl ?_); refine gl_ 63 Try.func18 #[.slice A0 l0.length c0] ?_; (with_reducible refine (laws_toClauseS.calls kj23 _ _ l0 t285 _ ?side1 ?side2 A44.out).mono ?_); (case side1 => repeat (first | exact (Kd.C_below HR0.out HB.out) | (with_reducible refine Kd.C_alloc ?_ _) | (with_reducible refine Kd.C_drewN ?_ _) | (with_reducible refine Kd.C_drew ?_))); (case side2 => exact HC0.out); rintro e w53 ⟨v286, rfl, ho0, hb⟩; refine ⟨_, rfl, ?_⟩; have n0_ := Aside0.mk (Kd.R_elder' (rm_ HO_10) (Kd.R_base ho0) hb); have n1_ := Aside0.mk (Kd.R_elder' (rm_ HO_11) (Kd.R_base ho0) hb); have n2_ := Aside0.mk (Kd.R_below (rm_ HO_12) hb); have n3_ := Aside0.mk (Kd.R_lower (Kd.R_new' (Kd.R_new' ho0 (Kd.R_lt (rm_ HO_10))) (Kd.R_lt (rm_ HO_11))) (bz_)); have n4_ := Aside0.mk (bs_ hb); clear HO_10 HO_11 HO_12 HB; revert n0_ n1_ n2_ n3_ n4_; intro HO_10 HO_11 HO_12 HO287 HB; (try clear hb); (try clear hb2); (try clear hk); (try clear hi); (try clear ho0); obtain ⟨Ao54, co54, eo54⟩ := Kd.R_slice HO287.out; subst eo54) | ((with_reducible refine gate_callee (f := 22) rfl ?_); refine gl_ 64 Try.func22 #[.slice Ao38 t274.length co38, .slice Ao54 t285.length co54] ?_; (with_reducible refine (laws_eqClauseS.calls kj23 _ _ t274 _ _ t285 true _ ?side1 ?side2 ?side3 ?side4 A45.out).mono ?_); (case side1 => repeat (first | exact (Kd.R_reads' HO_10.out).2.2 | (with_reducible refine Kd.C_alloc ?_ _) | (with_reducible refine Kd.C_drewN ?_ _) | (with_reducible refine Kd.C_drew ?_))); (case side2 => exact (Kd.R_reads' HO_10.out).2.1); (case side3 => repeat (first | exact (Kd.R_reads' HO287.out).2.2 | (with_reducible refine Kd.C_alloc ?_ _) | (with_reducible refine Kd.C_drewN ?_ _) | (with_reducible refine Kd.C_drew ?_))); (case side4 => exact (Kd.R_reads' HO287.out).2.1); rintro e w55 ⟨rfl, hb⟩; refine ⟨_, rfl, ?_⟩; have n0_ := Aside0.mk (Kd.R_below (rm_ HO_10) hb); have n1_ := Aside0.mk (Kd.R_below (rm_ HO_11) hb); have n2_ := Aside0.mk (Kd.R_below (rm_ HO_12) hb); have n3_ := Aside0.mk (Kd.R_below (rm_ HO287) hb); have n4_ := Aside0.mk (bs_ hb); clear HO_10 HO_11 HO_12 HO287 HB; revert n0_ n1_ n2_ n3_ n4_; intro HO_10 HO_11 HO_12 HO287 HB; (try clear hb); (try clear hb2); (try clear hk); (try clear hi)) | ((with_reducible refine gate_callee (f := 18) rfl ?_); refine gl_ 68 Try.func18 #[.slice A1 l1.length c1] ?_; (with_reducible refine (laws_toClauseS.calls kj23 _ _ l1 t289 _ ?side1 ?side2 A47.out).mono ?_); (case side1 => repeat (first | exact (Kd.C_below HR1.out HB.out) | (with_reducible refine Kd.C_alloc ?_ _) | (with_reducible refine Kd.C_drewN ?_ _) | (with_reducible refine Kd.C_drew ?_))); (case side2 => exact HC1.out); rintro e w56 ⟨v290, rfl, ho0, hb⟩; refine ⟨_, rfl, ?_⟩; have n0_ := Aside0.mk (Kd.R_elder' (rm_ HO_10) (Kd.R_base ho0) hb); have n1_ := Aside0.mk (Kd.R_elder' (rm_ HO_11) (Kd.R_base ho0) hb); have n2_ := Aside0.mk (Kd.R_below (rm_ HO_12) hb); have n3_ := Aside0.mk (Kd.R_elder' (rm_ HO287) (Kd.R_base ho0) hb); have n4_ := Aside0.mk (Kd.R_lower (Kd.R_new' (Kd.R_new' (Kd.R_new' ho0 (Kd.R_lt (rm_ HO_10))) (Kd.R_lt (rm_ HO_11))) (Kd.R_lt (rm_ HO287))) (bz_)); have n5_ := Aside0.mk (bs_ hb); clear HO_10 HO_11 HO_12 HO287 HB; revert n0_ n1_ n2_ n3_ n4_ n5_; intro HO_10 HO_11 HO_12 HO287 HO291 HB; (try clear hb); (try clear hb2); (try clear hk); (try clear hi); (try clear ho0); obtain ⟨Ao57, co57, eo57⟩ := Kd.R_slice HO291.out; subst eo57) | ((with_reducible refine gate_callee (f := 22) rfl ?_); refine gl_ 69 Try.func22 #[.slice Ao39 t277.length co39, .slice Ao57 t289.length co57] ?_; (with_reducible refine (laws_eqClauseS.calls kj23 _ _ t277 _ _ t289 true _ ?side1 ?side2 ?side3 ?side4 A48.out).mono ?_); (case side1 => repeat (first | exact (Kd.R_reads' HO_11.out).2.2 | (with_reducible refine Kd.C_alloc ?_ _) | (with_reducible refine Kd.C_drewN ?_ _) | (with_reducible refine Kd.C_drew ?_))); (case side2 => exact (Kd.R_reads' HO_11.out).2.1); (case side3 => repeat (first | exact (Kd.R_reads' HO291.out).2.2 | (with_reducible refine Kd.C_alloc ?_ _) | (with_reducible refine Kd.C_drewN ?_ _) | (with_reducible refine Kd.C_drew ?_))); (case side4 => exact (Kd.R_reads' HO291.out).2.1); rintro e w58 ⟨rfl, hb⟩; refine ⟨_, rfl, ?_⟩; have n0_ := Aside0.mk (Kd.R_below (rm_ HO_10) hb); have n1_ := Aside0.mk (Kd.R_below (rm_ HO_11) hb); have n2_ := Aside0.mk (Kd.R_below (rm_ HO_12) hb); have n3_ := Aside0.mk (Kd.R_below (rm_ HO287) hb); have n4_ := Aside0.mk (Kd.R_below (rm_ HO291) hb); have n5_ := Aside0.mk (bs_ hb); clear HO_10 HO_11 HO_12 HO287 HO291 HB; revert n0_ n1_ n2_ n3_ n4_ n5_; intro HO_10 HO_11 HO_12 HO287 HO291 HB; (try clear hb); (try clear hb2); (try clear hk); (try clear hi)) | ((with_reducible refine gate_callee (f := 27) rfl ?_); refine gl_ 73 Try.func27 #[.slice A2 l2.length c2] ?_; (with_reducible refine (laws_toEventS.calls kj23 _ _ l2 t293 _ ?side1 ?side2 A50.out).mono ?_); (case side1 => repeat (first | exact (Kd.C_below HR2.out HB.out) | (with_reducible refine Kd.C_alloc ?_ _) | (with_reducible refine Kd.C_drewN ?_ _) | (with_reducible refine Kd.C_drew ?_))); (case side2 => exact HC2.out); rintro e w59 ⟨v294, rfl, ho0, hb⟩; refine ⟨_, rfl, ?_⟩; have n0_ := Aside0.mk (Kd.R_below (rm_ HO_10) hb); have n1_ := Aside0.mk (Kd.R_below (rm_ HO_11) hb); have n2_ := Aside0.mk (Kd.R_elder' (rm_ HO_12) (Kd.R_base ho0) hb); have n3_ := Aside0.mk (Kd.R_below (rm_ HO287) hb); have n4_ := Aside0.mk (Kd.R_below (rm_ HO291) hb); have n5_ := Aside0.mk (Kd.R_lower (Kd.R_new' ho0 (Kd.R_lt (rm_ HO_12))) (bz_)); have n6_ := Aside0.mk (bs_ hb); clear HO_10 HO_11 HO_12 HO287 HO291 HB; revert n0_ n1_ n2_ n3_ n4_ n5_ n6_; intro HO_10 HO_11 HO_12 HO287 HO291 HO295 HB; (try clear hb); (try clear hb2); (try clear hk); (try clear hi); (try clear ho0); obtain ⟨Ao60, co60, eo60⟩ := Kd.R_slice HO295.out; subst eo60) | ((with_reducible refine gate_callee (f := 30) rfl ?_); refine gl_ 74 Try.func30 #[.slice Ao40 t280.length co40, .slice Ao60 t293.length co60] ?_; (with_reducible refine (laws_eqEventS.calls kj23 _ _ t280 _ _ t293 true _ ?side1 ?side2 ?side3 ?side4 A51.out).mono ?_); (case side1 => repeat (first | exact (Kd.R_reads' HO_12.out).2.2 | (with_reducible refine Kd.C_alloc ?_ _) | (with_reducible refine Kd.C_drewN ?_ _) | (with_reducible refine Kd.C_drew ?_))); (case side2 => exact (Kd.R_reads' HO_12.out).2.1); (case side3 => repeat (first | exact (Kd.R_reads' HO295.out).2.2 | (with_reducible refine Kd.C_alloc ?_ _) | (with_reducible refine Kd.C_drewN ?_ _) | (with_reducible refine Kd.C_drew ?_))); (case side4 => exact (Kd.R_reads' HO295.out).2.1); rintro e w61 ⟨rfl, hb⟩; refine ⟨_, rfl, ?_⟩; have n0_ := Aside0.mk (Kd.R_below (rm_ HO_10) hb); have n1_ := Aside0.mk (Kd.R_below (rm_ HO_11) hb); have n2_ := Aside0.mk (Kd.R_below (rm_ HO_12) hb); have n3_ := Aside0.mk (Kd.R_below (rm_ HO287) hb); have n4_ := Aside0.mk (Kd.R_below (rm_ HO291) hb); have n5_ := Aside0.mk (Kd.R_below (rm_ HO295) hb); have n6_ := Aside0.mk (bs_ hb); clear HO_10 HO_11 HO_12 HO287 HO291 HO295 HB; revert n0_ n1_ n2_ n3_ n4_ n5_ n6_; intro HO_10 HO_11 HO_12 HO287 HO291 HO295 HB; (try clear hb); (try clear hb2); (try clear hk); (try clear hi)))
                 go_ret
                 exact ⟨by first | rfl | (simp [errW_none, errW_some] <;> rfl) | (simp [*, errW_none, errW_some] <;> rfl), bb_⟩
               · replace c52 := Bool.eq_false_iff.mpr c52
                 subst c52
                 have H1 : (some false) = some r := by rw [if_neg (show ¬ (false = true) by decide)] at H; exact H
                 clear H
                 have H := H1
                 clear H1
                 rw [hrt.out] at H; cases H
             · replace c49 := Bool.eq_false_iff.mpr c49
               subst c49
               have H1 : (some false) = some r := by rw [if_neg (show ¬ (false = true) by decide)] at H; exact H
               clear H
               have H := H1
               clear H1
               rw [hrt.out] at H; cases H
           · replace c46 := Bool.eq_false_iff.mpr c46
             subst c46
             have H1 : (some false) = some r := by rw [if_neg (show ¬ (false = true) by decide)] at H; exact H
             clear H
             have H := H1
             clear H1
             rw [hrt.out] at H; cases H

end Go.Proofs.Ytmfbkbbgokjhnaa.F
