-- Written by this session's program (wip/bin/hp.py) over the kit's print: a function's Lean form, and a proof that the call does what it says.
import Derived.Test.YtmfbkbbgokjhnaaFx0
import Derived.Test.YtmfbkbbgokjhnaaSq
import Derived.Test.YtmfbkbbgokjhnaaFx2
import Derived.Test.YtmfbkbbgokjhnaaFx5
import Derived.Test.YtmfbkbbgokjhnaaFx14
import Derived.Test.YtmfbkbbgokjhnaaFx15
import Derived.Test.YtmfbkbbgokjhnaaFx25
import Derived.Test.YtmfbkbbgokjhnaaFx27
namespace Go.Proofs.Ytmfbkbbgokjhnaa.F
open Go.RowKit Go.Proofs.YtmfbkbbgokjhnaaW.PrintWords Go.Proofs.YtmfbkbbgokjhnaaW.PrintLast Go.Proofs.YtmfbkbbgokjhnaaW.PrintMore
attribute [local go_sem] max2_int min2_int max_two min_two max_three min_three max_four min_four   -- for this text's walks alone
set_option linter.unusedVariables false
set_option linter.unusedSimpArgs false

/-! ### laws_FnExactFirstWrong: function 5 -/
def laws_FnExactFirstWrong.j0 : Nat → List (S89) → List (S32) → List (S35) → List (S94) → List (S43) → List (S45) → Bool → Option (Bool)
 | 0, _, _, _, _, _, _, _ => none
 | k + 1, x0, x1, x2, x10, x11, x12, x60 => if x60 = true then (some false) else ((laws_toClauseS.f k x0).bind fun t329 => ((laws_eqClauseS.f k x10 t329).bind fun t332 => (if t332 = true then ((laws_toEventS.f k x1).bind fun t333 => ((laws_eqEventS.f k x11 t333).bind fun t336 => (if t336 = true then ((laws_toDecisionS.f k x2).bind fun t337 => ((laws_eqDecisionS.f k x12 t337).bind fun t340 => (if t340 = true then (some true) else (some false)))) else (some false)))) else (some false))))
def laws_FnExactFirstWrong.f (k : Nat) (l0 : List (S89)) (l1 : List (S32)) (l2 : List (S35)) : Option (Bool) := (laws_szClauseS.f k l0 1048576).bind fun t304 => (if t304 < 0 then (some true) else ((laws_szEventS.f k l1 t304).bind fun t305 => (if t305 < 0 then (some true) else ((laws_szDecisionS.f k l2 t305).bind fun t306 => (if t306 < 0 then (some true) else ((laws_toClauseS.f k l0).bind fun t307 => ((laws_toEventS.f k l1).bind fun t310 => ((laws_toDecisionS.f k l2).bind fun t313 => ((spec_FirstWrong.f k t307 t310 t313).bind fun bt316 => ((laws_toClauseS.f k l0).bind fun t318 => ((laws_toEventS.f k l1).bind fun t321 => ((laws_toDecisionS.f k l2).bind fun t324 => ((impl_FirstWrong.f k t318 t321 t324).bind fun bt327 => (if bt327.1 = bt316.1 then (laws_FnExactFirstWrong.j0 k l0 l1 l2 t318 t321 t324 (bt327.2 != bt316.2)) else (laws_FnExactFirstWrong.j0 k l0 l1 l2 t318 t321 t324 true)))))))))))))))
theorem laws_FnExactFirstWrong.mono_l : ∀ k, (∀ y0 y1 y2 y3 y4 y5 y6, LeO (laws_FnExactFirstWrong.j0 k y0 y1 y2 y3 y4 y5 y6) (laws_FnExactFirstWrong.j0 (k + 1) y0 y1 y2 y3 y4 y5 y6))
 | 0 => fun _ _ _ _ _ _ _ r h => by simp [laws_FnExactFirstWrong.j0] at h
 | k + 1 => by
  have ih0 := laws_FnExactFirstWrong.mono_l k
  · intro y0 y1 y2 y3 y4 y5 y6
    unfold laws_FnExactFirstWrong.j0
    repeat' first
    | (with_reducible exact ih0 _ _ _ _ _ _ _)
    | (with_reducible exact impl_FirstWrong.mono _ _ _ _)
    | (with_reducible exact laws_eqClauseS.mono _ _ _)
    | (with_reducible exact laws_eqDecisionS.mono _ _ _)
    | (with_reducible exact laws_eqEventS.mono _ _ _)
    | (with_reducible exact laws_szClauseS.mono _ _ _)
    | (with_reducible exact laws_szDecisionS.mono _ _ _)
    | (with_reducible exact laws_szEventS.mono _ _ _)
    | (with_reducible exact laws_toClauseS.mono _ _)
    | (with_reducible exact laws_toDecisionS.mono _ _)
    | (with_reducible exact laws_toEventS.mono _ _)
    | (with_reducible exact spec_FirstWrong.mono _ _ _ _)
    | (with_reducible exact LeO.refl _)
    | (with_reducible exact LeO.none _)
    | (with_reducible refine LeO.ite ?_ ?_)
    | (with_reducible refine LeO.bind ?_ (fun _ => ?_))
    | exact ih0 _ _ _ _ _ _ _
    | exact impl_FirstWrong.mono _ _ _ _
    | exact laws_eqClauseS.mono _ _ _
    | exact laws_eqDecisionS.mono _ _ _
    | exact laws_eqEventS.mono _ _ _
    | exact laws_szClauseS.mono _ _ _
    | exact laws_szDecisionS.mono _ _ _
    | exact laws_szEventS.mono _ _ _
    | exact laws_toClauseS.mono _ _
    | exact laws_toDecisionS.mono _ _
    | exact laws_toEventS.mono _ _
    | exact spec_FirstWrong.mono _ _ _ _
    | exact LeO.none _
    | refine LeO.ite ?_ ?_
    | refine LeO.bind ?_ (fun _ => ?_)
theorem laws_FnExactFirstWrong.mono : ∀ a0 a1 a2 k, LeO (laws_FnExactFirstWrong.f k a0 a1 a2) (laws_FnExactFirstWrong.f (k + 1) a0 a1 a2) := by
 intro a0 a1 a2 k
 have ih0 := laws_FnExactFirstWrong.mono_l k
 unfold laws_FnExactFirstWrong.f
 repeat' first
  | (with_reducible exact ih0 _ _ _ _ _ _ _)
  | (with_reducible exact impl_FirstWrong.mono _ _ _ _)
  | (with_reducible exact laws_eqClauseS.mono _ _ _)
  | (with_reducible exact laws_eqDecisionS.mono _ _ _)
  | (with_reducible exact laws_eqEventS.mono _ _ _)
  | (with_reducible exact laws_szClauseS.mono _ _ _)
  | (with_reducible exact laws_szDecisionS.mono _ _ _)
  | (with_reducible exact laws_szEventS.mono _ _ _)
  | (with_reducible exact laws_toClauseS.mono _ _)
  | (with_reducible exact laws_toDecisionS.mono _ _)
  | (with_reducible exact laws_toEventS.mono _ _)
  | (with_reducible exact spec_FirstWrong.mono _ _ _ _)
  | (with_reducible exact LeO.refl _)
  | (with_reducible exact LeO.none _)
  | (with_reducible refine LeO.ite ?_ ?_)
  | (with_reducible refine LeO.bind ?_ (fun _ => ?_))
  | exact ih0 _ _ _ _ _ _ _
  | exact impl_FirstWrong.mono _ _ _ _
  | exact laws_eqClauseS.mono _ _ _
  | exact laws_eqDecisionS.mono _ _ _
  | exact laws_eqEventS.mono _ _ _
  | exact laws_szClauseS.mono _ _ _
  | exact laws_szDecisionS.mono _ _ _
  | exact laws_szEventS.mono _ _ _
  | exact laws_toClauseS.mono _ _
  | exact laws_toDecisionS.mono _ _
  | exact laws_toEventS.mono _ _
  | exact spec_FirstWrong.mono _ _ _ _
  | exact LeO.none _
  | refine LeO.ite ?_ ?_
  | refine LeO.bind ?_ (fun _ => ?_)
set_option maxHeartbeats 8000000 in
set_option maxRecDepth 100000 in
theorem laws_FnExactFirstWrong.calls (k : Nat) (A0 : Option Addr) (c0 : Nat) (l0 : List (S89)) (A1 : Option Addr) (c1 : Nat) (l1 : List (S32)) (A2 : Option Addr) (c2 : Nat) (l2 : List (S35)) (r : Bool) (hrt : Aside0 (r = true)) (w : World) (hr0 : Kd.C k89 w A0 l0.length l0) (hc0 : l0.length ≤ c0) (hr1 : Kd.C k32 w A1 l1.length l1) (hc1 : l1.length ≤ c1) (hr2 : Kd.C k35 w A2 l2.length l2) (hc2 : l2.length ≤ c2) (h : laws_FnExactFirstWrong.f k l0 l1 l2 = some r) :
 Calls Try.prog 5 #[.slice A0 l0.length c0, .slice A1 l1.length c1, .slice A2 l2.length c2] w fun e w' => e = .returned (.bool r) ∧ Below w.heap.size w w' := by
 have HR0 := Aside0.mk hr0
 have HC0 := Aside0.mk hc0
 clear hr0 hc0
 have HR1 := Aside0.mk hr1
 have HC1 := Aside0.mk hc1
 clear hr1 hc1
 have HR2 := Aside0.mk hr2
 have HC2 := Aside0.mk hc2
 clear hr2 hc2
 have HB := Aside0.mk (Below.refl w.heap.size w)
 have H : ((laws_szClauseS.f k l0 1048576).bind fun t304 => (if t304 < 0 then (some true) else ((laws_szEventS.f k l1 t304).bind fun t305 => (if t305 < 0 then (some true) else ((laws_szDecisionS.f k l2 t305).bind fun t306 => (if t306 < 0 then (some true) else ((laws_toClauseS.f k l0).bind fun t307 => ((laws_toEventS.f k l1).bind fun t310 => ((laws_toDecisionS.f k l2).bind fun t313 => ((spec_FirstWrong.f k t307 t310 t313).bind fun bt316 => ((laws_toClauseS.f k l0).bind fun t318 => ((laws_toEventS.f k l1).bind fun t321 => ((laws_toDecisionS.f k l2).bind fun t324 => ((impl_FirstWrong.f k t318 t321 t324).bind fun bt327 => (if bt327.1 = bt316.1 then (laws_FnExactFirstWrong.j0 k l0 l1 l2 t318 t321 t324 (bt327.2 != bt316.2)) else (laws_FnExactFirstWrong.j0 k l0 l1 l2 t318 t321 t324 true)))))))))))))))) = some r := h
 clear h
 replace H := Option.bind_eq_some_iff.mp H
 obtain ⟨t304, A40, H⟩ := H
 replace H : (if t304 < 0 then (some true) else ((laws_szEventS.f k l1 t304).bind fun t305 => (if t305 < 0 then (some true) else ((laws_szDecisionS.f k l2 t305).bind fun t306 => (if t306 < 0 then (some true) else ((laws_toClauseS.f k l0).bind fun t307 => ((laws_toEventS.f k l1).bind fun t310 => ((laws_toDecisionS.f k l2).bind fun t313 => ((spec_FirstWrong.f k t307 t310 t313).bind fun bt316 => ((laws_toClauseS.f k l0).bind fun t318 => ((laws_toEventS.f k l1).bind fun t321 => ((laws_toDecisionS.f k l2).bind fun t324 => ((impl_FirstWrong.f k t318 t321 t324).bind fun bt327 => (if bt327.1 = bt316.1 then (laws_FnExactFirstWrong.j0 k l0 l1 l2 t318 t321 t324 (bt327.2 != bt316.2)) else (laws_FnExactFirstWrong.j0 k l0 l1 l2 t318 t321 t324 true))))))))))))))) = some r := H
 have A4 := Aside0.mk A40
 clear A40
 by_cases c5 : t304 < 0
 · rw [if_pos c5] at H
   have c5b0 : decide (t304 < 0) = true := decide_eq_true c5
   clear c5
   obtain rfl := Option.some.inj H
   go_enter Try.func5, Try.ntmps5
   go_wp2_with (first | ((with_reducible refine gate_callee (f := 14) rfl ?_); refine gl_ 17 Try.func14 #[.slice A0 l0.length c0, .int .i64 1048576] ?_; (with_reducible refine (laws_szClauseS.calls k _ _ l0 1048576 t304 _ ?side1 ?side2 A4.out).mono ?_); (case side1 => repeat (first | exact HR0.out | (with_reducible refine Kd.C_alloc ?_ _) | (with_reducible refine Kd.C_drewN ?_ _) | (with_reducible refine Kd.C_drew ?_))); (case side2 => exact HC0.out); rintro e w6 ⟨rfl, hb⟩; refine ⟨_, rfl, ?_⟩; have n0_ := Aside0.mk (bs_ hb); clear HB; revert n0_; intro HB; (try clear hb); (try clear hb2); (try clear hk); (try clear hi)))
   go_ret
   exact ⟨by first | rfl | (simp [errW_none, errW_some] <;> rfl) | (simp [*, errW_none, errW_some] <;> rfl), bb_⟩
 · rw [if_neg c5] at H
   have c5b0 : decide (t304 < 0) = false := decide_eq_false c5
   clear c5
   replace H := Option.bind_eq_some_iff.mp H
   obtain ⟨t305, A70, H⟩ := H
   replace H : (if t305 < 0 then (some true) else ((laws_szDecisionS.f k l2 t305).bind fun t306 => (if t306 < 0 then (some true) else ((laws_toClauseS.f k l0).bind fun t307 => ((laws_toEventS.f k l1).bind fun t310 => ((laws_toDecisionS.f k l2).bind fun t313 => ((spec_FirstWrong.f k t307 t310 t313).bind fun bt316 => ((laws_toClauseS.f k l0).bind fun t318 => ((laws_toEventS.f k l1).bind fun t321 => ((laws_toDecisionS.f k l2).bind fun t324 => ((impl_FirstWrong.f k t318 t321 t324).bind fun bt327 => (if bt327.1 = bt316.1 then (laws_FnExactFirstWrong.j0 k l0 l1 l2 t318 t321 t324 (bt327.2 != bt316.2)) else (laws_FnExactFirstWrong.j0 k l0 l1 l2 t318 t321 t324 true))))))))))))) = some r := H
   have A7 := Aside0.mk A70
   clear A70
   by_cases c8 : t305 < 0
   · rw [if_pos c8] at H
     have c8b0 : decide (t305 < 0) = true := decide_eq_true c8
     clear c8
     obtain rfl := Option.some.inj H
     go_enter Try.func5, Try.ntmps5
     go_wp2_with (first | ((with_reducible refine gate_callee (f := 14) rfl ?_); refine gl_ 17 Try.func14 #[.slice A0 l0.length c0, .int .i64 1048576] ?_; (with_reducible refine (laws_szClauseS.calls k _ _ l0 1048576 t304 _ ?side1 ?side2 A4.out).mono ?_); (case side1 => repeat (first | exact HR0.out | (with_reducible refine Kd.C_alloc ?_ _) | (with_reducible refine Kd.C_drewN ?_ _) | (with_reducible refine Kd.C_drew ?_))); (case side2 => exact HC0.out); rintro e w9 ⟨rfl, hb⟩; refine ⟨_, rfl, ?_⟩; have n0_ := Aside0.mk (bs_ hb); clear HB; revert n0_; intro HB; (try clear hb); (try clear hb2); (try clear hk); (try clear hi)) | ((with_reducible refine gate_callee (f := 24) rfl ?_); refine gl_ 22 Try.func24 #[.slice A1 l1.length c1, .int .i64 t304] ?_; (with_reducible refine (laws_szEventS.calls k _ _ l1 t304 t305 _ ?side1 ?side2 A7.out).mono ?_); (case side1 => repeat (first | exact (Kd.C_below HR1.out HB.out) | (with_reducible refine Kd.C_alloc ?_ _) | (with_reducible refine Kd.C_drewN ?_ _) | (with_reducible refine Kd.C_drew ?_))); (case side2 => exact HC1.out); rintro e w10 ⟨rfl, hb⟩; refine ⟨_, rfl, ?_⟩; have n0_ := Aside0.mk (bs_ hb); clear HB; revert n0_; intro HB; (try clear hb); (try clear hb2); (try clear hk); (try clear hi)))
     go_ret
     exact ⟨by first | rfl | (simp [errW_none, errW_some] <;> rfl) | (simp [*, errW_none, errW_some] <;> rfl), bb_⟩
   · rw [if_neg c8] at H
     have c8b0 : decide (t305 < 0) = false := decide_eq_false c8
     clear c8
     replace H := Option.bind_eq_some_iff.mp H
     obtain ⟨t306, A110, H⟩ := H
     replace H : (if t306 < 0 then (some true) else ((laws_toClauseS.f k l0).bind fun t307 => ((laws_toEventS.f k l1).bind fun t310 => ((laws_toDecisionS.f k l2).bind fun t313 => ((spec_FirstWrong.f k t307 t310 t313).bind fun bt316 => ((laws_toClauseS.f k l0).bind fun t318 => ((laws_toEventS.f k l1).bind fun t321 => ((laws_toDecisionS.f k l2).bind fun t324 => ((impl_FirstWrong.f k t318 t321 t324).bind fun bt327 => (if bt327.1 = bt316.1 then (laws_FnExactFirstWrong.j0 k l0 l1 l2 t318 t321 t324 (bt327.2 != bt316.2)) else (laws_FnExactFirstWrong.j0 k l0 l1 l2 t318 t321 t324 true))))))))))) = some r := H
     have A11 := Aside0.mk A110
     clear A110
     by_cases c12 : t306 < 0
     · rw [if_pos c12] at H
       have c12b0 : decide (t306 < 0) = true := decide_eq_true c12
       clear c12
       obtain rfl := Option.some.inj H
       go_enter Try.func5, Try.ntmps5
       go_wp2_with (first | ((with_reducible refine gate_callee (f := 14) rfl ?_); refine gl_ 17 Try.func14 #[.slice A0 l0.length c0, .int .i64 1048576] ?_; (with_reducible refine (laws_szClauseS.calls k _ _ l0 1048576 t304 _ ?side1 ?side2 A4.out).mono ?_); (case side1 => repeat (first | exact HR0.out | (with_reducible refine Kd.C_alloc ?_ _) | (with_reducible refine Kd.C_drewN ?_ _) | (with_reducible refine Kd.C_drew ?_))); (case side2 => exact HC0.out); rintro e w13 ⟨rfl, hb⟩; refine ⟨_, rfl, ?_⟩; have n0_ := Aside0.mk (bs_ hb); clear HB; revert n0_; intro HB; (try clear hb); (try clear hb2); (try clear hk); (try clear hi)) | ((with_reducible refine gate_callee (f := 24) rfl ?_); refine gl_ 22 Try.func24 #[.slice A1 l1.length c1, .int .i64 t304] ?_; (with_reducible refine (laws_szEventS.calls k _ _ l1 t304 t305 _ ?side1 ?side2 A7.out).mono ?_); (case side1 => repeat (first | exact (Kd.C_below HR1.out HB.out) | (with_reducible refine Kd.C_alloc ?_ _) | (with_reducible refine Kd.C_drewN ?_ _) | (with_reducible refine Kd.C_drew ?_))); (case side2 => exact HC1.out); rintro e w14 ⟨rfl, hb⟩; refine ⟨_, rfl, ?_⟩; have n0_ := Aside0.mk (bs_ hb); clear HB; revert n0_; intro HB; (try clear hb); (try clear hb2); (try clear hk); (try clear hi)) | ((with_reducible refine gate_callee (f := 25) rfl ?_); refine gl_ 27 Try.func25 #[.slice A2 l2.length c2, .int .i64 t305] ?_; (with_reducible refine (laws_szDecisionS.calls k _ _ l2 t305 t306 _ ?side1 ?side2 A11.out).mono ?_); (case side1 => repeat (first | exact (Kd.C_below HR2.out HB.out) | (with_reducible refine Kd.C_alloc ?_ _) | (with_reducible refine Kd.C_drewN ?_ _) | (with_reducible refine Kd.C_drew ?_))); (case side2 => exact HC2.out); rintro e w15 ⟨rfl, hb⟩; refine ⟨_, rfl, ?_⟩; have n0_ := Aside0.mk (bs_ hb); clear HB; revert n0_; intro HB; (try clear hb); (try clear hb2); (try clear hk); (try clear hi)))
       go_ret
       exact ⟨by first | rfl | (simp [errW_none, errW_some] <;> rfl) | (simp [*, errW_none, errW_some] <;> rfl), bb_⟩
     · rw [if_neg c12] at H
       have c12b0 : decide (t306 < 0) = false := decide_eq_false c12
       clear c12
       replace H := Option.bind_eq_some_iff.mp H
       obtain ⟨t307, A160, H⟩ := H
       replace H : ((laws_toEventS.f k l1).bind fun t310 => ((laws_toDecisionS.f k l2).bind fun t313 => ((spec_FirstWrong.f k t307 t310 t313).bind fun bt316 => ((laws_toClauseS.f k l0).bind fun t318 => ((laws_toEventS.f k l1).bind fun t321 => ((laws_toDecisionS.f k l2).bind fun t324 => ((impl_FirstWrong.f k t318 t321 t324).bind fun bt327 => (if bt327.1 = bt316.1 then (laws_FnExactFirstWrong.j0 k l0 l1 l2 t318 t321 t324 (bt327.2 != bt316.2)) else (laws_FnExactFirstWrong.j0 k l0 l1 l2 t318 t321 t324 true))))))))) = some r := H
       have A16 := Aside0.mk A160
       clear A160
       replace H := Option.bind_eq_some_iff.mp H
       obtain ⟨t310, A170, H⟩ := H
       replace H : ((laws_toDecisionS.f k l2).bind fun t313 => ((spec_FirstWrong.f k t307 t310 t313).bind fun bt316 => ((laws_toClauseS.f k l0).bind fun t318 => ((laws_toEventS.f k l1).bind fun t321 => ((laws_toDecisionS.f k l2).bind fun t324 => ((impl_FirstWrong.f k t318 t321 t324).bind fun bt327 => (if bt327.1 = bt316.1 then (laws_FnExactFirstWrong.j0 k l0 l1 l2 t318 t321 t324 (bt327.2 != bt316.2)) else (laws_FnExactFirstWrong.j0 k l0 l1 l2 t318 t321 t324 true)))))))) = some r := H
       have A17 := Aside0.mk A170
       clear A170
       replace H := Option.bind_eq_some_iff.mp H
       obtain ⟨t313, A180, H⟩ := H
       replace H : ((spec_FirstWrong.f k t307 t310 t313).bind fun bt316 => ((laws_toClauseS.f k l0).bind fun t318 => ((laws_toEventS.f k l1).bind fun t321 => ((laws_toDecisionS.f k l2).bind fun t324 => ((impl_FirstWrong.f k t318 t321 t324).bind fun bt327 => (if bt327.1 = bt316.1 then (laws_FnExactFirstWrong.j0 k l0 l1 l2 t318 t321 t324 (bt327.2 != bt316.2)) else (laws_FnExactFirstWrong.j0 k l0 l1 l2 t318 t321 t324 true))))))) = some r := H
       have A18 := Aside0.mk A180
       clear A180
       replace H := Option.bind_eq_some_iff.mp H
       obtain ⟨⟨t316, t317⟩, A190, H⟩ := H
       replace H : ((laws_toClauseS.f k l0).bind fun t318 => ((laws_toEventS.f k l1).bind fun t321 => ((laws_toDecisionS.f k l2).bind fun t324 => ((impl_FirstWrong.f k t318 t321 t324).bind fun bt327 => (if bt327.1 = t316 then (laws_FnExactFirstWrong.j0 k l0 l1 l2 t318 t321 t324 (bt327.2 != t317)) else (laws_FnExactFirstWrong.j0 k l0 l1 l2 t318 t321 t324 true)))))) = some r := H
       have A19 := Aside0.mk A190
       clear A190
       replace H := Option.bind_eq_some_iff.mp H
       obtain ⟨t318, A200, H⟩ := H
       replace H : ((laws_toEventS.f k l1).bind fun t321 => ((laws_toDecisionS.f k l2).bind fun t324 => ((impl_FirstWrong.f k t318 t321 t324).bind fun bt327 => (if bt327.1 = t316 then (laws_FnExactFirstWrong.j0 k l0 l1 l2 t318 t321 t324 (bt327.2 != t317)) else (laws_FnExactFirstWrong.j0 k l0 l1 l2 t318 t321 t324 true))))) = some r := H
       have A20 := Aside0.mk A200
       clear A200
       replace H := Option.bind_eq_some_iff.mp H
       obtain ⟨t321, A210, H⟩ := H
       replace H : ((laws_toDecisionS.f k l2).bind fun t324 => ((impl_FirstWrong.f k t318 t321 t324).bind fun bt327 => (if bt327.1 = t316 then (laws_FnExactFirstWrong.j0 k l0 l1 l2 t318 t321 t324 (bt327.2 != t317)) else (laws_FnExactFirstWrong.j0 k l0 l1 l2 t318 t321 t324 true)))) = some r := H
       have A21 := Aside0.mk A210
       clear A210
       replace H := Option.bind_eq_some_iff.mp H
       obtain ⟨t324, A220, H⟩ := H
       replace H : ((impl_FirstWrong.f k t318 t321 t324).bind fun bt327 => (if bt327.1 = t316 then (laws_FnExactFirstWrong.j0 k l0 l1 l2 t318 t321 t324 (bt327.2 != t317)) else (laws_FnExactFirstWrong.j0 k l0 l1 l2 t318 t321 t324 true))) = some r := H
       have A22 := Aside0.mk A220
       clear A220
       replace H := Option.bind_eq_some_iff.mp H
       obtain ⟨⟨t327, t328⟩, A230, H⟩ := H
       replace H : (if t327 = t316 then (laws_FnExactFirstWrong.j0 k l0 l1 l2 t318 t321 t324 (t328 != t317)) else (laws_FnExactFirstWrong.j0 k l0 l1 l2 t318 t321 t324 true)) = some r := H
       have A23 := Aside0.mk A230
       clear A230
       have HC24 := Aside0.mk H
       clear H
       go_enter Try.func5, Try.ntmps5
       go_upto_region 16 with (first | ((with_reducible refine gate_callee (f := 14) rfl ?_); refine gl_ 17 Try.func14 #[.slice A0 l0.length c0, .int .i64 1048576] ?_; (with_reducible refine (laws_szClauseS.calls k _ _ l0 1048576 t304 _ ?side1 ?side2 A4.out).mono ?_); (case side1 => repeat (first | exact HR0.out | (with_reducible refine Kd.C_alloc ?_ _) | (with_reducible refine Kd.C_drewN ?_ _) | (with_reducible refine Kd.C_drew ?_))); (case side2 => exact HC0.out); rintro e w25 ⟨rfl, hb⟩; refine ⟨_, rfl, ?_⟩; have n0_ := Aside0.mk (bs_ hb); clear HB; revert n0_; intro HB; (try clear hb); (try clear hb2); (try clear hk); (try clear hi)) | ((with_reducible refine gate_callee (f := 24) rfl ?_); refine gl_ 22 Try.func24 #[.slice A1 l1.length c1, .int .i64 t304] ?_; (with_reducible refine (laws_szEventS.calls k _ _ l1 t304 t305 _ ?side1 ?side2 A7.out).mono ?_); (case side1 => repeat (first | exact (Kd.C_below HR1.out HB.out) | (with_reducible refine Kd.C_alloc ?_ _) | (with_reducible refine Kd.C_drewN ?_ _) | (with_reducible refine Kd.C_drew ?_))); (case side2 => exact HC1.out); rintro e w26 ⟨rfl, hb⟩; refine ⟨_, rfl, ?_⟩; have n0_ := Aside0.mk (bs_ hb); clear HB; revert n0_; intro HB; (try clear hb); (try clear hb2); (try clear hk); (try clear hi)) | ((with_reducible refine gate_callee (f := 25) rfl ?_); refine gl_ 27 Try.func25 #[.slice A2 l2.length c2, .int .i64 t305] ?_; (with_reducible refine (laws_szDecisionS.calls k _ _ l2 t305 t306 _ ?side1 ?side2 A11.out).mono ?_); (case side1 => repeat (first | exact (Kd.C_below HR2.out HB.out) | (with_reducible refine Kd.C_alloc ?_ _) | (with_reducible refine Kd.C_drewN ?_ _) | (with_reducible refine Kd.C_drew ?_))); (case side2 => exact HC2.out); rintro e w27 ⟨rfl, hb⟩; refine ⟨_, rfl, ?_⟩; have n0_ := Aside0.mk (bs_ hb); clear HB; revert n0_; intro HB; (try clear hb); (try clear hb2); (try clear hk); (try clear hi)) | ((with_reducible refine gate_callee (f := 18) rfl ?_); refine gl_ 32 Try.func18 #[.slice A0 l0.length c0] ?_; (with_reducible refine (laws_toClauseS.calls k _ _ l0 t307 _ ?side1 ?side2 A16.out).mono ?_); (case side1 => repeat (first | exact (Kd.C_below HR0.out HB.out) | (with_reducible refine Kd.C_alloc ?_ _) | (with_reducible refine Kd.C_drewN ?_ _) | (with_reducible refine Kd.C_drew ?_))); (case side2 => exact HC0.out); rintro e w28 ⟨v308, rfl, ho0, hb⟩; refine ⟨_, rfl, ?_⟩; have n0_ := Aside0.mk (Kd.R_lower ho0 (bz_)); have n1_ := Aside0.mk (bs_ hb); clear HB; revert n0_ n1_; intro HO309 HB; (try clear hb); (try clear hb2); (try clear hk); (try clear hi); (try clear ho0)) | ((with_reducible refine gate_callee (f := 27) rfl ?_); refine gl_ 34 Try.func27 #[.slice A1 l1.length c1] ?_; (with_reducible refine (laws_toEventS.calls k _ _ l1 t310 _ ?side1 ?side2 A17.out).mono ?_); (case side1 => repeat (first | exact (Kd.C_below HR1.out HB.out) | (with_reducible refine Kd.C_alloc ?_ _) | (with_reducible refine Kd.C_drewN ?_ _) | (with_reducible refine Kd.C_drew ?_))); (case side2 => exact HC1.out); rintro e w29 ⟨v311, rfl, ho0, hb⟩; refine ⟨_, rfl, ?_⟩; have n0_ := Aside0.mk (Kd.R_below (rm_ HO309) hb); have n1_ := Aside0.mk (Kd.R_lower ho0 (bz_)); have n2_ := Aside0.mk (bs_ hb); clear HO309 HB; revert n0_ n1_ n2_; intro HO309 HO312 HB; (try clear hb); (try clear hb2); (try clear hk); (try clear hi); (try clear ho0)) | ((with_reducible refine gate_callee (f := 28) rfl ?_); refine gl_ 36 Try.func28 #[.slice A2 l2.length c2] ?_; (with_reducible refine (laws_toDecisionS.calls k _ _ l2 t313 _ ?side1 ?side2 A18.out).mono ?_); (case side1 => repeat (first | exact (Kd.C_below HR2.out HB.out) | (with_reducible refine Kd.C_alloc ?_ _) | (with_reducible refine Kd.C_drewN ?_ _) | (with_reducible refine Kd.C_drew ?_))); (case side2 => exact HC2.out); rintro e w30 ⟨v314, rfl, ho0, hb⟩; refine ⟨_, rfl, ?_⟩; have n0_ := Aside0.mk (Kd.R_below (rm_ HO309) hb); have n1_ := Aside0.mk (Kd.R_below (rm_ HO312) hb); have n2_ := Aside0.mk (Kd.S_lower ho0 (bz_)); have n3_ := Aside0.mk (bs_ hb); clear HO309 HO312 HB; revert n0_ n1_ n2_ n3_; intro HO309 HO312 HO315 HB; (try clear hb); (try clear hb2); (try clear hk); (try clear hi); (try clear ho0); obtain ⟨Ao31, co31, eo31⟩ := Kd.R_slice HO309.out; subst eo31; obtain ⟨Ao32, co32, eo32⟩ := Kd.R_slice HO312.out; subst eo32; obtain ⟨Ao33, co33, eo33⟩ := Kd.S_slice HO315.out; subst eo33) | ((with_reducible refine gate_callee (f := 26) rfl ?_); refine gl_ 37 Try.func26 #[.slice Ao31 t307.length co31, .slice Ao32 t310.length co32, .slice Ao33 t313.length co33] ?_; (with_reducible refine (spec_FirstWrong.calls k _ _ t307 _ _ t310 _ _ t313 t316 t317 _ ?side1 ?side2 ?side3 ?side4 ?side5 ?side6 A19.out).mono ?_); (case side1 => repeat (first | exact (Kd.R_reads' HO309.out).2.2 | (with_reducible refine Kd.C_alloc ?_ _) | (with_reducible refine Kd.C_drewN ?_ _) | (with_reducible refine Kd.C_drew ?_))); (case side2 => exact (Kd.R_reads' HO309.out).2.1); (case side3 => repeat (first | exact (Kd.R_reads' HO312.out).2.2 | (with_reducible refine Kd.C_alloc ?_ _) | (with_reducible refine Kd.C_drewN ?_ _) | (with_reducible refine Kd.C_drew ?_))); (case side4 => exact (Kd.R_reads' HO312.out).2.1); (case side5 => repeat (first | exact (Kd.S_reads' HO315.out).2.2 | (with_reducible refine Kd.C_alloc ?_ _) | (with_reducible refine Kd.C_drewN ?_ _) | (with_reducible refine Kd.C_drew ?_))); (case side6 => exact (Kd.S_reads' HO315.out).2.1); rintro e w34 ⟨rfl, hb⟩; refine ⟨_, rfl, ?_⟩; have n0_ := Aside0.mk (Kd.R_below (rm_ HO309) hb); have n1_ := Aside0.mk (Kd.R_below (rm_ HO312) hb); have n2_ := Aside0.mk (Kd.S_below (by (with_reducible repeat (first | apply Kd.S_alloc | apply Kd.S_drewN | apply Kd.S_drew)); exact HO315.out) hb); have n3_ := Aside0.mk (bs_ hb); clear HO309 HO312 HO315 HB; revert n0_ n1_ n2_ n3_; intro HO309 HO312 HO315 HB; (try clear hb); (try clear hb2); (try clear hk); (try clear hi)) | ((with_reducible refine gate_callee (f := 18) rfl ?_); refine gl_ 41 Try.func18 #[.slice A0 l0.length c0] ?_; (with_reducible refine (laws_toClauseS.calls k _ _ l0 t318 _ ?side1 ?side2 A20.out).mono ?_); (case side1 => repeat (first | exact (Kd.C_below HR0.out HB.out) | (with_reducible refine Kd.C_alloc ?_ _) | (with_reducible refine Kd.C_drewN ?_ _) | (with_reducible refine Kd.C_drew ?_))); (case side2 => exact HC0.out); rintro e w35 ⟨v319, rfl, ho0, hb⟩; refine ⟨_, rfl, ?_⟩; have n0_ := Aside0.mk (Kd.R_elder' (rm_ HO309) (Kd.R_base ho0) hb); have n1_ := Aside0.mk (Kd.R_below (rm_ HO312) hb); have n2_ := Aside0.mk (Kd.S_below (by (with_reducible repeat (first | apply Kd.S_alloc | apply Kd.S_drewN | apply Kd.S_drew)); exact HO315.out) hb); have n3_ := Aside0.mk (Kd.R_lower (Kd.R_new' ho0 (Kd.R_lt (rm_ HO309))) (bz_)); have n4_ := Aside0.mk (bs_ hb); clear HO309 HO312 HO315 HB; revert n0_ n1_ n2_ n3_ n4_; intro HO309 HO312 HO315 HO320 HB; (try clear hb); (try clear hb2); (try clear hk); (try clear hi); (try clear ho0)) | ((with_reducible refine gate_callee (f := 27) rfl ?_); refine gl_ 43 Try.func27 #[.slice A1 l1.length c1] ?_; (with_reducible refine (laws_toEventS.calls k _ _ l1 t321 _ ?side1 ?side2 A21.out).mono ?_); (case side1 => repeat (first | exact (Kd.C_below HR1.out HB.out) | (with_reducible refine Kd.C_alloc ?_ _) | (with_reducible refine Kd.C_drewN ?_ _) | (with_reducible refine Kd.C_drew ?_))); (case side2 => exact HC1.out); rintro e w36 ⟨v322, rfl, ho0, hb⟩; refine ⟨_, rfl, ?_⟩; have n0_ := Aside0.mk (Kd.R_below (rm_ HO309) hb); have n1_ := Aside0.mk (Kd.R_elder' (rm_ HO312) (Kd.R_base ho0) hb); have n2_ := Aside0.mk (Kd.S_below (by (with_reducible repeat (first | apply Kd.S_alloc | apply Kd.S_drewN | apply Kd.S_drew)); exact HO315.out) hb); have n3_ := Aside0.mk (Kd.R_below (rm_ HO320) hb); have n4_ := Aside0.mk (Kd.R_lower (Kd.R_new' ho0 (Kd.R_lt (rm_ HO312))) (bz_)); have n5_ := Aside0.mk (bs_ hb); clear HO309 HO312 HO315 HO320 HB; revert n0_ n1_ n2_ n3_ n4_ n5_; intro HO309 HO312 HO315 HO320 HO323 HB; (try clear hb); (try clear hb2); (try clear hk); (try clear hi); (try clear ho0)) | ((with_reducible refine gate_callee (f := 28) rfl ?_); refine gl_ 45 Try.func28 #[.slice A2 l2.length c2] ?_; (with_reducible refine (laws_toDecisionS.calls k _ _ l2 t324 _ ?side1 ?side2 A22.out).mono ?_); (case side1 => repeat (first | exact (Kd.C_below HR2.out HB.out) | (with_reducible refine Kd.C_alloc ?_ _) | (with_reducible refine Kd.C_drewN ?_ _) | (with_reducible refine Kd.C_drew ?_))); (case side2 => exact HC2.out); rintro e w37 ⟨v325, rfl, ho0, hb⟩; refine ⟨_, rfl, ?_⟩; have n0_ := Aside0.mk (Kd.R_below (rm_ HO309) hb); have n1_ := Aside0.mk (Kd.R_below (rm_ HO312) hb); have n2_ := Aside0.mk (Kd.S_elder' (by (with_reducible repeat (first | apply Kd.S_alloc | apply Kd.S_drewN | apply Kd.S_drew)); exact HO315.out) (Kd.S_base ho0) hb); have n3_ := Aside0.mk (Kd.R_below (rm_ HO320) hb); have n4_ := Aside0.mk (Kd.R_below (rm_ HO323) hb); have n5_ := Aside0.mk (Kd.S_lower (Kd.S_new' ho0 (Kd.S_lt (by (with_reducible repeat (first | apply Kd.S_alloc | apply Kd.S_drewN | apply Kd.S_drew)); exact HO315.out))) (bz_)); have n6_ := Aside0.mk (bs_ hb); clear HO309 HO312 HO315 HO320 HO323 HB; revert n0_ n1_ n2_ n3_ n4_ n5_ n6_; intro HO309 HO312 HO315 HO320 HO323 HO326 HB; (try clear hb); (try clear hb2); (try clear hk); (try clear hi); (try clear ho0); obtain ⟨Ao38, co38, eo38⟩ := Kd.R_slice HO320.out; subst eo38; obtain ⟨Ao39, co39, eo39⟩ := Kd.R_slice HO323.out; subst eo39; obtain ⟨Ao40, co40, eo40⟩ := Kd.S_slice HO326.out; subst eo40) | ((with_reducible refine gate_callee (f := 29) rfl ?_); refine gl_ 50 Try.func29 #[.slice Ao38 t318.length co38, .slice Ao39 t321.length co39, .slice Ao40 t324.length co40] ?_; (with_reducible refine (impl_FirstWrong.calls k _ _ t318 _ _ t321 _ _ t324 t327 t328 _ ?side1 ?side2 ?side3 ?side4 ?side5 ?side6 A23.out).mono ?_); (case side1 => repeat (first | exact (Kd.R_reads' HO320.out).2.2 | (with_reducible refine Kd.C_alloc ?_ _) | (with_reducible refine Kd.C_drewN ?_ _) | (with_reducible refine Kd.C_drew ?_))); (case side2 => exact (Kd.R_reads' HO320.out).2.1); (case side3 => repeat (first | exact (Kd.R_reads' HO323.out).2.2 | (with_reducible refine Kd.C_alloc ?_ _) | (with_reducible refine Kd.C_drewN ?_ _) | (with_reducible refine Kd.C_drew ?_))); (case side4 => exact (Kd.R_reads' HO323.out).2.1); (case side5 => repeat (first | exact (Kd.S_reads' HO326.out).2.2 | (with_reducible refine Kd.C_alloc ?_ _) | (with_reducible refine Kd.C_drewN ?_ _) | (with_reducible refine Kd.C_drew ?_))); (case side6 => exact (Kd.S_reads' HO326.out).2.1); rintro e w41 ⟨rfl, hb⟩; refine ⟨_, rfl, ?_⟩; have n0_ := Aside0.mk (Kd.R_below (rm_ HO309) hb); have n1_ := Aside0.mk (Kd.R_below (rm_ HO312) hb); have n2_ := Aside0.mk (Kd.S_below (by (with_reducible repeat (first | apply Kd.S_alloc | apply Kd.S_drewN | apply Kd.S_drew)); exact HO315.out) hb); have n3_ := Aside0.mk (Kd.R_below (rm_ HO320) hb); have n4_ := Aside0.mk (Kd.R_below (rm_ HO323) hb); have n5_ := Aside0.mk (Kd.S_below (by (with_reducible repeat (first | apply Kd.S_alloc | apply Kd.S_drewN | apply Kd.S_drew)); exact HO326.out) hb); have n6_ := Aside0.mk (bs_ hb); clear HO309 HO312 HO315 HO320 HO323 HO326 HB; revert n0_ n1_ n2_ n3_ n4_ n5_ n6_; intro HO309 HO312 HO315 HO320 HO323 HO326 HB; (try clear hb); (try clear hb2); (try clear hk); (try clear hi)))
       (try simp only [Act.put, List.setIfInBounds_toArray, List.set_cons_zero, List.set_cons_succ])
       go_cut [60] (fun v60 wc => ∃ (kq : Nat) (x60_23 : Bool), v60 = .bool x60_23 ∧ Aside0 (laws_FnExactFirstWrong.j0 kq l0 l1 l2 t318 t321 t324 x60_23 = some r) ∧ Aside0 (kq ≤ k) ∧ Aside0 (Kd.R k94 94 wc w.heap.size (fun _ => True) (.slice Ao38 t318.length co38) t318) ∧ Aside0 (Kd.R k43 43 wc w.heap.size (fun _ => True) (.slice Ao39 t321.length co39) t321) ∧ Aside0 (Kd.S k45 45 wc w.heap.size (fun _ => True) (.slice Ao40 t324.length co40) t324) ∧ Aside0 (Below w.heap.size w wc))
       case first =>
        have H := HC24.out
        clear HC24
        by_cases c42 : t327 = t316
        · rw [if_pos c42] at H
          have c42b0 : (t327 == t316) = true := beq_iff_eq.mpr c42
          have c42b1 : (t327 != t316) = false := bne_eq_false_iff_eq.mpr c42
          clear c42
          (first | rw [c42b0] | (simp only [i64_w, i32_w]; rw [c42b0]) | skip)
          have H' := Aside0.mk H
          clear H
          go_wp2
          go_meet
          case rel => exact ⟨_, ((t328 != t317)), (by first | rfl | (simp; done) | (simp [*]; done)), H', ⟨by first | omega | exact Nat.le_refl _⟩, ⟨by (with_reducible repeat (first | apply Kd.R_alloc | apply Kd.R_drewN | apply Kd.R_drew)); exact Kd.R_mono HO320.out (fun _ hk => trivial)⟩, ⟨by (with_reducible repeat (first | apply Kd.R_alloc | apply Kd.R_drewN | apply Kd.R_drew)); exact Kd.R_mono HO323.out (fun _ hk => trivial)⟩, ⟨by (with_reducible repeat (first | apply Kd.S_alloc | apply Kd.S_drewN | apply Kd.S_drew)); exact Kd.S_mono HO326.out (fun _ hk => trivial)⟩, ⟨bb_⟩⟩
        · rw [if_neg c42] at H
          have c42b0 : (t327 == t316) = false := beq_eq_false_iff_ne.mpr c42
          have c42b1 : (t327 != t316) = true := bne_iff_ne.mpr c42
          (first | rw [c42b0] | (simp only [i64_w, i32_w]; rw [c42b0]) | skip)
          have H' := Aside0.mk H
          clear H
          go_wp2
          go_meet
          case rel => exact ⟨_, (true), (by first | rfl | (simp; done) | (simp [*]; done)), H', ⟨by first | omega | exact Nat.le_refl _⟩, ⟨by (with_reducible repeat (first | apply Kd.R_alloc | apply Kd.R_drewN | apply Kd.R_drew)); exact Kd.R_mono HO320.out (fun _ hk => trivial)⟩, ⟨by (with_reducible repeat (first | apply Kd.R_alloc | apply Kd.R_drewN | apply Kd.R_drew)); exact Kd.R_mono HO323.out (fun _ hk => trivial)⟩, ⟨by (with_reducible repeat (first | apply Kd.S_alloc | apply Kd.S_drewN | apply Kd.S_drew)); exact Kd.S_mono HO326.out (fun _ hk => trivial)⟩, ⟨bb_⟩⟩
       case rest =>
        clear HC24
        try clear c1
        try clear c2
        try clear p2
        try clear c4
        try clear c5
        try clear c5b0
        try clear c8
        try clear c8b0
        try clear c12
        try clear c12b0
        try clear c14
        try clear c18
        try clear c24
        try clear c25
        try clear c26
        try clear c27
        try clear c28
        try clear c29
        try clear c42
        try clear c42b0
        try clear c42b1
        obtain ⟨kq, x60_23, rfl, HA, HJ23, HO_10, HO_11, HO_12, HB⟩ := hcut
        cases kq with
        | zero => exact absurd HA.out (by simp [laws_FnExactFirstWrong.j0])
        | succ kj23 =>
         have H := HA.out
         clear HA
         simp only [laws_FnExactFirstWrong.j0] at H
         by_cases c43 : x60_23 = true
         · subst c43
           have H1 : (some false) = some r := by rw [if_pos rfl] at H; exact H
           clear H
           have H := H1
           clear H1
           rw [hrt.out] at H; cases H
         · replace c43 := Bool.eq_false_iff.mpr c43
           subst c43
           have H1 : ((laws_toClauseS.f kj23 l0).bind fun t329 => ((laws_eqClauseS.f kj23 t318 t329).bind fun t332 => (if t332 = true then ((laws_toEventS.f kj23 l1).bind fun t333 => ((laws_eqEventS.f kj23 t321 t333).bind fun t336 => (if t336 = true then ((laws_toDecisionS.f kj23 l2).bind fun t337 => ((laws_eqDecisionS.f kj23 t324 t337).bind fun t340 => (if t340 = true then (some true) else (some false)))) else (some false)))) else (some false)))) = some r := by rw [if_neg (show ¬ (false = true) by decide)] at H; exact H
           clear H
           have H := H1
           clear H1
           replace H := Option.bind_eq_some_iff.mp H
           obtain ⟨t329, A440, H⟩ := H
           replace H : ((laws_eqClauseS.f kj23 t318 t329).bind fun t332 => (if t332 = true then ((laws_toEventS.f kj23 l1).bind fun t333 => ((laws_eqEventS.f kj23 t321 t333).bind fun t336 => (if t336 = true then ((laws_toDecisionS.f kj23 l2).bind fun t337 => ((laws_eqDecisionS.f kj23 t324 t337).bind fun t340 => (if t340 = true then (some true) else (some false)))) else (some false)))) else (some false))) = some r := H
           have A44 := Aside0.mk A440
           clear A440
           replace H := Option.bind_eq_some_iff.mp H
           obtain ⟨t332, A450, H⟩ := H
           replace H : (if t332 = true then ((laws_toEventS.f kj23 l1).bind fun t333 => ((laws_eqEventS.f kj23 t321 t333).bind fun t336 => (if t336 = true then ((laws_toDecisionS.f kj23 l2).bind fun t337 => ((laws_eqDecisionS.f kj23 t324 t337).bind fun t340 => (if t340 = true then (some true) else (some false)))) else (some false)))) else (some false)) = some r := H
           have A45 := Aside0.mk A450
           clear A450
           by_cases c46 : t332 = true
           · subst c46
             have H1 : ((laws_toEventS.f kj23 l1).bind fun t333 => ((laws_eqEventS.f kj23 t321 t333).bind fun t336 => (if t336 = true then ((laws_toDecisionS.f kj23 l2).bind fun t337 => ((laws_eqDecisionS.f kj23 t324 t337).bind fun t340 => (if t340 = true then (some true) else (some false)))) else (some false)))) = some r := by rw [if_pos rfl] at H; exact H
             clear H
             have H := H1
             clear H1
             replace H := Option.bind_eq_some_iff.mp H
             obtain ⟨t333, A470, H⟩ := H
             replace H : ((laws_eqEventS.f kj23 t321 t333).bind fun t336 => (if t336 = true then ((laws_toDecisionS.f kj23 l2).bind fun t337 => ((laws_eqDecisionS.f kj23 t324 t337).bind fun t340 => (if t340 = true then (some true) else (some false)))) else (some false))) = some r := H
             have A47 := Aside0.mk A470
             clear A470
             replace H := Option.bind_eq_some_iff.mp H
             obtain ⟨t336, A480, H⟩ := H
             replace H : (if t336 = true then ((laws_toDecisionS.f kj23 l2).bind fun t337 => ((laws_eqDecisionS.f kj23 t324 t337).bind fun t340 => (if t340 = true then (some true) else (some false)))) else (some false)) = some r := H
             have A48 := Aside0.mk A480
             clear A480
             by_cases c49 : t336 = true
             · subst c49
               have H1 : ((laws_toDecisionS.f kj23 l2).bind fun t337 => ((laws_eqDecisionS.f kj23 t324 t337).bind fun t340 => (if t340 = true then (some true) else (some false)))) = some r := by rw [if_pos rfl] at H; exact H
               clear H
               have H := H1
               clear H1
               replace H := Option.bind_eq_some_iff.mp H
               obtain ⟨t337, A500, H⟩ := H
               replace H : ((laws_eqDecisionS.f kj23 t324 t337).bind fun t340 => (if t340 = true then (some true) else (some false))) = some r := H
               have A50 := Aside0.mk A500
               clear A500
               replace H := Option.bind_eq_some_iff.mp H
               obtain ⟨t340, A510, H⟩ := H
               replace H : (if t340 = true then (some true) else (some false)) = some r := H
               have A51 := Aside0.mk A510
               clear A510
               by_cases c52 : t340 = true
               · subst c52
                 have H1 : (some true) = some r := by rw [if_pos rfl] at H; exact H
                 clear H
                 have H := H1
                 clear H1
                 obtain rfl := Option.some.inj H
                 go_wp2_with (first | ((with_reducible refine gate_callee (f := 18) rfl ?_); refine gl_ 63 Try.func18 #[.slice A0 l0.length c0] ?_; (with_reducible refine (laws_toClauseS.calls kj23 _ _ l0 t329 _ ?side1 ?side2 A44.out).mono ?_); (case side1 => repeat (first | exact (Kd.C_below HR0.out HB.out) | (with_reducible refine Kd.C_alloc ?_ _) | (with_reducible refine Kd.C_drewN ?_ _) | (with_reducible refine Kd.C_drew ?_))); (case side2 => exact HC0.out); rintro e w53 ⟨v330, rfl, ho0, hb⟩; refine ⟨_, rfl, ?_⟩; have n0_ := Aside0.mk (Kd.R_elder' (rm_ HO_10) (Kd.R_base ho0) hb); have n1_ := Aside0.mk (Kd.R_below (rm_ HO_11) hb); have n2_ := Aside0.mk (Kd.S_below (by (with_reducible repeat (first | apply Kd.S_alloc | apply Kd.S_drewN | apply Kd.S_drew)); exact HO_12.out) hb); have n3_ := Aside0.mk (Kd.R_lower (Kd.R_new' ho0 (Kd.R_lt (rm_ HO_10))) (bz_)); have n4_ := Aside0.mk (bs_ hb); clear HO_10 HO_11 HO_12 HB; revert n0_ n1_ n2_ n3_ n4_; intro HO_10 HO_11 HO_12 HO331 HB; (try clear hb); (try clear hb2); (try clear hk); (try clear hi); (try clear ho0); obtain ⟨Ao54, co54, eo54⟩ := Kd.R_slice HO331.out; subst eo54) | ((with_reducible refine gate_callee (f := 22) rfl ?_); refine gl_ 64 Try.func22 #[.slice Ao38 t318.length co38, .slice Ao54 t329.length co54] ?_; (with_reducible refine (laws_eqClauseS.calls kj23 _ _ t318 _ _ t329 true _ ?side1 ?side2 ?side3 ?side4 A45.out).mono ?_); (case side1 => repeat (first | exact (Kd.R_reads' HO_10.out).2.2 | (with_reducible refine Kd.C_alloc ?_ _) | (with_reducible refine Kd.C_drewN ?_ _) | (with_reducible refine Kd.C_drew ?_))); (case side2 => exact (Kd.R_reads' HO_10.out).2.1); (case side3 => repeat (first | exact (Kd.R_reads' HO331.out).2.2 | (with_reducible refine Kd.C_alloc ?_ _) | (with_reducible refine Kd.C_drewN ?_ _) | (with_reducible refine Kd.C_drew ?_))); (case side4 => exact (Kd.R_reads' HO331.out).2.1); rintro e w55 ⟨rfl, hb⟩; refine ⟨_, rfl, ?_⟩; have n0_ := Aside0.mk (Kd.R_below (rm_ HO_10) hb); have n1_ := Aside0.mk (Kd.R_below (rm_ HO_11) hb); have n2_ := Aside0.mk (Kd.S_below (by (with_reducible repeat (first | apply Kd.S_alloc | apply Kd.S_drewN | apply Kd.S_drew)); exact HO_12.out) hb); have n3_ := Aside0.mk (Kd.R_below (rm_ HO331) hb); have n4_ := Aside0.mk (bs_ hb); clear HO_10 HO_11 HO_12 HO331 HB; revert n0_ n1_ n2_ n3_ n4_; intro HO_10 HO_11 HO_12 HO331 HB; (try clear hb); (try clear hb2); (try clear hk); (try clear hi)) | ((with_reducible refine gate_callee (f := 27) rfl ?_); refine gl_ 68 Try.func27 #[.slice A1 l1.length c1] ?_; (with_reducible refine (laws_toEventS.calls kj23 _ _ l1 t333 _ ?side1 ?side2 A47.out).mono ?_); (case side1 => repeat (first | exact (Kd.C_below HR1.out HB.out) | (with_reducible refine Kd.C_alloc ?_ _) | (with_reducible refine Kd.C_drewN ?_ _) | (with_reducible refine Kd.C_drew ?_))); (case side2 => exact HC1.out); rintro e w56 ⟨v334, rfl, ho0, hb⟩; refine ⟨_, rfl, ?_⟩; have n0_ := Aside0.mk (Kd.R_below (rm_ HO_10) hb); have n1_ := Aside0.mk (Kd.R_elder' (rm_ HO_11) (Kd.R_base ho0) hb); have n2_ := Aside0.mk (Kd.S_below (by (with_reducible repeat (first | apply Kd.S_alloc | apply Kd.S_drewN | apply Kd.S_drew)); exact HO_12.out) hb); have n3_ := Aside0.mk (Kd.R_below (rm_ HO331) hb); have n4_ := Aside0.mk (Kd.R_lower (Kd.R_new' ho0 (Kd.R_lt (rm_ HO_11))) (bz_)); have n5_ := Aside0.mk (bs_ hb); clear HO_10 HO_11 HO_12 HO331 HB; revert n0_ n1_ n2_ n3_ n4_ n5_; intro HO_10 HO_11 HO_12 HO331 HO335 HB; (try clear hb); (try clear hb2); (try clear hk); (try clear hi); (try clear ho0); obtain ⟨Ao57, co57, eo57⟩ := Kd.R_slice HO335.out; subst eo57) | ((with_reducible refine gate_callee (f := 30) rfl ?_); refine gl_ 69 Try.func30 #[.slice Ao39 t321.length co39, .slice Ao57 t333.length co57] ?_; (with_reducible refine (laws_eqEventS.calls kj23 _ _ t321 _ _ t333 true _ ?side1 ?side2 ?side3 ?side4 A48.out).mono ?_); (case side1 => repeat (first | exact (Kd.R_reads' HO_11.out).2.2 | (with_reducible refine Kd.C_alloc ?_ _) | (with_reducible refine Kd.C_drewN ?_ _) | (with_reducible refine Kd.C_drew ?_))); (case side2 => exact (Kd.R_reads' HO_11.out).2.1); (case side3 => repeat (first | exact (Kd.R_reads' HO335.out).2.2 | (with_reducible refine Kd.C_alloc ?_ _) | (with_reducible refine Kd.C_drewN ?_ _) | (with_reducible refine Kd.C_drew ?_))); (case side4 => exact (Kd.R_reads' HO335.out).2.1); rintro e w58 ⟨rfl, hb⟩; refine ⟨_, rfl, ?_⟩; have n0_ := Aside0.mk (Kd.R_below (rm_ HO_10) hb); have n1_ := Aside0.mk (Kd.R_below (rm_ HO_11) hb); have n2_ := Aside0.mk (Kd.S_below (by (with_reducible repeat (first | apply Kd.S_alloc | apply Kd.S_drewN | apply Kd.S_drew)); exact HO_12.out) hb); have n3_ := Aside0.mk (Kd.R_below (rm_ HO331) hb); have n4_ := Aside0.mk (Kd.R_below (rm_ HO335) hb); have n5_ := Aside0.mk (bs_ hb); clear HO_10 HO_11 HO_12 HO331 HO335 HB; revert n0_ n1_ n2_ n3_ n4_ n5_; intro HO_10 HO_11 HO_12 HO331 HO335 HB; (try clear hb); (try clear hb2); (try clear hk); (try clear hi)) | ((with_reducible refine gate_callee (f := 28) rfl ?_); refine gl_ 73 Try.func28 #[.slice A2 l2.length c2] ?_; (with_reducible refine (laws_toDecisionS.calls kj23 _ _ l2 t337 _ ?side1 ?side2 A50.out).mono ?_); (case side1 => repeat (first | exact (Kd.C_below HR2.out HB.out) | (with_reducible refine Kd.C_alloc ?_ _) | (with_reducible refine Kd.C_drewN ?_ _) | (with_reducible refine Kd.C_drew ?_))); (case side2 => exact HC2.out); rintro e w59 ⟨v338, rfl, ho0, hb⟩; refine ⟨_, rfl, ?_⟩; have n0_ := Aside0.mk (Kd.R_below (rm_ HO_10) hb); have n1_ := Aside0.mk (Kd.R_below (rm_ HO_11) hb); have n2_ := Aside0.mk (Kd.S_elder' (by (with_reducible repeat (first | apply Kd.S_alloc | apply Kd.S_drewN | apply Kd.S_drew)); exact HO_12.out) (Kd.S_base ho0) hb); have n3_ := Aside0.mk (Kd.R_below (rm_ HO331) hb); have n4_ := Aside0.mk (Kd.R_below (rm_ HO335) hb); have n5_ := Aside0.mk (Kd.S_lower (Kd.S_new' ho0 (Kd.S_lt (by (with_reducible repeat (first | apply Kd.S_alloc | apply Kd.S_drewN | apply Kd.S_drew)); exact HO_12.out))) (bz_)); have n6_ := Aside0.mk (bs_ hb); clear HO_10 HO_11 HO_12 HO331 HO335 HB; revert n0_ n1_ n2_ n3_ n4_ n5_ n6_; intro HO_10 HO_11 HO_12 HO331 HO335 HO339 HB; (try clear hb); (try clear hb2); (try clear hk); (try clear hi); (try clear ho0); obtain ⟨Ao60, co60, eo60⟩ := Kd.S_slice HO339.out; subst eo60) | ((with_reducible refine gate_callee (f := 31) rfl ?_); refine gl_ 74 Try.func31 #[.slice Ao40 t324.length co40, .slice Ao60 t337.length co60] ?_; (with_reducible refine (laws_eqDecisionS.calls kj23 _ _ t324 _ _ t337 true _ ?side1 ?side2 ?side3 ?side4 A51.out).mono ?_); (case side1 => repeat (first | exact (Kd.S_reads' HO_12.out).2.2 | (with_reducible refine Kd.C_alloc ?_ _) | (with_reducible refine Kd.C_drewN ?_ _) | (with_reducible refine Kd.C_drew ?_))); (case side2 => exact (Kd.S_reads' HO_12.out).2.1); (case side3 => repeat (first | exact (Kd.S_reads' HO339.out).2.2 | (with_reducible refine Kd.C_alloc ?_ _) | (with_reducible refine Kd.C_drewN ?_ _) | (with_reducible refine Kd.C_drew ?_))); (case side4 => exact (Kd.S_reads' HO339.out).2.1); rintro e w61 ⟨rfl, hb⟩; refine ⟨_, rfl, ?_⟩; have n0_ := Aside0.mk (Kd.R_below (rm_ HO_10) hb); have n1_ := Aside0.mk (Kd.R_below (rm_ HO_11) hb); have n2_ := Aside0.mk (Kd.S_below (by (with_reducible repeat (first | apply Kd.S_alloc | apply Kd.S_drewN | apply Kd.S_drew)); exact HO_12.out) hb); have n3_ := Aside0.mk (Kd.R_below (rm_ HO331) hb); have n4_ := Aside0.mk (Kd.R_below (rm_ HO335) hb); have n5_ := Aside0.mk (Kd.S_below (by (with_reducible repeat (first | apply Kd.S_alloc | apply Kd.S_drewN | apply Kd.S_drew)); exact HO339.out) hb); have n6_ := Aside0.mk (bs_ hb); clear HO_10 HO_11 HO_12 HO331 HO335 HO339 HB; revert n0_ n1_ n2_ n3_ n4_ n5_ n6_; intro HO_10 HO_11 HO_12 HO331 HO335 HO339 HB; (try clear hb); (try clear hb2); (try clear hk); (try clear hi)))
                 go_ret
                 exact ⟨by first | rfl | (simp [errW_none, errW_some] <;> rfl) | (simp [*, errW_none, errW_some] <;> rfl), bb_⟩
               · replace c52 := Bool.eq_false_iff.mpr c52
                 subst c52
                 have H1 : (some false) = some r := by rw [if_neg (show ¬ (false = true) by decide)] at H; exact H
                 clear H
                 have H := H1
                 clear H1
                 rw [hrt.out] at H; cases H
             · replace c49 := Bool.eq_false_iff.mpr c49
               subst c49
               have H1 : (some false) = some r := by rw [if_neg (show ¬ (false = true) by decide)] at H; exact H
               clear H
               have H := H1
               clear H1
               rw [hrt.out] at H; cases H
           · replace c46 := Bool.eq_false_iff.mpr c46
             subst c46
             have H1 : (some false) = some r := by rw [if_neg (show ¬ (false = true) by decide)] at H; exact H
             clear H
             have H := H1
             clear H1
             rw [hrt.out] at H; cases H

end Go.Proofs.Ytmfbkbbgokjhnaa.F
