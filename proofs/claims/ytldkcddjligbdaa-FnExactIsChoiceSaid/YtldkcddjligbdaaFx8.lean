-- Written by this session's program (wip/bin/hp.py) over the kit's print: a function's Lean form, and a proof that the call does what it says.
import Derived.Test.YtldkcddjligbdaaFx0
import Derived.Test.YtldkcddjligbdaaFx2
import Derived.Test.YtldkcddjligbdaaFx7
namespace Go.Proofs.Ytldkcddjligbdaa.F
open Go.RowKit Go.Proofs.YtldkcddjligbdaaW.PrintWords Go.Proofs.YtldkcddjligbdaaW.PrintLast Go.Proofs.YtldkcddjligbdaaW.PrintMore
attribute [local go_sem] max2_int min2_int max_two min_two max_three min_three max_four min_four   -- for this text's walks alone
set_option linter.unusedVariables false
set_option linter.unusedSimpArgs false

/-! ### spec_IsScale: function 131 -/
theorem rd_at_B (l : List S113) (i : Nat) (h : i < l.length) : rd_T113 l (i : Int) = l[i] := by
  simp [rd_T113, List.getD_eq_getElem?_getD, h]
def bandOK (l : List S113) (i : Nat) : Bool :=
  decide (0 ≤ (l.getD i z113).f0 ∧ (l.getD i z113).f0 ≤ 60) && decide (0 ≤ (l.getD i z113).f1 ∧ (l.getD i z113).f1 ≤ 10000) &&
    decide (0 < i → (l.getD (i - 1) z113).f0 < (l.getD i z113).f0 ∧ (l.getD (i - 1) z113).f1 ≤ (l.getD i z113).f1)
def isScale (l : List S113) : Bool := decide (∀ i, i < l.length → bandOK l i = true) && decide (1 ≤ l.length ∧ l.length ≤ 6 ∧ (l.getD 0 z113).f0 = 0)
theorem isScale_bad (l : List S113) (i : Nat) (h : i < l.length) (hb : bandOK l i = false) : isScale l = false := by
  unfold isScale
  rw [Bool.and_eq_false_iff]
  left
  rw [decide_eq_false_iff_not]
  intro H
  rw [H i h] at hb
  cases hb
theorem bandOK_at (l : List S113) (i : Nat) (h : i < l.length) (x : S113) (hx : l[i] = x) : l.getD i z113 = x := by simp [List.getD_eq_getElem?_getD, h, hx]
def spec_IsScale.f (k : Nat) (l0 : List S113) : Option Bool := some (isScale l0)
theorem spec_IsScale.mono : ∀ a0 k, LeO (spec_IsScale.f k a0) (spec_IsScale.f (k + 1) a0) := fun _ _ => LeO.refl _
theorem in_quietB (a lo hi : Int) (b : Bool) (hb : decide (lo ≤ a ∧ a ≤ hi) = b) (w : World) (n : Nat) : Calls Try.prog 139 #[.int .i64 a, .int .i64 lo, .int .i64 hi] (w.drewN n) fun e w'' => e = .returned (.bool b) ∧ ∃ m, w'' = w.drewN m :=
  Calls.quiet_of ((spec_l01In.calls a lo hi b (w.drewN n) (by rw [← hb]; unfold spec_l01In.f; by_cases h : a ≥ lo <;> simp [h])).mono fun e w' ⟨he, hd⟩ => ⟨he, hd.out⟩)
theorem pts_quietB (a : Int) (b : Bool) (hb : decide (0 ≤ a ∧ a ≤ 10000) = b) (w : World) (n : Nat) : Calls Try.prog 134 #[.int .i64 a] (w.drewN n) fun e w'' => e = .returned (.bool b) ∧ ∃ m, w'' = w.drewN m :=
  Calls.quiet_of ((spec_l04Points.calls a b (w.drewN n) (by rw [← hb]; unfold spec_l04Points.f spec_l01In.f; by_cases h : a ≥ 0 <;> simp [h])).mono fun e w' ⟨he, hd⟩ => ⟨he, hd.out⟩)
set_option maxHeartbeats 2000000 in
set_option maxRecDepth 100000 in
theorem spec_IsScale.calls (k : Nat) (A0 : Option Addr) (c0 : Nat) (l0 : List S113) (r : Bool) (w : World) (hr0 : Kd.C k113 w A0 l0.length l0) (hc0 : l0.length ≤ c0) (h : spec_IsScale.f k l0 = some r) :
    Calls Try.prog 131 #[.slice A0 l0.length c0] w fun e w' => e = .returned (.bool r) ∧ Below w.heap.size w w' := by
  have hbig : l0.length ≤ 9223372036854775807 := hr0.2.1
  have hu := Try.underlying113
  have HR0 := Aside0.mk hr0
  clear hr0 hc0
  obtain rfl := Option.some.inj h
  clear h
  go_enter Try.func131, Try.ntmps131
  go_wp2
  go_loopg [3] l0.length (fun gg s5 wr => ∃ kk : Nat, kk ≤ l0.length ∧ l0.length - kk ≤ gg ∧ s5 = .int .i64 kk ∧ Aside0 (Below w.heap.size w wr) ∧ Aside0 (∀ j, j < kk → bandOK l0 j = true))
  case atStart => exact ⟨0, by omega, by omega, rfl, ⟨Below.refl _ w⟩, ⟨fun j h => by omega⟩⟩
  case round =>
    obtain ⟨kk, hkk, hg, rfl, BW, A⟩ := hrel
    by_cases hlt : kk < l0.length
    · have hltz : (kk : Int) < (l0.length : Int) := by omega
      have o2 := at_T113 HR0.out (kk : Int) (by omega) (by omega)
      rw [rd_at_B l0 kk hlt, Int.toNat_natCast] at o2
      have s7 : 0 ≤ (kk : Int) := by omega
      have X := Aside0.mk (bandOK_at l0 kk hlt l0[kk] rfl)
      generalize l0[kk] = x at o2 X
      obtain ⟨ae, e_ae, hz0, hz1⟩ := o2
      cases e_ae
      replace hz0 := (BW.out.cell (World.block_lt_of_cell? w _ hz0)).trans hz0
      replace hz1 := (BW.out.cell (World.block_lt_of_cell? w _ hz1)).trans hz1
      by_cases ha : 0 ≤ x.f0 ∧ x.f0 ≤ 60
      · have C1 := Aside0.mk ha
        have HI := Aside0.mk (fun (wx : World) (n : Nat) => in_quietB x.f0 0 60 true (by simpa using C1.out) wx n)
        clear ha
        by_cases hp : 0 ≤ x.f1 ∧ x.f1 ≤ 10000
        · have C2 := Aside0.mk hp
          have HP := Aside0.mk (fun (wx : World) (n : Nat) => pts_quietB x.f1 true (by simpa using C2.out) wx n)
          clear hp
          by_cases hk0 : 1 ≤ kk
          · have o1 := at_T113 HR0.out ((kk - 1 : Nat) : Int) (by omega) (by omega)
            rw [rd_at_B l0 (kk - 1) (by omega), Int.toNat_natCast] at o1
            have Y := Aside0.mk (bandOK_at l0 (kk - 1) (by omega) l0[kk - 1] rfl)
            generalize l0[kk - 1] = y at o1 Y
            obtain ⟨ad, e_ad, hx0, hx1⟩ := o1
            cases e_ad
            replace hx0 := (BW.out.cell (World.block_lt_of_cell? w _ hx0)).trans hx0
            replace hx1 := (BW.out.cell (World.block_lt_of_cell? w _ hx1)).trans hx1
            have s1 : IntKind.i64.wrap ((kk : Int) - 1) = (kk : Int) - 1 := IntWalk.i64_in _ (by omega)
            have s2 : 0 ≤ (kk : Int) - 1 := by omega
            have s3 : ((kk : Int) - 1).toNat = kk - 1 := by omega
            have s4 : (kk : Int) - 1 < (l0.length : Int) := by omega
            have s5 : 1 ≤ (kk : Int) := by omega
            have s6 : decide (0 < kk) = true := by simp; omega
            by_cases hle : x.f0 ≤ y.f0
            · have N := Aside0.mk hle
              have Q1 : decide (x.f0 ≤ y.f0) = true := decide_eq_true hle
              clear hle
              go_wp2_with fail
              go_quiet ((first | (go_at_call 139; exact HI.out _ _) | (go_at_call 134; exact HP.out _ _)))
              go_wp2
              go_ret
              refine ⟨?_, pw_below_drewN BW.out _⟩
              rw [isScale_bad l0 kk hlt (by unfold bandOK; rw [X.out, Y.out, Bool.and_eq_false_iff, decide_eq_false_iff_not]; exact .inr (fun H => by have := (H hk0).1; have := N.out; omega))]
              rfl
            · have Q1 : decide (x.f0 ≤ y.f0) = false := decide_eq_false hle
              have N := Aside0.mk hle
              clear hle
              by_cases hlt2 : x.f1 < y.f1
              · have N2 := Aside0.mk hlt2
                have Q2 : decide (x.f1 < y.f1) = true := decide_eq_true hlt2
                clear hlt2
                go_wp2_with fail
                go_quiet ((first | (go_at_call 139; exact HI.out _ _) | (go_at_call 134; exact HP.out _ _)))
                go_wp2
                go_ret
                refine ⟨?_, pw_below_drewN BW.out _⟩
                rw [isScale_bad l0 kk hlt (by unfold bandOK; rw [X.out, Y.out, Bool.and_eq_false_iff, decide_eq_false_iff_not]; exact .inr (fun H => by have := (H hk0).2; have := N2.out; omega))]
                rfl
              · have N2 := Aside0.mk hlt2
                have Q2 : decide (x.f1 < y.f1) = false := decide_eq_false hlt2
                clear hlt2
                go_wp2_with fail
                go_quiet ((first | (go_at_call 139; exact HI.out _ _) | (go_at_call 134; exact HP.out _ _)))
                go_wp2
                go_roundg (l0.length - (kk + 1))
                case measure => omega
                case rel =>
                  refine ⟨kk + 1, by omega, by omega, by go_num, ⟨pw_below_drewN BW.out _⟩, ⟨fun j hjk => ?_⟩⟩
                  by_cases e : j = kk
                  · subst e
                    unfold bandOK
                    rw [X.out, Y.out]
                    simp only [C1.out, C2.out, and_self, decide_true, Bool.true_and, decide_eq_true_eq]
                    intro _
                    have := N.out; have := N2.out; omega
                  · exact A.out j (by omega)
          · have s6 : decide (0 < kk) = false := by simp; omega
            go_wp2_with fail
            go_quiet ((first | (go_at_call 139; exact HI.out _ _) | (go_at_call 134; exact HP.out _ _)))
            go_wp2
            go_roundg (l0.length - (kk + 1))
            case measure => omega
            case rel =>
              refine ⟨kk + 1, by omega, by omega, by go_num, ⟨pw_below_drewN BW.out _⟩, ⟨fun j hjk => ?_⟩⟩
              by_cases e : j = kk
              · subst e
                unfold bandOK
                rw [X.out]
                simp only [C1.out, C2.out, and_self, decide_true, Bool.true_and, decide_eq_true_eq]
                intro h; omega
              · exact A.out j (by omega)
        · have C2 := Aside0.mk hp
          have HP := Aside0.mk (fun (wx : World) (n : Nat) => pts_quietB x.f1 false (by simpa using C2.out) wx n)
          clear hp
          go_wp2_with fail
          go_quiet ((first | (go_at_call 139; exact HI.out _ _) | (go_at_call 134; exact HP.out _ _)))
          go_wp2
          go_ret
          refine ⟨?_, pw_below_drewN BW.out _⟩
          rw [isScale_bad l0 kk hlt (by unfold bandOK; rw [X.out]; simp only [C2.out, decide_false, Bool.and_false, Bool.false_and])]
          rfl
      · have C1 := Aside0.mk ha
        have HI := Aside0.mk (fun (wx : World) (n : Nat) => in_quietB x.f0 0 60 false (by simpa using C1.out) wx n)
        clear ha
        go_wp2_with fail
        go_quiet ((go_at_call 139; exact HI.out _ _))
        go_wp2
        go_ret
        refine ⟨?_, pw_below_drewN BW.out _⟩
        rw [isScale_bad l0 kk hlt (by unfold bandOK; rw [X.out]; simp only [C1.out, decide_false, Bool.false_and])]
        rfl
    · have hltz : ¬ (kk : Int) < (l0.length : Int) := by omega
      have ALL := Aside0.mk (decide_eq_true (show ∀ i, i < l0.length → bandOK l0 i = true from fun i hi => A.out i (by omega)))
      by_cases hn : 1 ≤ l0.length ∧ l0.length ≤ 6
      · have hI := Aside0.mk (fun (wx : World) (n : Nat) => in_quietB (l0.length : Int) 1 6 true (by simp; omega) wx n)
        have o1 := at_T113 HR0.out ((0 : Nat) : Int) (by omega) (by omega)
        rw [rd_at_B l0 0 (by omega), Int.toNat_natCast] at o1
        have Y := Aside0.mk (bandOK_at l0 0 (by omega) l0[0] rfl)
        generalize l0[0] = y at o1 Y
        obtain ⟨ad, e_ad, hx0, hx1⟩ := o1
        cases e_ad
        replace hx0 := (BW.out.cell (World.block_lt_of_cell? w _ hx0)).trans hx0
        rw [Nat.zero_mul, Addr.add_zero'] at hx0
        have s9 : 0 < l0.length := by omega
        have s8 : (0 : Int) < (l0.length : Int) := by omega
        have N := Aside0.mk hn
        have FIN := Aside0.mk (show isScale l0 = (y.f0 == 0) by
          unfold isScale
          rw [ALL.out, Bool.true_and, Y.out, Bool.eq_iff_iff]
          simp [N.out])
        clear hn hI
        have HF := Aside0.mk (show spec_l01In.f (l0.length : Int) 1 6 = some true by
          unfold spec_l01In.f; have := N.out; rw [if_pos (by omega)]; simp; omega)
        go_wp2_with (go_at_call 139; refine (spec_l01In.calls (l0.length : Int) 1 6 true _ HF.out).mono ?_; rintro e w' ⟨rfl, ⟨nd, rfl⟩⟩)
        go_ret
        exact ⟨by rw [FIN.out]; rfl, pw_below_drewN BW.out _⟩
      · have hI := Aside0.mk (fun (wx : World) (n : Nat) => in_quietB (l0.length : Int) 1 6 false (by simp; omega) wx n)
        have FIN := Aside0.mk (show isScale l0 = false by
          unfold isScale
          rw [Bool.and_eq_false_iff, decide_eq_false_iff_not (p := _ ∧ _)]
          exact .inr (fun H => hn ⟨H.1, H.2.1⟩))
        have HF := Aside0.mk (show spec_l01In.f (l0.length : Int) 1 6 = some false by
          unfold spec_l01In.f
          by_cases h1 : (l0.length : Int) ≥ 1
          · rw [if_pos h1]; simp; omega
          · rw [if_neg h1])
        clear hn hI
        go_wp2_with (go_at_call 139; refine (spec_l01In.calls (l0.length : Int) 1 6 false _ HF.out).mono ?_; rintro e w' ⟨rfl, ⟨nd, rfl⟩⟩)
        go_ret
        exact ⟨by rw [FIN.out]; rfl, pw_below_drewN BW.out _⟩

/-! ### spec_l13Code: function 86 -/
def spec_l13Code.f (k : Nat) (l0 : List (S113)) (a1 : Int) (a2 : Int) : Option (Int) := (spec_IsScale.f k l0).bind fun t153 => (if t153 = true then ((spec_l01In.f a1 0 60).bind fun t154 => (if t154 = true then ((spec_IsAmount.f a2).bind fun t155 => (if t155 = true then (some 0) else (some 2))) else (some 2))) else (some 1))
theorem spec_l13Code.mono : ∀ a0 a1 a2 k, LeO (spec_l13Code.f k a0 a1 a2) (spec_l13Code.f (k + 1) a0 a1 a2) := by
  intro a0 a1 a2 k
  unfold spec_l13Code.f
  repeat' first
      | (with_reducible exact spec_IsScale.mono _ _)
      | (with_reducible exact LeO.refl _)
      | (with_reducible exact LeO.none _)
      | (with_reducible refine LeO.ite ?_ ?_)
      | (with_reducible refine LeO.bind ?_ (fun _ => ?_))
      | exact spec_IsScale.mono _ _
      | exact LeO.none _
      | refine LeO.ite ?_ ?_
      | refine LeO.bind ?_ (fun _ => ?_)
set_option maxHeartbeats 8000000 in
set_option maxRecDepth 100000 in
theorem spec_l13Code.calls (k : Nat) (A0 : Option Addr) (c0 : Nat) (l0 : List (S113)) (a1 : Int) (a2 : Int) (r : Int) (w : World) (hr0 : Kd.C k113 w A0 l0.length l0) (hc0 : l0.length ≤ c0) (h : spec_l13Code.f k l0 a1 a2 = some r) :
    Calls Try.prog 86 #[.slice A0 l0.length c0, .int .i64 a1, .int .i64 a2] w fun e w' => e = .returned (.int .i64 r) ∧ Below w.heap.size w w' := by
  have HR0 := Aside0.mk hr0
  have HC0 := Aside0.mk hc0
  clear hr0 hc0
  have HB := Aside0.mk (Below.refl w.heap.size w)
  have H : ((spec_IsScale.f k l0).bind fun t153 => (if t153 = true then ((spec_l01In.f a1 0 60).bind fun t154 => (if t154 = true then ((spec_IsAmount.f a2).bind fun t155 => (if t155 = true then (some 0) else (some 2))) else (some 2))) else (some 1))) = some r := h
  clear h
  replace H := Option.bind_eq_some_iff.mp H
  obtain ⟨t153, A40, H⟩ := H
  replace H : (if t153 = true then ((spec_l01In.f a1 0 60).bind fun t154 => (if t154 = true then ((spec_IsAmount.f a2).bind fun t155 => (if t155 = true then (some 0) else (some 2))) else (some 2))) else (some 1)) = some r := H
  have A4 := Aside0.mk A40
  clear A40
  by_cases c5 : t153 = true
  · subst c5
    have H1 : ((spec_l01In.f a1 0 60).bind fun t154 => (if t154 = true then ((spec_IsAmount.f a2).bind fun t155 => (if t155 = true then (some 0) else (some 2))) else (some 2))) = some r := by rw [if_pos rfl] at H; exact H
    clear H
    have H := H1
    clear H1
    replace H := Option.bind_eq_some_iff.mp H
    obtain ⟨t154, A60, H⟩ := H
    replace H : (if t154 = true then ((spec_IsAmount.f a2).bind fun t155 => (if t155 = true then (some 0) else (some 2))) else (some 2)) = some r := H
    have A6 := Aside0.mk A60
    clear A60
    by_cases c7 : t154 = true
    · subst c7
      have H1 : ((spec_IsAmount.f a2).bind fun t155 => (if t155 = true then (some 0) else (some 2))) = some r := by rw [if_pos rfl] at H; exact H
      clear H
      have H := H1
      clear H1
      replace H := Option.bind_eq_some_iff.mp H
      obtain ⟨t155, A80, H⟩ := H
      replace H : (if t155 = true then (some 0) else (some 2)) = some r := H
      have A8 := Aside0.mk A80
      clear A80
      by_cases c9 : t155 = true
      · subst c9
        have H1 : (some 0) = some r := by rw [if_pos rfl] at H; exact H
        clear H
        have H := H1
        clear H1
        obtain rfl := Option.some.inj H
        go_enter Try.func86, Try.ntmps86
        go_wp2_with (first | ((with_reducible refine gate_callee (f := 131) rfl ?_); refine goesL_ (some 8) rfl rfl Try.func131 (by kernel_rfl) rfl #[.slice A0 l0.length c0] rfl (by (try simp only [List.map_toArray, List.map_cons, List.map_nil]); first | done | rfl | (simp only [List.length_drop, List.length_take]; rfl)) ?_; (with_reducible refine (spec_IsScale.calls k _ _ l0 true _ ?side1 ?side2 A4.out).mono ?_); (case side1 => repeat (first | exact HR0.out | (with_reducible refine Kd.C_alloc ?_ _) | (with_reducible refine Kd.C_drewN ?_ _) | (with_reducible refine Kd.C_drew ?_))); (case side2 => exact HC0.out); rintro e w10 ⟨rfl, hb⟩; refine ⟨_, rfl, ?_⟩; have n0_ := Aside0.mk (below_step (by repeat (first | (with_reducible first | exact HB.out | apply below_alloc | apply pw_below_drewN | apply below_drew1) | exact HB.out)) hb); clear HB; have HB := n0_; clear n0_; (try clear hb); (try clear hb2); (try clear hk); (try clear hi)) | ((with_reducible refine gate_callee (f := 139) rfl ?_); refine goesL_ (some 11) rfl rfl Try.func139 (by kernel_rfl) rfl #[.int .i64 a1, .int .i64 0, .int .i64 60] rfl (by (try simp only [List.map_toArray, List.map_cons, List.map_nil]); first | done | rfl | (simp only [List.length_drop, List.length_take]; rfl)) ?_; (with_reducible refine (spec_l01In.calls a1 0 60 true _ A6.out).mono ?_); rintro e w' ⟨rfl, ⟨nd, rfl⟩⟩; refine ⟨_, rfl, ?_⟩) | (go_at_call 108; (with_reducible refine (spec_IsAmount.calls a2 true _ A8.out).mono ?_); rintro e w' ⟨rfl, ⟨nd, rfl⟩⟩))
        go_ret
        exact ⟨by first | rfl | (simp [errW_none, errW_some] <;> rfl) | (simp [*, errW_none, errW_some] <;> rfl), by repeat (first | (with_reducible first | exact HB.out | apply below_alloc | apply pw_below_drewN | apply below_drew1) | exact HB.out)⟩
      · replace c9 := Bool.eq_false_iff.mpr c9
        subst c9
        have H1 : (some 2) = some r := by rw [if_neg (show ¬ (false = true) by decide)] at H; exact H
        clear H
        have H := H1
        clear H1
        obtain rfl := Option.some.inj H
        go_enter Try.func86, Try.ntmps86
        go_wp2_with (first | ((with_reducible refine gate_callee (f := 131) rfl ?_); refine goesL_ (some 8) rfl rfl Try.func131 (by kernel_rfl) rfl #[.slice A0 l0.length c0] rfl (by (try simp only [List.map_toArray, List.map_cons, List.map_nil]); first | done | rfl | (simp only [List.length_drop, List.length_take]; rfl)) ?_; (with_reducible refine (spec_IsScale.calls k _ _ l0 true _ ?side1 ?side2 A4.out).mono ?_); (case side1 => repeat (first | exact HR0.out | (with_reducible refine Kd.C_alloc ?_ _) | (with_reducible refine Kd.C_drewN ?_ _) | (with_reducible refine Kd.C_drew ?_))); (case side2 => exact HC0.out); rintro e w11 ⟨rfl, hb⟩; refine ⟨_, rfl, ?_⟩; have n0_ := Aside0.mk (below_step (by repeat (first | (with_reducible first | exact HB.out | apply below_alloc | apply pw_below_drewN | apply below_drew1) | exact HB.out)) hb); clear HB; have HB := n0_; clear n0_; (try clear hb); (try clear hb2); (try clear hk); (try clear hi)) | ((with_reducible refine gate_callee (f := 139) rfl ?_); refine goesL_ (some 11) rfl rfl Try.func139 (by kernel_rfl) rfl #[.int .i64 a1, .int .i64 0, .int .i64 60] rfl (by (try simp only [List.map_toArray, List.map_cons, List.map_nil]); first | done | rfl | (simp only [List.length_drop, List.length_take]; rfl)) ?_; (with_reducible refine (spec_l01In.calls a1 0 60 true _ A6.out).mono ?_); rintro e w' ⟨rfl, ⟨nd, rfl⟩⟩; refine ⟨_, rfl, ?_⟩) | (go_at_call 108; (with_reducible refine (spec_IsAmount.calls a2 false _ A8.out).mono ?_); rintro e w' ⟨rfl, ⟨nd, rfl⟩⟩))
        go_ret
        exact ⟨by first | rfl | (simp [errW_none, errW_some] <;> rfl) | (simp [*, errW_none, errW_some] <;> rfl), by repeat (first | (with_reducible first | exact HB.out | apply below_alloc | apply pw_below_drewN | apply below_drew1) | exact HB.out)⟩
    · replace c7 := Bool.eq_false_iff.mpr c7
      subst c7
      have H1 : (some 2) = some r := by rw [if_neg (show ¬ (false = true) by decide)] at H; exact H
      clear H
      have H := H1
      clear H1
      obtain rfl := Option.some.inj H
      go_enter Try.func86, Try.ntmps86
      go_wp2_with (first | ((with_reducible refine gate_callee (f := 131) rfl ?_); refine goesL_ (some 8) rfl rfl Try.func131 (by kernel_rfl) rfl #[.slice A0 l0.length c0] rfl (by (try simp only [List.map_toArray, List.map_cons, List.map_nil]); first | done | rfl | (simp only [List.length_drop, List.length_take]; rfl)) ?_; (with_reducible refine (spec_IsScale.calls k _ _ l0 true _ ?side1 ?side2 A4.out).mono ?_); (case side1 => repeat (first | exact HR0.out | (with_reducible refine Kd.C_alloc ?_ _) | (with_reducible refine Kd.C_drewN ?_ _) | (with_reducible refine Kd.C_drew ?_))); (case side2 => exact HC0.out); rintro e w12 ⟨rfl, hb⟩; refine ⟨_, rfl, ?_⟩; have n0_ := Aside0.mk (below_step (by repeat (first | (with_reducible first | exact HB.out | apply below_alloc | apply pw_below_drewN | apply below_drew1) | exact HB.out)) hb); clear HB; have HB := n0_; clear n0_; (try clear hb); (try clear hb2); (try clear hk); (try clear hi)) | ((with_reducible refine gate_callee (f := 139) rfl ?_); refine goesL_ (some 11) rfl rfl Try.func139 (by kernel_rfl) rfl #[.int .i64 a1, .int .i64 0, .int .i64 60] rfl (by (try simp only [List.map_toArray, List.map_cons, List.map_nil]); first | done | rfl | (simp only [List.length_drop, List.length_take]; rfl)) ?_; (with_reducible refine (spec_l01In.calls a1 0 60 false _ A6.out).mono ?_); rintro e w' ⟨rfl, ⟨nd, rfl⟩⟩; refine ⟨_, rfl, ?_⟩))
      go_ret
      exact ⟨by first | rfl | (simp [errW_none, errW_some] <;> rfl) | (simp [*, errW_none, errW_some] <;> rfl), by repeat (first | (with_reducible first | exact HB.out | apply below_alloc | apply pw_below_drewN | apply below_drew1) | exact HB.out)⟩
  · replace c5 := Bool.eq_false_iff.mpr c5
    subst c5
    have H1 : (some 1) = some r := by rw [if_neg (show ¬ (false = true) by decide)] at H; exact H
    clear H
    have H := H1
    clear H1
    obtain rfl := Option.some.inj H
    go_enter Try.func86, Try.ntmps86
    go_wp2_with (first | ((with_reducible refine gate_callee (f := 131) rfl ?_); refine goesL_ (some 8) rfl rfl Try.func131 (by kernel_rfl) rfl #[.slice A0 l0.length c0] rfl (by (try simp only [List.map_toArray, List.map_cons, List.map_nil]); first | done | rfl | (simp only [List.length_drop, List.length_take]; rfl)) ?_; (with_reducible refine (spec_IsScale.calls k _ _ l0 false _ ?side1 ?side2 A4.out).mono ?_); (case side1 => repeat (first | exact HR0.out | (with_reducible refine Kd.C_alloc ?_ _) | (with_reducible refine Kd.C_drewN ?_ _) | (with_reducible refine Kd.C_drew ?_))); (case side2 => exact HC0.out); rintro e w13 ⟨rfl, hb⟩; refine ⟨_, rfl, ?_⟩; have n0_ := Aside0.mk (below_step (by repeat (first | (with_reducible first | exact HB.out | apply below_alloc | apply pw_below_drewN | apply below_drew1) | exact HB.out)) hb); clear HB; have HB := n0_; clear n0_; (try clear hb); (try clear hb2); (try clear hk); (try clear hi)))
    go_ret
    exact ⟨by first | rfl | (simp [errW_none, errW_some] <;> rfl) | (simp [*, errW_none, errW_some] <;> rfl), by repeat (first | (with_reducible first | exact HB.out | apply below_alloc | apply pw_below_drewN | apply below_drew1) | exact HB.out)⟩

end Go.Proofs.Ytldkcddjligbdaa.F
