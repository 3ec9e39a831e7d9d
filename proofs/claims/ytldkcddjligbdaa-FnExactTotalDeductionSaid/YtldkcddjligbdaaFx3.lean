-- Written by this session's program (wip/bin/hp.py) over the kit's print: a function's Lean form, and a proof that the call does what it says.
import Derived.Test.YtldkcddjligbdaaFx0
namespace Go.Proofs.Ytldkcddjligbdaa.F
open Go.RowKit Go.Proofs.YtldkcddjligbdaaW.PrintWords Go.Proofs.YtldkcddjligbdaaW.PrintLast Go.Proofs.YtldkcddjligbdaaW.PrintMore
attribute [local go_sem] max2_int min2_int max_two min_two max_three min_three max_four min_four   -- for this text's walks alone
set_option linter.unusedVariables false
set_option linter.unusedSimpArgs false

/-! ### laws_szEvent: function 45 -/
def laws_szEvent.f (a0_0 : Int) (a0_1 : Int) (a0_2 : ByteArray) (a0_3 : Int) (a0_4 : Bool) (a0_5 : Bool) (a0_6 : Bool) (a1 : Int) : Option (Int) := if (wrap64 (a1 - (a0_2.size : Int))) < 0 then (some (-1)) else (some (wrap64 (a1 - (a0_2.size : Int))))
set_option maxHeartbeats 8000000 in
set_option maxRecDepth 100000 in
theorem laws_szEvent.calls (a0_0 : Int) (a0_1 : Int) (a0_2 : ByteArray) (a0_3 : Int) (a0_4 : Bool) (a0_5 : Bool) (a0_6 : Bool) (a1 : Int) (r : Int) (w : World) (h : laws_szEvent.f a0_0 a0_1 a0_2 a0_3 a0_4 a0_5 a0_6 a1 = some r) :
    Calls Try.prog 45 #[.agg #[.int .i64 a0_0, .int .i64 a0_1, .string a0_2, .int .i64 a0_3, .bool a0_4, .bool a0_5, .bool a0_6], .int .i64 a1] w fun e w' => e = .returned (.int .i64 r) ∧ Below w.heap.size w w' := by
  have hu60 := Try.underlying60
  have HB := Aside0.mk (Below.refl w.heap.size w)
  have H : (if (wrap64 (a1 - (a0_2.size : Int))) < 0 then (some (-1)) else (some (wrap64 (a1 - (a0_2.size : Int))))) = some r := h
  clear h
  by_cases c3 : (wrap64 (a1 - (a0_2.size : Int))) < 0
  · rw [if_pos c3] at H
    have c3b0 : decide ((wrap64 (a1 - (a0_2.size : Int))) < 0) = true := decide_eq_true c3
    clear c3
    obtain rfl := Option.some.inj H
    go_enter Try.func45, Try.ntmps45
    go_wp2_with (first | ((with_reducible refine gate_dst (N := 2) rfl ?_); refine box_event ?hg (N := 2) ?hd (cs := #[.int .i64 a0_0, .int .i64 a0_1, .string a0_2, .int .i64 a0_3, .bool a0_4, .bool a0_5, .bool a0_6]) (t := 60) ?hr ?_; (case hd => rfl); (case hg => rfl); (case hr => first | (go_simp; done) | (go_simp; rfl)); intro gb116 hg w4 hbox hb; have n0_ := Aside0.mk (below_step (by repeat (first | (with_reducible first | exact HB.out | apply below_alloc | apply pw_below_drewN | apply below_drew1) | exact HB.out)) hb); have n1_ := Aside0.mk (hbox); have n2_ := Aside0.mk ((by rw [hg]; exact (below_size (by repeat (first | (with_reducible first | exact HB.out | apply below_alloc | apply pw_below_drewN | apply below_drew1) | exact HB.out))) : w.heap.size ≤ gb116)); have n3_ := Aside0.mk ((by rw [hg]; exact (below_size (by repeat (first | (with_reducible first | exact HB.out | apply below_alloc | apply pw_below_drewN | apply below_drew1) | exact HB.out))) : w.heap.size ≤ gb116)); clear HB; have HB := n0_; have BK116 := n1_; have GW116 := n2_; have GE116 := n3_; clear n0_ n1_ n2_ n3_; clear hb hbox hg; have hcz5_0 : w4.cell? ⟨gb116, 0, none⟩ = some (.int .i64 a0_0) := (blk_cell BK116.out 0).trans rfl; have hcz5_1 : w4.cell? ⟨gb116, 1, none⟩ = some (.int .i64 a0_1) := (blk_cell BK116.out 1).trans rfl; have hcz5_2 : w4.cell? ⟨gb116, 2, none⟩ = some (.string a0_2) := (blk_cell BK116.out 2).trans rfl; have hcz5_3 : w4.cell? ⟨gb116, 3, none⟩ = some (.int .i64 a0_3) := (blk_cell BK116.out 3).trans rfl; have hcz5_4 : w4.cell? ⟨gb116, 4, none⟩ = some (.bool a0_4) := (blk_cell BK116.out 4).trans rfl; have hcz5_5 : w4.cell? ⟨gb116, 5, none⟩ = some (.bool a0_5) := (blk_cell BK116.out 5).trans rfl; have hcz5_6 : w4.cell? ⟨gb116, 6, none⟩ = some (.bool a0_6) := (blk_cell BK116.out 6).trans rfl; have hfz5_0 := blk_frozen BK116.out 0; have hfz5_1 := blk_frozen BK116.out 1; have hfz5_2 := blk_frozen BK116.out 2; have hfz5_3 := blk_frozen BK116.out 3; have hfz5_4 := blk_frozen BK116.out 4; have hfz5_5 := blk_frozen BK116.out 5; have hfz5_6 := blk_frozen BK116.out 6))
    go_ret
    exact ⟨by first | rfl | (simp [errW_none, errW_some] <;> rfl) | (simp [*, errW_none, errW_some] <;> rfl), by repeat (first | (with_reducible first | exact HB.out | apply below_alloc | apply pw_below_drewN | apply below_drew1 | refine below_set ?_ GE116.out) | exact HB.out)⟩
  · rw [if_neg c3] at H
    have c3b0 : decide ((wrap64 (a1 - (a0_2.size : Int))) < 0) = false := decide_eq_false c3
    clear c3
    obtain rfl := Option.some.inj H
    go_enter Try.func45, Try.ntmps45
    go_wp2_with (first | ((with_reducible refine gate_dst (N := 2) rfl ?_); refine box_event ?hg (N := 2) ?hd (cs := #[.int .i64 a0_0, .int .i64 a0_1, .string a0_2, .int .i64 a0_3, .bool a0_4, .bool a0_5, .bool a0_6]) (t := 60) ?hr ?_; (case hd => rfl); (case hg => rfl); (case hr => first | (go_simp; done) | (go_simp; rfl)); intro gb116 hg w6 hbox hb; have n0_ := Aside0.mk (below_step (by repeat (first | (with_reducible first | exact HB.out | apply below_alloc | apply pw_below_drewN | apply below_drew1) | exact HB.out)) hb); have n1_ := Aside0.mk (hbox); have n2_ := Aside0.mk ((by rw [hg]; exact (below_size (by repeat (first | (with_reducible first | exact HB.out | apply below_alloc | apply pw_below_drewN | apply below_drew1) | exact HB.out))) : w.heap.size ≤ gb116)); have n3_ := Aside0.mk ((by rw [hg]; exact (below_size (by repeat (first | (with_reducible first | exact HB.out | apply below_alloc | apply pw_below_drewN | apply below_drew1) | exact HB.out))) : w.heap.size ≤ gb116)); clear HB; have HB := n0_; have BK116 := n1_; have GW116 := n2_; have GE116 := n3_; clear n0_ n1_ n2_ n3_; clear hb hbox hg; have hcz7_0 : w6.cell? ⟨gb116, 0, none⟩ = some (.int .i64 a0_0) := (blk_cell BK116.out 0).trans rfl; have hcz7_1 : w6.cell? ⟨gb116, 1, none⟩ = some (.int .i64 a0_1) := (blk_cell BK116.out 1).trans rfl; have hcz7_2 : w6.cell? ⟨gb116, 2, none⟩ = some (.string a0_2) := (blk_cell BK116.out 2).trans rfl; have hcz7_3 : w6.cell? ⟨gb116, 3, none⟩ = some (.int .i64 a0_3) := (blk_cell BK116.out 3).trans rfl; have hcz7_4 : w6.cell? ⟨gb116, 4, none⟩ = some (.bool a0_4) := (blk_cell BK116.out 4).trans rfl; have hcz7_5 : w6.cell? ⟨gb116, 5, none⟩ = some (.bool a0_5) := (blk_cell BK116.out 5).trans rfl; have hcz7_6 : w6.cell? ⟨gb116, 6, none⟩ = some (.bool a0_6) := (blk_cell BK116.out 6).trans rfl; have hfz7_0 := blk_frozen BK116.out 0; have hfz7_1 := blk_frozen BK116.out 1; have hfz7_2 := blk_frozen BK116.out 2; have hfz7_3 := blk_frozen BK116.out 3; have hfz7_4 := blk_frozen BK116.out 4; have hfz7_5 := blk_frozen BK116.out 5; have hfz7_6 := blk_frozen BK116.out 6))
    go_ret
    exact ⟨by first | rfl | (simp [errW_none, errW_some] <;> rfl) | (simp [*, errW_none, errW_some] <;> rfl), by repeat (first | (with_reducible first | exact HB.out | apply below_alloc | apply pw_below_drewN | apply below_drew1 | refine below_set ?_ GE116.out) | exact HB.out)⟩

/-! ### spec_l01In: function 139 -/
def spec_l01In.f (a0 : Int) (a1 : Int) (a2 : Int) : Option (Bool) := if a0 ≥ a1 then (some (decide (a0 ≤ a2))) else (some false)
set_option maxHeartbeats 8000000 in
set_option maxRecDepth 100000 in
theorem spec_l01In.calls (a0 : Int) (a1 : Int) (a2 : Int) (r : Bool) (w : World) (h : spec_l01In.f a0 a1 a2 = some r) :
    Calls Try.prog 139 #[.int .i64 a0, .int .i64 a1, .int .i64 a2] w fun e w' => e = .returned (.bool r) ∧ Drawn0 w w' := by
  have H : (if a0 ≥ a1 then (some (decide (a0 ≤ a2))) else (some false)) = some r := h
  clear h
  by_cases c4 : a0 ≥ a1
  · rw [if_pos c4] at H
    have c4b0 : decide (a1 ≤ a0) = true := decide_eq_true c4
    clear c4
    obtain rfl := Option.some.inj H
    go_enter Try.func139, Try.ntmps139
    go_wp2
    go_ret
    exact ⟨by first | rfl | (simp; done) | (simp [*]; done), by repeat (first | exact Drawn0.refl _ | apply Drawn0.step)⟩
  · rw [if_neg c4] at H
    have c4b0 : decide (a1 ≤ a0) = false := decide_eq_false c4
    clear c4
    obtain rfl := Option.some.inj H
    go_enter Try.func139, Try.ntmps139
    go_wp2
    go_ret
    exact ⟨by first | rfl | (simp; done) | (simp [*]; done), by repeat (first | exact Drawn0.refl _ | apply Drawn0.step)⟩

/-! ### spec_IsAmount: function 108 -/
def spec_IsAmount.f (a0 : Int) : Option (Bool) := (spec_l01In.f a0 0 1000000000).bind fun t117 => (some t117)
set_option maxHeartbeats 8000000 in
set_option maxRecDepth 100000 in
theorem spec_IsAmount.calls (a0 : Int) (r : Bool) (w : World) (h : spec_IsAmount.f a0 = some r) :
    Calls Try.prog 108 #[.int .i64 a0] w fun e w' => e = .returned (.bool r) ∧ Drawn0 w w' := by
  have H : ((spec_l01In.f a0 0 1000000000).bind fun t117 => (some t117)) = some r := h
  clear h
  replace H := Option.bind_eq_some_iff.mp H
  obtain ⟨t117, A20, H⟩ := H
  replace H : (some t117) = some r := H
  have A2 := Aside0.mk A20
  clear A20
  obtain rfl := Option.some.inj H
  go_enter Try.func108, Try.ntmps108
  go_wp2_with (first | ((with_reducible refine gate_callee (f := 139) rfl ?_); refine goesL_ (some 4) rfl rfl Try.func139 (by kernel_rfl) rfl #[.int .i64 a0, .int .i64 0, .int .i64 1000000000] rfl (by (try simp only [List.map_toArray, List.map_cons, List.map_nil]); first | done | rfl | (simp only [List.length_drop, List.length_take]; rfl)) ?_; (with_reducible refine (spec_l01In.calls a0 0 1000000000 t117 _ A2.out).mono ?_); rintro e w' ⟨rfl, ⟨nd, rfl⟩⟩; refine ⟨_, rfl, ?_⟩))
  go_ret
  exact ⟨by first | rfl | (simp; done) | (simp [*]; done), by repeat (first | exact Drawn0.refl _ | apply Drawn0.step)⟩

/-! ### spec_l04Points: function 134 -/
def spec_l04Points.f (a0 : Int) : Option (Bool) := (spec_l01In.f a0 0 10000).bind fun t118 => (some t118)
set_option maxHeartbeats 8000000 in
set_option maxRecDepth 100000 in
theorem spec_l04Points.calls (a0 : Int) (r : Bool) (w : World) (h : spec_l04Points.f a0 = some r) :
    Calls Try.prog 134 #[.int .i64 a0] w fun e w' => e = .returned (.bool r) ∧ Drawn0 w w' := by
  have H : ((spec_l01In.f a0 0 10000).bind fun t118 => (some t118)) = some r := h
  clear h
  replace H := Option.bind_eq_some_iff.mp H
  obtain ⟨t118, A20, H⟩ := H
  replace H : (some t118) = some r := H
  have A2 := Aside0.mk A20
  clear A20
  obtain rfl := Option.some.inj H
  go_enter Try.func134, Try.ntmps134
  go_wp2_with (first | ((with_reducible refine gate_callee (f := 139) rfl ?_); refine goesL_ (some 4) rfl rfl Try.func139 (by kernel_rfl) rfl #[.int .i64 a0, .int .i64 0, .int .i64 10000] rfl (by (try simp only [List.map_toArray, List.map_cons, List.map_nil]); first | done | rfl | (simp only [List.length_drop, List.length_take]; rfl)) ?_; (with_reducible refine (spec_l01In.calls a0 0 10000 t118 _ A2.out).mono ?_); rintro e w' ⟨rfl, ⟨nd, rfl⟩⟩; refine ⟨_, rfl, ?_⟩))
  go_ret
  exact ⟨by first | rfl | (simp; done) | (simp [*]; done), by repeat (first | exact Drawn0.refl _ | apply Drawn0.step)⟩

/-! ### spec_IsScale: function 131 -/
theorem rd_at_B (l : List S113) (i : Nat) (h : i < l.length) : rd_T113 l (i : Int) = l[i] := by
  simp [rd_T113, List.getD_eq_getElem?_getD, h]
def bandOK (l : List S113) (i : Nat) : Bool :=
  decide (0 ≤ (l.getD i z113).f0 ∧ (l.getD i z113).f0 ≤ 60) && decide (0 ≤ (l.getD i z113).f1 ∧ (l.getD i z113).f1 ≤ 10000) &&
    decide (0 < i → (l.getD (i - 1) z113).f0 < (l.getD i z113).f0 ∧ (l.getD (i - 1) z113).f1 ≤ (l.getD i z113).f1)
def isScale (l : List S113) : Bool := decide (∀ i, i < l.length → bandOK l i = true) && decide (1 ≤ l.length ∧ l.length ≤ 6 ∧ (l.getD 0 z113).f0 = 0)
theorem isScale_bad (l : List S113) (i : Nat) (h : i < l.length) (hb : bandOK l i = false) : isScale l = false := by
  unfold isScale
  rw [Bool.and_eq_false_iff]
  left
  rw [decide_eq_false_iff_not]
  intro H
  rw [H i h] at hb
  cases hb
theorem bandOK_at (l : List S113) (i : Nat) (h : i < l.length) (x : S113) (hx : l[i] = x) : l.getD i z113 = x := by simp [List.getD_eq_getElem?_getD, h, hx]
def spec_IsScale.f (k : Nat) (l0 : List S113) : Option Bool := some (isScale l0)
theorem spec_IsScale.mono : ∀ a0 k, LeO (spec_IsScale.f k a0) (spec_IsScale.f (k + 1) a0) := fun _ _ => LeO.refl _
theorem in_quietB (a lo hi : Int) (b : Bool) (hb : decide (lo ≤ a ∧ a ≤ hi) = b) (w : World) (n : Nat) : Calls Try.prog 139 #[.int .i64 a, .int .i64 lo, .int .i64 hi] (w.drewN n) fun e w'' => e = .returned (.bool b) ∧ ∃ m, w'' = w.drewN m :=
  Calls.quiet_of ((spec_l01In.calls a lo hi b (w.drewN n) (by rw [← hb]; unfold spec_l01In.f; by_cases h : a ≥ lo <;> simp [h])).mono fun e w' ⟨he, hd⟩ => ⟨he, hd.out⟩)
theorem pts_quietB (a : Int) (b : Bool) (hb : decide (0 ≤ a ∧ a ≤ 10000) = b) (w : World) (n : Nat) : Calls Try.prog 134 #[.int .i64 a] (w.drewN n) fun e w'' => e = .returned (.bool b) ∧ ∃ m, w'' = w.drewN m :=
  Calls.quiet_of ((spec_l04Points.calls a b (w.drewN n) (by rw [← hb]; unfold spec_l04Points.f spec_l01In.f; by_cases h : a ≥ 0 <;> simp [h])).mono fun e w' ⟨he, hd⟩ => ⟨he, hd.out⟩)
set_option maxHeartbeats 2000000 in
set_option maxRecDepth 100000 in
theorem spec_IsScale.calls (k : Nat) (A0 : Option Addr) (c0 : Nat) (l0 : List S113) (r : Bool) (w : World) (hr0 : Kd.C k113 w A0 l0.length l0) (hc0 : l0.length ≤ c0) (h : spec_IsScale.f k l0 = some r) :
    Calls Try.prog 131 #[.slice A0 l0.length c0] w fun e w' => e = .returned (.bool r) ∧ Below w.heap.size w w' := by
  have hbig : l0.length ≤ 9223372036854775807 := hr0.2.1
  have hu := Try.underlying113
  have HR0 := Aside0.mk hr0
  clear hr0 hc0
  obtain rfl := Option.some.inj h
  clear h
  go_enter Try.func131, Try.ntmps131
  go_wp2
  go_loopg [3] l0.length (fun gg s5 wr => ∃ kk : Nat, kk ≤ l0.length ∧ l0.length - kk ≤ gg ∧ s5 = .int .i64 kk ∧ Aside0 (Below w.heap.size w wr) ∧ Aside0 (∀ j, j < kk → bandOK l0 j = true))
  case atStart => exact ⟨0, by omega, by omega, rfl, ⟨Below.refl _ w⟩, ⟨fun j h => by omega⟩⟩
  case round =>
    obtain ⟨kk, hkk, hg, rfl, BW, A⟩ := hrel
    by_cases hlt : kk < l0.length
    · have hltz : (kk : Int) < (l0.length : Int) := by omega
      have o2 := at_T113 HR0.out (kk : Int) (by omega) (by omega)
      rw [rd_at_B l0 kk hlt, Int.toNat_natCast] at o2
      have s7 : 0 ≤ (kk : Int) := by omega
      have X := Aside0.mk (bandOK_at l0 kk hlt l0[kk] rfl)
      generalize l0[kk] = x at o2 X
      obtain ⟨ae, e_ae, hz0, hz1⟩ := o2
      cases e_ae
      replace hz0 := (BW.out.cell (World.block_lt_of_cell? w _ hz0)).trans hz0
      replace hz1 := (BW.out.cell (World.block_lt_of_cell? w _ hz1)).trans hz1
      by_cases ha : 0 ≤ x.f0 ∧ x.f0 ≤ 60
      · have C1 := Aside0.mk ha
        have HI := Aside0.mk (fun (wx : World) (n : Nat) => in_quietB x.f0 0 60 true (by simpa using C1.out) wx n)
        clear ha
        by_cases hp : 0 ≤ x.f1 ∧ x.f1 ≤ 10000
        · have C2 := Aside0.mk hp
          have HP := Aside0.mk (fun (wx : World) (n : Nat) => pts_quietB x.f1 true (by simpa using C2.out) wx n)
          clear hp
          by_cases hk0 : 1 ≤ kk
          · have o1 := at_T113 HR0.out ((kk - 1 : Nat) : Int) (by omega) (by omega)
            rw [rd_at_B l0 (kk - 1) (by omega), Int.toNat_natCast] at o1
            have Y := Aside0.mk (bandOK_at l0 (kk - 1) (by omega) l0[kk - 1] rfl)
            generalize l0[kk - 1] = y at o1 Y
            obtain ⟨ad, e_ad, hx0, hx1⟩ := o1
            cases e_ad
            replace hx0 := (BW.out.cell (World.block_lt_of_cell? w _ hx0)).trans hx0
            replace hx1 := (BW.out.cell (World.block_lt_of_cell? w _ hx1)).trans hx1
            have s1 : IntKind.i64.wrap ((kk : Int) - 1) = (kk : Int) - 1 := IntWalk.i64_in _ (by omega)
            have s2 : 0 ≤ (kk : Int) - 1 := by omega
            have s3 : ((kk : Int) - 1).toNat = kk - 1 := by omega
            have s4 : (kk : Int) - 1 < (l0.length : Int) := by omega
            have s5 : 1 ≤ (kk : Int) := by omega
            have s6 : decide (0 < kk) = true := by simp; omega
            by_cases hle : x.f0 ≤ y.f0
            · have N := Aside0.mk hle
              have Q1 : decide (x.f0 ≤ y.f0) = true := decide_eq_true hle
              clear hle
              go_wp2_with fail
              go_quiet ((first | (go_at_call 139; exact HI.out _ _) | (go_at_call 134; exact HP.out _ _)))
              go_wp2
              go_ret
              refine ⟨?_, pw_below_drewN BW.out _⟩
              rw [isScale_bad l0 kk hlt (by unfold bandOK; rw [X.out, Y.out, Bool.and_eq_false_iff, decide_eq_false_iff_not]; exact .inr (fun H => by have := (H hk0).1; have := N.out; omega))]
              rfl
            · have Q1 : decide (x.f0 ≤ y.f0) = false := decide_eq_false hle
              have N := Aside0.mk hle
              clear hle
              by_cases hlt2 : x.f1 < y.f1
              · have N2 := Aside0.mk hlt2
                have Q2 : decide (x.f1 < y.f1) = true := decide_eq_true hlt2
                clear hlt2
                go_wp2_with fail
                go_quiet ((first | (go_at_call 139; exact HI.out _ _) | (go_at_call 134; exact HP.out _ _)))
                go_wp2
                go_ret
                refine ⟨?_, pw_below_drewN BW.out _⟩
                rw [isScale_bad l0 kk hlt (by unfold bandOK; rw [X.out, Y.out, Bool.and_eq_false_iff, decide_eq_false_iff_not]; exact .inr (fun H => by have := (H hk0).2; have := N2.out; omega))]
                rfl
              · have N2 := Aside0.mk hlt2
                have Q2 : decide (x.f1 < y.f1) = false := decide_eq_false hlt2
                clear hlt2
                go_wp2_with fail
                go_quiet ((first | (go_at_call 139; exact HI.out _ _) | (go_at_call 134; exact HP.out _ _)))
                go_wp2
                go_roundg (l0.length - (kk + 1))
                case measure => omega
                case rel =>
                  refine ⟨kk + 1, by omega, by omega, by go_num, ⟨pw_below_drewN BW.out _⟩, ⟨fun j hjk => ?_⟩⟩
                  by_cases e : j = kk
                  · subst e
                    unfold bandOK
                    rw [X.out, Y.out]
                    simp only [C1.out, C2.out, and_self, decide_true, Bool.true_and, decide_eq_true_eq]
                    intro _
                    have := N.out; have := N2.out; omega
                  · exact A.out j (by omega)
          · have s6 : decide (0 < kk) = false := by simp; omega
            go_wp2_with fail
            go_quiet ((first | (go_at_call 139; exact HI.out _ _) | (go_at_call 134; exact HP.out _ _)))
            go_wp2
            go_roundg (l0.length - (kk + 1))
            case measure => omega
            case rel =>
              refine ⟨kk + 1, by omega, by omega, by go_num, ⟨pw_below_drewN BW.out _⟩, ⟨fun j hjk => ?_⟩⟩
              by_cases e : j = kk
              · subst e
                unfold bandOK
                rw [X.out]
                simp only [C1.out, C2.out, and_self, decide_true, Bool.true_and, decide_eq_true_eq]
                intro h; omega
              · exact A.out j (by omega)
        · have C2 := Aside0.mk hp
          have HP := Aside0.mk (fun (wx : World) (n : Nat) => pts_quietB x.f1 false (by simpa using C2.out) wx n)
          clear hp
          go_wp2_with fail
          go_quiet ((first | (go_at_call 139; exact HI.out _ _) | (go_at_call 134; exact HP.out _ _)))
          go_wp2
          go_ret
          refine ⟨?_, pw_below_drewN BW.out _⟩
          rw [isScale_bad l0 kk hlt (by unfold bandOK; rw [X.out]; simp only [C2.out, decide_false, Bool.and_false, Bool.false_and])]
          rfl
      · have C1 := Aside0.mk ha
        have HI := Aside0.mk (fun (wx : World) (n : Nat) => in_quietB x.f0 0 60 false (by simpa using C1.out) wx n)
        clear ha
        go_wp2_with fail
        go_quiet ((go_at_call 139; exact HI.out _ _))
        go_wp2
        go_ret
        refine ⟨?_, pw_below_drewN BW.out _⟩
        rw [isScale_bad l0 kk hlt (by unfold bandOK; rw [X.out]; simp only [C1.out, decide_false, Bool.false_and])]
        rfl
    · have hltz : ¬ (kk : Int) < (l0.length : Int) := by omega
      have ALL := Aside0.mk (decide_eq_true (show ∀ i, i < l0.length → bandOK l0 i = true from fun i hi => A.out i (by omega)))
      by_cases hn : 1 ≤ l0.length ∧ l0.length ≤ 6
      · have hI := Aside0.mk (fun (wx : World) (n : Nat) => in_quietB (l0.length : Int) 1 6 true (by simp; omega) wx n)
        have o1 := at_T113 HR0.out ((0 : Nat) : Int) (by omega) (by omega)
        rw [rd_at_B l0 0 (by omega), Int.toNat_natCast] at o1
        have Y := Aside0.mk (bandOK_at l0 0 (by omega) l0[0] rfl)
        generalize l0[0] = y at o1 Y
        obtain ⟨ad, e_ad, hx0, hx1⟩ := o1
        cases e_ad
        replace hx0 := (BW.out.cell (World.block_lt_of_cell? w _ hx0)).trans hx0
        rw [Nat.zero_mul, Addr.add_zero'] at hx0
        have s9 : 0 < l0.length := by omega
        have s8 : (0 : Int) < (l0.length : Int) := by omega
        have N := Aside0.mk hn
        have FIN := Aside0.mk (show isScale l0 = (y.f0 == 0) by
          unfold isScale
          rw [ALL.out, Bool.true_and, Y.out, Bool.eq_iff_iff]
          simp [N.out])
        clear hn hI
        have HF := Aside0.mk (show spec_l01In.f (l0.length : Int) 1 6 = some true by
          unfold spec_l01In.f; have := N.out; rw [if_pos (by omega)]; simp; omega)
        go_wp2_with (go_at_call 139; refine (spec_l01In.calls (l0.length : Int) 1 6 true _ HF.out).mono ?_; rintro e w' ⟨rfl, ⟨nd, rfl⟩⟩)
        go_ret
        exact ⟨by rw [FIN.out]; rfl, pw_below_drewN BW.out _⟩
      · have hI := Aside0.mk (fun (wx : World) (n : Nat) => in_quietB (l0.length : Int) 1 6 false (by simp; omega) wx n)
        have FIN := Aside0.mk (show isScale l0 = false by
          unfold isScale
          rw [Bool.and_eq_false_iff, decide_eq_false_iff_not (p := _ ∧ _)]
          exact .inr (fun H => hn ⟨H.1, H.2.1⟩))
        have HF := Aside0.mk (show spec_l01In.f (l0.length : Int) 1 6 = some false by
          unfold spec_l01In.f
          by_cases h1 : (l0.length : Int) ≥ 1
          · rw [if_pos h1]; simp; omega
          · rw [if_neg h1])
        clear hn hI
        go_wp2_with (go_at_call 139; refine (spec_l01In.calls (l0.length : Int) 1 6 false _ HF.out).mono ?_; rintro e w' ⟨rfl, ⟨nd, rfl⟩⟩)
        go_ret
        exact ⟨by rw [FIN.out]; rfl, pw_below_drewN BW.out _⟩

end Go.Proofs.Ytldkcddjligbdaa.F
