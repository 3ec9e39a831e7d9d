-- Written by this session's program (wip/bin/hp.py) over the kit's print: a function's Lean form, and a proof that the call does what it says.
import Derived.Test.YtldkcddjligbdaaFx0
import Derived.Test.YtldkcddjligbdaaFx2
namespace Go.Proofs.Ytldkcddjligbdaa.F
open Go.RowKit Go.Proofs.YtldkcddjligbdaaW.PrintWords Go.Proofs.YtldkcddjligbdaaW.PrintLast Go.Proofs.YtldkcddjligbdaaW.PrintMore
attribute [local go_sem] max2_int min2_int max_two min_two max_three min_three max_four min_four   -- for this text's walks alone
set_option linter.unusedVariables false
set_option linter.unusedSimpArgs false

-- NOT PRINTED: function 7 (laws_FnExactAgeOfShip)

/-! ### spec_l01Rises: function 148 -/
def risesB (n : Int) (l : List Int) : Bool := decide (∀ j (hj : j < l.length), (0 ≤ l[j] ∧ l[j] ≤ n - 1) ∧ (1 ≤ j → l[j - 1]'(by omega) < l[j]))
def spec_l01Rises.f (l0 : List Int) (a1 : Int) : Option Bool := if 0 ≤ a1 ∧ a1 ≤ 4611686018427387904 then some (risesB a1 l0) else none
theorem l01In_f (a lo hi : Int) : spec_l01In.f a lo hi = some (decide (lo ≤ a ∧ a ≤ hi)) := by
  unfold spec_l01In.f
  by_cases h : a ≥ lo <;> simp [h]
theorem l01In_quiet (a lo hi : Int) (b : Bool) (hb : decide (lo ≤ a ∧ a ≤ hi) = b) (w : World) (n : Nat) : Calls Try.prog 139 #[.int .i64 a, .int .i64 lo, .int .i64 hi] (w.drewN n) fun e w'' => e = .returned (.bool b) ∧ ∃ m, w'' = w.drewN m :=
  Calls.quiet_of ((spec_l01In.calls a lo hi b (w.drewN n) (by rw [l01In_f, hb])).mono fun e w' ⟨he, hd⟩ => ⟨he, hd.out⟩)
set_option maxHeartbeats 2000000 in
set_option maxRecDepth 100000 in
theorem spec_l01Rises.calls (A0 : Option Addr) (c0 : Nat) (l0 : List Int) (a1 : Int) (r : Bool) (w : World) (hr0 : Kd.C (Kd.int .i64) w A0 l0.length l0) (hc0 : l0.length ≤ c0) (h : spec_l01Rises.f l0 a1 = some r) :
    Calls Try.prog 148 #[.slice A0 l0.length c0, .int .i64 a1] w fun e w' => e = .returned (.bool r) ∧ Below w.heap.size w w' := by
  have hbig : l0.length ≤ 9223372036854775807 := hr0.2.1
  have HR0 := Aside0.mk hr0
  clear hr0 hc0
  unfold spec_l01Rises.f at h
  by_cases hn : 0 ≤ a1 ∧ a1 ≤ 4611686018427387904
  · rw [if_pos hn] at h
    obtain rfl := Option.some.inj h
    clear h
    obtain ⟨hn0, hn1⟩ := hn
    go_enter Try.func148, Try.ntmps148
    go_wp2
    go_loopg [5] l0.length (fun gg s5 wr => ∃ kk : Nat, kk ≤ l0.length ∧ l0.length - kk ≤ gg ∧ s5 = .int .i64 kk ∧ Aside0 (Below w.heap.size w wr) ∧ Aside0 (∀ j (hj : j < l0.length), j < kk → (0 ≤ l0[j] ∧ l0[j] ≤ a1 - 1) ∧ (1 ≤ j → l0[j - 1]'(by omega) < l0[j])))
    case atStart => exact ⟨0, by omega, by omega, rfl, ⟨Below.refl _ w⟩, ⟨fun j hj h => by omega⟩⟩
    case round =>
      obtain ⟨kk, hkk, hg, rfl, BW, A⟩ := hrel
      by_cases hlt : kk < l0.length
      · have hltz : (kk : Int) < (l0.length : Int) := by omega
        have o2 := Kd.at_int HR0.out (kk : Int) (by omega) (by omega)
        have e2 : rd l0 (kk : Int) = l0[kk] := by simp [rd, List.getD_eq_getElem?_getD, hlt]
        rw [e2, Int.toNat_natCast] at o2
        obtain ⟨ae, e_ae, hz0⟩ := o2
        cases e_ae
        clear e2
        replace hz0 := (BW.out.cell (World.block_lt_of_cell? w _ hz0)).trans hz0
        have B := Aside0.mk (rfl : l0[kk] = l0[kk])
        have HIN := Aside0.mk (fun (b : Bool) (hb : decide (0 ≤ l0[kk] ∧ l0[kk] ≤ a1 - 1) = b) (wx : World) (nx : Nat) => l01In_quiet l0[kk] 0 (a1 - 1) b hb wx nx)
        have s0 : IntKind.i64.wrap (a1 - 1) = a1 - 1 := IntWalk.i64_in _ (by omega)
        have s7 : 0 ≤ (kk : Int) := by omega
        by_cases hin : 0 ≤ l0[kk] ∧ l0[kk] ≤ a1 - 1
        · have C1 := Aside0.mk hin
          have HI := Aside0.mk (HIN.out true (by simpa using hin))
          clear HIN
          by_cases hk0 : 1 ≤ kk
          · have o1 := Kd.at_int HR0.out ((kk - 1 : Nat) : Int) (by omega) (by omega)
            have e1 : rd l0 ((kk - 1 : Nat) : Int) = l0[kk - 1] := by simp [rd, List.getD_eq_getElem?_getD, show kk - 1 < l0.length by omega]
            rw [e1, Int.toNat_natCast] at o1
            obtain ⟨ad, e_ad, hx0⟩ := o1
            cases e_ad
            clear e1
            replace hx0 := (BW.out.cell (World.block_lt_of_cell? w _ hx0)).trans hx0
            have C2 := Aside0.mk (show l0[kk - 1] < l0[kk] ∨ ¬ l0[kk - 1] < l0[kk] from Classical.em _)
            have s1 : IntKind.i64.wrap ((kk : Int) - 1) = (kk : Int) - 1 := IntWalk.i64_in _ (by omega)
            have s2 : 0 ≤ (kk : Int) - 1 := by omega
            have s3 : ((kk : Int) - 1).toNat = kk - 1 := by omega
            have s4 : (kk : Int) - 1 < (l0.length : Int) := by omega
            have s5 : 1 ≤ (kk : Int) := by omega
            have s6 : decide (0 < kk) = true := by simp; omega
            by_cases hle : l0[kk] ≤ l0[kk - 1]
            · have N := Aside0.mk hle
              have Q1 : decide (l0[kk] ≤ l0[kk - 1]) = true := decide_eq_true hle
              clear hle hin
              generalize hy : l0[kk - 1] = y at hx0 Q1
              generalize hy2 : l0[kk] = y2 at hz0 HI Q1
              clear hy hy2
              go_wp2_with fail
              go_quiet ((go_at_call 139; exact HI.out _ _))
              go_wp2
              go_ret
              refine ⟨?_, pw_below_drewN BW.out _⟩
              rw [show risesB a1 l0 = false from decide_eq_false (fun H => by have := (H kk hlt).2 hk0; have := N.out; omega)]
              rfl
            · have N : Aside0 (l0[kk - 1] < l0[kk]) := ⟨by omega⟩
              have Q1 : decide (l0[kk] ≤ l0[kk - 1]) = false := decide_eq_false hle
              clear hle hin
              generalize hy : l0[kk - 1] = y at hx0 Q1
              generalize hy2 : l0[kk] = y2 at hz0 HI Q1
              clear hy hy2
              go_wp2_with fail
              go_quiet ((go_at_call 139; exact HI.out _ _))
              go_wp2
              go_roundg (l0.length - (kk + 1))
              case measure => omega
              case rel =>
                refine ⟨kk + 1, by omega, by omega, by go_num, ⟨pw_below_drewN BW.out _⟩, ⟨fun j hj hjk => ?_⟩⟩
                by_cases e : j = kk
                · subst e; exact ⟨C1.out, fun _ => N.out⟩
                · exact A.out j hj (by omega)
          · have s6 : decide (0 < kk) = false := by simp; omega
            clear hin
            generalize hy2 : l0[kk] = y2 at hz0 HI
            clear hy2
            go_wp2_with fail
            go_quiet ((go_at_call 139; exact HI.out _ _))
            go_wp2
            go_roundg (l0.length - (kk + 1))
            case measure => omega
            case rel =>
              refine ⟨kk + 1, by omega, by omega, by go_num, ⟨pw_below_drewN BW.out _⟩, ⟨fun j hj hjk => ?_⟩⟩
              by_cases e : j = kk
              · subst e; exact ⟨C1.out, fun h => absurd h hk0⟩
              · exact A.out j hj (by omega)
        · have C1 := Aside0.mk hin
          have HI := Aside0.mk (HIN.out false (by simpa using hin))
          clear HIN hin
          generalize hy2 : l0[kk] = y2 at hz0 HI
          clear hy2
          go_wp2_with fail
          go_quiet ((go_at_call 139; exact HI.out _ _))
          go_wp2
          go_ret
          refine ⟨?_, pw_below_drewN BW.out _⟩
          rw [show risesB a1 l0 = false from decide_eq_false (fun H => C1.out (H kk hlt).1)]
          rfl
      · have hltz : ¬ (kk : Int) < (l0.length : Int) := by omega
        go_wp2
        go_ret
        refine ⟨?_, BW.out⟩
        rw [show risesB a1 l0 = true from decide_eq_true (fun j hj => A.out j hj (by omega))]
        rfl
  · rw [if_neg hn] at h
    cases h

/-! ### spec_l14Choice: function 104 -/
def spec_l14Choice.f (l0 : List (S78)) (l1 : List Int) : Option (Bool) := (spec_l01Rises.f l1 (l0.length : Int)).bind fun t302 => (some t302)
set_option maxHeartbeats 8000000 in
set_option maxRecDepth 100000 in
theorem spec_l14Choice.calls (A0 : Option Addr) (c0 : Nat) (l0 : List (S78)) (A1 : Option Addr) (c1 : Nat) (l1 : List Int) (r : Bool) (w : World) (hr0 : Kd.C k78 w A0 l0.length l0) (hc0 : l0.length ≤ c0) (hr1 : Kd.C (Kd.int .i64) w A1 l1.length l1) (hc1 : l1.length ≤ c1) (h : spec_l14Choice.f l0 l1 = some r) :
    Calls Try.prog 104 #[.slice A0 l0.length c0, .slice A1 l1.length c1] w fun e w' => e = .returned (.bool r) ∧ Below w.heap.size w w' := by
  have HR0 := Aside0.mk hr0
  have HC0 := Aside0.mk hc0
  clear hr0 hc0
  have HR1 := Aside0.mk hr1
  have HC1 := Aside0.mk hc1
  clear hr1 hc1
  have HB := Aside0.mk (Below.refl w.heap.size w)
  have H : ((spec_l01Rises.f l1 (l0.length : Int)).bind fun t302 => (some t302)) = some r := h
  clear h
  replace H := Option.bind_eq_some_iff.mp H
  obtain ⟨t302, A30, H⟩ := H
  replace H : (some t302) = some r := H
  have A3 := Aside0.mk A30
  clear A30
  obtain rfl := Option.some.inj H
  go_enter Try.func104, Try.ntmps104
  go_wp2_with (first | ((with_reducible refine gate_callee (f := 148) rfl ?_); refine goesL_ (some 8) rfl rfl Try.func148 (by kernel_rfl) rfl #[.slice A1 l1.length c1, .int .i64 (l0.length : Int)] rfl (by (try simp only [List.map_toArray, List.map_cons, List.map_nil]); first | done | rfl | (simp only [List.length_drop, List.length_take]; rfl)) ?_; (with_reducible refine (spec_l01Rises.calls _ _ l1 (l0.length : Int) t302 _ ?side1 ?side2 A3.out).mono ?_); (case side1 => repeat (first | exact HR1.out | (with_reducible refine Kd.C_alloc ?_ _) | (with_reducible refine Kd.C_drewN ?_ _) | (with_reducible refine Kd.C_drew ?_))); (case side2 => exact HC1.out); rintro e w4 ⟨rfl, hb⟩; refine ⟨_, rfl, ?_⟩; have n0_ := Aside0.mk (below_step (by repeat (first | (with_reducible first | exact HB.out | apply below_alloc | apply pw_below_drewN | apply below_drew1) | exact HB.out)) hb); clear HB; have HB := n0_; clear n0_; (try clear hb); (try clear hb2); (try clear hk); (try clear hi)))
  go_ret
  exact ⟨by first | rfl | (simp [errW_none, errW_some] <;> rfl) | (simp [*, errW_none, errW_some] <;> rfl), by repeat (first | (with_reducible first | exact HB.out | apply below_alloc | apply pw_below_drewN | apply below_drew1) | exact HB.out)⟩

/-! ### spec_l14Sums: function 105 -/
def spec_l14Sums.l0 : Nat → List (S78) → List Int → Int → Int → Int → Option (Int × Int)
  | 0, _, _, _, _, _ => none
  | k + 1, x0, x1, x6, x7, x8 => if x8 < (x1.length : Int) then (if 0 ≤ x8 then (if 0 ≤ (rd x1 x8) then (if (rd x1 x8) < (x0.length : Int) then (spec_l14Sums.l0 k x0 x1 (wrap64 (x6 + ((rd_T78 x0 (rd x1 x8)).f0))) (wrap64 ((wrap64 (x7 + ((rd_T78 x0 (rd x1 x8)).f1))) - ((rd_T78 x0 (rd x1 x8)).f0))) (wrap64 (x8 + 1))) else (none)) else (none)) else (none)) else (some (x6, x7))
def spec_l14Sums.f (k : Nat) (l0 : List (S78)) (l1 : List Int) : Option (Int × Int) := spec_l14Sums.l0 k l0 l1 0 0 0
theorem spec_l14Sums.mono_l : ∀ k, (∀ y0 y1 y2 y3 y4, LeO (spec_l14Sums.l0 k y0 y1 y2 y3 y4) (spec_l14Sums.l0 (k + 1) y0 y1 y2 y3 y4))
  | 0 => fun _ _ _ _ _ r h => by simp [spec_l14Sums.l0] at h
  | k + 1 => by
    have ih0 := spec_l14Sums.mono_l k
    · intro y0 y1 y2 y3 y4
      unfold spec_l14Sums.l0
      repeat' first
      | (with_reducible exact ih0 _ _ _ _ _)
      | (with_reducible exact LeO.refl _)
      | (with_reducible exact LeO.none _)
      | (with_reducible refine LeO.ite ?_ ?_)
      | (with_reducible refine LeO.bind ?_ (fun _ => ?_))
      | exact ih0 _ _ _ _ _
      | exact LeO.none _
      | refine LeO.ite ?_ ?_
      | refine LeO.bind ?_ (fun _ => ?_)
theorem spec_l14Sums.mono : ∀ a0 a1 k, LeO (spec_l14Sums.f k a0 a1) (spec_l14Sums.f (k + 1) a0 a1) := by
  intro a0 a1 k
  have ih0 := spec_l14Sums.mono_l k
  unfold spec_l14Sums.f
  repeat' first
      | (with_reducible exact ih0 _ _ _ _ _)
      | (with_reducible exact LeO.refl _)
      | (with_reducible exact LeO.none _)
      | (with_reducible refine LeO.ite ?_ ?_)
      | (with_reducible refine LeO.bind ?_ (fun _ => ?_))
      | exact ih0 _ _ _ _ _
      | exact LeO.none _
      | refine LeO.ite ?_ ?_
      | refine LeO.bind ?_ (fun _ => ?_)
set_option maxHeartbeats 8000000 in
set_option maxRecDepth 100000 in
theorem spec_l14Sums.calls (k : Nat) (A0 : Option Addr) (c0 : Nat) (l0 : List (S78)) (A1 : Option Addr) (c1 : Nat) (l1 : List Int) (r1 : Int) (r2 : Int) (w : World) (hr0 : Kd.C k78 w A0 l0.length l0) (hc0 : l0.length ≤ c0) (hr1 : Kd.C (Kd.int .i64) w A1 l1.length l1) (hc1 : l1.length ≤ c1) (h : spec_l14Sums.f k l0 l1 = some (r1, r2)) :
    Calls Try.prog 105 #[.slice A0 l0.length c0, .slice A1 l1.length c1] w fun e w' => e = .returned (.tuple #[.int .i64 r1, .int .i64 r2]) ∧ Below w.heap.size w w' := by
  have hu78 := Try.underlying78
  have HR0 := Aside0.mk hr0
  have HC0 := Aside0.mk hc0
  clear hr0 hc0
  have HR1 := Aside0.mk hr1
  have HC1 := Aside0.mk hc1
  clear hr1 hc1
  have HB := Aside0.mk (Below.refl w.heap.size w)
  have H : (spec_l14Sums.l0 k l0 l1 0 0 0) = some (r1, r2) := h
  clear h
  have H' := Aside0.mk H
  clear H
  go_enter Try.func105, Try.ntmps105
  go_wp2
  go_loopg [6, 7, 8] k (fun kq v6 v7 v8 w' => ∃ (x6_1 : Int) (x7_1 : Int) (x8_1 : Int), v6 = .int .i64 x6_1 ∧ v7 = .int .i64 x7_1 ∧ v8 = .int .i64 x8_1 ∧ Aside0 (spec_l14Sums.l0 kq l0 l1 x6_1 x7_1 x8_1 = some (r1, r2)) ∧ Aside0 (kq ≤ k) ∧ Aside0 (Below w.heap.size w w'))
  case atStart => exact ⟨(0), (0), (0), (by first | rfl | (simp; done) | (simp [*]; done)), (by first | rfl | (simp; done) | (simp [*]; done)), (by first | rfl | (simp; done) | (simp [*]; done)), H', ⟨Nat.le_refl _⟩, ⟨by repeat (first | (with_reducible first | exact HB.out | apply below_alloc | apply pw_below_drewN | apply below_drew1) | exact HB.out)⟩⟩
  case round =>
    clear H'
    try clear c1
    try clear p2
    obtain ⟨x6_1, x7_1, x8_1, rfl, rfl, rfl, HA, HK1, HB⟩ := hrel
    cases gk with
    | zero => exact absurd HA.out (by simp [spec_l14Sums.l0])
    | succ k1 =>
      have H := HA.out
      clear HA
      simp only [spec_l14Sums.l0] at H
      by_cases c3 : x8_1 < (l1.length : Int)
      · rw [if_pos c3] at H
        have c3b0 : decide (x8_1 < (l1.length : Int)) = true := decide_eq_true c3
        clear c3
        by_cases c4 : 0 ≤ x8_1
        · rw [if_pos c4] at H
          have c4b0 : decide (0 ≤ x8_1) = true := decide_eq_true c4
          clear c4
          by_cases c5 : 0 ≤ (rd l1 x8_1)
          · rw [if_pos c5] at H
            have c5b0 : decide (0 ≤ (rd l1 x8_1)) = true := decide_eq_true c5
            clear c5
            by_cases c6 : (rd l1 x8_1) < (l0.length : Int)
            · rw [if_pos c6] at H
              have c6b0 : decide ((rd l1 x8_1) < (l0.length : Int)) = true := decide_eq_true c6
              clear c6
              have H' := Aside0.mk H
              clear H
              have p303 : 0 ≤ (x8_1 : Int) := of_decide_eq_true (by first | (with_reducible assumption) | assumption)
              have q303 : x8_1 < (l1.length : Int) := of_decide_eq_true (by first | (with_reducible assumption) | assumption)
              obtain ⟨ad303, e303, hx303_0⟩ := Kd.at_int HR1.out x8_1 p303 q303
              cases e303
              replace hx303_0 := (HB.out.cell (World.block_lt_of_cell? w _ hx303_0)).trans hx303_0
              replace p303 := eq_true p303
              replace q303 := eq_true q303
              have p304 : 0 ≤ ((rd l1 x8_1) : Int) := of_decide_eq_true (by first | (with_reducible assumption) | assumption)
              have q304 : (rd l1 x8_1) < (l0.length : Int) := of_decide_eq_true (by first | (with_reducible assumption) | assumption)
              obtain ⟨ad304, e304, hx304_0, hx304_1⟩ := at_T78 HR0.out (rd l1 x8_1) p304 q304
              cases e304
              replace hx304_0 := (HB.out.cell (World.block_lt_of_cell? w _ hx304_0)).trans hx304_0
              replace hx304_1 := (HB.out.cell (World.block_lt_of_cell? w _ hx304_1)).trans hx304_1
              replace p304 := eq_true p304
              replace q304 := eq_true q304
              go_wp2_with (first | ((with_reducible refine gate_dst (N := 9) rfl ?_); refine box_event ?hg (N := 9) ?hd (cs := #[.int .i64 0, .int .i64 0]) (t := 78) ?hr ?_; (case hd => rfl); (case hg => rfl); (case hr => first | (go_simp; done) | (go_simp; rfl)); intro gb305 hg w7 hbox hb; have n0_ := Aside0.mk (below_step (by repeat (first | (with_reducible first | exact HB.out | apply below_alloc | apply pw_below_drewN | apply below_drew1) | exact HB.out)) hb); have n1_ := Aside0.mk (hbox); have n2_ := Aside0.mk ((by rw [hg]; exact (below_size (by repeat (first | (with_reducible first | exact HB.out | apply below_alloc | apply pw_below_drewN | apply below_drew1) | exact HB.out))) : w.heap.size ≤ gb305)); have n3_ := Aside0.mk ((by rw [hg]; exact (below_size (by repeat (first | (with_reducible first | exact HB.out | apply below_alloc | apply pw_below_drewN | apply below_drew1) | exact HB.out))) : w.heap.size ≤ gb305)); clear HB; have HB := n0_; have BK305 := n1_; have GW305 := n2_; have GE305 := n3_; clear n0_ n1_ n2_ n3_; clear hb hbox hg; have hcz8_0 : w7.cell? ⟨gb305, 0, none⟩ = some (.int .i64 0) := (blk_cell BK305.out 0).trans rfl; have hcz8_1 : w7.cell? ⟨gb305, 1, none⟩ = some (.int .i64 0) := (blk_cell BK305.out 1).trans rfl; have hfz8_0 := blk_frozen BK305.out 0; have hfz8_1 := blk_frozen BK305.out 1))
              go_roundg k1
              case measure => have := HK1.out; omega
              case rel => exact ⟨(wrap64 (x6_1 + ((rd_T78 l0 (rd l1 x8_1)).f0))), (wrap64 ((wrap64 (x7_1 + ((rd_T78 l0 (rd l1 x8_1)).f1))) - ((rd_T78 l0 (rd l1 x8_1)).f0))), (wrap64 (x8_1 + 1)), (by first | rfl | (simp; done) | (simp [*]; done)), (by first | rfl | (simp; done) | (simp [*]; done)), (by first | rfl | (simp; done) | (simp [*]; done)), H', ⟨by have := HK1.out; omega⟩, ⟨by repeat (first | (with_reducible first | exact HB.out | apply below_alloc | apply pw_below_drewN | apply below_drew1 | refine below_set ?_ GE305.out) | exact HB.out)⟩⟩
            · rw [if_neg c6] at H
              exact absurd H (by simp)
          · rw [if_neg c5] at H
            exact absurd H (by simp)
        · rw [if_neg c4] at H
          exact absurd H (by simp)
      · rw [if_neg c3] at H
        have c3b0 : decide (x8_1 < (l1.length : Int)) = false := decide_eq_false c3
        clear c3
        simp only [Option.some.injEq, Prod.mk.injEq] at H
        obtain ⟨rfl, rfl⟩ := H
        go_wp2
        go_ret2
        exact ⟨by first | rfl | (simp [errW_none, errW_some] <;> rfl) | (simp [*, errW_none, errW_some] <;> rfl), by repeat (first | (with_reducible first | exact HB.out | apply below_alloc | apply pw_below_drewN | apply below_drew1) | exact HB.out)⟩

end Go.Proofs.Ytldkcddjligbdaa.F
