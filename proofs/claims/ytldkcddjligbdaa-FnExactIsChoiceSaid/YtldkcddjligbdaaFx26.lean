-- Written by this session's program (wip/bin/hp.py) over the kit's print: a function's Lean form, and a proof that the call does what it says.
import Derived.Test.YtldkcddjligbdaaFx0
import Derived.Test.YtldkcddjligbdaaFx4
import Derived.Test.YtldkcddjligbdaaFx25
namespace Go.Proofs.Ytldkcddjligbdaa.F
open Go.RowKit Go.Proofs.YtldkcddjligbdaaW.PrintWords Go.Proofs.YtldkcddjligbdaaW.PrintLast Go.Proofs.YtldkcddjligbdaaW.PrintMore
attribute [local go_sem] max2_int min2_int max_two min_two max_three min_three max_four min_four   -- for this text's walks alone
set_option linter.unusedVariables false
set_option linter.unusedSimpArgs false

/-! ### slices_ContainsFunc_int64_int64: function 173 -/
theorem ContainsFunc_I_i64.calls (g : Nat) (lb : Array Value) (p : Int → Bool) (A0 : Option Addr) (c0 : Nat) (l0 : List Int) (w : World) (hr0 : Kd.C (Kd.int .i64) w A0 l0.length l0) (hc0 : l0.length ≤ c0)
    (eg : ∀ args w, (callFunc g args).run Try.prog w = .ok (.enter g args) w) (hp : FnP Try.prog (Value.int .i64) g lb p l0 w) :
    Calls Try.prog 173 #[.slice A0 l0.length c0, .func (.func g) #[] lb] w fun e w' => e = .returned (.bool (l0.any p)) ∧ Below w.heap.size w w' := by
  have HC := Aside0.mk (IndexFunc_I_i64.calls g lb p A0 c0 l0 w hr0 hc0 eg hp)
  clear hr0 hc0 hp
  rw [← idxP_any]
  go_enter Try.func173, Try.ntmps173
  go_wp2_with (go_at_call 181; refine HC.out.mono ?_; rintro e w' ⟨rfl, hb'⟩)
  go_ret
  exact ⟨rfl, hb'⟩

-- NOT PRINTED: function 174 (impl_all_int64_1)

/-! ### impl_all_int64: function 149 -/
theorem all_1_I_i64.calls (g : Nat) (lb : Array Value) (p : Int → Bool) (B : Nat) (x : Int) (w : World) (hB : B < w.heap.size) (hc : w.cell? ⟨B, 0, none⟩ = some (.func (.func g) #[] lb))
    (eg : ∀ args w, (callFunc g args).run Try.prog w = .ok (.enter g args) w) (hp : ∀ W, Below w.heap.size w W → Calls Try.prog g (#[(Value.int .i64) x] ++ lb) W fun e w' => e = .returned (.bool (p x)) ∧ Below W.heap.size W w') :
    Calls Try.prog 174 #[(Value.int .i64) x, .pointer (some ⟨B, 0, none⟩)] w fun e w' => e = .returned (.bool (!p x)) ∧ Below w.heap.size w w' := by
  have HP := Aside0.mk hp
  clear hp
  go_enter Try.func174, Try.ntmps174
  go_wp2_with (go_at_fn g; refine (HP.out _ (Below.refl _ _)).mono ?_; rintro e w' ⟨rfl, hb'⟩)
  go_ret
  exact ⟨rfl, hb'⟩
theorem all_I_i64.calls (g : Nat) (lb : Array Value) (p : Int → Bool) (A0 : Option Addr) (c0 : Nat) (l0 : List Int) (w : World) (hr0 : Kd.C (Kd.int .i64) w A0 l0.length l0) (hc0 : l0.length ≤ c0)
    (eg : ∀ args w, (callFunc g args).run Try.prog w = .ok (.enter g args) w) (hp : FnP Try.prog (Value.int .i64) g lb p l0 w) :
    Calls Try.prog 149 #[.slice A0 l0.length c0, .func (.func g) #[] lb] w fun e w' => e = .returned (.bool (l0.all p)) ∧ Below w.heap.size w w' := by
  have hb0 : Below w.heap.size w (w.alloc (.cells #[.func (.func g) #[] lb] 128)) := below_alloc (Below.refl _ _) _
  have e1 : ∀ args w, (callFunc 174 args).run Try.prog w = .ok (.enter 174 args) w := enters_of Try.func174 (by kernel_rfl) rfl
  have HC := Aside0.mk (ContainsFunc_I_i64.calls 174 #[.pointer (some ⟨w.heap.size, 0, none⟩)] (fun x => !p x) A0 c0 l0 (w.alloc (.cells #[.func (.func g) #[] lb] 128)) (Kd.C_below hr0 hb0) hc0 e1 (by
    intro W x hx hW
    have hsz : w.heap.size < W.heap.size := by have := hW.size; simp at this; omega
    exact all_1_I_i64.calls g lb p w.heap.size x W hsz ((hW.cell (p := ⟨w.heap.size, 0, none⟩) (by simp)).trans (by simp)) eg (fun W' hW' => hp W' x hx (below_then (below_then hb0 hb0.size hW) (by omega) hW'))))
  clear hr0 hc0 hp
  rw [← any_not_all]
  go_enter Try.func149, Try.ntmps149
  go_wp2_with (go_at_call 173; refine HC.out.mono ?_; rintro e w' ⟨rfl, hb'⟩)
  go_ret
  exact ⟨rfl, below_then hb0 hb0.size hb'⟩

/-! ### impl_Option_152: function 152 -/
def impl_Option_152.f (l0 : List (S78)) : Option (Int) := some (l0.length : Int)
set_option maxHeartbeats 8000000 in
set_option maxRecDepth 100000 in
theorem impl_Option_152.calls (A0 : Option Addr) (c0 : Nat) (l0 : List (S78)) (r : Int) (w : World) (hr0 : Kd.C k78 w A0 l0.length l0) (hc0 : l0.length ≤ c0) (h : impl_Option_152.f l0 = some r) :
    Calls Try.prog 152 #[.slice A0 l0.length c0] w fun e w' => e = .returned (.int .i64 r) ∧ Drawn0 w w' := by
  have HR0 := Aside0.mk hr0
  have HC0 := Aside0.mk hc0
  clear hr0 hc0
  have H : (some (l0.length : Int)) = some r := h
  clear h
  obtain rfl := Option.some.inj H
  go_enter Try.func152, Try.ntmps152
  go_wp2
  go_ret
  exact ⟨by first | rfl | (simp; done) | (simp [*]; done), by repeat (first | exact Drawn0.refl _ | apply Drawn0.step)⟩

-- NOT PRINTED: function 150 (impl_isChoice_1)

/-! ### impl_rising_int64: function 153 -/
set_option maxHeartbeats 1000000 in
set_option maxRecDepth 100000 in
theorem rising_I_i64.calls (g : Nat) (lb : Array Value) (q : Int → Int → Int) (A0 : Option Addr) (c0 : Nat) (l0 : List Int) (w : World) (hr0 : Kd.C (Kd.int .i64) w A0 l0.length l0) (hc0 : l0.length ≤ c0)
    (eg : ∀ args w, (callFunc g args).run Try.prog w = .ok (.enter g args) w) (hp : FnC Try.prog (Value.int .i64) g lb q l0 w) :
    Calls Try.prog 153 #[.slice A0 l0.length c0, .func (.func g) #[] lb] w fun e w' => e = .returned (.bool (risingB q l0)) ∧ Below w.heap.size w w' := by
  have hbig : l0.length ≤ 9223372036854775807 := hr0.2.1
  have HR0 := Aside0.mk hr0
  have HP := Aside0.mk hp
  clear hr0 hc0 hp
  go_enter Try.func153, Try.ntmps153
  go_wp2
  go_loopg [5] l0.length (fun gg s5 wr => ∃ kk : Nat, 1 ≤ kk ∧ (kk ≤ l0.length ∨ kk = 1) ∧ l0.length - kk ≤ gg ∧ s5 = .int .i64 kk ∧ Aside0 (Below w.heap.size w wr) ∧ Aside0 (∀ j (hj : j < l0.length) (h1 : 1 ≤ j), j < kk → q l0[j - 1] l0[j] < 0))
  case atStart => exact ⟨1, by omega, .inr rfl, by omega, rfl, ⟨Below.refl _ w⟩, ⟨fun j hj h1 h => by omega⟩⟩
  case round =>
    obtain ⟨kk, hk1, hkk, hg, rfl, BW, A⟩ := hrel
    by_cases hlt : kk < l0.length
    · have hltz : (kk : Int) < (l0.length : Int) := by omega
      have o1 := Kd.at_int HR0.out ((kk - 1 : Nat) : Int) (by omega) (by omega)
      have o2 := Kd.at_int HR0.out (kk : Int) (by omega) (by omega)
      rw [rd_at_I_i64 l0 (kk - 1) (by omega), Int.toNat_natCast] at o1
      rw [rd_at_I_i64 l0 kk hlt, Int.toNat_natCast] at o2
      obtain ⟨ad, e_ad, hx0⟩ := o1
      cases e_ad
      obtain ⟨ae, e_ae, hz0⟩ := o2
      cases e_ae
      replace hx0 := (BW.out.cell (World.block_lt_of_cell? w _ hx0)).trans hx0
      replace hz0 := (BW.out.cell (World.block_lt_of_cell? w _ hz0)).trans hz0
      have hcall := HP.out wr.drew l0[kk - 1] l0[kk] (List.getElem_mem (by omega)) (List.getElem_mem hlt) (below_drew BW.out)
      generalize hy : l0[kk - 1] = y at hx0 hcall
      generalize hy2 : l0[kk] = y2 at hz0 hcall
      have B : Aside0 (l0[kk - 1] = y) := ⟨hy⟩
      have B2 : Aside0 (l0[kk] = y2) := ⟨hy2⟩
      clear hy hy2
      have s1 : IntKind.i64.wrap ((kk : Int) - 1) = (kk : Int) - 1 := IntWalk.i64_in _ (by omega)
      have s2 : 0 ≤ (kk : Int) - 1 := by omega
      have s3 : ((kk : Int) - 1).toNat = kk - 1 := by omega
      have s4 : (kk : Int) - 1 < (l0.length : Int) := by omega
      have s5 : 1 ≤ (kk : Int) := by omega
      have s6 : (kk : Int) < (l0.length : Int) + 1 := by omega
      have s7 : 0 ≤ (kk : Int) := by omega
      have HB2 : Aside0 (Below w.heap.size w wr.drew) := ⟨below_drew BW.out⟩
      have Z := Aside0.mk (rfl : q y y2 = q y y2)
      by_cases hq : 0 ≤ q y y2
      · have N := Aside0.mk (risingB_no q l0 kk hlt hk1 (by rw [B.out, B2.out]; omega))
        generalize q y y2 = z at hcall hq Z
        have Q1 : decide (0 ≤ z) = true := decide_eq_true hq
        clear hq
        go_wp2_with fail
        go_still_tail 10, (by kernel_rfl)
        change wpList _ _ _ _ _ wr.drew
        go_wp2_with (go_at_fn g; refine hcall.mono ?_; rintro e w' ⟨rfl, hb'⟩)
        go_ret
        exact ⟨by rw [N.out]; rfl, below_then HB2.out HB2.out.size hb'⟩
      · have L : Aside0 (q l0[kk - 1] l0[kk] < 0) := ⟨by rw [B.out, B2.out]; omega⟩
        generalize q y y2 = z at hcall hq Z
        have Q1 : decide (0 ≤ z) = false := decide_eq_false hq
        clear hq
        go_wp2_with fail
        go_still_tail 10, (by kernel_rfl)
        change wpList _ _ _ _ _ wr.drew
        go_wp2_with (go_at_fn g; refine hcall.mono ?_; rintro e w' ⟨rfl, hb'⟩)
        go_roundg (l0.length - (kk + 1))
        case measure => omega
        case rel =>
          refine ⟨kk + 1, by omega, by omega, by omega, by go_num, ⟨below_then HB2.out HB2.out.size hb'⟩, ⟨fun j hj h1 hjk => ?_⟩⟩
          by_cases e : j = kk
          · subst e; exact L.out
          · exact A.out j hj h1 (by omega)
    · have hltz : ¬ (kk : Int) < (l0.length : Int) := by omega
      go_wp2
      go_ret
      refine ⟨?_, BW.out⟩
      rw [risingB_yes q l0 (fun j hj h1 => A.out j hj h1 (by omega))]
      rfl

/-! ### cmp_isNaN_int64: function 175 -/
def cmp_isNaN_int64.f (a0 : Int) : Option (Bool) := some (a0 != a0)
set_option maxHeartbeats 8000000 in
set_option maxRecDepth 100000 in
theorem cmp_isNaN_int64.calls (a0 : Int) (r : Bool) (w : World) (h : cmp_isNaN_int64.f a0 = some r) :
    Calls Try.prog 175 #[.int .i64 a0] w fun e w' => e = .returned (.bool r) ∧ Drawn0 w w' := by
  have H : (some (a0 != a0)) = some r := h
  clear h
  obtain rfl := Option.some.inj H
  go_enter Try.func175, Try.ntmps175
  go_wp2
  go_ret
  exact ⟨by first | rfl | (simp; done) | (simp [*]; done), by repeat (first | exact Drawn0.refl _ | apply Drawn0.step)⟩

/-! ### cmp_Compare_int64: function 154 -/
def cmp_Compare_int64.f (a0 : Int) (a1 : Int) : Option (Int) := (cmp_isNaN_int64.f a0).bind fun t317 => ((cmp_isNaN_int64.f a1).bind fun t318 => (if t317 = true then (if t318 = true then (some 0) else (some (-1))) else (if t318 = true then (some 1) else (if a0 < a1 then (some (-1)) else (if a0 > a1 then (some 1) else (some 0))))))
set_option maxHeartbeats 8000000 in
set_option maxRecDepth 100000 in
theorem cmp_Compare_int64.calls (a0 : Int) (a1 : Int) (r : Int) (w : World) (h : cmp_Compare_int64.f a0 a1 = some r) :
    Calls Try.prog 154 #[.int .i64 a0, .int .i64 a1] w fun e w' => e = .returned (.int .i64 r) ∧ Drawn0 w w' := by
  have H : ((cmp_isNaN_int64.f a0).bind fun t317 => ((cmp_isNaN_int64.f a1).bind fun t318 => (if t317 = true then (if t318 = true then (some 0) else (some (-1))) else (if t318 = true then (some 1) else (if a0 < a1 then (some (-1)) else (if a0 > a1 then (some 1) else (some 0))))))) = some r := h
  clear h
  replace H := Option.bind_eq_some_iff.mp H
  obtain ⟨t317, A30, H⟩ := H
  replace H : ((cmp_isNaN_int64.f a1).bind fun t318 => (if t317 = true then (if t318 = true then (some 0) else (some (-1))) else (if t318 = true then (some 1) else (if a0 < a1 then (some (-1)) else (if a0 > a1 then (some 1) else (some 0)))))) = some r := H
  have A3 := Aside0.mk A30
  clear A30
  replace H := Option.bind_eq_some_iff.mp H
  obtain ⟨t318, A40, H⟩ := H
  replace H : (if t317 = true then (if t318 = true then (some 0) else (some (-1))) else (if t318 = true then (some 1) else (if a0 < a1 then (some (-1)) else (if a0 > a1 then (some 1) else (some 0))))) = some r := H
  have A4 := Aside0.mk A40
  clear A40
  by_cases c5 : t317 = true
  · subst c5
    have H1 : (if t318 = true then (some 0) else (some (-1))) = some r := by rw [if_pos rfl] at H; exact H
    clear H
    have H := H1
    clear H1
    by_cases c6 : t318 = true
    · subst c6
      have H1 : (some 0) = some r := by rw [if_pos rfl] at H; exact H
      clear H
      have H := H1
      clear H1
      obtain rfl := Option.some.inj H
      go_enter Try.func154, Try.ntmps154
      go_wp2_with (first | ((with_reducible refine gate_callee (f := 175) rfl ?_); refine goesL_ (some 8) rfl rfl Try.func175 (by kernel_rfl) rfl #[.int .i64 a0] rfl (by (try simp only [List.map_toArray, List.map_cons, List.map_nil]); first | done | rfl | (simp only [List.length_drop, List.length_take]; rfl)) ?_; (with_reducible refine (cmp_isNaN_int64.calls a0 true _ A3.out).mono ?_); rintro e w' ⟨rfl, ⟨nd, rfl⟩⟩; refine ⟨_, rfl, ?_⟩) | ((with_reducible refine gate_callee (f := 175) rfl ?_); refine goesL_ (some 10) rfl rfl Try.func175 (by kernel_rfl) rfl #[.int .i64 a1] rfl (by (try simp only [List.map_toArray, List.map_cons, List.map_nil]); first | done | rfl | (simp only [List.length_drop, List.length_take]; rfl)) ?_; (with_reducible refine (cmp_isNaN_int64.calls a1 true _ A4.out).mono ?_); rintro e w' ⟨rfl, ⟨nd, rfl⟩⟩; refine ⟨_, rfl, ?_⟩))
      go_ret
      exact ⟨by first | rfl | (simp; done) | (simp [*]; done), by repeat (first | exact Drawn0.refl _ | apply Drawn0.step)⟩
    · replace c6 := Bool.eq_false_iff.mpr c6
      subst c6
      have H1 : (some (-1)) = some r := by rw [if_neg (show ¬ (false = true) by decide)] at H; exact H
      clear H
      have H := H1
      clear H1
      obtain rfl := Option.some.inj H
      go_enter Try.func154, Try.ntmps154
      go_wp2_with (first | ((with_reducible refine gate_callee (f := 175) rfl ?_); refine goesL_ (some 8) rfl rfl Try.func175 (by kernel_rfl) rfl #[.int .i64 a0] rfl (by (try simp only [List.map_toArray, List.map_cons, List.map_nil]); first | done | rfl | (simp only [List.length_drop, List.length_take]; rfl)) ?_; (with_reducible refine (cmp_isNaN_int64.calls a0 true _ A3.out).mono ?_); rintro e w' ⟨rfl, ⟨nd, rfl⟩⟩; refine ⟨_, rfl, ?_⟩) | ((with_reducible refine gate_callee (f := 175) rfl ?_); refine goesL_ (some 10) rfl rfl Try.func175 (by kernel_rfl) rfl #[.int .i64 a1] rfl (by (try simp only [List.map_toArray, List.map_cons, List.map_nil]); first | done | rfl | (simp only [List.length_drop, List.length_take]; rfl)) ?_; (with_reducible refine (cmp_isNaN_int64.calls a1 false _ A4.out).mono ?_); rintro e w' ⟨rfl, ⟨nd, rfl⟩⟩; refine ⟨_, rfl, ?_⟩))
      go_ret
      exact ⟨by first | rfl | (simp; done) | (simp [*]; done), by repeat (first | exact Drawn0.refl _ | apply Drawn0.step)⟩
  · replace c5 := Bool.eq_false_iff.mpr c5
    subst c5
    have H1 : (if t318 = true then (some 1) else (if a0 < a1 then (some (-1)) else (if a0 > a1 then (some 1) else (some 0)))) = some r := by rw [if_neg (show ¬ (false = true) by decide)] at H; exact H
    clear H
    have H := H1
    clear H1
    by_cases c7 : t318 = true
    · subst c7
      have H1 : (some 1) = some r := by rw [if_pos rfl] at H; exact H
      clear H
      have H := H1
      clear H1
      obtain rfl := Option.some.inj H
      go_enter Try.func154, Try.ntmps154
      go_wp2_with (first | ((with_reducible refine gate_callee (f := 175) rfl ?_); refine goesL_ (some 8) rfl rfl Try.func175 (by kernel_rfl) rfl #[.int .i64 a0] rfl (by (try simp only [List.map_toArray, List.map_cons, List.map_nil]); first | done | rfl | (simp only [List.length_drop, List.length_take]; rfl)) ?_; (with_reducible refine (cmp_isNaN_int64.calls a0 false _ A3.out).mono ?_); rintro e w' ⟨rfl, ⟨nd, rfl⟩⟩; refine ⟨_, rfl, ?_⟩) | ((with_reducible refine gate_callee (f := 175) rfl ?_); refine goesL_ (some 10) rfl rfl Try.func175 (by kernel_rfl) rfl #[.int .i64 a1] rfl (by (try simp only [List.map_toArray, List.map_cons, List.map_nil]); first | done | rfl | (simp only [List.length_drop, List.length_take]; rfl)) ?_; (with_reducible refine (cmp_isNaN_int64.calls a1 true _ A4.out).mono ?_); rintro e w' ⟨rfl, ⟨nd, rfl⟩⟩; refine ⟨_, rfl, ?_⟩))
      go_ret
      exact ⟨by first | rfl | (simp; done) | (simp [*]; done), by repeat (first | exact Drawn0.refl _ | apply Drawn0.step)⟩
    · replace c7 := Bool.eq_false_iff.mpr c7
      subst c7
      have H1 : (if a0 < a1 then (some (-1)) else (if a0 > a1 then (some 1) else (some 0))) = some r := by rw [if_neg (show ¬ (false = true) by decide)] at H; exact H
      clear H
      have H := H1
      clear H1
      by_cases c8 : a0 < a1
      · rw [if_pos c8] at H
        have c8b0 : decide (a0 < a1) = true := decide_eq_true c8
        clear c8
        obtain rfl := Option.some.inj H
        go_enter Try.func154, Try.ntmps154
        go_wp2_with (first | ((with_reducible refine gate_callee (f := 175) rfl ?_); refine goesL_ (some 8) rfl rfl Try.func175 (by kernel_rfl) rfl #[.int .i64 a0] rfl (by (try simp only [List.map_toArray, List.map_cons, List.map_nil]); first | done | rfl | (simp only [List.length_drop, List.length_take]; rfl)) ?_; (with_reducible refine (cmp_isNaN_int64.calls a0 false _ A3.out).mono ?_); rintro e w' ⟨rfl, ⟨nd, rfl⟩⟩; refine ⟨_, rfl, ?_⟩) | ((with_reducible refine gate_callee (f := 175) rfl ?_); refine goesL_ (some 10) rfl rfl Try.func175 (by kernel_rfl) rfl #[.int .i64 a1] rfl (by (try simp only [List.map_toArray, List.map_cons, List.map_nil]); first | done | rfl | (simp only [List.length_drop, List.length_take]; rfl)) ?_; (with_reducible refine (cmp_isNaN_int64.calls a1 false _ A4.out).mono ?_); rintro e w' ⟨rfl, ⟨nd, rfl⟩⟩; refine ⟨_, rfl, ?_⟩))
        go_ret
        exact ⟨by first | rfl | (simp; done) | (simp [*]; done), by repeat (first | exact Drawn0.refl _ | apply Drawn0.step)⟩
      · rw [if_neg c8] at H
        have c8b0 : decide (a0 < a1) = false := decide_eq_false c8
        clear c8
        by_cases c9 : a0 > a1
        · rw [if_pos c9] at H
          have c9b0 : decide (a1 < a0) = true := decide_eq_true c9
          clear c9
          obtain rfl := Option.some.inj H
          go_enter Try.func154, Try.ntmps154
          go_wp2_with (first | ((with_reducible refine gate_callee (f := 175) rfl ?_); refine goesL_ (some 8) rfl rfl Try.func175 (by kernel_rfl) rfl #[.int .i64 a0] rfl (by (try simp only [List.map_toArray, List.map_cons, List.map_nil]); first | done | rfl | (simp only [List.length_drop, List.length_take]; rfl)) ?_; (with_reducible refine (cmp_isNaN_int64.calls a0 false _ A3.out).mono ?_); rintro e w' ⟨rfl, ⟨nd, rfl⟩⟩; refine ⟨_, rfl, ?_⟩) | ((with_reducible refine gate_callee (f := 175) rfl ?_); refine goesL_ (some 10) rfl rfl Try.func175 (by kernel_rfl) rfl #[.int .i64 a1] rfl (by (try simp only [List.map_toArray, List.map_cons, List.map_nil]); first | done | rfl | (simp only [List.length_drop, List.length_take]; rfl)) ?_; (with_reducible refine (cmp_isNaN_int64.calls a1 false _ A4.out).mono ?_); rintro e w' ⟨rfl, ⟨nd, rfl⟩⟩; refine ⟨_, rfl, ?_⟩))
          go_ret
          exact ⟨by first | rfl | (simp; done) | (simp [*]; done), by repeat (first | exact Drawn0.refl _ | apply Drawn0.step)⟩
        · rw [if_neg c9] at H
          have c9b0 : decide (a1 < a0) = false := decide_eq_false c9
          clear c9
          obtain rfl := Option.some.inj H
          go_enter Try.func154, Try.ntmps154
          go_wp2_with (first | ((with_reducible refine gate_callee (f := 175) rfl ?_); refine goesL_ (some 8) rfl rfl Try.func175 (by kernel_rfl) rfl #[.int .i64 a0] rfl (by (try simp only [List.map_toArray, List.map_cons, List.map_nil]); first | done | rfl | (simp only [List.length_drop, List.length_take]; rfl)) ?_; (with_reducible refine (cmp_isNaN_int64.calls a0 false _ A3.out).mono ?_); rintro e w' ⟨rfl, ⟨nd, rfl⟩⟩; refine ⟨_, rfl, ?_⟩) | ((with_reducible refine gate_callee (f := 175) rfl ?_); refine goesL_ (some 10) rfl rfl Try.func175 (by kernel_rfl) rfl #[.int .i64 a1] rfl (by (try simp only [List.map_toArray, List.map_cons, List.map_nil]); first | done | rfl | (simp only [List.length_drop, List.length_take]; rfl)) ?_; (with_reducible refine (cmp_isNaN_int64.calls a1 false _ A4.out).mono ?_); rintro e w' ⟨rfl, ⟨nd, rfl⟩⟩; refine ⟨_, rfl, ?_⟩))
          go_ret
          exact ⟨by first | rfl | (simp; done) | (simp [*]; done), by repeat (first | exact Drawn0.refl _ | apply Drawn0.step)⟩

/-! ### impl_isChoice: function 106 -/
theorem isChoice_1.calls (B : Nat) (A0 : Option Addr) (n c0 : Nat) (x : Int) (w : World) (hn : n ≤ 9223372036854775807) (hc : w.cell? ⟨B, 0, none⟩ = some (.slice A0 n c0)) :
    Calls Try.prog 150 #[.int .i64 x, .pointer (some ⟨B, 0, none⟩)] w fun e w' => e = .returned (.bool (decide (0 ≤ x ∧ x ≤ (n : Int) - 1))) ∧ Below w.heap.size w w' := by
  have hI := Aside0.mk (show impl_in.f x 0 ((n : Int) - 1) = some (decide (0 ≤ x ∧ x ≤ (n : Int) - 1)) by
    unfold impl_in.f
    by_cases h : x ≥ 0 <;> simp [h])
  generalize decide (0 ≤ x ∧ x ≤ (n : Int) - 1) = b at hI ⊢
  have h1 : IntKind.i64.wrap ((n : Int) - 1) = (n : Int) - 1 := IntWalk.i64_in _ (by omega)
  go_enter Try.func150, Try.ntmps150
  go_wp2_with (first | (go_at_call 151; refine (impl_in.calls x 0 ((n : Int) - 1) b _ hI.out).mono ?_; rintro e w' ⟨rfl, ⟨nd, rfl⟩⟩) | go_in)
  go_ret
  exact ⟨rfl, pw_below_drewN (Below.refl _ _) _⟩
def cmpI (a b : Int) : Int := if a < b then -1 else if a > b then 1 else 0
theorem cmpI_f (a b : Int) : cmp_Compare_int64.f a b = some (cmpI a b) := by
  have hn : ∀ x, cmp_isNaN_int64.f x = some false := fun x => by simp [cmp_isNaN_int64.f]
  unfold cmp_Compare_int64.f cmpI
  simp only [hn, Option.bind_some]
  by_cases h1 : a < b <;> by_cases h2 : a > b <;> simp [h1, h2] <;> omega
def isChoiceB (n : Nat) (l : List Int) : Bool := (l.all fun x => decide (0 ≤ x ∧ x ≤ (n : Int) - 1)) && risingB cmpI l
def impl_isChoice.f (l0 : List S78) (l1 : List Int) : Option Bool := some (isChoiceB l0.length l1)
set_option maxHeartbeats 400000 in
theorem impl_isChoice.calls (A0 : Option Addr) (c0 : Nat) (l0 : List S78) (A1 : Option Addr) (c1 : Nat) (l1 : List Int) (r : Bool) (w : World) (hr0 : Kd.C k78 w A0 l0.length l0) (hc0 : l0.length ≤ c0) (hr1 : Kd.C (Kd.int .i64) w A1 l1.length l1) (hc1 : l1.length ≤ c1) (h : impl_isChoice.f l0 l1 = some r) :
    Calls Try.prog 106 #[.slice A0 l0.length c0, .slice A1 l1.length c1] w fun e w' => e = .returned (.bool r) ∧ Below w.heap.size w w' := by
  obtain rfl := Option.some.inj h
  clear h
  have hbig : l0.length ≤ 9223372036854775807 := hr0.2.1
  have hb0 : Below w.heap.size w (w.alloc (.cells #[.slice A0 l0.length c0] 26)) := below_alloc (Below.refl _ _) _
  have e1 : ∀ args w, (callFunc 150 args).run Try.prog w = .ok (.enter 150 args) w := enters_of Try.func150 (by kernel_rfl) rfl
  have e2 : ∀ args w, (callFunc 154 args).run Try.prog w = .ok (.enter 154 args) w := enters_of Try.func154 (by kernel_rfl) rfl
  have HA := Aside0.mk (all_I_i64.calls 150 #[.pointer (some ⟨w.heap.size, 0, none⟩)] (fun x => decide (0 ≤ x ∧ x ≤ (l0.length : Int) - 1)) A1 c1 l1 (w.alloc (.cells #[.slice A0 l0.length c0] 26)) (Kd.C_below hr1 hb0) hc1 e1 (fun W x hx hW => by
    have hsz : w.heap.size < W.heap.size := by have := hW.size; simp at this; omega
    exact isChoice_1.calls w.heap.size A0 l0.length c0 x W hbig ((hW.cell (p := ⟨w.heap.size, 0, none⟩) (by simp)).trans (by simp))))
  have HR := Aside0.mk (fun (W : World) (hW : Below w.heap.size w W) => rising_I_i64.calls 154 #[] cmpI A1 c1 l1 W (Kd.C_below hr1 hW) hc1 e2 (fun W' x y _ _ _ => by
    refine (cmp_Compare_int64.calls x y (cmpI x y) W' (cmpI_f x y)).mono ?_
    rintro e w' ⟨rfl, hd⟩
    exact ⟨rfl, hd.below⟩))
  have HB := Aside0.mk hb0
  clear hr0 hc0 hr1 hc1 hb0
  unfold isChoiceB
  cases ha : (l1.all fun x => decide (0 ≤ x ∧ x ≤ (l0.length : Int) - 1)) with
  | false =>
    rw [ha] at HA
    clear ha
    go_enter Try.func106, Try.ntmps106
    go_wp2_with (go_at_call 149; refine HA.out.mono ?_; rintro e w' ⟨rfl, hb⟩)
    go_ret
    exact ⟨rfl, below_then HB.out HB.out.size hb⟩
  | true =>
    rw [ha] at HA
    clear ha
    generalize risingB cmpI l1 = q at HR
    go_enter Try.func106, Try.ntmps106
    go_wp2_with (first | (go_at_call 149; refine HA.out.mono ?_; rintro e w1 ⟨rfl, hb⟩; have HB1 := Aside0.mk (below_then HB.out HB.out.size hb); clear hb) | (go_at_call 153; refine (HR.out _ HB1.out).mono ?_; rintro e w2 ⟨rfl, hb⟩))
    go_ret
    exact ⟨by simp, below_then HB1.out HB1.out.size hb⟩

end Go.Proofs.Ytldkcddjligbdaa.F
