-- Written by this session's program (wip/bin/hp.py) over the kit's print: a function's Lean form, and a proof that the call does what it says.
import Derived.Test.YtmfbkbbgokjhnaaGreatFx0
import Derived.Test.YtmfbkbbgokjhnaaGreatFx18
import Derived.Test.YtmfbkbbgokjhnaaGreatFx21
import Derived.Test.YtmfbkbbgokjhnaaGreatFx26
import Derived.Test.YtmfbkbbgokjhnaaGreatSq
import Derived.Test.YtmfbkbbgokjhnaaGreatFx24
namespace Go.Proofs.YtmfbkbbgokjhnaaGreat.F
open Go.RowKit Go.Proofs.YtmfbkbbgokjhnaaGreatW.PrintWords Go.Proofs.YtmfbkbbgokjhnaaGreatW.PrintLast Go.Proofs.YtmfbkbbgokjhnaaGreatW.PrintMore
attribute [local go_sem] max2_int min2_int max_two min_two max_three min_three max_four min_four   -- for this text's walks alone
set_option linter.unusedVariables false
set_option linter.unusedSimpArgs false

/-! ### impl_Step_168: function 168 -/
def val_T111 (x : S111) : Value := .agg #[.int .i64 x.f0, .int .i64 x.f1]
theorem rd_at_T111 (l : List S111) (i : Nat) (h : i < l.length) : rd_T111 l (i : Int) = l[i] := by
 simp [rd_T111, List.getD_eq_getElem?_getD, h]
set_option maxHeartbeats 400000 in
theorem IndexFunc_T111.calls (g : Nat) (lb : Array Value) (p : S111 → Bool) (A0 : Option Addr) (c0 : Nat) (l0 : List S111) (w : World) (hr0 : Kd.C k111 w A0 l0.length l0) (hc0 : l0.length ≤ c0)
 (eg : ∀ args w, (callFunc g args).run Tryz.prog w = .ok (.enter g args) w) (hp : FnP Tryz.prog val_T111 g lb p l0 w) :
 Calls Tryz.prog 168 #[.slice A0 l0.length c0, .func (.func g) #[] lb] w fun e w' => e = .returned (.int .i64 (idxP p l0)) ∧ Below w.heap.size w w' := by
 have hu111 := Tryz.underlying111
 have hbig : l0.length ≤ 9223372036854775807 := hr0.2.1
 have HR0 := Aside0.mk hr0
 have HP := Aside0.mk hp
 clear hr0 hc0 hp
 go_enter Tryz.func168, Tryz.ntmps168
 go_wp2
 go_loopg [5, 8] l0.length (fun gg _ s8 wr => ∃ kk : Nat, kk ≤ l0.length ∧ l0.length - kk ≤ gg ∧ s8 = .int .i64 kk ∧ Aside0 (Below w.heap.size w wr) ∧ Aside0 (∀ j (hj : j < l0.length), j < kk → p l0[j] = false))
 case atStart => exact ⟨0, Nat.zero_le _, by omega, rfl, ⟨Below.refl _ w⟩, ⟨fun j hj h => absurd h (Nat.not_lt_zero _)⟩⟩
 case round =>
  obtain ⟨kk, hkk, hg, rfl, BW, A⟩ := hrel
  by_cases hlt : kk < l0.length
  · have hltz : (kk : Int) < (l0.length : Int) := by omega
    obtain ⟨ad, e_ad, hx0, hx1⟩ := at_T111 HR0.out (kk : Int) (by omega) (by omega)
    cases e_ad
    rw [rd_at_T111 l0 kk hlt, Int.toNat_natCast] at hx0 hx1
    replace hx0 := (BW.out.cell (World.block_lt_of_cell? w _ hx0)).trans hx0
    replace hx1 := (BW.out.cell (World.block_lt_of_cell? w _ hx1)).trans hx1
    have hcall := HP.out wr l0[kk] (List.getElem_mem hlt) BW.out
    unfold val_T111 at hcall
    generalize hy : l0[kk] = y at hx0 hx1 hcall
    have B : Aside0 (l0[kk] = y) := ⟨hy⟩
    clear hy
    cases hq : p y with
    | true =>
     rw [hq] at hcall
     go_wp2_with (go_at_fn g; refine hcall.mono ?_; rintro e w' ⟨rfl, hb'⟩)
     go_ret
     refine ⟨?_, below_then BW.out BW.out.size hb'⟩
     rw [idxP_hit p l0 kk hlt (by rw [B.out]; exact hq) (fun j hj => A.out j _ hj)]
     rfl
    | false =>
     rw [hq] at hcall
     go_wp2_with (go_at_fn g; refine hcall.mono ?_; rintro e w' ⟨rfl, hb'⟩)
     go_roundg (l0.length - (kk + 1))
     case measure => omega
     case rel =>
      refine ⟨kk + 1, by omega, by omega, by go_num, ⟨below_then BW.out BW.out.size hb'⟩, ⟨fun j hj hjk => ?_⟩⟩
      by_cases e : j = kk
      · subst e
        rw [B.out]; exact hq
      · exact A.out j hj (by omega)
  · have hltz : ¬ (kk : Int) < (l0.length : Int) := by omega
    have : kk = l0.length := by omega
    go_wp2
    go_ret
    refine ⟨?_, BW.out⟩
    rw [idxP_miss p l0 (fun j hj => A.out j hj (by omega))]
    rfl

/-! ### impl_Step_146: function 146 -/
theorem ContainsFunc_T111.calls (g : Nat) (lb : Array Value) (p : S111 → Bool) (A0 : Option Addr) (c0 : Nat) (l0 : List S111) (w : World) (hr0 : Kd.C k111 w A0 l0.length l0) (hc0 : l0.length ≤ c0)
 (eg : ∀ args w, (callFunc g args).run Tryz.prog w = .ok (.enter g args) w) (hp : FnP Tryz.prog val_T111 g lb p l0 w) :
 Calls Tryz.prog 146 #[.slice A0 l0.length c0, .func (.func g) #[] lb] w fun e w' => e = .returned (.bool (l0.any p)) ∧ Below w.heap.size w w' := by
 have HC := Aside0.mk (IndexFunc_T111.calls g lb p A0 c0 l0 w hr0 hc0 eg hp)
 clear hr0 hc0 hp
 rw [← idxP_any]
 go_enter Tryz.func146, Tryz.ntmps146
 go_wp2_with (go_at_call 168; refine HC.out.mono ?_; rintro e w' ⟨rfl, hb'⟩)
 go_ret
 exact ⟨rfl, hb'⟩

-- NOT PRINTED: function 147 (impl_Step_1)

/-! ### impl_Step_103: function 103 -/
theorem all_1_T111.calls (g : Nat) (lb : Array Value) (p : S111 → Bool) (B : Nat) (x : S111) (w : World) (hB : B < w.heap.size) (hc : w.cell? ⟨B, 0, none⟩ = some (.func (.func g) #[] lb))
 (eg : ∀ args w, (callFunc g args).run Tryz.prog w = .ok (.enter g args) w) (hp : ∀ W, Below w.heap.size w W → Calls Tryz.prog g (#[val_T111 x] ++ lb) W fun e w' => e = .returned (.bool (p x)) ∧ Below W.heap.size W w') :
 Calls Tryz.prog 147 #[val_T111 x, .pointer (some ⟨B, 0, none⟩)] w fun e w' => e = .returned (.bool (!p x)) ∧ Below w.heap.size w w' := by
 have hu111 := Tryz.underlying111
 have HP := Aside0.mk hp
 clear hp
 unfold val_T111 at HP ⊢
 go_enter Tryz.func147, Tryz.ntmps147
 go_wp2_with (go_at_fn g; refine (HP.out _ (below_alloc (Below.refl _ _) _)).mono ?_; rintro e w' ⟨rfl, hb'⟩)
 go_ret
 exact ⟨rfl, below_then (below_alloc (Below.refl _ _) _) (below_alloc (Below.refl _ _) _).size hb'⟩
theorem all_T111.calls (g : Nat) (lb : Array Value) (p : S111 → Bool) (A0 : Option Addr) (c0 : Nat) (l0 : List S111) (w : World) (hr0 : Kd.C k111 w A0 l0.length l0) (hc0 : l0.length ≤ c0)
 (eg : ∀ args w, (callFunc g args).run Tryz.prog w = .ok (.enter g args) w) (hp : FnP Tryz.prog val_T111 g lb p l0 w) :
 Calls Tryz.prog 103 #[.slice A0 l0.length c0, .func (.func g) #[] lb] w fun e w' => e = .returned (.bool (l0.all p)) ∧ Below w.heap.size w w' := by
 have hb0 : Below w.heap.size w (w.alloc (.cells #[.func (.func g) #[] lb] 126)) := below_alloc (Below.refl _ _) _
 have e1 : ∀ args w, (callFunc 147 args).run Tryz.prog w = .ok (.enter 147 args) w := enters_of Tryz.func147 (by kernel_rfl) rfl
 have HC := Aside0.mk (ContainsFunc_T111.calls 147 #[.pointer (some ⟨w.heap.size, 0, none⟩)] (fun x => !p x) A0 c0 l0 (w.alloc (.cells #[.func (.func g) #[] lb] 126)) (Kd.C_below hr0 hb0) hc0 e1 (by
  intro W x hx hW
  have hsz : w.heap.size < W.heap.size := by have := hW.size; simp at this; omega
  exact all_1_T111.calls g lb p w.heap.size x W hsz ((hW.cell (p := ⟨w.heap.size, 0, none⟩) (by simp)).trans (by simp)) eg (fun W' hW' => hp W' x hx (below_then (below_then hb0 hb0.size hW) (by omega) hW'))))
 clear hr0 hc0 hp
 rw [← any_not_all]
 go_enter Tryz.func103, Tryz.ntmps103
 go_wp2_with (go_at_call 146; refine HC.out.mono ?_; rintro e w' ⟨rfl, hb'⟩)
 go_ret
 exact ⟨rfl, below_then hb0 hb0.size hb'⟩

-- NOT PRINTED: function 104 (impl_IsSchedule_1)

/-! ### impl_Step_105: function 105 -/
set_option maxHeartbeats 1000000 in
set_option maxRecDepth 100000 in
theorem rising_T111.calls (g : Nat) (lb : Array Value) (q : S111 → S111 → Int) (A0 : Option Addr) (c0 : Nat) (l0 : List S111) (w : World) (hr0 : Kd.C k111 w A0 l0.length l0) (hc0 : l0.length ≤ c0)
 (eg : ∀ args w, (callFunc g args).run Tryz.prog w = .ok (.enter g args) w) (hp : FnC Tryz.prog val_T111 g lb q l0 w) :
 Calls Tryz.prog 105 #[.slice A0 l0.length c0, .func (.func g) #[] lb] w fun e w' => e = .returned (.bool (risingB q l0)) ∧ Below w.heap.size w w' := by
 have hu111 := Tryz.underlying111
 have hbig : l0.length ≤ 9223372036854775807 := hr0.2.1
 have HR0 := Aside0.mk hr0
 have HP := Aside0.mk hp
 clear hr0 hc0 hp
 go_enter Tryz.func105, Tryz.ntmps105
 go_wp2
 go_loopg [5] l0.length (fun gg s5 wr => ∃ kk : Nat, 1 ≤ kk ∧ (kk ≤ l0.length ∨ kk = 1) ∧ l0.length - kk ≤ gg ∧ s5 = .int .i64 kk ∧ Aside0 (Below w.heap.size w wr) ∧ Aside0 (∀ j (hj : j < l0.length) (h1 : 1 ≤ j), j < kk → q l0[j - 1] l0[j] < 0))
 case atStart => exact ⟨1, by omega, .inr rfl, by omega, rfl, ⟨Below.refl _ w⟩, ⟨fun j hj h1 h => by omega⟩⟩
 case round =>
  obtain ⟨kk, hk1, hkk, hg, rfl, BW, A⟩ := hrel
  by_cases hlt : kk < l0.length
  · have hltz : (kk : Int) < (l0.length : Int) := by omega
    have o1 := at_T111 HR0.out ((kk - 1 : Nat) : Int) (by omega) (by omega)
    have o2 := at_T111 HR0.out (kk : Int) (by omega) (by omega)
    rw [rd_at_T111 l0 (kk - 1) (by omega), Int.toNat_natCast] at o1
    rw [rd_at_T111 l0 kk hlt, Int.toNat_natCast] at o2
    obtain ⟨ad, e_ad, hx0, hx1⟩ := o1
    cases e_ad
    obtain ⟨ae, e_ae, hz0, hz1⟩ := o2
    cases e_ae
    replace hx0 := (BW.out.cell (World.block_lt_of_cell? w _ hx0)).trans hx0
    replace hx1 := (BW.out.cell (World.block_lt_of_cell? w _ hx1)).trans hx1
    replace hz0 := (BW.out.cell (World.block_lt_of_cell? w _ hz0)).trans hz0
    replace hz1 := (BW.out.cell (World.block_lt_of_cell? w _ hz1)).trans hz1
    have hcall := HP.out wr.drew l0[kk - 1] l0[kk] (List.getElem_mem (by omega)) (List.getElem_mem hlt) (below_drew BW.out)
    unfold val_T111 at hcall
    generalize hy : l0[kk - 1] = y at hx0 hx1 hcall
    generalize hy2 : l0[kk] = y2 at hz0 hz1 hcall
    have B : Aside0 (l0[kk - 1] = y) := ⟨hy⟩
    have B2 : Aside0 (l0[kk] = y2) := ⟨hy2⟩
    clear hy hy2
    have s1 : IntKind.i64.wrap ((kk : Int) - 1) = (kk : Int) - 1 := IntWalk.i64_in _ (by omega)
    have s2 : 0 ≤ (kk : Int) - 1 := by omega
    have s3 : ((kk : Int) - 1).toNat = kk - 1 := by omega
    have s4 : (kk : Int) - 1 < (l0.length : Int) := by omega
    have s5 : 1 ≤ (kk : Int) := by omega
    have s6 : (kk : Int) < (l0.length : Int) + 1 := by omega
    have s7 : 0 ≤ (kk : Int) := by omega
    have HB2 : Aside0 (Below w.heap.size w wr.drew) := ⟨below_drew BW.out⟩
    have Z := Aside0.mk (rfl : q y y2 = q y y2)
    by_cases hq : 0 ≤ q y y2
    · have N := Aside0.mk (risingB_no q l0 kk hlt hk1 (by rw [B.out, B2.out]; omega))
      generalize q y y2 = z at hcall hq Z
      have Q1 : decide (0 ≤ z) = true := decide_eq_true hq
      clear hq
      go_wp2_with fail
      go_still_tail 10, (by kernel_rfl)
      change wpList _ _ _ _ _ wr.drew
      go_wp2_with (go_at_fn g; refine hcall.mono ?_; rintro e w' ⟨rfl, hb'⟩)
      go_ret
      exact ⟨by rw [N.out]; rfl, below_then HB2.out HB2.out.size hb'⟩
    · have L : Aside0 (q l0[kk - 1] l0[kk] < 0) := ⟨by rw [B.out, B2.out]; omega⟩
      generalize q y y2 = z at hcall hq Z
      have Q1 : decide (0 ≤ z) = false := decide_eq_false hq
      clear hq
      go_wp2_with fail
      go_still_tail 10, (by kernel_rfl)
      change wpList _ _ _ _ _ wr.drew
      go_wp2_with (go_at_fn g; refine hcall.mono ?_; rintro e w' ⟨rfl, hb'⟩)
      go_roundg (l0.length - (kk + 1))
      case measure => omega
      case rel =>
       refine ⟨kk + 1, by omega, by omega, by omega, by go_num, ⟨below_then HB2.out HB2.out.size hb'⟩, ⟨fun j hj h1 hjk => ?_⟩⟩
       by_cases e : j = kk
       · subst e; exact L.out
       · exact A.out j hj h1 (by omega)
  · have hltz : ¬ (kk : Int) < (l0.length : Int) := by omega
    go_wp2
    go_ret
    refine ⟨?_, BW.out⟩
    rw [risingB_yes q l0 (fun j hj h1 => A.out j hj h1 (by omega))]
    rfl

/-! ### cmp_isNaN_int64: function 148 -/
def cmp_isNaN_int64.f (a0 : Int) : Option (Bool) := some (a0 != a0)
set_option maxHeartbeats 8000000 in
set_option maxRecDepth 100000 in
theorem cmp_isNaN_int64.calls (a0 : Int) (r : Bool) (w : World) (h : cmp_isNaN_int64.f a0 = some r) :
 Calls Tryz.prog 148 #[.int .i64 a0] w fun e w' => e = .returned (.bool r) ∧ Drawn0 w w' := by
 have H : (some (a0 != a0)) = some r := h
 clear h
 obtain rfl := Option.some.inj H
 go_enter Tryz.func148, Tryz.ntmps148
 go_wp2
 go_ret
 exact ⟨by first | rfl | (simp; done) | (simp [*]; done), by repeat (first | exact Drawn0.refl _ | apply Drawn0.step)⟩

/-! ### cmp_Compare_int64: function 107 -/
def cmp_Compare_int64.f (a0 : Int) (a1 : Int) : Option (Int) := (cmp_isNaN_int64.f a0).bind fun t289 => ((cmp_isNaN_int64.f a1).bind fun t290 => (if t289 = true then (if t290 = true then (some 0) else (some (-1))) else (if t290 = true then (some 1) else (if a0 < a1 then (some (-1)) else (if a0 > a1 then (some 1) else (some 0))))))
set_option maxHeartbeats 8000000 in
set_option maxRecDepth 100000 in
theorem cmp_Compare_int64.calls (a0 : Int) (a1 : Int) (r : Int) (w : World) (h : cmp_Compare_int64.f a0 a1 = some r) :
 Calls Tryz.prog 107 #[.int .i64 a0, .int .i64 a1] w fun e w' => e = .returned (.int .i64 r) ∧ Drawn0 w w' := by
 have H : ((cmp_isNaN_int64.f a0).bind fun t289 => ((cmp_isNaN_int64.f a1).bind fun t290 => (if t289 = true then (if t290 = true then (some 0) else (some (-1))) else (if t290 = true then (some 1) else (if a0 < a1 then (some (-1)) else (if a0 > a1 then (some 1) else (some 0))))))) = some r := h
 clear h
 replace H := Option.bind_eq_some_iff.mp H
 obtain ⟨t289, A30, H⟩ := H
 replace H : ((cmp_isNaN_int64.f a1).bind fun t290 => (if t289 = true then (if t290 = true then (some 0) else (some (-1))) else (if t290 = true then (some 1) else (if a0 < a1 then (some (-1)) else (if a0 > a1 then (some 1) else (some 0)))))) = some r := H
 have A3 := Aside0.mk A30
 clear A30
 replace H := Option.bind_eq_some_iff.mp H
 obtain ⟨t290, A40, H⟩ := H
 replace H : (if t289 = true then (if t290 = true then (some 0) else (some (-1))) else (if t290 = true then (some 1) else (if a0 < a1 then (some (-1)) else (if a0 > a1 then (some 1) else (some 0))))) = some r := H
 have A4 := Aside0.mk A40
 clear A40
 by_cases c5 : t289 = true
 subst c5
 have H1 : (if t290 = true then (some 0) else (some (-1))) = some r := by rw [if_pos rfl] at H; exact H
 clear H
 have H := H1
 clear H1
 by_cases c6 : t290 = true
 subst c6
 have H1 : (some 0) = some r := by rw [if_pos rfl] at H; exact H
 clear H
 have H := H1
 clear H1
 obtain rfl := Option.some.inj H
 rotate_left
 replace c6 := Bool.eq_false_iff.mpr c6
 subst c6
 have H1 : (some (-1)) = some r := by rw [if_neg (show ¬ (false = true) by decide)] at H; exact H
 clear H
 have H := H1
 clear H1
 obtain rfl := Option.some.inj H
 rotate_left
 replace c5 := Bool.eq_false_iff.mpr c5
 subst c5
 have H1 : (if t290 = true then (some 1) else (if a0 < a1 then (some (-1)) else (if a0 > a1 then (some 1) else (some 0)))) = some r := by rw [if_neg (show ¬ (false = true) by decide)] at H; exact H
 clear H
 have H := H1
 clear H1
 by_cases c7 : t290 = true
 subst c7
 have H1 : (some 1) = some r := by rw [if_pos rfl] at H; exact H
 clear H
 have H := H1
 clear H1
 obtain rfl := Option.some.inj H
 rotate_left
 replace c7 := Bool.eq_false_iff.mpr c7
 subst c7
 have H1 : (if a0 < a1 then (some (-1)) else (if a0 > a1 then (some 1) else (some 0))) = some r := by rw [if_neg (show ¬ (false = true) by decide)] at H; exact H
 clear H
 have H := H1
 clear H1
 by_cases c8 : a0 < a1
 rw [if_pos c8] at H
 have c8b0 : decide (a0 < a1) = true := decide_eq_true c8
 clear c8
 obtain rfl := Option.some.inj H
 rotate_left
 rw [if_neg c8] at H
 have c8b0 : decide (a0 < a1) = false := decide_eq_false c8
 clear c8
 by_cases c9 : a0 > a1
 rw [if_pos c9] at H
 have c9b0 : decide (a1 < a0) = true := decide_eq_true c9
 clear c9
 obtain rfl := Option.some.inj H
 rotate_left
 rw [if_neg c9] at H
 have c9b0 : decide (a1 < a0) = false := decide_eq_false c9
 clear c9
 obtain rfl := Option.some.inj H
 rotate_left
 all_goals
  go_enter Tryz.func107, Tryz.ntmps107
  go_wp2_with (first | ((with_reducible refine gate_callee (f := 148) rfl ?_); refine goesL_ (some 8) rfl rfl Tryz.func148 (by kernel_rfl) rfl #[.int .i64 a0] rfl (by (try simp only [List.map_toArray, List.map_cons, List.map_nil]); first | done | rfl | (simp only [List.length_drop, List.length_take]; rfl)) ?_; (with_reducible refine (cmp_isNaN_int64.calls a0 _ _ A3.out).mono ?_); rintro e w' ⟨rfl, ⟨nd, rfl⟩⟩; refine ⟨_, rfl, ?_⟩) | ((with_reducible refine gate_callee (f := 148) rfl ?_); refine goesL_ (some 10) rfl rfl Tryz.func148 (by kernel_rfl) rfl #[.int .i64 a1] rfl (by (try simp only [List.map_toArray, List.map_cons, List.map_nil]); first | done | rfl | (simp only [List.length_drop, List.length_take]; rfl)) ?_; (with_reducible refine (cmp_isNaN_int64.calls a1 _ _ A4.out).mono ?_); rintro e w' ⟨rfl, ⟨nd, rfl⟩⟩; refine ⟨_, rfl, ?_⟩))
  go_ret
  exact ⟨by first | rfl | (simp; done) | (simp [*]; done), by repeat (first | exact Drawn0.refl _ | apply Drawn0.step)⟩

-- NOT PRINTED: function 106 (impl_IsSchedule_2)

end Go.Proofs.YtmfbkbbgokjhnaaGreat.F
namespace Go.Proofs.YtmfbkbbgokjhnaaGreat.F
open Go.RowKit Go.Proofs.YtmfbkbbgokjhnaaGreatW.PrintWords Go.Proofs.YtmfbkbbgokjhnaaGreatW.PrintLast Go.Proofs.YtmfbkbbgokjhnaaGreatW.PrintMore
attribute [local go_sem] max2_int min2_int max_two min_two max_three min_three max_four min_four   -- for this text's walks alone
set_option linter.unusedVariables false
set_option linter.unusedSimpArgs false

/-! ### impl_IsSchedule: function 51 -/
def stepB (x : S111) : Bool := decide (0 ≤ x.f0 ∧ x.f0 ≤ 36524) && decide (0 ≤ x.f1 ∧ x.f1 ≤ 10000)
def cmpSt (a b : S111) : Int := if a.f0 < b.f0 then -1 else if b.f0 < a.f0 then 1 else 0
def scheduleB (l : List S111) : Bool := decide (1 ≤ l.length ∧ l.length ≤ 12) && l.all stepB && risingB cmpSt l
def daysAt (k : Nat) (l : List S111) : Bool := l.all fun x => impl_isDay.f k x.f0 == some (decide (0 ≤ x.f0 ∧ x.f0 ≤ 36524))
def impl_IsSchedule.f (k : Nat) (l0 : List S111) : Option Bool := if daysAt k l0 = true then some (scheduleB l0) else none
theorem impl_IsSchedule.mono : ∀ a0 k, LeO (impl_IsSchedule.f k a0) (impl_IsSchedule.f (k + 1) a0) := by
 intro l k r h
 unfold impl_IsSchedule.f at h ⊢
 by_cases hc : daysAt k l = true
 · rw [if_pos hc] at h
   have hc' : daysAt (k + 1) l = true := by
    unfold daysAt at hc ⊢
    rw [List.all_eq_true] at hc ⊢
    intro x hx
    have := beq_iff_eq.1 (hc x hx)
    exact beq_iff_eq.2 (impl_isDay.mono _ k _ this)
   rw [if_pos hc']
   exact h
 · rw [if_neg hc] at h
   cases h
theorem IsSchedule_1.calls (k : Nat) (x : S111) (w : World) (h : impl_isDay.f k x.f0 = some (decide (0 ≤ x.f0 ∧ x.f0 ≤ 36524))) :
 Calls Tryz.prog 104 #[val_T111 x] w fun e w' => e = .returned (.bool (stepB x)) ∧ Below w.heap.size w w' := by
 have hu := Tryz.underlying111
 have hp : impl_isPoints.f x.f1 = some (decide (0 ≤ x.f1 ∧ x.f1 ≤ 10000)) := by
  unfold impl_isPoints.f impl_in.f
  by_cases h : 0 ≤ x.f1 <;> simp [h]
 unfold val_T111 stepB
 have HD := Aside0.mk (fun W => impl_isDay.calls k x.f0 _ W h)
 have HP := Aside0.mk (fun W => impl_isPoints.calls x.f1 _ W hp)
 clear h hp
 have B0 := Aside0.mk (below_alloc (Below.refl w.heap.size w) (.cells #[.int .i64 x.f0, .int .i64 x.f1] 111))
 generalize decide (0 ≤ x.f0 ∧ x.f0 ≤ 36524) = p at HD
 generalize decide (0 ≤ x.f1 ∧ x.f1 ≤ 10000) = q at HP
 cases p with
 | false =>
  go_enter Tryz.func104, Tryz.ntmps104
  go_wp2_with (go_at_call 54; refine (HD.out _).mono ?_; rintro e w' ⟨rfl, hb⟩)
  go_ret
  exact ⟨rfl, below_then B0.out B0.out.size hb⟩
 | true =>
  go_enter Tryz.func104, Tryz.ntmps104
  go_wp2_with (first | (go_at_call 54; refine (HD.out _).mono ?_; rintro e w1 ⟨rfl, hb⟩; have g1 := (hb.cell (p := ⟨w.heap.size, 1, none⟩) (by simp)).trans (by simp : _ = some (Value.int .i64 x.f1)); have B1 := Aside0.mk (below_then B0.out B0.out.size hb); clear hb) | (go_at_call 53; refine (HP.out _).mono ?_; rintro e w2 ⟨rfl, hb⟩))
  go_ret
  exact ⟨by simp, below_then B1.out B1.out.size (by first | exact hb | exact hb.below)⟩
theorem IsSchedule_2.calls (x y : S111) (w : World) :
 Calls Tryz.prog 106 #[val_T111 x, val_T111 y] w fun e w' => e = .returned (.int .i64 (cmpSt x y)) ∧ Below w.heap.size w w' := by
 have hu := Tryz.underlying111
 unfold val_T111
 have hf : cmp_Compare_int64.f x.f0 y.f0 = some (cmpSt x y) := by
  unfold cmp_Compare_int64.f cmpSt
  by_cases h1 : x.f0 < y.f0 <;> by_cases h2 : y.f0 < x.f0 <;> simp [cmp_isNaN_int64.f, h1, h2] <;> omega
 have HC := Aside0.mk (fun W => cmp_Compare_int64.calls x.f0 y.f0 _ W hf)
 clear hf
 generalize cmpSt x y = q at HC
 have B0 := Aside0.mk (below_alloc (below_alloc (Below.refl w.heap.size w) (.cells #[.int .i64 x.f0, .int .i64 x.f1] 111)) (.cells #[.int .i64 y.f0, .int .i64 y.f1] 111))
 go_enter Tryz.func106, Tryz.ntmps106
 go_wp2_with (go_at_call 107; refine (HC.out _).mono ?_; rintro e w1 ⟨rfl, hb⟩)
 go_ret
 exact ⟨rfl, below_then B0.out B0.out.size (by first | exact hb | exact hb.below)⟩
set_option maxHeartbeats 2000000 in
theorem impl_IsSchedule.calls (k : Nat) (A0 : Option Addr) (c0 : Nat) (l0 : List S111) (r : Bool) (w : World) (hr0 : Kd.C k111 w A0 l0.length l0) (hc0 : l0.length ≤ c0) (h : impl_IsSchedule.f k l0 = some r) :
 Calls Tryz.prog 51 #[.slice A0 l0.length c0] w fun e w' => e = .returned (.bool r) ∧ Below w.heap.size w w' := by
 have hbig : l0.length ≤ 9223372036854775807 := hr0.2.1
 unfold impl_IsSchedule.f at h
 by_cases hd : daysAt k l0 = true
 case neg => rw [if_neg hd] at h; cases h
 rw [if_pos hd] at h
 obtain rfl := Option.some.inj h
 clear h
 have e1 : ∀ args w, (callFunc 104 args).run Tryz.prog w = .ok (.enter 104 args) w := enters_of Tryz.func104 (by kernel_rfl) rfl
 have e2 : ∀ args w, (callFunc 106 args).run Tryz.prog w = .ok (.enter 106 args) w := enters_of Tryz.func106 (by kernel_rfl) rfl
 have HA := Aside0.mk (all_T111.calls 104 #[] stepB A0 c0 l0 w hr0 hc0 e1 (fun W x hx hW => IsSchedule_1.calls k x W (beq_iff_eq.1 (List.all_eq_true.1 hd x hx))))
 have HR := Aside0.mk (fun (W : World) (hW : Below w.heap.size w W) => rising_T111.calls 106 #[] cmpSt A0 c0 l0 W (Kd.C_below hr0 hW) hc0 e2 (fun W' x y _ _ _ => IsSchedule_2.calls x y W'))
 clear hr0 hc0 hd e1 e2
 unfold scheduleB
 by_cases h1 : (l0.length : Int) < 1
 · rw [decide_eq_false (show ¬ (1 ≤ l0.length ∧ l0.length ≤ 12) by omega)]
   go_enter Tryz.func51, Tryz.ntmps51
   go_wp2
   go_ret
   exact ⟨rfl, Below.refl _ _⟩
 by_cases h2 : (12 : Int) < (l0.length : Int)
 · rw [decide_eq_false (show ¬ (1 ≤ l0.length ∧ l0.length ≤ 12) by omega)]
   go_enter Tryz.func51, Tryz.ntmps51
   go_wp2
   go_ret
   exact ⟨rfl, Below.refl _ _⟩
 rw [decide_eq_true (show (1 ≤ l0.length ∧ l0.length ≤ 12) by omega)]
 generalize risingB cmpSt l0 = q at HR
 cases ha : l0.all stepB with
 | false =>
  rw [ha] at HA
  clear ha
  go_enter Tryz.func51, Tryz.ntmps51
  go_wp2_with (go_at_call 103; refine HA.out.mono ?_; rintro e w' ⟨rfl, hb⟩)
  go_ret
  exact ⟨rfl, hb⟩
 | true =>
  rw [ha] at HA
  clear ha
  go_enter Tryz.func51, Tryz.ntmps51
  go_wp2_with (first | (go_at_call 103; refine HA.out.mono ?_; rintro e w1 ⟨rfl, hb⟩; have HB1 := Aside0.mk hb; clear hb) | (go_at_call 105; refine (HR.out _ HB1.out).mono ?_; rintro e w2 ⟨rfl, hb⟩))
  go_ret
  exact ⟨by simp, below_then HB1.out HB1.out.size hb⟩

/-! ### impl_Event_152: function 152 -/
def val_T65 (x : S65) : Value := .agg #[.int .i64 x.f0, .int .i64 x.f1, .string x.f2, .int .i64 x.f3, .bool x.f4, .bool x.f5, .bool x.f6]
theorem rd_at_T65 (l : List S65) (i : Nat) (h : i < l.length) : rd_T65 l (i : Int) = l[i] := by
 simp [rd_T65, List.getD_eq_getElem?_getD, h]
set_option maxHeartbeats 400000 in
theorem IndexFunc_T65.calls (g : Nat) (lb : Array Value) (p : S65 → Bool) (A0 : Option Addr) (c0 : Nat) (l0 : List S65) (w : World) (hr0 : Kd.C k65 w A0 l0.length l0) (hc0 : l0.length ≤ c0)
 (eg : ∀ args w, (callFunc g args).run Tryz.prog w = .ok (.enter g args) w) (hp : FnP Tryz.prog val_T65 g lb p l0 w) :
 Calls Tryz.prog 152 #[.slice A0 l0.length c0, .func (.func g) #[] lb] w fun e w' => e = .returned (.int .i64 (idxP p l0)) ∧ Below w.heap.size w w' := by
 have hu65 := Tryz.underlying65
 have hbig : l0.length ≤ 9223372036854775807 := hr0.2.1
 have HR0 := Aside0.mk hr0
 have HP := Aside0.mk hp
 clear hr0 hc0 hp
 go_enter Tryz.func152, Tryz.ntmps152
 go_wp2
 go_loopg [5, 8] l0.length (fun gg _ s8 wr => ∃ kk : Nat, kk ≤ l0.length ∧ l0.length - kk ≤ gg ∧ s8 = .int .i64 kk ∧ Aside0 (Below w.heap.size w wr) ∧ Aside0 (∀ j (hj : j < l0.length), j < kk → p l0[j] = false))
 case atStart => exact ⟨0, Nat.zero_le _, by omega, rfl, ⟨Below.refl _ w⟩, ⟨fun j hj h => absurd h (Nat.not_lt_zero _)⟩⟩
 case round =>
  obtain ⟨kk, hkk, hg, rfl, BW, A⟩ := hrel
  by_cases hlt : kk < l0.length
  · have hltz : (kk : Int) < (l0.length : Int) := by omega
    obtain ⟨ad, e_ad, hx0, hx1, hx2, hx3, hx4, hx5, hx6⟩ := at_T65 HR0.out (kk : Int) (by omega) (by omega)
    cases e_ad
    rw [rd_at_T65 l0 kk hlt, Int.toNat_natCast] at hx0 hx1 hx2 hx3 hx4 hx5 hx6
    replace hx0 := (BW.out.cell (World.block_lt_of_cell? w _ hx0)).trans hx0
    replace hx1 := (BW.out.cell (World.block_lt_of_cell? w _ hx1)).trans hx1
    replace hx2 := (BW.out.cell (World.block_lt_of_cell? w _ hx2)).trans hx2
    replace hx3 := (BW.out.cell (World.block_lt_of_cell? w _ hx3)).trans hx3
    replace hx4 := (BW.out.cell (World.block_lt_of_cell? w _ hx4)).trans hx4
    replace hx5 := (BW.out.cell (World.block_lt_of_cell? w _ hx5)).trans hx5
    replace hx6 := (BW.out.cell (World.block_lt_of_cell? w _ hx6)).trans hx6
    have hcall := HP.out wr l0[kk] (List.getElem_mem hlt) BW.out
    unfold val_T65 at hcall
    generalize hy : l0[kk] = y at hx0 hx1 hx2 hx3 hx4 hx5 hx6 hcall
    have B : Aside0 (l0[kk] = y) := ⟨hy⟩
    clear hy
    cases hq : p y with
    | true =>
     rw [hq] at hcall
     go_wp2_with (go_at_fn g; refine hcall.mono ?_; rintro e w' ⟨rfl, hb'⟩)
     go_ret
     refine ⟨?_, below_then BW.out BW.out.size hb'⟩
     rw [idxP_hit p l0 kk hlt (by rw [B.out]; exact hq) (fun j hj => A.out j _ hj)]
     rfl
    | false =>
     rw [hq] at hcall
     go_wp2_with (go_at_fn g; refine hcall.mono ?_; rintro e w' ⟨rfl, hb'⟩)
     go_roundg (l0.length - (kk + 1))
     case measure => omega
     case rel =>
      refine ⟨kk + 1, by omega, by omega, by go_num, ⟨below_then BW.out BW.out.size hb'⟩, ⟨fun j hj hjk => ?_⟩⟩
      by_cases e : j = kk
      · subst e
        rw [B.out]; exact hq
      · exact A.out j hj (by omega)
  · have hltz : ¬ (kk : Int) < (l0.length : Int) := by omega
    have : kk = l0.length := by omega
    go_wp2
    go_ret
    refine ⟨?_, BW.out⟩
    rw [idxP_miss p l0 (fun j hj => A.out j hj (by omega))]
    rfl

/-! ### impl_Event_112: function 112 -/
theorem ContainsFunc_T65.calls (g : Nat) (lb : Array Value) (p : S65 → Bool) (A0 : Option Addr) (c0 : Nat) (l0 : List S65) (w : World) (hr0 : Kd.C k65 w A0 l0.length l0) (hc0 : l0.length ≤ c0)
 (eg : ∀ args w, (callFunc g args).run Tryz.prog w = .ok (.enter g args) w) (hp : FnP Tryz.prog val_T65 g lb p l0 w) :
 Calls Tryz.prog 112 #[.slice A0 l0.length c0, .func (.func g) #[] lb] w fun e w' => e = .returned (.bool (l0.any p)) ∧ Below w.heap.size w w' := by
 have HC := Aside0.mk (IndexFunc_T65.calls g lb p A0 c0 l0 w hr0 hc0 eg hp)
 clear hr0 hc0 hp
 rw [← idxP_any]
 go_enter Tryz.func112, Tryz.ntmps112
 go_wp2_with (go_at_call 152; refine HC.out.mono ?_; rintro e w' ⟨rfl, hb'⟩)
 go_ret
 exact ⟨rfl, hb'⟩

-- NOT PRINTED: function 113 (impl_Event_1)

/-! ### impl_Event_55: function 55 -/
theorem all_1_T65.calls (g : Nat) (lb : Array Value) (p : S65 → Bool) (B : Nat) (x : S65) (w : World) (hB : B < w.heap.size) (hc : w.cell? ⟨B, 0, none⟩ = some (.func (.func g) #[] lb))
 (eg : ∀ args w, (callFunc g args).run Tryz.prog w = .ok (.enter g args) w) (hp : ∀ W, Below w.heap.size w W → Calls Tryz.prog g (#[val_T65 x] ++ lb) W fun e w' => e = .returned (.bool (p x)) ∧ Below W.heap.size W w') :
 Calls Tryz.prog 113 #[val_T65 x, .pointer (some ⟨B, 0, none⟩)] w fun e w' => e = .returned (.bool (!p x)) ∧ Below w.heap.size w w' := by
 have hu65 := Tryz.underlying65
 have HP := Aside0.mk hp
 clear hp
 unfold val_T65 at HP ⊢
 go_enter Tryz.func113, Tryz.ntmps113
 go_wp2_with (go_at_fn g; refine (HP.out _ (below_alloc (Below.refl _ _) _)).mono ?_; rintro e w' ⟨rfl, hb'⟩)
 go_ret
 exact ⟨rfl, below_then (below_alloc (Below.refl _ _) _) (below_alloc (Below.refl _ _) _).size hb'⟩
theorem all_T65.calls (g : Nat) (lb : Array Value) (p : S65 → Bool) (A0 : Option Addr) (c0 : Nat) (l0 : List S65) (w : World) (hr0 : Kd.C k65 w A0 l0.length l0) (hc0 : l0.length ≤ c0)
 (eg : ∀ args w, (callFunc g args).run Tryz.prog w = .ok (.enter g args) w) (hp : FnP Tryz.prog val_T65 g lb p l0 w) :
 Calls Tryz.prog 55 #[.slice A0 l0.length c0, .func (.func g) #[] lb] w fun e w' => e = .returned (.bool (l0.all p)) ∧ Below w.heap.size w w' := by
 have hb0 : Below w.heap.size w (w.alloc (.cells #[.func (.func g) #[] lb] 72)) := below_alloc (Below.refl _ _) _
 have e1 : ∀ args w, (callFunc 113 args).run Tryz.prog w = .ok (.enter 113 args) w := enters_of Tryz.func113 (by kernel_rfl) rfl
 have HC := Aside0.mk (ContainsFunc_T65.calls 113 #[.pointer (some ⟨w.heap.size, 0, none⟩)] (fun x => !p x) A0 c0 l0 (w.alloc (.cells #[.func (.func g) #[] lb] 72)) (Kd.C_below hr0 hb0) hc0 e1 (by
  intro W x hx hW
  have hsz : w.heap.size < W.heap.size := by have := hW.size; simp at this; omega
  exact all_1_T65.calls g lb p w.heap.size x W hsz ((hW.cell (p := ⟨w.heap.size, 0, none⟩) (by simp)).trans (by simp)) eg (fun W' hW' => hp W' x hx (below_then (below_then hb0 hb0.size hW) (by omega) hW'))))
 clear hr0 hc0 hp
 rw [← any_not_all]
 go_enter Tryz.func55, Tryz.ntmps55
 go_wp2_with (go_at_call 112; refine HC.out.mono ?_; rintro e w' ⟨rfl, hb'⟩)
 go_ret
 exact ⟨rfl, below_then hb0 hb0.size hb'⟩

/-! ### impl_Interest_169: function 169 -/
set_option maxHeartbeats 400000 in
theorem IndexFunc_T103.calls (g : Nat) (lb : Array Value) (p : S103 → Bool) (A0 : Option Addr) (c0 : Nat) (l0 : List S103) (w : World) (hr0 : Kd.C k103 w A0 l0.length l0) (hc0 : l0.length ≤ c0)
 (eg : ∀ args w, (callFunc g args).run Tryz.prog w = .ok (.enter g args) w) (hp : FnP Tryz.prog val_T103 g lb p l0 w) :
 Calls Tryz.prog 169 #[.slice A0 l0.length c0, .func (.func g) #[] lb] w fun e w' => e = .returned (.int .i64 (idxP p l0)) ∧ Below w.heap.size w w' := by
 have hu103 := Tryz.underlying103
 have hbig : l0.length ≤ 9223372036854775807 := hr0.2.1
 have HR0 := Aside0.mk hr0
 have HP := Aside0.mk hp
 clear hr0 hc0 hp
 go_enter Tryz.func169, Tryz.ntmps169
 go_wp2
 go_loopg [5, 8] l0.length (fun gg _ s8 wr => ∃ kk : Nat, kk ≤ l0.length ∧ l0.length - kk ≤ gg ∧ s8 = .int .i64 kk ∧ Aside0 (Below w.heap.size w wr) ∧ Aside0 (∀ j (hj : j < l0.length), j < kk → p l0[j] = false))
 case atStart => exact ⟨0, Nat.zero_le _, by omega, rfl, ⟨Below.refl _ w⟩, ⟨fun j hj h => absurd h (Nat.not_lt_zero _)⟩⟩
 case round =>
  obtain ⟨kk, hkk, hg, rfl, BW, A⟩ := hrel
  by_cases hlt : kk < l0.length
  · have hltz : (kk : Int) < (l0.length : Int) := by omega
    obtain ⟨ad, e_ad, hx0, hx1, hx2, hx3, hx4⟩ := at_T103 HR0.out (kk : Int) (by omega) (by omega)
    cases e_ad
    rw [rd_at_T103 l0 kk hlt, Int.toNat_natCast] at hx0 hx1 hx2 hx3 hx4
    replace hx0 := (BW.out.cell (World.block_lt_of_cell? w _ hx0)).trans hx0
    replace hx1 := (BW.out.cell (World.block_lt_of_cell? w _ hx1)).trans hx1
    replace hx2 := (BW.out.cell (World.block_lt_of_cell? w _ hx2)).trans hx2
    replace hx3 := (BW.out.cell (World.block_lt_of_cell? w _ hx3)).trans hx3
    replace hx4 := (BW.out.cell (World.block_lt_of_cell? w _ hx4)).trans hx4
    have hcall := HP.out wr l0[kk] (List.getElem_mem hlt) BW.out
    unfold val_T103 at hcall
    generalize hy : l0[kk] = y at hx0 hx1 hx2 hx3 hx4 hcall
    have B : Aside0 (l0[kk] = y) := ⟨hy⟩
    clear hy
    cases hq : p y with
    | true =>
     rw [hq] at hcall
     go_wp2_with (go_at_fn g; refine hcall.mono ?_; rintro e w' ⟨rfl, hb'⟩)
     go_ret
     refine ⟨?_, below_then BW.out BW.out.size hb'⟩
     rw [idxP_hit p l0 kk hlt (by rw [B.out]; exact hq) (fun j hj => A.out j _ hj)]
     rfl
    | false =>
     rw [hq] at hcall
     go_wp2_with (go_at_fn g; refine hcall.mono ?_; rintro e w' ⟨rfl, hb'⟩)
     go_roundg (l0.length - (kk + 1))
     case measure => omega
     case rel =>
      refine ⟨kk + 1, by omega, by omega, by go_num, ⟨below_then BW.out BW.out.size hb'⟩, ⟨fun j hj hjk => ?_⟩⟩
      by_cases e : j = kk
      · subst e
        rw [B.out]; exact hq
      · exact A.out j hj (by omega)
  · have hltz : ¬ (kk : Int) < (l0.length : Int) := by omega
    have : kk = l0.length := by omega
    go_wp2
    go_ret
    refine ⟨?_, BW.out⟩
    rw [idxP_miss p l0 (fun j hj => A.out j hj (by omega))]
    rfl

/-! ### impl_Interest_149: function 149 -/
theorem indexOf_T103.calls (g : Nat) (lb : Array Value) (p : S103 → Bool) (A0 : Option Addr) (c0 : Nat) (l0 : List S103) (w : World) (hr0 : Kd.C k103 w A0 l0.length l0) (hc0 : l0.length ≤ c0)
 (eg : ∀ args w, (callFunc g args).run Tryz.prog w = .ok (.enter g args) w) (hp : FnP Tryz.prog val_T103 g lb p l0 w) :
 Calls Tryz.prog 149 #[.slice A0 l0.length c0, .func (.func g) #[] lb] w fun e w' => e = .returned (.tuple #[.int .i64 (idxOf p l0).1, .int .i64 (idxOf p l0).2]) ∧ Below w.heap.size w w' := by
 have HC := Aside0.mk (IndexFunc_T103.calls g lb p A0 c0 l0 w hr0 hc0 eg hp)
 clear hr0 hc0 hp
 by_cases hneg : idxP p l0 < 0
 rw [idxOf_miss p l0 hneg]
 generalize idxP p l0 = q at hneg HC
 rotate_left
 rw [idxOf_hit p l0 hneg]
 generalize idxP p l0 = q at hneg HC
 rotate_left
 all_goals
  go_enter Tryz.func149, Tryz.ntmps149
  go_wp2_with (first | go_at_call 169; refine HC.out.mono ?_; rintro e w' ⟨rfl, hb'⟩)
  go_ret2
  exact ⟨rfl, hb'⟩

-- NOT PRINTED: function 150 (impl_findInterest_1)

/-! ### impl_findInterest: function 109 -/
def hasIn (code : ByteArray) (x : S103) : Bool := x.f0.toList == code.toList
theorem findInterest_1.calls (B : Nat) (code : ByteArray) (x : S103) (w : World) (hB : B < w.heap.size) (hc : w.cell? ⟨B, 0, none⟩ = some (.string code)) :
 Calls Tryz.prog 150 #[val_T103 x, .pointer (some ⟨B, 0, none⟩)] w fun e w' => e = .returned (.bool (hasIn code x)) ∧ Below w.heap.size w w' := by
 have hu := Tryz.underlying103
 unfold val_T103 hasIn
 go_enter Tryz.func150, Tryz.ntmps150
 go_wp2
 go_ret
 exact ⟨rfl, below_alloc (Below.refl _ _) _⟩
def impl_findInterest.f (l0 : List S103) (a1 : ByteArray) : Option (Int × Int) := some (idxOf (hasIn a1) l0)
theorem impl_findInterest.calls (A0 : Option Addr) (c0 : Nat) (l0 : List S103) (a1 : ByteArray) (r1 : Int) (r2 : Int) (w : World) (hr0 : Kd.C k103 w A0 l0.length l0) (hc0 : l0.length ≤ c0) (h : impl_findInterest.f l0 a1 = some (r1, r2)) :
 Calls Tryz.prog 109 #[.slice A0 l0.length c0, .string a1] w fun e w' => e = .returned (.tuple #[.int .i64 r1, .int .i64 r2]) ∧ Below w.heap.size w w' := by
 have h2 := Option.some.inj h
 clear h
 have hb0 : Below w.heap.size w (w.alloc (.cells #[.string a1] 9)) := below_alloc (Below.refl _ _) _
 have e1 : ∀ args w, (callFunc 150 args).run Tryz.prog w = .ok (.enter 150 args) w := enters_of Tryz.func150 (by kernel_rfl) rfl
 have HA := Aside0.mk (indexOf_T103.calls 150 #[.pointer (some ⟨w.heap.size, 0, none⟩)] (hasIn a1) A0 c0 l0 (w.alloc (.cells #[.string a1] 9)) (Kd.C_below hr0 hb0) hc0 e1 (fun W x hx hW => by
  have hsz : w.heap.size < W.heap.size := by have := hW.size; simp at this; omega
  exact findInterest_1.calls w.heap.size a1 x W hsz ((hW.cell (p := ⟨w.heap.size, 0, none⟩) (by simp)).trans (by simp))))
 have HB := Aside0.mk hb0
 clear hr0 hc0 hb0
 generalize idxOf (hasIn a1) l0 = q at HA h2
 subst h2
 go_enter Tryz.func109, Tryz.ntmps109
 go_wp2_with (go_at_call 149; refine HA.out.mono ?_; rintro e w' ⟨rfl, hb⟩)
 go_ret2
 exact ⟨rfl, below_then HB.out HB.out.size hb⟩

-- NOT PRINTED: function 108 (impl_doesFit_1)

/-! ### impl_doesFit: function 52 -/
def fitsB (log : List S65) (l : List S103) : Bool := log.all fun e => (idxOf (hasIn e.f2) l).2 == 0
theorem doesFit_1.calls (B : Nat) (A1 : Option Addr) (c1 : Nat) (l1 : List S103) (x : S65) (w : World) (hB : B < w.heap.size) (hr1 : Kd.C k103 w A1 l1.length l1) (hc1 : l1.length ≤ c1) (hc : w.cell? ⟨B, 0, none⟩ = some (.slice A1 l1.length c1)) :
 Calls Tryz.prog 108 #[val_T65 x, .pointer (some ⟨B, 0, none⟩)] w fun e w' => e = .returned (.bool ((idxOf (hasIn x.f2) l1).2 == 0)) ∧ Below w.heap.size w w' := by
 have hu := Tryz.underlying65
 unfold val_T65
 have hbig : l1.length ≤ 9223372036854775807 := hr1.2.1
 have B0 := Aside0.mk (below_alloc (Below.refl w.heap.size w) (.cells #[.int .i64 x.f0, .int .i64 x.f1, .string x.f2, .int .i64 x.f3, .bool x.f4, .bool x.f5, .bool x.f6] 65))
 have HF := Aside0.mk (fun (W : World) (hW : Below w.heap.size w W) => impl_findInterest.calls A1 c1 l1 x.f2 (idxOf (hasIn x.f2) l1).1 (idxOf (hasIn x.f2) l1).2 W (Kd.C_below hr1 hW) hc1 rfl)
 clear hr1 hc1
 generalize idxOf (hasIn x.f2) l1 = q at HF
 obtain ⟨q1, q2⟩ := q
 simp only at HF
 go_enter Tryz.func108, Tryz.ntmps108
 go_wp2_with (go_at_call 109; refine (HF.out _ (by first | exact B0.out | exact below_drew B0.out)).mono ?_; rintro e w1 ⟨rfl, hb⟩)
 go_ret
 exact ⟨rfl, below_then B0.out B0.out.size (by first | exact hb | exact hb.below)⟩
def impl_doesFit.f (l0 : List S65) (l1 : List S103) : Option Bool := some (fitsB l0 l1)
theorem impl_doesFit.calls (A0 : Option Addr) (c0 : Nat) (l0 : List S65) (A1 : Option Addr) (c1 : Nat) (l1 : List S103) (r : Bool) (w : World) (hr0 : Kd.C k65 w A0 l0.length l0) (hc0 : l0.length ≤ c0) (hr1 : Kd.C k103 w A1 l1.length l1) (hc1 : l1.length ≤ c1) (h : impl_doesFit.f l0 l1 = some r) :
 Calls Tryz.prog 52 #[.slice A0 l0.length c0, .slice A1 l1.length c1] w fun e w' => e = .returned (.bool r) ∧ Below w.heap.size w w' := by
 obtain rfl := Option.some.inj h
 clear h
 have hb0 : Below w.heap.size w (w.alloc (.cells #[.slice A1 l1.length c1] 31)) := below_alloc (Below.refl _ _) _
 have e1 : ∀ args w, (callFunc 108 args).run Tryz.prog w = .ok (.enter 108 args) w := enters_of Tryz.func108 (by kernel_rfl) rfl
 have HA := Aside0.mk (all_T65.calls 108 #[.pointer (some ⟨w.heap.size, 0, none⟩)] (fun e => (idxOf (hasIn e.f2) l1).2 == 0) A0 c0 l0 (w.alloc (.cells #[.slice A1 l1.length c1] 31)) (Kd.C_below hr0 hb0) hc0 e1 (fun W x hx hW => by
  have hsz : w.heap.size < W.heap.size := by have := hW.size; simp at this; omega
  exact doesFit_1.calls w.heap.size A1 c1 l1 x W hsz (Kd.C_below hr1 (below_then hb0 hb0.size hW)) hc1 ((hW.cell (p := ⟨w.heap.size, 0, none⟩) (by simp)).trans (by simp))))
 have HB := Aside0.mk hb0
 clear hr0 hc0 hr1 hc1 hb0
 unfold fitsB
 generalize (l0.all fun e => (idxOf (hasIn e.f2) l1).2 == 0) = q at HA
 go_enter Tryz.func52, Tryz.ntmps52
 go_wp2_with (go_at_call 55; refine HA.out.mono ?_; rintro e w' ⟨rfl, hb⟩)
 go_ret
 exact ⟨rfl, below_then HB.out HB.out.size hb⟩

-- NOT PRINTED: function 56 (impl_IsCase_1)

end Go.Proofs.YtmfbkbbgokjhnaaGreat.F
namespace Go.Proofs.YtmfbkbbgokjhnaaGreat.F
open Go.RowKit Go.Proofs.YtmfbkbbgokjhnaaGreatW.PrintWords Go.Proofs.YtmfbkbbgokjhnaaGreatW.PrintLast Go.Proofs.YtmfbkbbgokjhnaaGreatW.PrintMore
attribute [local go_sem] max2_int min2_int max_two min_two max_three min_three max_four min_four   -- for this text's walks alone
set_option linter.unusedVariables false
set_option linter.unusedSimpArgs false

/-! ### impl_IsCase: function 12 -/
theorem IsCase_1.calls (B : Nat) (d : Int) (x : S65) (w : World) (hB : B < w.heap.size) (hc : w.cell? ⟨B, 6, none⟩ = some (.int .i64 d)) :
 Calls Tryz.prog 56 #[val_T65 x, .pointer (some ⟨B, 0, none⟩)] w fun e w' => e = .returned (.bool (decide (x.f0 ≤ d))) ∧ Below w.heap.size w w' := by
 have hu := Tryz.underlying65
 have hu2 := Tryz.underlying37
 unfold val_T65
 go_enter Tryz.func56, Tryz.ntmps56
 go_wp2
 go_ret
 exact ⟨rfl, below_alloc (Below.refl _ _) _⟩
def impl_IsCase.f (k : Nat) (l0 : List S103) (l1 : List S65) (l2 : List S105) (l3 : List S109) (l4 : List S111) (a5 a6 : Int) : Option Bool :=
 (impl_IsManifest.f k l0).bind fun t1 => if t1 = true then ((impl_IsLog.f k l1).bind fun t2 => if t2 = true then ((impl_IsRulebook.f k l2).bind fun t3 => if t3 = true then ((impl_IsScale.f k l3).bind fun t4 => if t4 = true then ((impl_IsSchedule.f k l4).bind fun t5 => if t5 = true then ((impl_doesFit.f l1 l0).bind fun t6 => if t6 = true then ((impl_isPoints.f a5).bind fun t7 => if t7 = true then ((impl_isDay.f k a6).bind fun t8 => if t8 = true then some (l1.all fun e => decide (e.f0 ≤ a6)) else some false) else some false) else some false) else some false) else some false) else some false) else some false) else some false
theorem impl_IsCase.mono : ∀ l0 l1 l2 l3 l4 a5 a6 k, LeO (impl_IsCase.f k l0 l1 l2 l3 l4 a5 a6) (impl_IsCase.f (k + 1) l0 l1 l2 l3 l4 a5 a6) := by
 intro l0 l1 l2 l3 l4 a5 a6 k
 unfold impl_IsCase.f
 repeat' first
  | (with_reducible exact impl_IsManifest.mono _ _)
  | (with_reducible exact impl_IsLog.mono _ _)
  | (with_reducible exact impl_IsRulebook.mono _ _)
  | (with_reducible exact impl_IsScale.mono _ _)
  | (with_reducible exact impl_IsSchedule.mono _ _)
  | (with_reducible exact impl_isDay.mono _ _)
  | (with_reducible exact LeO.refl _)
  | (with_reducible refine LeO.ite ?_ ?_)
  | (with_reducible refine LeO.bind ?_ fun _ => ?_)
set_option maxHeartbeats 8000000 in
set_option maxRecDepth 100000 in
theorem impl_IsCase.calls (k : Nat) (A0_0 : Option Addr) (c0_0 : Nat) (l0_0 : List S103) (A0_1 : Option Addr) (c0_1 : Nat) (l0_1 : List S65) (A0_2 : Option Addr) (c0_2 : Nat) (l0_2 : List S105) (A0_3 : Option Addr) (c0_3 : Nat) (l0_3 : List S109) (A0_4 : Option Addr) (c0_4 : Nat) (l0_4 : List S111) (a0_5 : Int) (a0_6 : Int) (r : Bool) (w : World) (hr0_0 : Kd.C k103 w A0_0 l0_0.length l0_0) (hc0_0 : l0_0.length ≤ c0_0) (hr0_1 : Kd.C k65 w A0_1 l0_1.length l0_1) (hc0_1 : l0_1.length ≤ c0_1) (hr0_2 : Kd.C k105 w A0_2 l0_2.length l0_2) (hc0_2 : l0_2.length ≤ c0_2) (hr0_3 : Kd.C k109 w A0_3 l0_3.length l0_3) (hc0_3 : l0_3.length ≤ c0_3) (hr0_4 : Kd.C k111 w A0_4 l0_4.length l0_4) (hc0_4 : l0_4.length ≤ c0_4) (h : impl_IsCase.f k l0_0 l0_1 l0_2 l0_3 l0_4 a0_5 a0_6 = some r) :
 Calls Tryz.prog 12 #[.agg #[.slice A0_0 l0_0.length c0_0, .slice A0_1 l0_1.length c0_1, .slice A0_2 l0_2.length c0_2, .slice A0_3 l0_3.length c0_3, .slice A0_4 l0_4.length c0_4, .int .i64 a0_5, .int .i64 a0_6]] w fun e w' => e = .returned (.bool r) ∧ Below w.heap.size w w' := by
 have hu := Tryz.underlying37
 have HB0 := Aside0.mk (below_alloc (Below.refl w.heap.size w) (.cells #[.slice A0_0 l0_0.length c0_0, .slice A0_1 l0_1.length c0_1, .slice A0_2 l0_2.length c0_2, .slice A0_3 l0_3.length c0_3, .slice A0_4 l0_4.length c0_4, .int .i64 a0_5, .int .i64 a0_6] 37))
 have BK0 := Aside0.mk (blk_new w (.cells #[.slice A0_0 l0_0.length c0_0, .slice A0_1 l0_1.length c0_1, .slice A0_2 l0_2.length c0_2, .slice A0_3 l0_3.length c0_3, .slice A0_4 l0_4.length c0_4, .int .i64 a0_5, .int .i64 a0_6] 37))
 have hbig0 : l0_0.length ≤ 9223372036854775807 := hr0_0.2.1
 have hbig1 : l0_1.length ≤ 9223372036854775807 := hr0_1.2.1
 have hbig2 : l0_2.length ≤ 9223372036854775807 := hr0_2.2.1
 have hbig3 : l0_3.length ≤ 9223372036854775807 := hr0_3.2.1
 have hbig4 : l0_4.length ≤ 9223372036854775807 := hr0_4.2.1
 unfold impl_IsCase.f at h
 rcases e1 : impl_IsManifest.f k l0_0 with _ | t1
 · rw [e1] at h; cases h
 rw [e1, Option.bind_some] at h
 have HM := Aside0.mk (fun (W : World) (hW : Below w.heap.size w W) => impl_IsManifest.calls k A0_0 c0_0 l0_0 t1 W (Kd.C_below hr0_0 hW) hc0_0 e1)
 clear e1
 cases t1 with
 | false =>
  rw [if_neg (by simp)] at h
  obtain rfl := Option.some.inj h
  clear h hr0_0 hc0_0 hr0_1 hc0_1 hr0_2 hc0_2 hr0_3 hc0_3 hr0_4 hc0_4
  go_enter Tryz.func12, Tryz.ntmps12
  go_wp2_with (first | (go_at_call 47; refine (HM.out _ (by first | exact HB0.out | exact below_drew HB0.out)).mono ?_; rintro e w1 ⟨rfl, hb⟩; have BK1 := Aside0.mk (blk_below (by first | exact BK0.out | exact blk_drew BK0.out) (by first | exact hb | exact hb.below)); have HB1 := Aside0.mk (below_then (show Below w.heap.size w _ by first | exact HB0.out | exact below_drew HB0.out) (by first | exact HB0.out.size | exact (below_drew HB0.out).size) (by first | exact hb | exact hb.below)); clear hb))
  go_ret
  exact ⟨by first | rfl | simp, HB1.out⟩
 | true =>
 rw [if_pos rfl] at h
 rcases e2 : impl_IsLog.f k l0_1 with _ | t2
 · rw [e2] at h; cases h
 rw [e2, Option.bind_some] at h
 have HL := Aside0.mk (fun (W : World) (hW : Below w.heap.size w W) => impl_IsLog.calls k A0_1 c0_1 l0_1 t2 W (Kd.C_below hr0_1 hW) hc0_1 e2)
 clear e2
 cases t2 with
 | false =>
  rw [if_neg (by simp)] at h
  obtain rfl := Option.some.inj h
  clear h hr0_0 hc0_0 hr0_1 hc0_1 hr0_2 hc0_2 hr0_3 hc0_3 hr0_4 hc0_4
  go_enter Tryz.func12, Tryz.ntmps12
  go_wp2_with (first | (go_at_call 47; refine (HM.out _ (by first | exact HB0.out | exact below_drew HB0.out)).mono ?_; rintro e w1 ⟨rfl, hb⟩; have BK1 := Aside0.mk (blk_below (by first | exact BK0.out | exact blk_drew BK0.out) (by first | exact hb | exact hb.below)); have HB1 := Aside0.mk (below_then (show Below w.heap.size w _ by first | exact HB0.out | exact below_drew HB0.out) (by first | exact HB0.out.size | exact (below_drew HB0.out).size) (by first | exact hb | exact hb.below)); clear hb; have g1_1 := (blk_cell BK1.out 1).trans rfl) | (go_at_call 48; refine (HL.out _ (by first | exact HB1.out | exact below_drew HB1.out)).mono ?_; rintro e w2 ⟨rfl, hb⟩; have BK2 := Aside0.mk (blk_below (by first | exact BK1.out | exact blk_drew BK1.out) (by first | exact hb | exact hb.below)); have HB2 := Aside0.mk (below_then (show Below w.heap.size w _ by first | exact HB1.out | exact below_drew HB1.out) (by first | exact HB1.out.size | exact (below_drew HB1.out).size) (by first | exact hb | exact hb.below)); clear hb))
  go_ret
  exact ⟨by first | rfl | simp, HB2.out⟩
 | true =>
 rw [if_pos rfl] at h
 rcases e3 : impl_IsRulebook.f k l0_2 with _ | t3
 · rw [e3] at h; cases h
 rw [e3, Option.bind_some] at h
 have HU := Aside0.mk (fun (W : World) (hW : Below w.heap.size w W) => impl_IsRulebook.calls k A0_2 c0_2 l0_2 t3 W (Kd.C_below hr0_2 hW) hc0_2 e3)
 clear e3
 cases t3 with
 | false =>
  rw [if_neg (by simp)] at h
  obtain rfl := Option.some.inj h
  clear h hr0_0 hc0_0 hr0_1 hc0_1 hr0_2 hc0_2 hr0_3 hc0_3 hr0_4 hc0_4
  go_enter Tryz.func12, Tryz.ntmps12
  go_wp2_with (first | (go_at_call 47; refine (HM.out _ (by first | exact HB0.out | exact below_drew HB0.out)).mono ?_; rintro e w1 ⟨rfl, hb⟩; have BK1 := Aside0.mk (blk_below (by first | exact BK0.out | exact blk_drew BK0.out) (by first | exact hb | exact hb.below)); have HB1 := Aside0.mk (below_then (show Below w.heap.size w _ by first | exact HB0.out | exact below_drew HB0.out) (by first | exact HB0.out.size | exact (below_drew HB0.out).size) (by first | exact hb | exact hb.below)); clear hb; have g1_1 := (blk_cell BK1.out 1).trans rfl) | (go_at_call 48; refine (HL.out _ (by first | exact HB1.out | exact below_drew HB1.out)).mono ?_; rintro e w2 ⟨rfl, hb⟩; have BK2 := Aside0.mk (blk_below (by first | exact BK1.out | exact blk_drew BK1.out) (by first | exact hb | exact hb.below)); have HB2 := Aside0.mk (below_then (show Below w.heap.size w _ by first | exact HB1.out | exact below_drew HB1.out) (by first | exact HB1.out.size | exact (below_drew HB1.out).size) (by first | exact hb | exact hb.below)); clear hb; have g2_2 := (blk_cell BK2.out 2).trans rfl) | (go_at_call 49; refine (HU.out _ (by first | exact HB2.out | exact below_drew HB2.out)).mono ?_; rintro e w3 ⟨rfl, hb⟩; have BK3 := Aside0.mk (blk_below (by first | exact BK2.out | exact blk_drew BK2.out) (by first | exact hb | exact hb.below)); have HB3 := Aside0.mk (below_then (show Below w.heap.size w _ by first | exact HB2.out | exact below_drew HB2.out) (by first | exact HB2.out.size | exact (below_drew HB2.out).size) (by first | exact hb | exact hb.below)); clear hb))
  go_ret
  exact ⟨by first | rfl | simp, HB3.out⟩
 | true =>
 rw [if_pos rfl] at h
 rcases e4 : impl_IsScale.f k l0_3 with _ | t4
 · rw [e4] at h; cases h
 rw [e4, Option.bind_some] at h
 have HS := Aside0.mk (fun (W : World) (hW : Below w.heap.size w W) => impl_IsScale.calls k A0_3 c0_3 l0_3 t4 W (Kd.C_below hr0_3 hW) hc0_3 e4)
 clear e4
 cases t4 with
 | false =>
  rw [if_neg (by simp)] at h
  obtain rfl := Option.some.inj h
  clear h hr0_0 hc0_0 hr0_1 hc0_1 hr0_2 hc0_2 hr0_3 hc0_3 hr0_4 hc0_4
  go_enter Tryz.func12, Tryz.ntmps12
  go_wp2_with (first | (go_at_call 47; refine (HM.out _ (by first | exact HB0.out | exact below_drew HB0.out)).mono ?_; rintro e w1 ⟨rfl, hb⟩; have BK1 := Aside0.mk (blk_below (by first | exact BK0.out | exact blk_drew BK0.out) (by first | exact hb | exact hb.below)); have HB1 := Aside0.mk (below_then (show Below w.heap.size w _ by first | exact HB0.out | exact below_drew HB0.out) (by first | exact HB0.out.size | exact (below_drew HB0.out).size) (by first | exact hb | exact hb.below)); clear hb; have g1_1 := (blk_cell BK1.out 1).trans rfl) | (go_at_call 48; refine (HL.out _ (by first | exact HB1.out | exact below_drew HB1.out)).mono ?_; rintro e w2 ⟨rfl, hb⟩; have BK2 := Aside0.mk (blk_below (by first | exact BK1.out | exact blk_drew BK1.out) (by first | exact hb | exact hb.below)); have HB2 := Aside0.mk (below_then (show Below w.heap.size w _ by first | exact HB1.out | exact below_drew HB1.out) (by first | exact HB1.out.size | exact (below_drew HB1.out).size) (by first | exact hb | exact hb.below)); clear hb; have g2_2 := (blk_cell BK2.out 2).trans rfl) | (go_at_call 49; refine (HU.out _ (by first | exact HB2.out | exact below_drew HB2.out)).mono ?_; rintro e w3 ⟨rfl, hb⟩; have BK3 := Aside0.mk (blk_below (by first | exact BK2.out | exact blk_drew BK2.out) (by first | exact hb | exact hb.below)); have HB3 := Aside0.mk (below_then (show Below w.heap.size w _ by first | exact HB2.out | exact below_drew HB2.out) (by first | exact HB2.out.size | exact (below_drew HB2.out).size) (by first | exact hb | exact hb.below)); clear hb; have g3_3 := (blk_cell BK3.out 3).trans rfl) | (go_at_call 50; refine (HS.out _ (by first | exact HB3.out | exact below_drew HB3.out)).mono ?_; rintro e w4 ⟨rfl, hb⟩; have BK4 := Aside0.mk (blk_below (by first | exact BK3.out | exact blk_drew BK3.out) (by first | exact hb | exact hb.below)); have HB4 := Aside0.mk (below_then (show Below w.heap.size w _ by first | exact HB3.out | exact below_drew HB3.out) (by first | exact HB3.out.size | exact (below_drew HB3.out).size) (by first | exact hb | exact hb.below)); clear hb))
  go_ret
  exact ⟨by first | rfl | simp, HB4.out⟩
 | true =>
 rw [if_pos rfl] at h
 rcases e5 : impl_IsSchedule.f k l0_4 with _ | t5
 · rw [e5] at h; cases h
 rw [e5, Option.bind_some] at h
 have HC := Aside0.mk (fun (W : World) (hW : Below w.heap.size w W) => impl_IsSchedule.calls k A0_4 c0_4 l0_4 t5 W (Kd.C_below hr0_4 hW) hc0_4 e5)
 clear e5
 cases t5 with
 | false =>
  rw [if_neg (by simp)] at h
  obtain rfl := Option.some.inj h
  clear h hr0_0 hc0_0 hr0_1 hc0_1 hr0_2 hc0_2 hr0_3 hc0_3 hr0_4 hc0_4
  go_enter Tryz.func12, Tryz.ntmps12
  go_wp2_with (first | (go_at_call 47; refine (HM.out _ (by first | exact HB0.out | exact below_drew HB0.out)).mono ?_; rintro e w1 ⟨rfl, hb⟩; have BK1 := Aside0.mk (blk_below (by first | exact BK0.out | exact blk_drew BK0.out) (by first | exact hb | exact hb.below)); have HB1 := Aside0.mk (below_then (show Below w.heap.size w _ by first | exact HB0.out | exact below_drew HB0.out) (by first | exact HB0.out.size | exact (below_drew HB0.out).size) (by first | exact hb | exact hb.below)); clear hb; have g1_1 := (blk_cell BK1.out 1).trans rfl) | (go_at_call 48; refine (HL.out _ (by first | exact HB1.out | exact below_drew HB1.out)).mono ?_; rintro e w2 ⟨rfl, hb⟩; have BK2 := Aside0.mk (blk_below (by first | exact BK1.out | exact blk_drew BK1.out) (by first | exact hb | exact hb.below)); have HB2 := Aside0.mk (below_then (show Below w.heap.size w _ by first | exact HB1.out | exact below_drew HB1.out) (by first | exact HB1.out.size | exact (below_drew HB1.out).size) (by first | exact hb | exact hb.below)); clear hb; have g2_2 := (blk_cell BK2.out 2).trans rfl) | (go_at_call 49; refine (HU.out _ (by first | exact HB2.out | exact below_drew HB2.out)).mono ?_; rintro e w3 ⟨rfl, hb⟩; have BK3 := Aside0.mk (blk_below (by first | exact BK2.out | exact blk_drew BK2.out) (by first | exact hb | exact hb.below)); have HB3 := Aside0.mk (below_then (show Below w.heap.size w _ by first | exact HB2.out | exact below_drew HB2.out) (by first | exact HB2.out.size | exact (below_drew HB2.out).size) (by first | exact hb | exact hb.below)); clear hb; have g3_3 := (blk_cell BK3.out 3).trans rfl) | (go_at_call 50; refine (HS.out _ (by first | exact HB3.out | exact below_drew HB3.out)).mono ?_; rintro e w4 ⟨rfl, hb⟩; have BK4 := Aside0.mk (blk_below (by first | exact BK3.out | exact blk_drew BK3.out) (by first | exact hb | exact hb.below)); have HB4 := Aside0.mk (below_then (show Below w.heap.size w _ by first | exact HB3.out | exact below_drew HB3.out) (by first | exact HB3.out.size | exact (below_drew HB3.out).size) (by first | exact hb | exact hb.below)); clear hb; have g4_4 := (blk_cell BK4.out 4).trans rfl) | (go_at_call 51; refine (HC.out _ (by first | exact HB4.out | exact below_drew HB4.out)).mono ?_; rintro e w5 ⟨rfl, hb⟩; have BK5 := Aside0.mk (blk_below (by first | exact BK4.out | exact blk_drew BK4.out) (by first | exact hb | exact hb.below)); have HB5 := Aside0.mk (below_then (show Below w.heap.size w _ by first | exact HB4.out | exact below_drew HB4.out) (by first | exact HB4.out.size | exact (below_drew HB4.out).size) (by first | exact hb | exact hb.below)); clear hb))
  go_ret
  exact ⟨by first | rfl | simp, HB5.out⟩
 | true =>
 rw [if_pos rfl] at h
 rcases e6 : impl_doesFit.f l0_1 l0_0 with _ | t6
 · rw [e6] at h; cases h
 rw [e6, Option.bind_some] at h
 have HF := Aside0.mk (fun (W : World) (hW : Below w.heap.size w W) => impl_doesFit.calls A0_1 c0_1 l0_1 A0_0 c0_0 l0_0 t6 W (Kd.C_below hr0_1 hW) hc0_1 (Kd.C_below hr0_0 hW) hc0_0 e6)
 clear e6
 cases t6 with
 | false =>
  rw [if_neg (by simp)] at h
  obtain rfl := Option.some.inj h
  clear h hr0_0 hc0_0 hr0_1 hc0_1 hr0_2 hc0_2 hr0_3 hc0_3 hr0_4 hc0_4
  go_enter Tryz.func12, Tryz.ntmps12
  go_wp2_with (first | (go_at_call 47; refine (HM.out _ (by first | exact HB0.out | exact below_drew HB0.out)).mono ?_; rintro e w1 ⟨rfl, hb⟩; have BK1 := Aside0.mk (blk_below (by first | exact BK0.out | exact blk_drew BK0.out) (by first | exact hb | exact hb.below)); have HB1 := Aside0.mk (below_then (show Below w.heap.size w _ by first | exact HB0.out | exact below_drew HB0.out) (by first | exact HB0.out.size | exact (below_drew HB0.out).size) (by first | exact hb | exact hb.below)); clear hb; have g1_1 := (blk_cell BK1.out 1).trans rfl) | (go_at_call 48; refine (HL.out _ (by first | exact HB1.out | exact below_drew HB1.out)).mono ?_; rintro e w2 ⟨rfl, hb⟩; have BK2 := Aside0.mk (blk_below (by first | exact BK1.out | exact blk_drew BK1.out) (by first | exact hb | exact hb.below)); have HB2 := Aside0.mk (below_then (show Below w.heap.size w _ by first | exact HB1.out | exact below_drew HB1.out) (by first | exact HB1.out.size | exact (below_drew HB1.out).size) (by first | exact hb | exact hb.below)); clear hb; have g2_2 := (blk_cell BK2.out 2).trans rfl) | (go_at_call 49; refine (HU.out _ (by first | exact HB2.out | exact below_drew HB2.out)).mono ?_; rintro e w3 ⟨rfl, hb⟩; have BK3 := Aside0.mk (blk_below (by first | exact BK2.out | exact blk_drew BK2.out) (by first | exact hb | exact hb.below)); have HB3 := Aside0.mk (below_then (show Below w.heap.size w _ by first | exact HB2.out | exact below_drew HB2.out) (by first | exact HB2.out.size | exact (below_drew HB2.out).size) (by first | exact hb | exact hb.below)); clear hb; have g3_3 := (blk_cell BK3.out 3).trans rfl) | (go_at_call 50; refine (HS.out _ (by first | exact HB3.out | exact below_drew HB3.out)).mono ?_; rintro e w4 ⟨rfl, hb⟩; have BK4 := Aside0.mk (blk_below (by first | exact BK3.out | exact blk_drew BK3.out) (by first | exact hb | exact hb.below)); have HB4 := Aside0.mk (below_then (show Below w.heap.size w _ by first | exact HB3.out | exact below_drew HB3.out) (by first | exact HB3.out.size | exact (below_drew HB3.out).size) (by first | exact hb | exact hb.below)); clear hb; have g4_4 := (blk_cell BK4.out 4).trans rfl) | (go_at_call 51; refine (HC.out _ (by first | exact HB4.out | exact below_drew HB4.out)).mono ?_; rintro e w5 ⟨rfl, hb⟩; have BK5 := Aside0.mk (blk_below (by first | exact BK4.out | exact blk_drew BK4.out) (by first | exact hb | exact hb.below)); have HB5 := Aside0.mk (below_then (show Below w.heap.size w _ by first | exact HB4.out | exact below_drew HB4.out) (by first | exact HB4.out.size | exact (below_drew HB4.out).size) (by first | exact hb | exact hb.below)); clear hb; have g5_1 := (blk_cell BK5.out 1).trans rfl; have g5_0 := (blk_cell BK5.out 0).trans rfl) | (go_at_call 52; refine (HF.out _ (by first | exact HB5.out | exact below_drew HB5.out)).mono ?_; rintro e w6 ⟨rfl, hb⟩; have BK6 := Aside0.mk (blk_below (by first | exact BK5.out | exact blk_drew BK5.out) (by first | exact hb | exact hb.below)); have HB6 := Aside0.mk (below_then (show Below w.heap.size w _ by first | exact HB5.out | exact below_drew HB5.out) (by first | exact HB5.out.size | exact (below_drew HB5.out).size) (by first | exact hb | exact hb.below)); clear hb))
  go_ret
  exact ⟨by first | rfl | simp, HB6.out⟩
 | true =>
 rw [if_pos rfl] at h
 rcases e7 : impl_isPoints.f a0_5 with _ | t7
 · rw [e7] at h; cases h
 rw [e7, Option.bind_some] at h
 have HP := Aside0.mk (fun (W : World) (hW : Below w.heap.size w W) => impl_isPoints.calls a0_5 t7 W e7)
 clear e7
 cases t7 with
 | false =>
  rw [if_neg (by simp)] at h
  obtain rfl := Option.some.inj h
  clear h hr0_0 hc0_0 hr0_1 hc0_1 hr0_2 hc0_2 hr0_3 hc0_3 hr0_4 hc0_4
  go_enter Tryz.func12, Tryz.ntmps12
  go_wp2_with (first | (go_at_call 47; refine (HM.out _ (by first | exact HB0.out | exact below_drew HB0.out)).mono ?_; rintro e w1 ⟨rfl, hb⟩; have BK1 := Aside0.mk (blk_below (by first | exact BK0.out | exact blk_drew BK0.out) (by first | exact hb | exact hb.below)); have HB1 := Aside0.mk (below_then (show Below w.heap.size w _ by first | exact HB0.out | exact below_drew HB0.out) (by first | exact HB0.out.size | exact (below_drew HB0.out).size) (by first | exact hb | exact hb.below)); clear hb; have g1_1 := (blk_cell BK1.out 1).trans rfl) | (go_at_call 48; refine (HL.out _ (by first | exact HB1.out | exact below_drew HB1.out)).mono ?_; rintro e w2 ⟨rfl, hb⟩; have BK2 := Aside0.mk (blk_below (by first | exact BK1.out | exact blk_drew BK1.out) (by first | exact hb | exact hb.below)); have HB2 := Aside0.mk (below_then (show Below w.heap.size w _ by first | exact HB1.out | exact below_drew HB1.out) (by first | exact HB1.out.size | exact (below_drew HB1.out).size) (by first | exact hb | exact hb.below)); clear hb; have g2_2 := (blk_cell BK2.out 2).trans rfl) | (go_at_call 49; refine (HU.out _ (by first | exact HB2.out | exact below_drew HB2.out)).mono ?_; rintro e w3 ⟨rfl, hb⟩; have BK3 := Aside0.mk (blk_below (by first | exact BK2.out | exact blk_drew BK2.out) (by first | exact hb | exact hb.below)); have HB3 := Aside0.mk (below_then (show Below w.heap.size w _ by first | exact HB2.out | exact below_drew HB2.out) (by first | exact HB2.out.size | exact (below_drew HB2.out).size) (by first | exact hb | exact hb.below)); clear hb; have g3_3 := (blk_cell BK3.out 3).trans rfl) | (go_at_call 50; refine (HS.out _ (by first | exact HB3.out | exact below_drew HB3.out)).mono ?_; rintro e w4 ⟨rfl, hb⟩; have BK4 := Aside0.mk (blk_below (by first | exact BK3.out | exact blk_drew BK3.out) (by first | exact hb | exact hb.below)); have HB4 := Aside0.mk (below_then (show Below w.heap.size w _ by first | exact HB3.out | exact below_drew HB3.out) (by first | exact HB3.out.size | exact (below_drew HB3.out).size) (by first | exact hb | exact hb.below)); clear hb; have g4_4 := (blk_cell BK4.out 4).trans rfl) | (go_at_call 51; refine (HC.out _ (by first | exact HB4.out | exact below_drew HB4.out)).mono ?_; rintro e w5 ⟨rfl, hb⟩; have BK5 := Aside0.mk (blk_below (by first | exact BK4.out | exact blk_drew BK4.out) (by first | exact hb | exact hb.below)); have HB5 := Aside0.mk (below_then (show Below w.heap.size w _ by first | exact HB4.out | exact below_drew HB4.out) (by first | exact HB4.out.size | exact (below_drew HB4.out).size) (by first | exact hb | exact hb.below)); clear hb; have g5_1 := (blk_cell BK5.out 1).trans rfl; have g5_0 := (blk_cell BK5.out 0).trans rfl) | (go_at_call 52; refine (HF.out _ (by first | exact HB5.out | exact below_drew HB5.out)).mono ?_; rintro e w6 ⟨rfl, hb⟩; have BK6 := Aside0.mk (blk_below (by first | exact BK5.out | exact blk_drew BK5.out) (by first | exact hb | exact hb.below)); have HB6 := Aside0.mk (below_then (show Below w.heap.size w _ by first | exact HB5.out | exact below_drew HB5.out) (by first | exact HB5.out.size | exact (below_drew HB5.out).size) (by first | exact hb | exact hb.below)); clear hb; have g6_5 := (blk_cell BK6.out 5).trans rfl) | (go_at_call 53; refine (HP.out _ (by first | exact HB6.out | exact below_drew HB6.out)).mono ?_; rintro e w7 ⟨rfl, hb⟩; have BK7 := Aside0.mk (blk_below (by first | exact BK6.out | exact blk_drew BK6.out) (by first | exact hb | exact hb.below)); have HB7 := Aside0.mk (below_then (show Below w.heap.size w _ by first | exact HB6.out | exact below_drew HB6.out) (by first | exact HB6.out.size | exact (below_drew HB6.out).size) (by first | exact hb | exact hb.below)); clear hb))
  go_ret
  exact ⟨by first | rfl | simp, HB7.out⟩
 | true =>
 rw [if_pos rfl] at h
 rcases e8 : impl_isDay.f k a0_6 with _ | t8
 · rw [e8] at h; cases h
 rw [e8, Option.bind_some] at h
 have HD := Aside0.mk (fun (W : World) (hW : Below w.heap.size w W) => impl_isDay.calls k a0_6 t8 W e8)
 clear e8
 cases t8 with
 | false =>
  rw [if_neg (by simp)] at h
  obtain rfl := Option.some.inj h
  clear h hr0_0 hc0_0 hr0_1 hc0_1 hr0_2 hc0_2 hr0_3 hc0_3 hr0_4 hc0_4
  go_enter Tryz.func12, Tryz.ntmps12
  go_wp2_with (first | (go_at_call 47; refine (HM.out _ (by first | exact HB0.out | exact below_drew HB0.out)).mono ?_; rintro e w1 ⟨rfl, hb⟩; have BK1 := Aside0.mk (blk_below (by first | exact BK0.out | exact blk_drew BK0.out) (by first | exact hb | exact hb.below)); have HB1 := Aside0.mk (below_then (show Below w.heap.size w _ by first | exact HB0.out | exact below_drew HB0.out) (by first | exact HB0.out.size | exact (below_drew HB0.out).size) (by first | exact hb | exact hb.below)); clear hb; have g1_1 := (blk_cell BK1.out 1).trans rfl) | (go_at_call 48; refine (HL.out _ (by first | exact HB1.out | exact below_drew HB1.out)).mono ?_; rintro e w2 ⟨rfl, hb⟩; have BK2 := Aside0.mk (blk_below (by first | exact BK1.out | exact blk_drew BK1.out) (by first | exact hb | exact hb.below)); have HB2 := Aside0.mk (below_then (show Below w.heap.size w _ by first | exact HB1.out | exact below_drew HB1.out) (by first | exact HB1.out.size | exact (below_drew HB1.out).size) (by first | exact hb | exact hb.below)); clear hb; have g2_2 := (blk_cell BK2.out 2).trans rfl) | (go_at_call 49; refine (HU.out _ (by first | exact HB2.out | exact below_drew HB2.out)).mono ?_; rintro e w3 ⟨rfl, hb⟩; have BK3 := Aside0.mk (blk_below (by first | exact BK2.out | exact blk_drew BK2.out) (by first | exact hb | exact hb.below)); have HB3 := Aside0.mk (below_then (show Below w.heap.size w _ by first | exact HB2.out | exact below_drew HB2.out) (by first | exact HB2.out.size | exact (below_drew HB2.out).size) (by first | exact hb | exact hb.below)); clear hb; have g3_3 := (blk_cell BK3.out 3).trans rfl) | (go_at_call 50; refine (HS.out _ (by first | exact HB3.out | exact below_drew HB3.out)).mono ?_; rintro e w4 ⟨rfl, hb⟩; have BK4 := Aside0.mk (blk_below (by first | exact BK3.out | exact blk_drew BK3.out) (by first | exact hb | exact hb.below)); have HB4 := Aside0.mk (below_then (show Below w.heap.size w _ by first | exact HB3.out | exact below_drew HB3.out) (by first | exact HB3.out.size | exact (below_drew HB3.out).size) (by first | exact hb | exact hb.below)); clear hb; have g4_4 := (blk_cell BK4.out 4).trans rfl) | (go_at_call 51; refine (HC.out _ (by first | exact HB4.out | exact below_drew HB4.out)).mono ?_; rintro e w5 ⟨rfl, hb⟩; have BK5 := Aside0.mk (blk_below (by first | exact BK4.out | exact blk_drew BK4.out) (by first | exact hb | exact hb.below)); have HB5 := Aside0.mk (below_then (show Below w.heap.size w _ by first | exact HB4.out | exact below_drew HB4.out) (by first | exact HB4.out.size | exact (below_drew HB4.out).size) (by first | exact hb | exact hb.below)); clear hb; have g5_1 := (blk_cell BK5.out 1).trans rfl; have g5_0 := (blk_cell BK5.out 0).trans rfl) | (go_at_call 52; refine (HF.out _ (by first | exact HB5.out | exact below_drew HB5.out)).mono ?_; rintro e w6 ⟨rfl, hb⟩; have BK6 := Aside0.mk (blk_below (by first | exact BK5.out | exact blk_drew BK5.out) (by first | exact hb | exact hb.below)); have HB6 := Aside0.mk (below_then (show Below w.heap.size w _ by first | exact HB5.out | exact below_drew HB5.out) (by first | exact HB5.out.size | exact (below_drew HB5.out).size) (by first | exact hb | exact hb.below)); clear hb; have g6_5 := (blk_cell BK6.out 5).trans rfl) | (go_at_call 53; refine (HP.out _ (by first | exact HB6.out | exact below_drew HB6.out)).mono ?_; rintro e w7 ⟨rfl, hb⟩; have BK7 := Aside0.mk (blk_below (by first | exact BK6.out | exact blk_drew BK6.out) (by first | exact hb | exact hb.below)); have HB7 := Aside0.mk (below_then (show Below w.heap.size w _ by first | exact HB6.out | exact below_drew HB6.out) (by first | exact HB6.out.size | exact (below_drew HB6.out).size) (by first | exact hb | exact hb.below)); clear hb; have g7_6 := (blk_cell BK7.out 6).trans rfl) | (go_at_call 54; refine (HD.out _ (by first | exact HB7.out | exact below_drew HB7.out)).mono ?_; rintro e w8 ⟨rfl, hb⟩; have BK8 := Aside0.mk (blk_below (by first | exact BK7.out | exact blk_drew BK7.out) (by first | exact hb | exact hb.below)); have HB8 := Aside0.mk (below_then (show Below w.heap.size w _ by first | exact HB7.out | exact below_drew HB7.out) (by first | exact HB7.out.size | exact (below_drew HB7.out).size) (by first | exact hb | exact hb.below)); clear hb))
  go_ret
  exact ⟨by first | rfl | simp, HB8.out⟩
 | true =>
 rw [if_pos rfl] at h
 obtain rfl := Option.some.inj h
 clear h
 have ef : ∀ args w, (callFunc 56 args).run Tryz.prog w = .ok (.enter 56 args) w := enters_of Tryz.func56 (by kernel_rfl) rfl
 have HA := Aside0.mk (fun (W : World) (hW : Below w.heap.size w W) (bk : W.heap[w.heap.size]? = some (.cells #[.slice A0_0 l0_0.length c0_0, .slice A0_1 l0_1.length c0_1, .slice A0_2 l0_2.length c0_2, .slice A0_3 l0_3.length c0_3, .slice A0_4 l0_4.length c0_4, .int .i64 a0_5, .int .i64 a0_6] 37 (0, 0))) => all_T65.calls 56 #[.pointer (some ⟨w.heap.size, 0, none⟩)] (fun e => decide (e.f0 ≤ a0_6)) A0_1 c0_1 l0_1 W (Kd.C_below hr0_1 hW) hc0_1 ef (fun W2 x hx hW2 => IsCase_1.calls w.heap.size a0_6 x W2 (blk_lt (blk_below bk hW2)) ((blk_cell (blk_below bk hW2) 6).trans rfl)))
 clear ef hr0_0 hc0_0 hr0_1 hc0_1 hr0_2 hc0_2 hr0_3 hc0_3 hr0_4 hc0_4
 generalize (l0_1.all fun e => decide (e.f0 ≤ a0_6)) = q at HA
 go_enter Tryz.func12, Tryz.ntmps12
 go_wp2_with (first | (go_at_call 47; refine (HM.out _ (by first | exact HB0.out | exact below_drew HB0.out)).mono ?_; rintro e w1 ⟨rfl, hb⟩; have BK1 := Aside0.mk (blk_below (by first | exact BK0.out | exact blk_drew BK0.out) (by first | exact hb | exact hb.below)); have HB1 := Aside0.mk (below_then (show Below w.heap.size w _ by first | exact HB0.out | exact below_drew HB0.out) (by first | exact HB0.out.size | exact (below_drew HB0.out).size) (by first | exact hb | exact hb.below)); clear hb; have g1_1 := (blk_cell BK1.out 1).trans rfl) | (go_at_call 48; refine (HL.out _ (by first | exact HB1.out | exact below_drew HB1.out)).mono ?_; rintro e w2 ⟨rfl, hb⟩; have BK2 := Aside0.mk (blk_below (by first | exact BK1.out | exact blk_drew BK1.out) (by first | exact hb | exact hb.below)); have HB2 := Aside0.mk (below_then (show Below w.heap.size w _ by first | exact HB1.out | exact below_drew HB1.out) (by first | exact HB1.out.size | exact (below_drew HB1.out).size) (by first | exact hb | exact hb.below)); clear hb; have g2_2 := (blk_cell BK2.out 2).trans rfl) | (go_at_call 49; refine (HU.out _ (by first | exact HB2.out | exact below_drew HB2.out)).mono ?_; rintro e w3 ⟨rfl, hb⟩; have BK3 := Aside0.mk (blk_below (by first | exact BK2.out | exact blk_drew BK2.out) (by first | exact hb | exact hb.below)); have HB3 := Aside0.mk (below_then (show Below w.heap.size w _ by first | exact HB2.out | exact below_drew HB2.out) (by first | exact HB2.out.size | exact (below_drew HB2.out).size) (by first | exact hb | exact hb.below)); clear hb; have g3_3 := (blk_cell BK3.out 3).trans rfl) | (go_at_call 50; refine (HS.out _ (by first | exact HB3.out | exact below_drew HB3.out)).mono ?_; rintro e w4 ⟨rfl, hb⟩; have BK4 := Aside0.mk (blk_below (by first | exact BK3.out | exact blk_drew BK3.out) (by first | exact hb | exact hb.below)); have HB4 := Aside0.mk (below_then (show Below w.heap.size w _ by first | exact HB3.out | exact below_drew HB3.out) (by first | exact HB3.out.size | exact (below_drew HB3.out).size) (by first | exact hb | exact hb.below)); clear hb; have g4_4 := (blk_cell BK4.out 4).trans rfl) | (go_at_call 51; refine (HC.out _ (by first | exact HB4.out | exact below_drew HB4.out)).mono ?_; rintro e w5 ⟨rfl, hb⟩; have BK5 := Aside0.mk (blk_below (by first | exact BK4.out | exact blk_drew BK4.out) (by first | exact hb | exact hb.below)); have HB5 := Aside0.mk (below_then (show Below w.heap.size w _ by first | exact HB4.out | exact below_drew HB4.out) (by first | exact HB4.out.size | exact (below_drew HB4.out).size) (by first | exact hb | exact hb.below)); clear hb; have g5_1 := (blk_cell BK5.out 1).trans rfl; have g5_0 := (blk_cell BK5.out 0).trans rfl) | (go_at_call 52; refine (HF.out _ (by first | exact HB5.out | exact below_drew HB5.out)).mono ?_; rintro e w6 ⟨rfl, hb⟩; have BK6 := Aside0.mk (blk_below (by first | exact BK5.out | exact blk_drew BK5.out) (by first | exact hb | exact hb.below)); have HB6 := Aside0.mk (below_then (show Below w.heap.size w _ by first | exact HB5.out | exact below_drew HB5.out) (by first | exact HB5.out.size | exact (below_drew HB5.out).size) (by first | exact hb | exact hb.below)); clear hb; have g6_5 := (blk_cell BK6.out 5).trans rfl) | (go_at_call 53; refine (HP.out _ (by first | exact HB6.out | exact below_drew HB6.out)).mono ?_; rintro e w7 ⟨rfl, hb⟩; have BK7 := Aside0.mk (blk_below (by first | exact BK6.out | exact blk_drew BK6.out) (by first | exact hb | exact hb.below)); have HB7 := Aside0.mk (below_then (show Below w.heap.size w _ by first | exact HB6.out | exact below_drew HB6.out) (by first | exact HB6.out.size | exact (below_drew HB6.out).size) (by first | exact hb | exact hb.below)); clear hb; have g7_6 := (blk_cell BK7.out 6).trans rfl) | (go_at_call 54; refine (HD.out _ (by first | exact HB7.out | exact below_drew HB7.out)).mono ?_; rintro e w8 ⟨rfl, hb⟩; have BK8 := Aside0.mk (blk_below (by first | exact BK7.out | exact blk_drew BK7.out) (by first | exact hb | exact hb.below)); have HB8 := Aside0.mk (below_then (show Below w.heap.size w _ by first | exact HB7.out | exact below_drew HB7.out) (by first | exact HB7.out.size | exact (below_drew HB7.out).size) (by first | exact hb | exact hb.below)); clear hb; have g8_1 := (blk_cell BK8.out 1).trans rfl) | (go_at_call 55; refine (HA.out _ HB8.out BK8.out).mono ?_; rintro e w9 ⟨rfl, hb⟩))
 go_ret
 exact ⟨rfl, below_then HB8.out HB8.out.size hb⟩

/-! ### laws_eqInterest: function 114 -/
def laws_eqInterest.f (a0_0 : ByteArray) (a0_1 : Int) (a0_2 : ByteArray) (a0_3 : Int) (a0_4 : Int) (a1_0 : ByteArray) (a1_1 : Int) (a1_2 : ByteArray) (a1_3 : Int) (a1_4 : Int) : Option (Bool) := if a0_0.toList = a1_0.toList then (if a0_1 = a1_1 then (if a0_2.toList = a1_2.toList then (if a0_3 = a1_3 then (if a0_4 = a1_4 then (some true) else (some false)) else (some false)) else (some false)) else (some false)) else (some false)
set_option maxHeartbeats 8000000 in
set_option maxRecDepth 100000 in
theorem laws_eqInterest.calls (a0_0 : ByteArray) (a0_1 : Int) (a0_2 : ByteArray) (a0_3 : Int) (a0_4 : Int) (a1_0 : ByteArray) (a1_1 : Int) (a1_2 : ByteArray) (a1_3 : Int) (a1_4 : Int) (r : Bool) (w : World) (h : laws_eqInterest.f a0_0 a0_1 a0_2 a0_3 a0_4 a1_0 a1_1 a1_2 a1_3 a1_4 = some r) :
 Calls Tryz.prog 114 #[.agg #[.string a0_0, .int .i64 a0_1, .string a0_2, .int .i64 a0_3, .int .i64 a0_4], .agg #[.string a1_0, .int .i64 a1_1, .string a1_2, .int .i64 a1_3, .int .i64 a1_4]] w fun e w' => e = .returned (.bool r) ∧ Below w.heap.size w w' := by
 have hu103 := Tryz.underlying103
 have HB := Aside0.mk (Below.refl w.heap.size w)
 have H : (if a0_0.toList = a1_0.toList then (if a0_1 = a1_1 then (if a0_2.toList = a1_2.toList then (if a0_3 = a1_3 then (if a0_4 = a1_4 then (some true) else (some false)) else (some false)) else (some false)) else (some false)) else (some false)) = some r := h
 clear h
 by_cases c3 : a0_0.toList = a1_0.toList
 rw [if_pos c3] at H
 have c3b0 : (a0_0.toList == a1_0.toList) = true := beq_iff_eq.mpr c3
 have c3b1 : (a0_0.toList != a1_0.toList) = false := bne_eq_false_iff_eq.mpr c3
 clear c3
 by_cases c4 : a0_1 = a1_1
 rw [if_pos c4] at H
 have c4b0 : (a0_1 == a1_1) = true := beq_iff_eq.mpr c4
 have c4b1 : (a0_1 != a1_1) = false := bne_eq_false_iff_eq.mpr c4
 clear c4
 by_cases c5 : a0_2.toList = a1_2.toList
 rw [if_pos c5] at H
 have c5b0 : (a0_2.toList == a1_2.toList) = true := beq_iff_eq.mpr c5
 have c5b1 : (a0_2.toList != a1_2.toList) = false := bne_eq_false_iff_eq.mpr c5
 clear c5
 by_cases c6 : a0_3 = a1_3
 rw [if_pos c6] at H
 have c6b0 : (a0_3 == a1_3) = true := beq_iff_eq.mpr c6
 have c6b1 : (a0_3 != a1_3) = false := bne_eq_false_iff_eq.mpr c6
 clear c6
 by_cases c7 : a0_4 = a1_4
 rw [if_pos c7] at H
 have c7b0 : (a0_4 == a1_4) = true := beq_iff_eq.mpr c7
 have c7b1 : (a0_4 != a1_4) = false := bne_eq_false_iff_eq.mpr c7
 clear c7
 obtain rfl := Option.some.inj H
 rotate_left
 rw [if_neg c7] at H
 have c7b0 : (a0_4 == a1_4) = false := beq_eq_false_iff_ne.mpr c7
 have c7b1 : (a0_4 != a1_4) = true := bne_iff_ne.mpr c7
 obtain rfl := Option.some.inj H
 rotate_left
 rw [if_neg c6] at H
 have c6b0 : (a0_3 == a1_3) = false := beq_eq_false_iff_ne.mpr c6
 have c6b1 : (a0_3 != a1_3) = true := bne_iff_ne.mpr c6
 obtain rfl := Option.some.inj H
 rotate_left
 rw [if_neg c5] at H
 have c5b0 : (a0_2.toList == a1_2.toList) = false := beq_eq_false_iff_ne.mpr c5
 have c5b1 : (a0_2.toList != a1_2.toList) = true := bne_iff_ne.mpr c5
 obtain rfl := Option.some.inj H
 rotate_left
 rw [if_neg c4] at H
 have c4b0 : (a0_1 == a1_1) = false := beq_eq_false_iff_ne.mpr c4
 have c4b1 : (a0_1 != a1_1) = true := bne_iff_ne.mpr c4
 obtain rfl := Option.some.inj H
 rotate_left
 rw [if_neg c3] at H
 have c3b0 : (a0_0.toList == a1_0.toList) = false := beq_eq_false_iff_ne.mpr c3
 have c3b1 : (a0_0.toList != a1_0.toList) = true := bne_iff_ne.mpr c3
 obtain rfl := Option.some.inj H
 rotate_left
 all_goals
  go_enter Tryz.func114, Tryz.ntmps114
  go_wp2_with (first | ((with_reducible refine gate_dst (N := 2) rfl ?_); refine box_event ?hg (N := 2) ?hd (cs := #[.string a0_0, .int .i64 a0_1, .string a0_2, .int .i64 a0_3, .int .i64 a0_4]) (t := 103) ?hr ?_; (case hd => rfl); (case hg => rfl); (case hr => first | (go_simp; done) | (go_simp; rfl)); intro gb291 hg w8 hbox hb; have n0_ := Aside0.mk (bs_ hb); have n1_ := Aside0.mk (hbox); have n2_ := Aside0.mk ((by rw [hg]; exact (bz_) : w.heap.size ≤ gb291)); have n3_ := Aside0.mk ((by rw [hg]; exact (bz_) : w.heap.size ≤ gb291)); clear HB; have HB := n0_; have BK291 := n1_; have GW291 := n2_; have GE291 := n3_; clear n0_ n1_ n2_ n3_; clear hb hbox hg) | ((with_reducible refine gate_dst (N := 3) rfl ?_); refine box_event ?hg (N := 3) ?hd (cs := #[.string a1_0, .int .i64 a1_1, .string a1_2, .int .i64 a1_3, .int .i64 a1_4]) (t := 103) ?hr ?_; (case hd => rfl); (case hg => rfl); (case hr => first | (go_simp; done) | (go_simp; rfl)); intro gb292 hg w9 hbox hb; have n0_ := Aside0.mk (blk_below (g := gb291) (o := .cells #[.string a0_0, .int .i64 a0_1, .string a0_2, .int .i64 a0_3, .int .i64 a0_4] 103 (0, 0)) (by (with_reducible repeat (first | refine blk_drewN ?_ _ | refine blk_drew ?_ | refine blk_alloc ?_ _)); exact BK291.out) hb); have n1_ := Aside0.mk (bs_ hb); have n2_ := Aside0.mk (hbox); have n3_ := Aside0.mk ((by rw [hg]; exact (bz_) : w.heap.size ≤ gb292)); have n4_ := Aside0.mk ((by rw [hg]; exact (bz_) : w.heap.size ≤ gb292)); have n5_ := Aside0.mk ((by rw [hg]; exact Nat.ne_of_lt (blk_lt (g := gb291) (o := .cells #[.string a0_0, .int .i64 a0_1, .string a0_2, .int .i64 a0_3, .int .i64 a0_4] 103 (0, 0)) (by (with_reducible repeat (first | refine blk_drewN ?_ _ | refine blk_drew ?_ | refine blk_alloc ?_ _)); exact BK291.out)) : gb291 ≠ gb292)); have n6_ := Aside0.mk ((by rw [hg]; exact Nat.ne_of_gt (blk_lt (g := gb291) (o := .cells #[.string a0_0, .int .i64 a0_1, .string a0_2, .int .i64 a0_3, .int .i64 a0_4] 103 (0, 0)) (by (with_reducible repeat (first | refine blk_drewN ?_ _ | refine blk_drew ?_ | refine blk_alloc ?_ _)); exact BK291.out)) : gb292 ≠ gb291)); clear BK291; clear HB; have BK291 := n0_; have HB := n1_; have BK292 := n2_; have GW292 := n3_; have GE292 := n4_; have NB291_292 := n5_; have NB292_291 := n6_; clear n0_ n1_ n2_ n3_ n4_ n5_ n6_; clear hb hbox hg; have hnb10 := NB291_292.out; have hnc10 := NB292_291.out; have hcz11_0 := bk BK291 0; have hcz11_1 := bk BK291 1; have hcz11_2 := bk BK291 2; have hcz11_3 := bk BK291 3; have hcz11_4 := bk BK291 4; have hfz11_0 := blk_frozen BK291.out 0; have hfz11_1 := blk_frozen BK291.out 1; have hfz11_2 := blk_frozen BK291.out 2; have hfz11_3 := blk_frozen BK291.out 3; have hfz11_4 := blk_frozen BK291.out 4; have hcz12_0 := bk BK292 0; have hcz12_1 := bk BK292 1; have hcz12_2 := bk BK292 2; have hcz12_3 := bk BK292 3; have hcz12_4 := bk BK292 4; have hfz12_0 := blk_frozen BK292.out 0; have hfz12_1 := blk_frozen BK292.out 1; have hfz12_2 := blk_frozen BK292.out 2; have hfz12_3 := blk_frozen BK292.out 3; have hfz12_4 := blk_frozen BK292.out 4))
  go_ret
  exact ⟨by first | rfl | (simp [errW_none, errW_some] <;> rfl) | (simp [*, errW_none, errW_some] <;> rfl), bb_⟩

end Go.Proofs.YtmfbkbbgokjhnaaGreat.F
