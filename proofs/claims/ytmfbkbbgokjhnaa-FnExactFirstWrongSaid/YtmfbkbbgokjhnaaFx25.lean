-- Written by this session's program (wip/bin/hp.py) over the kit's print: a function's Lean form, and a proof that the call does what it says.
import Derived.Test.YtmfbkbbgokjhnaaFx0
import Derived.Test.YtmfbkbbgokjhnaaSq
import Derived.Test.YtmfbkbbgokjhnaaFx17
import Derived.Test.YtmfbkbbgokjhnaaFx22
import Derived.Test.YtmfbkbbgokjhnaaFx24
namespace Go.Proofs.Ytmfbkbbgokjhnaa.F
open Go.RowKit Go.Proofs.YtmfbkbbgokjhnaaW.PrintWords Go.Proofs.YtmfbkbbgokjhnaaW.PrintLast Go.Proofs.YtmfbkbbgokjhnaaW.PrintMore
attribute [local go_sem] max2_int min2_int max_two min_two max_three min_three max_four min_four   -- for this text's walks alone
set_option linter.unusedVariables false
set_option linter.unusedSimpArgs false

/-! ### impl_DecideLog: function 32 -/
def impl_DecideLog.f (k : Nat) (l0 : List (S94)) (l1 : List (S43)) : Option ((List (S45)) × Int) := (impl_IsRulebook.f k l0).bind fun t273 => (if t273 = true then ((impl_IsLog.f k l1).bind fun t274 => (if t274 = true then ((impl_decided.f k l0 l1).bind fun t275 => (some (t275, 0))) else (some (([] : List (S45)), 1)))) else (some (([] : List (S45)), 1)))
theorem impl_DecideLog.mono : ∀ a0 a1 k, LeO (impl_DecideLog.f k a0 a1) (impl_DecideLog.f (k + 1) a0 a1) := by
 intro a0 a1 k
 unfold impl_DecideLog.f
 repeat' first
  | (with_reducible exact impl_IsLog.mono _ _)
  | (with_reducible exact impl_IsRulebook.mono _ _)
  | (with_reducible exact impl_decided.mono _ _ _)
  | (with_reducible exact LeO.refl _)
  | (with_reducible exact LeO.none _)
  | (with_reducible refine LeO.ite ?_ ?_)
  | (with_reducible refine LeO.bind ?_ (fun _ => ?_))
  | exact impl_IsLog.mono _ _
  | exact impl_IsRulebook.mono _ _
  | exact impl_decided.mono _ _ _
  | exact LeO.none _
  | refine LeO.ite ?_ ?_
  | refine LeO.bind ?_ (fun _ => ?_)
set_option maxHeartbeats 8000000 in
set_option maxRecDepth 100000 in
theorem impl_DecideLog.calls (k : Nat) (A0 : Option Addr) (c0 : Nat) (l0 : List (S94)) (A1 : Option Addr) (c1 : Nat) (l1 : List (S43)) (r1 : List (S45)) (r2 : Int) (w : World) (hr0 : Kd.C k94 w A0 l0.length l0) (hc0 : l0.length ≤ c0) (hr1 : Kd.C k43 w A1 l1.length l1) (hc1 : l1.length ≤ c1) (h : impl_DecideLog.f k l0 l1 = some (r1, r2)) :
 Calls Try.prog 32 #[.slice A0 l0.length c0, .slice A1 l1.length c1] w fun e w' => ∃ v0_ : Value, e = .returned (.tuple #[v0_, .int .i64 r2]) ∧ Kd.S k45 45 w' w.heap.size (fun _ => True) v0_ r1 ∧ Below w.heap.size w w' := by
 have HR0 := Aside0.mk hr0
 have HC0 := Aside0.mk hc0
 clear hr0 hc0
 have HR1 := Aside0.mk hr1
 have HC1 := Aside0.mk hc1
 clear hr1 hc1
 have HB := Aside0.mk (Below.refl w.heap.size w)
 have H : ((impl_IsRulebook.f k l0).bind fun t273 => (if t273 = true then ((impl_IsLog.f k l1).bind fun t274 => (if t274 = true then ((impl_decided.f k l0 l1).bind fun t275 => (some (t275, 0))) else (some (([] : List (S45)), 1)))) else (some (([] : List (S45)), 1)))) = some (r1, r2) := h
 clear h
 replace H := Option.bind_eq_some_iff.mp H
 obtain ⟨t273, A30, H⟩ := H
 replace H : (if t273 = true then ((impl_IsLog.f k l1).bind fun t274 => (if t274 = true then ((impl_decided.f k l0 l1).bind fun t275 => (some (t275, 0))) else (some (([] : List (S45)), 1)))) else (some (([] : List (S45)), 1))) = some (r1, r2) := H
 have A3 := Aside0.mk A30
 clear A30
 by_cases c4 : t273 = true
 subst c4
 have H1 : ((impl_IsLog.f k l1).bind fun t274 => (if t274 = true then ((impl_decided.f k l0 l1).bind fun t275 => (some (t275, 0))) else (some (([] : List (S45)), 1)))) = some (r1, r2) := by rw [if_pos rfl] at H; exact H
 clear H
 have H := H1
 clear H1
 replace H := Option.bind_eq_some_iff.mp H
 obtain ⟨t274, A50, H⟩ := H
 replace H : (if t274 = true then ((impl_decided.f k l0 l1).bind fun t275 => (some (t275, 0))) else (some (([] : List (S45)), 1))) = some (r1, r2) := H
 have A5 := Aside0.mk A50
 clear A50
 by_cases c6 : t274 = true
 subst c6
 have H1 : ((impl_decided.f k l0 l1).bind fun t275 => (some (t275, 0))) = some (r1, r2) := by rw [if_pos rfl] at H; exact H
 clear H
 have H := H1
 clear H1
 replace H := Option.bind_eq_some_iff.mp H
 obtain ⟨t275, A70, H⟩ := H
 replace H : (some (t275, 0)) = some (r1, r2) := H
 have A7 := Aside0.mk A70
 clear A70
 simp only [Option.some.injEq, Prod.mk.injEq] at H
 obtain ⟨rfl, rfl⟩ := H
 rotate_left
 replace c6 := Bool.eq_false_iff.mpr c6
 subst c6
 have H1 : (some (([] : List (S45)), 1)) = some (r1, r2) := by rw [if_neg (show ¬ (false = true) by decide)] at H; exact H
 clear H
 have H := H1
 clear H1
 simp only [Option.some.injEq, Prod.mk.injEq] at H
 obtain ⟨rfl, rfl⟩ := H
 rotate_left
 replace c4 := Bool.eq_false_iff.mpr c4
 subst c4
 have H1 : (some (([] : List (S45)), 1)) = some (r1, r2) := by rw [if_neg (show ¬ (false = true) by decide)] at H; exact H
 clear H
 have H := H1
 clear H1
 simp only [Option.some.injEq, Prod.mk.injEq] at H
 obtain ⟨rfl, rfl⟩ := H
 rotate_left
 all_goals
  go_enter Try.func32, Try.ntmps32
  go_wp2_with (first | ((with_reducible refine gate_callee (f := 66) rfl ?_); refine gl_ 7 Try.func66 #[.slice A0 l0.length c0] ?_; (with_reducible refine (impl_IsRulebook.calls k _ _ l0 _ _ ?side1 ?side2 A3.out).mono ?_); (case side1 => repeat (first | exact HR0.out | (with_reducible refine Kd.C_alloc ?_ _) | (with_reducible refine Kd.C_drewN ?_ _) | (with_reducible refine Kd.C_drew ?_))); (case side2 => exact HC0.out); rintro e w8 ⟨rfl, hb⟩; refine ⟨_, rfl, ?_⟩; have n0_ := Aside0.mk (bs_ hb); clear HB; revert n0_; intro HB; (try clear hb); (try clear hb2); (try clear hk); (try clear hi)) | (go_at_call 67; (with_reducible refine (impl_IsLog.calls k _ _ l1 _ _ ?side1 ?side2 A5.out).mono ?_); (case side1 => repeat (first | exact (Kd.C_below HR1.out HB.out) | (with_reducible refine Kd.C_alloc ?_ _) | (with_reducible refine Kd.C_drewN ?_ _) | (with_reducible refine Kd.C_drew ?_))); (case side2 => exact HC1.out); rintro e w9 ⟨rfl, hb⟩; have n0_ := Aside0.mk (bs_ hb); clear HB; revert n0_; intro HB; (try clear hb); (try clear hb2); (try clear hk); (try clear hi)) | ((with_reducible refine gate_callee (f := 68) rfl ?_); refine gl_ 16 Try.func68 #[.slice A0 l0.length c0, .slice A1 l1.length c1] ?_; (with_reducible refine (impl_decided.calls k _ _ l0 _ _ l1 t275 _ ?side1 ?side2 ?side3 ?side4 A7.out).mono ?_); (case side1 => repeat (first | exact (Kd.C_below HR0.out HB.out) | (with_reducible refine Kd.C_alloc ?_ _) | (with_reducible refine Kd.C_drewN ?_ _) | (with_reducible refine Kd.C_drew ?_))); (case side2 => exact HC0.out); (case side3 => repeat (first | exact (Kd.C_below HR1.out HB.out) | (with_reducible refine Kd.C_alloc ?_ _) | (with_reducible refine Kd.C_drewN ?_ _) | (with_reducible refine Kd.C_drew ?_))); (case side4 => exact HC1.out); rintro e w10 ⟨v276, rfl, ho0, hb⟩; refine ⟨_, rfl, ?_⟩; have n0_ := Aside0.mk (Kd.S_lower ho0 (bz_)); have n1_ := Aside0.mk (bs_ hb); clear HB; revert n0_ n1_; intro HO277 HB; (try clear hb); (try clear hb2); (try clear hk); (try clear hi); (try clear ho0)))
 · go_ret2
   exact ⟨_, by first | rfl | (simp [errW_none, errW_some] <;> rfl) | (simp [*, errW_none, errW_some] <;> rfl), by (with_reducible repeat (first | apply Kd.S_alloc | apply Kd.S_drewN | apply Kd.S_drew)); exact HO277.out, bb_⟩
 · go_ret2
   exact ⟨_, by first | rfl | (simp [errW_none, errW_some] <;> rfl) | (simp [*, errW_none, errW_some] <;> rfl), by first | exact Kd.S_nil _ _ _ _ _ | exact Kd.N_nil _ _ _ _ _ | exact Kd.V_nil _ _ _ _ _ | exact Kd.Q_nil _ _ _ _ _ | exact Kd.R_nil _ _ _ _ _, bb_⟩
 · go_ret2
   exact ⟨_, by first | rfl | (simp [errW_none, errW_some] <;> rfl) | (simp [*, errW_none, errW_some] <;> rfl), by first | exact Kd.S_nil _ _ _ _ _ | exact Kd.N_nil _ _ _ _ _ | exact Kd.V_nil _ _ _ _ _ | exact Kd.Q_nil _ _ _ _ _ | exact Kd.R_nil _ _ _ _ _, bb_⟩

/-! ### slices_Equal_string_string: function 99 -/
def slices_Equal_string_string.l0 : Nat → List ByteArray → List ByteArray → Int → Int → Option (Bool)
 | 0, _, _, _, _ => none
 | k + 1, x0, x1, x12, x13 => if x13 < x12 then (if 0 ≤ x13 then (if x13 < (x0.length : Int) then (if x13 < (x1.length : Int) then (if (rdOf ByteArray.empty x0 x13).toList = (rdOf ByteArray.empty x1 x13).toList then (slices_Equal_string_string.l0 k x0 x1 x12 (wrap64 (x13 + 1))) else (some false)) else (none)) else (none)) else (none)) else (some true)
def slices_Equal_string_string.f (k : Nat) (l0 : List ByteArray) (l1 : List ByteArray) : Option (Bool) := if (l0.length : Int) = (l1.length : Int) then (slices_Equal_string_string.l0 k l0 l1 (l0.length : Int) 0) else (some false)
theorem slices_Equal_string_string.mono_l : ∀ k, (∀ y0 y1 y2 y3, LeO (slices_Equal_string_string.l0 k y0 y1 y2 y3) (slices_Equal_string_string.l0 (k + 1) y0 y1 y2 y3))
 | 0 => fun _ _ _ _ r h => by simp [slices_Equal_string_string.l0] at h
 | k + 1 => by
  have ih0 := slices_Equal_string_string.mono_l k
  · intro y0 y1 y2 y3
    unfold slices_Equal_string_string.l0
    repeat' first
    | (with_reducible exact ih0 _ _ _ _)
    | (with_reducible exact LeO.refl _)
    | (with_reducible exact LeO.none _)
    | (with_reducible refine LeO.ite ?_ ?_)
    | (with_reducible refine LeO.bind ?_ (fun _ => ?_))
    | exact ih0 _ _ _ _
    | exact LeO.none _
    | refine LeO.ite ?_ ?_
    | refine LeO.bind ?_ (fun _ => ?_)
theorem slices_Equal_string_string.mono : ∀ a0 a1 k, LeO (slices_Equal_string_string.f k a0 a1) (slices_Equal_string_string.f (k + 1) a0 a1) := by
 intro a0 a1 k
 have ih0 := slices_Equal_string_string.mono_l k
 unfold slices_Equal_string_string.f
 repeat' first
  | (with_reducible exact ih0 _ _ _ _)
  | (with_reducible exact LeO.refl _)
  | (with_reducible exact LeO.none _)
  | (with_reducible refine LeO.ite ?_ ?_)
  | (with_reducible refine LeO.bind ?_ (fun _ => ?_))
  | exact ih0 _ _ _ _
  | exact LeO.none _
  | refine LeO.ite ?_ ?_
  | refine LeO.bind ?_ (fun _ => ?_)
set_option maxHeartbeats 8000000 in
set_option maxRecDepth 100000 in
theorem slices_Equal_string_string.calls (k : Nat) (A0 : Option Addr) (c0 : Nat) (l0 : List ByteArray) (A1 : Option Addr) (c1 : Nat) (l1 : List ByteArray) (r : Bool) (w : World) (hr0 : Kd.C Kd.string w A0 l0.length l0) (hc0 : l0.length ≤ c0) (hr1 : Kd.C Kd.string w A1 l1.length l1) (hc1 : l1.length ≤ c1) (h : slices_Equal_string_string.f k l0 l1 = some r) :
 Calls Try.prog 99 #[.slice A0 l0.length c0, .slice A1 l1.length c1] w fun e w' => e = .returned (.bool r) ∧ Drawn0 w w' := by
 have HR0 := Aside0.mk hr0
 have HC0 := Aside0.mk hc0
 clear hr0 hc0
 have HR1 := Aside0.mk hr1
 have HC1 := Aside0.mk hc1
 clear hr1 hc1
 have H : (if (l0.length : Int) = (l1.length : Int) then (slices_Equal_string_string.l0 k l0 l1 (l0.length : Int) 0) else (some false)) = some r := h
 clear h
 by_cases c3 : (l0.length : Int) = (l1.length : Int)
 · rw [if_pos c3] at H
   have c3b0 : ((l0.length : Int) == (l1.length : Int)) = true := beq_iff_eq.mpr c3
   have c3b1 : ((l0.length : Int) != (l1.length : Int)) = false := bne_eq_false_iff_eq.mpr c3
   have c3b2 : (l0.length == l1.length) = true := by first | simpa using c3 | (simp at c3 ⊢; omega)
   clear c3
   have H' := Aside0.mk H
   clear H
   go_enter Try.func99, Try.ntmps99
   go_wp2
   repeat (go_quiet (fail); try go_wp2)
   go_loopg [13] k (fun kq v13 w' => ∃ (x13_1 : Int), v13 = .int .i64 x13_1 ∧ Aside0 (slices_Equal_string_string.l0 kq l0 l1 (l0.length : Int) x13_1 = some r) ∧ Aside0 (kq ≤ k) ∧ Drawn0 w w')
   case atStart => exact ⟨(0), (by first | rfl | (simp; done) | (simp [*]; done)), H', ⟨Nat.le_refl _⟩, by repeat (first | exact Drawn0.refl _ | apply Drawn0.step)⟩
   case round =>
    clear H'
    try clear c1
    try clear p2
    try clear c3
    try clear c3b0
    try clear c3b1
    try clear c3b2
    obtain ⟨x13_1, rfl, HA, HK1, ⟨m1, rfl⟩⟩ := hrel
    cases gk with
    | zero => exact absurd HA.out (by simp [slices_Equal_string_string.l0])
    | succ k1 =>
     have H := HA.out
     clear HA
     simp only [slices_Equal_string_string.l0] at H
     by_cases c4 : x13_1 < (l0.length : Int)
     · rw [if_pos c4] at H
       have c4b0 : decide (x13_1 < (l0.length : Int)) = true := decide_eq_true c4
       clear c4
       by_cases c5 : 0 ≤ x13_1
       · rw [if_pos c5] at H
         have c5b0 : decide (0 ≤ x13_1) = true := decide_eq_true c5
         clear c5
         by_cases c6 : x13_1 < (l0.length : Int)
         · rw [if_pos c6] at H
           have c6b0 : decide (x13_1 < (l0.length : Int)) = true := decide_eq_true c6
           clear c6
           by_cases c7 : x13_1 < (l1.length : Int)
           · rw [if_pos c7] at H
             have c7b0 : decide (x13_1 < (l1.length : Int)) = true := decide_eq_true c7
             clear c7
             by_cases c8 : (rdOf ByteArray.empty l0 x13_1).toList = (rdOf ByteArray.empty l1 x13_1).toList
             · rw [if_pos c8] at H
               have c8b0 : ((rdOf ByteArray.empty l0 x13_1).toList == (rdOf ByteArray.empty l1 x13_1).toList) = true := beq_iff_eq.mpr c8
               have c8b1 : ((rdOf ByteArray.empty l0 x13_1).toList != (rdOf ByteArray.empty l1 x13_1).toList) = false := bne_eq_false_iff_eq.mpr c8
               clear c8
               have H' := Aside0.mk H
               clear H
               have p278 : 0 ≤ (x13_1 : Int) := od_
               have q278 : x13_1 < (l0.length : Int) := od_
               obtain ⟨ad278, e278, hx278_0⟩ := Kd.at_string HR0.out x13_1 p278 q278
               cases e278
               replace p278 := eq_true p278
               replace q278 := eq_true q278
               have p279 : 0 ≤ (x13_1 : Int) := od_
               have q279 : x13_1 < (l1.length : Int) := od_
               obtain ⟨ad279, e279, hx279_0⟩ := Kd.at_string HR1.out x13_1 p279 q279
               cases e279
               replace p279 := eq_true p279
               replace q279 := eq_true q279
               go_wp2
               repeat (go_quiet (fail); try go_wp2)
               go_roundg k1
               case measure => have := HK1.out; omega
               case rel => exact ⟨(wrap64 (x13_1 + 1)), (by first | rfl | (simp; done) | (simp [*]; done)), H', ⟨by have := HK1.out; omega⟩, by repeat (first | exact Drawn0.refl _ | apply Drawn0.step)⟩
             · rw [if_neg c8] at H
               have c8b0 : ((rdOf ByteArray.empty l0 x13_1).toList == (rdOf ByteArray.empty l1 x13_1).toList) = false := beq_eq_false_iff_ne.mpr c8
               have c8b1 : ((rdOf ByteArray.empty l0 x13_1).toList != (rdOf ByteArray.empty l1 x13_1).toList) = true := bne_iff_ne.mpr c8
               obtain rfl := Option.some.inj H
               have p278 : 0 ≤ (x13_1 : Int) := od_
               have q278 : x13_1 < (l0.length : Int) := od_
               obtain ⟨ad278, e278, hx278_0⟩ := Kd.at_string HR0.out x13_1 p278 q278
               cases e278
               replace p278 := eq_true p278
               replace q278 := eq_true q278
               have p279 : 0 ≤ (x13_1 : Int) := od_
               have q279 : x13_1 < (l1.length : Int) := od_
               obtain ⟨ad279, e279, hx279_0⟩ := Kd.at_string HR1.out x13_1 p279 q279
               cases e279
               replace p279 := eq_true p279
               replace q279 := eq_true q279
               go_wp2
               repeat (go_quiet (fail); try go_wp2)
               go_ret
               exact ⟨by first | rfl | (simp; done) | (simp [*]; done), by repeat (first | exact Drawn0.refl _ | apply Drawn0.step)⟩
           · rw [if_neg c7] at H
             exact absurd H (by simp)
         · rw [if_neg c6] at H
           exact absurd H (by simp)
       · rw [if_neg c5] at H
         exact absurd H (by simp)
     · rw [if_neg c4] at H
       have c4b0 : decide (x13_1 < (l0.length : Int)) = false := decide_eq_false c4
       clear c4
       obtain rfl := Option.some.inj H
       go_wp2
       repeat (go_quiet (fail); try go_wp2)
       go_ret
       exact ⟨by first | rfl | (simp; done) | (simp [*]; done), by repeat (first | exact Drawn0.refl _ | apply Drawn0.step)⟩
 · rw [if_neg c3] at H
   have c3b0 : ((l0.length : Int) == (l1.length : Int)) = false := beq_eq_false_iff_ne.mpr c3
   have c3b1 : ((l0.length : Int) != (l1.length : Int)) = true := bne_iff_ne.mpr c3
   have c3b2 : (l0.length == l1.length) = false := by first | simpa using c3 | (simp at c3 ⊢; omega)
   obtain rfl := Option.some.inj H
   go_enter Try.func99, Try.ntmps99
   go_wp2
   repeat (go_quiet (fail); try go_wp2)
   go_ret
   exact ⟨by first | rfl | (simp; done) | (simp [*]; done), by repeat (first | exact Drawn0.refl _ | apply Drawn0.step)⟩

/-! ### impl_sameDecision: function 61 -/
def impl_sameDecision.f (k : Nat) (a0_0 : Int) (l0_1 : List ByteArray) (a1_0 : Int) (l1_1 : List ByteArray) : Option (Bool) := if a0_0 = a1_0 then ((slices_Equal_string_string.f k l0_1 l1_1).bind fun t282 => (some t282)) else (some false)
theorem impl_sameDecision.mono : ∀ a0 a1 a2 a3 k, LeO (impl_sameDecision.f k a0 a1 a2 a3) (impl_sameDecision.f (k + 1) a0 a1 a2 a3) := by
 intro a0 a1 a2 a3 k
 unfold impl_sameDecision.f
 repeat' first
  | (with_reducible exact slices_Equal_string_string.mono _ _ _)
  | (with_reducible exact LeO.refl _)
  | (with_reducible exact LeO.none _)
  | (with_reducible refine LeO.ite ?_ ?_)
  | (with_reducible refine LeO.bind ?_ (fun _ => ?_))
  | exact slices_Equal_string_string.mono _ _ _
  | exact LeO.none _
  | refine LeO.ite ?_ ?_
  | refine LeO.bind ?_ (fun _ => ?_)
set_option maxHeartbeats 8000000 in
set_option maxRecDepth 100000 in
theorem impl_sameDecision.calls (k : Nat) (a0_0 : Int) (A0_1 : Option Addr) (c0_1 : Nat) (l0_1 : List ByteArray) (a1_0 : Int) (A1_1 : Option Addr) (c1_1 : Nat) (l1_1 : List ByteArray) (r : Bool) (w : World) (hr0_1 : Kd.C Kd.string w A0_1 l0_1.length l0_1) (hc0_1 : l0_1.length ≤ c0_1) (hr1_1 : Kd.C Kd.string w A1_1 l1_1.length l1_1) (hc1_1 : l1_1.length ≤ c1_1) (h : impl_sameDecision.f k a0_0 l0_1 a1_0 l1_1 = some r) :
 Calls Try.prog 61 #[.agg #[.int .i64 a0_0, .slice A0_1 l0_1.length c0_1], .agg #[.int .i64 a1_0, .slice A1_1 l1_1.length c1_1]] w fun e w' => e = .returned (.bool r) ∧ Below w.heap.size w w' := by
 have hu45 := Try.underlying45
 have HR0_1 := Aside0.mk hr0_1
 have HC0_1 := Aside0.mk hc0_1
 clear hr0_1 hc0_1
 have HR1_1 := Aside0.mk hr1_1
 have HC1_1 := Aside0.mk hc1_1
 clear hr1_1 hc1_1
 have HB := Aside0.mk (Below.refl w.heap.size w)
 have H : (if a0_0 = a1_0 then ((slices_Equal_string_string.f k l0_1 l1_1).bind fun t282 => (some t282)) else (some false)) = some r := h
 clear h
 by_cases c3 : a0_0 = a1_0
 rw [if_pos c3] at H
 have c3b0 : (a0_0 == a1_0) = true := beq_iff_eq.mpr c3
 have c3b1 : (a0_0 != a1_0) = false := bne_eq_false_iff_eq.mpr c3
 clear c3
 replace H := Option.bind_eq_some_iff.mp H
 obtain ⟨t282, A40, H⟩ := H
 replace H : (some t282) = some r := H
 have A4 := Aside0.mk A40
 clear A40
 obtain rfl := Option.some.inj H
 rotate_left
 rw [if_neg c3] at H
 have c3b0 : (a0_0 == a1_0) = false := beq_eq_false_iff_ne.mpr c3
 have c3b1 : (a0_0 != a1_0) = true := bne_iff_ne.mpr c3
 obtain rfl := Option.some.inj H
 rotate_left
 all_goals
  go_enter Try.func61, Try.ntmps61
  go_wp2_with (first | ((with_reducible refine gate_dst (N := 2) rfl ?_); refine bx_ 2 #[.int .i64 a0_0, .slice A0_1 l0_1.length c0_1] 45 ?_; intro gb280 hg w5 hbox hb; have n0_ := Aside0.mk (bs_ hb); have n1_ := Aside0.mk (hbox); have n2_ := Aside0.mk ((by rw [hg]; exact (bz_) : w.heap.size ≤ gb280)); have n3_ := Aside0.mk ((by rw [hg]; exact (bz_) : w.heap.size ≤ gb280)); clear HB; revert n0_ n1_ n2_ n3_; intro HB BK280 GW280 GE280; clear hb hbox hg) | ((with_reducible refine gate_dst (N := 3) rfl ?_); refine bx_ 3 #[.int .i64 a1_0, .slice A1_1 l1_1.length c1_1] 45 ?_; intro gb281 hg w6 hbox hb; have n0_ := Aside0.mk (bkb BK280 hb); have n1_ := Aside0.mk (bs_ hb); have n2_ := Aside0.mk (hbox); have n3_ := Aside0.mk ((by rw [hg]; exact (bz_) : w.heap.size ≤ gb281)); have n4_ := Aside0.mk ((by rw [hg]; exact (bz_) : w.heap.size ≤ gb281)); have n5_ := Aside0.mk ((by rw [hg]; exact Nat.ne_of_lt (blk_lt (g := gb280) (o := .cells #[.int .i64 a0_0, .slice A0_1 l0_1.length c0_1] 45 (0, 0)) (by (with_reducible repeat (first | refine blk_drewN ?_ _ | refine blk_drew ?_ | refine blk_alloc ?_ _)); exact BK280.out)) : gb280 ≠ gb281)); have n6_ := Aside0.mk ((by rw [hg]; exact Nat.ne_of_gt (blk_lt (g := gb280) (o := .cells #[.int .i64 a0_0, .slice A0_1 l0_1.length c0_1] 45 (0, 0)) (by (with_reducible repeat (first | refine blk_drewN ?_ _ | refine blk_drew ?_ | refine blk_alloc ?_ _)); exact BK280.out)) : gb281 ≠ gb280)); clear BK280 HB; revert n0_ n1_ n2_ n3_ n4_ n5_ n6_; intro BK280 HB BK281 GW281 GE281 NB280_281 NB281_280; clear hb hbox hg; have hnb7 := NB280_281.out; have hnc7 := NB281_280.out; have hcz8_0 := bk BK280 0; have hcz8_1 := bk BK280 1; have hfz8_0 := blk_frozen BK280.out 0; have hfz8_1 := blk_frozen BK280.out 1; have hcz9_0 := bk BK281 0; have hcz9_1 := bk BK281 1; have hfz9_0 := blk_frozen BK281.out 0; have hfz9_1 := blk_frozen BK281.out 1) | (go_at_call 99; (with_reducible refine (slices_Equal_string_string.calls k _ _ l0_1 _ _ l1_1 t282 _ ?side1 ?side2 ?side3 ?side4 A4.out).mono ?_); (case side1 => repeat (first | exact (Kd.C_below HR0_1.out HB.out) | (with_reducible refine Kd.C_alloc ?_ _) | (with_reducible refine Kd.C_drewN ?_ _) | (with_reducible refine Kd.C_drew ?_))); (case side2 => exact HC0_1.out); (case side3 => repeat (first | exact (Kd.C_below HR1_1.out HB.out) | (with_reducible refine Kd.C_alloc ?_ _) | (with_reducible refine Kd.C_drewN ?_ _) | (with_reducible refine Kd.C_drew ?_))); (case side4 => exact HC1_1.out); rintro e w' ⟨rfl, ⟨nd, rfl⟩⟩))
  go_ret
  exact ⟨by first | rfl | (simp [errW_none, errW_some] <;> rfl) | (simp [*, errW_none, errW_some] <;> rfl), bb_⟩

end Go.Proofs.Ytmfbkbbgokjhnaa.F
namespace Go.Proofs.Ytmfbkbbgokjhnaa.F
open Go.RowKit Go.Proofs.YtmfbkbbgokjhnaaW.PrintWords Go.Proofs.YtmfbkbbgokjhnaaW.PrintLast Go.Proofs.YtmfbkbbgokjhnaaW.PrintMore
attribute [local go_sem] max2_int min2_int max_two min_two max_three min_three max_four min_four   -- for this text's walks alone
set_option linter.unusedVariables false
set_option linter.unusedSimpArgs false

/-! ### impl_FirstWrong: function 29 -/
def impl_FirstWrong.l0 : Nat → List (S45) → List (S45) → Int → Int → Option (Int × Int)
 | 0, _, _, _, _ => none
 | k + 1, x2, x28, x29, x30 => if x30 < x29 then (if 0 ≤ x30 then (if x30 < (x28.length : Int) then (if x30 ≥ (x2.length : Int) then (some (x30, 0)) else (if x30 < (x2.length : Int) then ((impl_sameDecision.f k ((rd_T45 x28 x30).f0) ((rd_T45 x28 x30).f1) ((rd_T45 x2 x30).f0) ((rd_T45 x2 x30).f1)).bind fun t290 => (if t290 = true then (impl_FirstWrong.l0 k x2 x28 x29 (wrap64 (x30 + 1))) else (some (x30, 0)))) else (none))) else (none)) else (none)) else (some (0, 4))
def impl_FirstWrong.f (k : Nat) (l0 : List (S94)) (l1 : List (S43)) (l2 : List (S45)) : Option (Int × Int) := (impl_DecideLog.f k l0 l1).bind fun bt283 => (if bt283.2 = 0 then (if (l2.length : Int) > (l1.length : Int) then (some (0, 2)) else (impl_FirstWrong.l0 k l2 bt283.1 (bt283.1.length : Int) 0)) else (some (0, bt283.2)))
theorem impl_FirstWrong.mono_l : ∀ k, (∀ y0 y1 y2 y3, LeO (impl_FirstWrong.l0 k y0 y1 y2 y3) (impl_FirstWrong.l0 (k + 1) y0 y1 y2 y3))
 | 0 => fun _ _ _ _ r h => by simp [impl_FirstWrong.l0] at h
 | k + 1 => by
  have ih0 := impl_FirstWrong.mono_l k
  · intro y0 y1 y2 y3
    unfold impl_FirstWrong.l0
    repeat' first
    | (with_reducible exact ih0 _ _ _ _)
    | (with_reducible exact impl_DecideLog.mono _ _ _)
    | (with_reducible exact impl_sameDecision.mono _ _ _ _ _)
    | (with_reducible exact LeO.refl _)
    | (with_reducible exact LeO.none _)
    | (with_reducible refine LeO.ite ?_ ?_)
    | (with_reducible refine LeO.bind ?_ (fun _ => ?_))
    | exact ih0 _ _ _ _
    | exact impl_DecideLog.mono _ _ _
    | exact impl_sameDecision.mono _ _ _ _ _
    | exact LeO.none _
    | refine LeO.ite ?_ ?_
    | refine LeO.bind ?_ (fun _ => ?_)
theorem impl_FirstWrong.mono : ∀ a0 a1 a2 k, LeO (impl_FirstWrong.f k a0 a1 a2) (impl_FirstWrong.f (k + 1) a0 a1 a2) := by
 intro a0 a1 a2 k
 have ih0 := impl_FirstWrong.mono_l k
 unfold impl_FirstWrong.f
 repeat' first
  | (with_reducible exact ih0 _ _ _ _)
  | (with_reducible exact impl_DecideLog.mono _ _ _)
  | (with_reducible exact impl_sameDecision.mono _ _ _ _ _)
  | (with_reducible exact LeO.refl _)
  | (with_reducible exact LeO.none _)
  | (with_reducible refine LeO.ite ?_ ?_)
  | (with_reducible refine LeO.bind ?_ (fun _ => ?_))
  | exact ih0 _ _ _ _
  | exact impl_DecideLog.mono _ _ _
  | exact impl_sameDecision.mono _ _ _ _ _
  | exact LeO.none _
  | refine LeO.ite ?_ ?_
  | refine LeO.bind ?_ (fun _ => ?_)
def impl_FirstWrong.T9 : Bool × List (List Nat × List Nat) := (true, [([], []), ([], []), ([1], [1]), ([0, 2], [0, 2]), ([3], [3]), ([4], [4]), ([4], [4]), ([4], [4]), ([6, 7, 4], [4, 6, 7]), ([8, 4], [4, 8]), ([5, 9, 4, 4], [4, 5, 9]), ([10, 4], [4, 10]), ([4, 11], [4, 11])])
def impl_FirstWrong.B9 : List Nat := [0, 0, 2, 7, 15, 31, 31, 31, 223, 479, 1023, 2047, 4095]
theorem impl_FirstWrong.tab9 : rtab .any (opsOf Try.f29 9) = impl_FirstWrong.T9 := by kernel_rfl
theorem impl_FirstWrong.bits9 : waitsOk impl_FirstWrong.T9.2 impl_FirstWrong.B9 = true := by kernel_rfl
set_option maxHeartbeats 8000000 in
set_option maxRecDepth 100000 in
theorem impl_FirstWrong.calls (k : Nat) (A0 : Option Addr) (c0 : Nat) (l0 : List (S94)) (A1 : Option Addr) (c1 : Nat) (l1 : List (S43)) (A2 : Option Addr) (c2 : Nat) (l2 : List (S45)) (r1 : Int) (r2 : Int) (w : World) (hr0 : Kd.C k94 w A0 l0.length l0) (hc0 : l0.length ≤ c0) (hr1 : Kd.C k43 w A1 l1.length l1) (hc1 : l1.length ≤ c1) (hr2 : Kd.C k45 w A2 l2.length l2) (hc2 : l2.length ≤ c2) (h : impl_FirstWrong.f k l0 l1 l2 = some (r1, r2)) :
 Calls Try.prog 29 #[.slice A0 l0.length c0, .slice A1 l1.length c1, .slice A2 l2.length c2] w fun e w' => e = .returned (.tuple #[.int .i64 r1, .int .i64 r2]) ∧ Below w.heap.size w w' := by
 have hu45 := Try.underlying45
 have HR0 := Aside0.mk hr0
 have HC0 := Aside0.mk hc0
 clear hr0 hc0
 have HR1 := Aside0.mk hr1
 have HC1 := Aside0.mk hc1
 clear hr1 hc1
 have HR2 := Aside0.mk hr2
 have HC2 := Aside0.mk hc2
 clear hr2 hc2
 have HB := Aside0.mk (Below.refl w.heap.size w)
 have H : ((impl_DecideLog.f k l0 l1).bind fun bt283 => (if bt283.2 = 0 then (if (l2.length : Int) > (l1.length : Int) then (some (0, 2)) else (impl_FirstWrong.l0 k l2 bt283.1 (bt283.1.length : Int) 0)) else (some (0, bt283.2)))) = some (r1, r2) := h
 clear h
 replace H := Option.bind_eq_some_iff.mp H
 obtain ⟨⟨t283, t284⟩, A40, H⟩ := H
 replace H : (if t284 = 0 then (if (l2.length : Int) > (l1.length : Int) then (some (0, 2)) else (impl_FirstWrong.l0 k l2 t283 (t283.length : Int) 0)) else (some (0, t284))) = some (r1, r2) := H
 have A4 := Aside0.mk A40
 clear A40
 by_cases c5 : t284 = 0
 · rw [if_pos c5] at H
   have c5b0 : (t284 == 0) = true := beq_iff_eq.mpr c5
   have c5b1 : (t284 != 0) = false := bne_eq_false_iff_eq.mpr c5
   clear c5
   by_cases c6 : (l2.length : Int) > (l1.length : Int)
   · rw [if_pos c6] at H
     have c6b0 : decide ((l1.length : Int) < (l2.length : Int)) = true := decide_eq_true c6
     have c6b1 : decide (l1.length < l2.length) = true := decide_eq_true (Int.ofNat_lt.mp c6)
     clear c6
     simp only [Option.some.injEq, Prod.mk.injEq] at H
     obtain ⟨rfl, rfl⟩ := H
     go_enter Try.func29, Try.ntmps29
     go_wp2_with (first | ((with_reducible refine gate_callee (f := 32) rfl ?_); refine gl_ 15 Try.func32 #[.slice A0 l0.length c0, .slice A1 l1.length c1] ?_; (with_reducible refine (impl_DecideLog.calls k _ _ l0 _ _ l1 t283 t284 _ ?side1 ?side2 ?side3 ?side4 A4.out).mono ?_); (case side1 => repeat (first | exact HR0.out | (with_reducible refine Kd.C_alloc ?_ _) | (with_reducible refine Kd.C_drewN ?_ _) | (with_reducible refine Kd.C_drew ?_))); (case side2 => exact HC0.out); (case side3 => repeat (first | exact HR1.out | (with_reducible refine Kd.C_alloc ?_ _) | (with_reducible refine Kd.C_drewN ?_ _) | (with_reducible refine Kd.C_drew ?_))); (case side4 => exact HC1.out); rintro e w7 ⟨v285, rfl, ho0, hb⟩; refine ⟨_, rfl, ?_⟩; have n0_ := Aside0.mk (Kd.S_lower ho0 (bz_)); have n1_ := Aside0.mk (bs_ hb); clear HB; revert n0_ n1_; intro HO286 HB; (try clear hb); (try clear hb2); (try clear hk); (try clear hi); (try clear ho0)))
     go_ret2
     exact ⟨by first | rfl | (simp [errW_none, errW_some] <;> rfl) | (simp [*, errW_none, errW_some] <;> rfl), bb_⟩
   · rw [if_neg c6] at H
     have c6b0 : decide ((l1.length : Int) < (l2.length : Int)) = false := decide_eq_false c6
     have c6b1 : decide (l1.length < l2.length) = false := decide_eq_false (fun h => c6 (Int.ofNat_lt.mpr h))
     clear c6
     have H' := Aside0.mk H
     clear H
     go_enter Try.func29, Try.ntmps29
     go_wp2_with (first | ((with_reducible refine gate_callee (f := 32) rfl ?_); refine gl_ 15 Try.func32 #[.slice A0 l0.length c0, .slice A1 l1.length c1] ?_; (with_reducible refine (impl_DecideLog.calls k _ _ l0 _ _ l1 t283 t284 _ ?side1 ?side2 ?side3 ?side4 A4.out).mono ?_); (case side1 => repeat (first | exact HR0.out | (with_reducible refine Kd.C_alloc ?_ _) | (with_reducible refine Kd.C_drewN ?_ _) | (with_reducible refine Kd.C_drew ?_))); (case side2 => exact HC0.out); (case side3 => repeat (first | exact HR1.out | (with_reducible refine Kd.C_alloc ?_ _) | (with_reducible refine Kd.C_drewN ?_ _) | (with_reducible refine Kd.C_drew ?_))); (case side4 => exact HC1.out); rintro e w8 ⟨v285, rfl, ho0, hb⟩; refine ⟨_, rfl, ?_⟩; have n0_ := Aside0.mk (Kd.S_lower ho0 (bz_)); have n1_ := Aside0.mk (bs_ hb); clear HB; revert n0_ n1_; intro HO286 HB; (try clear hb); (try clear hb2); (try clear hk); (try clear hi); (try clear ho0); obtain ⟨Ao9, co9, eo9⟩ := Kd.S_slice HO286.out; subst eo9))
     go_loopg [30] k (fun kq v30 w' => ∃ (x30_1 : Int), v30 = .int .i64 x30_1 ∧ Aside0 (impl_FirstWrong.l0 kq l2 t283 (t283.length : Int) x30_1 = some (r1, r2)) ∧ Aside0 (kq ≤ k) ∧ Aside0 (Kd.S k45 45 w' w.heap.size (fun _ => True) (.slice Ao9 t283.length co9) t283) ∧ Aside0 (Below w.heap.size w w'))
     case atStart => exact ⟨(0), (by first | rfl | (simp; done) | (simp [*]; done)), H', ⟨Nat.le_refl _⟩, ⟨by (with_reducible repeat (first | apply Kd.S_alloc | apply Kd.S_drewN | apply Kd.S_drew)); exact HO286.out⟩, ⟨bb_⟩⟩
     case round =>
      clear H'
      try clear c1
      try clear c2
      try clear p2
      try clear c3
      try clear c5
      try clear c5b0
      try clear c5b1
      try clear c6
      try clear c6b0
      try clear c6b1
      obtain ⟨x30_1, rfl, HA, HK1, HO_28, HB⟩ := hrel
      cases gk with
      | zero => exact absurd HA.out (by simp [impl_FirstWrong.l0])
      | succ k1 =>
       have H := HA.out
       clear HA
       simp only [impl_FirstWrong.l0] at H
       by_cases c10 : x30_1 < (t283.length : Int)
       · rw [if_pos c10] at H
         have c10b0 : decide (x30_1 < (t283.length : Int)) = true := decide_eq_true c10
         clear c10
         by_cases c11 : 0 ≤ x30_1
         · rw [if_pos c11] at H
           have c11b0 : decide (0 ≤ x30_1) = true := decide_eq_true c11
           clear c11
           by_cases c12 : x30_1 < (t283.length : Int)
           · rw [if_pos c12] at H
             have c12b0 : decide (x30_1 < (t283.length : Int)) = true := decide_eq_true c12
             clear c12
             by_cases c13 : x30_1 ≥ (l2.length : Int)
             · rw [if_pos c13] at H
               have c13b0 : decide ((l2.length : Int) ≤ x30_1) = true := decide_eq_true c13
               clear c13
               simp only [Option.some.injEq, Prod.mk.injEq] at H
               obtain ⟨rfl, rfl⟩ := H
               have p287 : 0 ≤ (x30_1 : Int) := od_
               have q287 : x30_1 < (t283.length : Int) := od_
               obtain ⟨ad287, A287_1, c287_1, e287, hx287_0, hx287_1, hl287_1, hi287_1⟩ := at_T45 (Kd.S_reads' HO_28.out).2.2 x30_1 p287 q287
               cases e287
               obtain ⟨ce287, hce287, hMe287, hcc287⟩ := Kd.S_get HO_28.out z45 x30_1 p287 (by first | exact q287 | exact od_ | (have e_ := (Kd.S_reads' HO_28.out).1; omega))
               obtain ⟨ve287_1, rfl, ge287_1⟩ := k45_openM hMe287
               have hv287_1 := hcc287 1 _ rfl
               rw [add_field _ _ 1 (by omega)] at hv287_1
               replace hv287_1 := Option.some.inj (hv287_1.symm.trans hx287_1)
               rw [hv287_1] at ge287_1
               have HL287_1 := Aside0.mk (show Kd.R Kd.string 9 _ _ _ _ ((rd_T45 t283 x30_1).f1) from ge287_1)
               clear hv287_1 ge287_1
               clear hcc287 hce287
               have HR287_1 := Aside0.mk hi287_1
               have HC287_1 := Aside0.mk hl287_1
               clear hi287_1 hl287_1
               replace p287 := eq_true p287
               replace q287 := eq_true q287
               try go_wp2_with (first | ((with_reducible refine gate_dst (N := 11) rfl ?_); refine bx_ 11 #[.int .i64 0, .slice none 0 0] 45 ?_; intro gb288 hg w14 hbox hb; have n0_ := Aside0.mk (Kd.S_below (Kd.S_elderB (by (with_reducible repeat (first | apply Kd.S_alloc | apply Kd.S_drewN | apply Kd.S_drew)); exact HO_28.out) gb288 (Nat.le_of_eq hg.symm)) hb); have n1_ := Aside0.mk (Kd.R_below (by (with_reducible repeat (first | apply Kd.R_alloc | apply Kd.R_drewN | apply Kd.R_drew)); exact HL287_1.out) hb); have n2_ := Aside0.mk (Kd.C_below (by repeat (first | (with_reducible exact HR287_1.out) | (with_reducible refine Kd.C_alloc ?_ _) | (with_reducible refine Kd.C_drewN ?_ _) | (with_reducible refine Kd.C_drew ?_) | exact HR287_1.out)) hb); have n3_ := Aside0.mk (bs_ hb); have n4_ := Aside0.mk (hbox); have n5_ := Aside0.mk ((by rw [hg]; exact (bz_) : w.heap.size ≤ gb288)); have n6_ := Aside0.mk ((by rw [hg]; exact (bz_) : w.heap.size ≤ gb288)); clear HO_28 HL287_1 HR287_1 HB; revert n0_ n1_ n2_ n3_ n4_ n5_ n6_; intro HO_28 HL287_1 HR287_1 HB BK288 GW288 GE288; clear hb hbox hg; have hcz15_0 := bk BK288 0; have hcz15_1 := bk BK288 1; have hfz15_0 := blk_frozen BK288.out 0; have hfz15_1 := blk_frozen BK288.out 1))
               have n0_ : Aside0 (Kd.S k45 45 ((w14.setCell ⟨gb288, 0, none⟩ (.int .i64 ((rd_T45 t283 x30_1).f0))).setCell ⟨gb288, 1, none⟩ (.slice A287_1 ((rd_T45 t283 x30_1).f1).length c287_1)) w.heap.size (fun k_ => k_ ≠ gb288) (.slice (some ad287) t283.length co9) t283) := ⟨by (with_reducible repeat (first | apply Kd.S_alloc | apply Kd.S_drewN | apply Kd.S_drew)); exact Kd.S_mono (Kd.S_far (p := ⟨gb288, 1, none⟩) (Kd.S_far (p := ⟨gb288, 0, none⟩) (Kd.S_mono HO_28.out (fun k_ hk => (⟨hk, hk.2⟩ : _ ∧ k_ ≠ gb288))) (fun _ hk => hk.2) (.int .i64 ((rd_T45 t283 x30_1).f0))) (fun _ hk => hk.2) (.slice A287_1 ((rd_T45 t283 x30_1).f1).length c287_1)) (fun _ hk => hk.1.2)⟩
               have n1_ : Aside0 (Kd.R Kd.string 9 ((w14.setCell ⟨gb288, 0, none⟩ (.int .i64 ((rd_T45 t283 x30_1).f0))).setCell ⟨gb288, 1, none⟩ (.slice A287_1 ((rd_T45 t283 x30_1).f1).length c287_1)) w.heap.size (fun k_ => some k_ ≠ (.slice (some ad287) t283.length co9 : Value).ownBlock) (.slice A287_1 ((rd_T45 t283 x30_1).f1).length c287_1) ((rd_T45 t283 x30_1).f1)) := ⟨by (with_reducible repeat (first | apply Kd.R_alloc | apply Kd.R_drewN | apply Kd.R_drew)); exact Kd.R_mono (Kd.R_far (p := ⟨gb288, 1, none⟩) (Kd.R_far (p := ⟨gb288, 0, none⟩) (Kd.R_types HL287_1.out BK288.out (by decide)) (fun _ hk => hk.2) (.int .i64 ((rd_T45 t283 x30_1).f0))) (fun _ hk => hk.2) (.slice A287_1 ((rd_T45 t283 x30_1).f1).length c287_1)) (fun _ hk => hk.1.2)⟩
               have n2_ : Aside0 (((w14.setCell ⟨gb288, 0, none⟩ (.int .i64 ((rd_T45 t283 x30_1).f0))).setCell ⟨gb288, 1, none⟩ (.slice A287_1 ((rd_T45 t283 x30_1).f1).length c287_1)).heap[gb288]? = some (.cells #[.int .i64 ((rd_T45 t283 x30_1).f0), .slice A287_1 ((rd_T45 t283 x30_1).f1).length c287_1] 45 (0, 0))) := ⟨by (with_reducible repeat (first | refine blk_drewN ?_ _ | refine blk_drew ?_ | refine blk_alloc ?_ _)); refine blk_put (cs := #[.int .i64 ((rd_T45 t283 x30_1).f0), .slice none 0 0]) ?_ 1 _ rfl; (with_reducible repeat (first | refine blk_drewN ?_ _ | refine blk_drew ?_ | refine blk_alloc ?_ _)); refine blk_put (cs := #[.int .i64 0, .slice none 0 0]) ?_ 0 _ rfl; (with_reducible repeat (first | refine blk_drewN ?_ _ | refine blk_drew ?_ | refine blk_alloc ?_ _)); exact BK288.out⟩
               have n3_ : Aside0 (Below w.heap.size w ((w14.setCell ⟨gb288, 0, none⟩ (.int .i64 ((rd_T45 t283 x30_1).f0))).setCell ⟨gb288, 1, none⟩ (.slice A287_1 ((rd_T45 t283 x30_1).f1).length c287_1))) := ⟨bb_⟩
               (try clear HO_28)
               (try clear HL287_1)
               (try clear BK288)
               (try clear HB)
               generalize ((w14.setCell ⟨gb288, 0, none⟩ (.int .i64 ((rd_T45 t283 x30_1).f0))).setCell ⟨gb288, 1, none⟩ (.slice A287_1 ((rd_T45 t283 x30_1).f1).length c287_1)) = w16 at n0_ n1_ n2_ n3_ ⊢
               have HO_28 := n0_
               have HL287_1 := n1_
               have BK288 := n2_
               have HB := n3_
               clear n0_ n1_ n2_ n3_
               have n0_ := Aside0.mk (Kd.S_drew HO_28.out)
               have n1_ := Aside0.mk (Kd.R_drew HL287_1.out)
               have n2_ := Aside0.mk (blk_drew BK288.out)
               have n3_ := Aside0.mk (below_drew1 HB.out)
               clear HO_28 HL287_1 BK288 HB; revert n0_ n1_ n2_ n3_; intro HO_28 HL287_1 BK288 HB
               refine start_ (n := 13) (S := fun w' => True) (ds := []) (fb 13 0) (by kernel_rfl) rfl rfl trivial (fun hHeld => ?_); refine with_tabW impl_FirstWrong.tab9 impl_FirstWrong.bits9 (fun HT_ HW_ => ?_)
               generalize w16.drew = w17 at HO_28 HL287_1 BK288 HB hHeld ⊢
               refine sqP_ 0 35 (fb 13 1) (any_of HT_.out (by kernel_rfl)) ?_
               refine sqP_ 1 36 (fb 13 3) (any_of HT_.out (by kernel_rfl)) ?_
               refine sqP_ 2 37 (fb 13 7) (any_of HT_.out (by kernel_rfl)) ?_
               refine sqP_ 3 38 (fb 13 15) (any_of HT_.out (by kernel_rfl)) ?_
               refine sqP_ 4 39 (fb 13 31) (any_of HT_.out (by kernel_rfl)) ?_
               refine sqO_ 5 40 (fb 13 63) (any_of HT_.out (by kernel_rfl)) ?_
               refine sqO_ 6 41 (fb 13 127) (any_of HT_.out (by kernel_rfl)) ?_
               refine sqO_ 7 42 (fb 13 255) (any_of HT_.out (by kernel_rfl)) ?_
               refine sqO_ 8 43 (fb 13 511) (any_of HT_.out (by kernel_rfl)) ?_
               refine sqO_ 9 44 (fb 13 1023) (any_of HT_.out (by kernel_rfl)) ?_
               refine sqO_ 10 45 (fb 13 2047) (any_of HT_.out (by kernel_rfl)) ?_
               refine sqO_ 11 46 (fb 13 4095) (any_of HT_.out (by kernel_rfl)) ?_
               refine sqP_ 12 47 (fb 13 8191) (any_of HT_.out (by kernel_rfl)) ?_
               refine done_ (done_of HT_.out (by kernel_rfl)) ?_
               try go_wp2
               go_ret2
               exact ⟨by first | rfl | (simp [errW_none, errW_some] <;> rfl) | (simp [*, errW_none, errW_some] <;> rfl), bb_⟩
             · rw [if_neg c13] at H
               have c13b0 : decide ((l2.length : Int) ≤ x30_1) = false := decide_eq_false c13
               clear c13
               by_cases c18 : x30_1 < (l2.length : Int)
               · rw [if_pos c18] at H
                 have c18b0 : decide (x30_1 < (l2.length : Int)) = true := decide_eq_true c18
                 clear c18
                 replace H := Option.bind_eq_some_iff.mp H
                 obtain ⟨t290, A190, H⟩ := H
                 replace H : (if t290 = true then (impl_FirstWrong.l0 k1 l2 t283 (t283.length : Int) (wrap64 (x30_1 + 1))) else (some (x30_1, 0))) = some (r1, r2) := H
                 have A19 := Aside0.mk A190
                 clear A190
                 by_cases c20 : t290 = true
                 · subst c20
                   have H1 : (impl_FirstWrong.l0 k1 l2 t283 (t283.length : Int) (wrap64 (x30_1 + 1))) = some (r1, r2) := by rw [if_pos rfl] at H; exact H
                   clear H
                   have H := H1
                   clear H1
                   have H' := Aside0.mk H
                   clear H
                   have p287 : 0 ≤ (x30_1 : Int) := od_
                   have q287 : x30_1 < (t283.length : Int) := od_
                   obtain ⟨ad287, A287_1, c287_1, e287, hx287_0, hx287_1, hl287_1, hi287_1⟩ := at_T45 (Kd.S_reads' HO_28.out).2.2 x30_1 p287 q287
                   cases e287
                   obtain ⟨ce287, hce287, hMe287, hcc287⟩ := Kd.S_get HO_28.out z45 x30_1 p287 (by first | exact q287 | exact od_ | (have e_ := (Kd.S_reads' HO_28.out).1; omega))
                   obtain ⟨ve287_1, rfl, ge287_1⟩ := k45_openM hMe287
                   have hv287_1 := hcc287 1 _ rfl
                   rw [add_field _ _ 1 (by omega)] at hv287_1
                   replace hv287_1 := Option.some.inj (hv287_1.symm.trans hx287_1)
                   rw [hv287_1] at ge287_1
                   have HL287_1 := Aside0.mk (show Kd.R Kd.string 9 _ _ _ _ ((rd_T45 t283 x30_1).f1) from ge287_1)
                   clear hv287_1 ge287_1
                   clear hcc287 hce287
                   have HR287_1 := Aside0.mk hi287_1
                   have HC287_1 := Aside0.mk hl287_1
                   clear hi287_1 hl287_1
                   replace p287 := eq_true p287
                   replace q287 := eq_true q287
                   try go_wp2_with (first | ((with_reducible refine gate_dst (N := 11) rfl ?_); refine bx_ 11 #[.int .i64 0, .slice none 0 0] 45 ?_; intro gb288 hg w21 hbox hb; have n0_ := Aside0.mk (Kd.S_below (Kd.S_elderB (by (with_reducible repeat (first | apply Kd.S_alloc | apply Kd.S_drewN | apply Kd.S_drew)); exact HO_28.out) gb288 (Nat.le_of_eq hg.symm)) hb); have n1_ := Aside0.mk (Kd.R_below (by (with_reducible repeat (first | apply Kd.R_alloc | apply Kd.R_drewN | apply Kd.R_drew)); exact HL287_1.out) hb); have n2_ := Aside0.mk (Kd.C_below (by repeat (first | (with_reducible exact HR287_1.out) | (with_reducible refine Kd.C_alloc ?_ _) | (with_reducible refine Kd.C_drewN ?_ _) | (with_reducible refine Kd.C_drew ?_) | exact HR287_1.out)) hb); have n3_ := Aside0.mk (bs_ hb); have n4_ := Aside0.mk (hbox); have n5_ := Aside0.mk ((by rw [hg]; exact (bz_) : w.heap.size ≤ gb288)); have n6_ := Aside0.mk ((by rw [hg]; exact (bz_) : w.heap.size ≤ gb288)); clear HO_28 HL287_1 HR287_1 HB; revert n0_ n1_ n2_ n3_ n4_ n5_ n6_; intro HO_28 HL287_1 HR287_1 HB BK288 GW288 GE288; clear hb hbox hg; have hcz22_0 := bk BK288 0; have hcz22_1 := bk BK288 1; have hfz22_0 := blk_frozen BK288.out 0; have hfz22_1 := blk_frozen BK288.out 1))
                   have n0_ : Aside0 (Kd.S k45 45 ((w21.setCell ⟨gb288, 0, none⟩ (.int .i64 ((rd_T45 t283 x30_1).f0))).setCell ⟨gb288, 1, none⟩ (.slice A287_1 ((rd_T45 t283 x30_1).f1).length c287_1)) w.heap.size (fun k_ => k_ ≠ gb288) (.slice (some ad287) t283.length co9) t283) := ⟨by (with_reducible repeat (first | apply Kd.S_alloc | apply Kd.S_drewN | apply Kd.S_drew)); exact Kd.S_mono (Kd.S_far (p := ⟨gb288, 1, none⟩) (Kd.S_far (p := ⟨gb288, 0, none⟩) (Kd.S_mono HO_28.out (fun k_ hk => (⟨hk, hk.2⟩ : _ ∧ k_ ≠ gb288))) (fun _ hk => hk.2) (.int .i64 ((rd_T45 t283 x30_1).f0))) (fun _ hk => hk.2) (.slice A287_1 ((rd_T45 t283 x30_1).f1).length c287_1)) (fun _ hk => hk.1.2)⟩
                   have n1_ : Aside0 (Kd.R Kd.string 9 ((w21.setCell ⟨gb288, 0, none⟩ (.int .i64 ((rd_T45 t283 x30_1).f0))).setCell ⟨gb288, 1, none⟩ (.slice A287_1 ((rd_T45 t283 x30_1).f1).length c287_1)) w.heap.size (fun k_ => some k_ ≠ (.slice (some ad287) t283.length co9 : Value).ownBlock) (.slice A287_1 ((rd_T45 t283 x30_1).f1).length c287_1) ((rd_T45 t283 x30_1).f1)) := ⟨by (with_reducible repeat (first | apply Kd.R_alloc | apply Kd.R_drewN | apply Kd.R_drew)); exact Kd.R_mono (Kd.R_far (p := ⟨gb288, 1, none⟩) (Kd.R_far (p := ⟨gb288, 0, none⟩) (Kd.R_types HL287_1.out BK288.out (by decide)) (fun _ hk => hk.2) (.int .i64 ((rd_T45 t283 x30_1).f0))) (fun _ hk => hk.2) (.slice A287_1 ((rd_T45 t283 x30_1).f1).length c287_1)) (fun _ hk => hk.1.2)⟩
                   have n2_ : Aside0 (((w21.setCell ⟨gb288, 0, none⟩ (.int .i64 ((rd_T45 t283 x30_1).f0))).setCell ⟨gb288, 1, none⟩ (.slice A287_1 ((rd_T45 t283 x30_1).f1).length c287_1)).heap[gb288]? = some (.cells #[.int .i64 ((rd_T45 t283 x30_1).f0), .slice A287_1 ((rd_T45 t283 x30_1).f1).length c287_1] 45 (0, 0))) := ⟨by (with_reducible repeat (first | refine blk_drewN ?_ _ | refine blk_drew ?_ | refine blk_alloc ?_ _)); refine blk_put (cs := #[.int .i64 ((rd_T45 t283 x30_1).f0), .slice none 0 0]) ?_ 1 _ rfl; (with_reducible repeat (first | refine blk_drewN ?_ _ | refine blk_drew ?_ | refine blk_alloc ?_ _)); refine blk_put (cs := #[.int .i64 0, .slice none 0 0]) ?_ 0 _ rfl; (with_reducible repeat (first | refine blk_drewN ?_ _ | refine blk_drew ?_ | refine blk_alloc ?_ _)); exact BK288.out⟩
                   have n3_ : Aside0 (Below w.heap.size w ((w21.setCell ⟨gb288, 0, none⟩ (.int .i64 ((rd_T45 t283 x30_1).f0))).setCell ⟨gb288, 1, none⟩ (.slice A287_1 ((rd_T45 t283 x30_1).f1).length c287_1))) := ⟨bb_⟩
                   (try clear HO_28)
                   (try clear HL287_1)
                   (try clear BK288)
                   (try clear HB)
                   generalize ((w21.setCell ⟨gb288, 0, none⟩ (.int .i64 ((rd_T45 t283 x30_1).f0))).setCell ⟨gb288, 1, none⟩ (.slice A287_1 ((rd_T45 t283 x30_1).f1).length c287_1)) = w23 at n0_ n1_ n2_ n3_ ⊢
                   have HO_28 := n0_
                   have HL287_1 := n1_
                   have BK288 := n2_
                   have HB := n3_
                   clear n0_ n1_ n2_ n3_
                   have n0_ := Aside0.mk (Kd.S_drew HO_28.out)
                   have n1_ := Aside0.mk (Kd.R_drew HL287_1.out)
                   have n2_ := Aside0.mk (blk_drew BK288.out)
                   have n3_ := Aside0.mk (below_drew1 HB.out)
                   clear HO_28 HL287_1 BK288 HB; revert n0_ n1_ n2_ n3_; intro HO_28 HL287_1 BK288 HB
                   have p289 : 0 ≤ (x30_1 : Int) := od_
                   have q289 : x30_1 < (l2.length : Int) := od_
                   obtain ⟨ad289, A289_1, c289_1, e289, hx289_0, hx289_1, hl289_1, hi289_1⟩ := at_T45 HR2.out x30_1 p289 q289
                   have hw289_1 := hx289_1
                   have hw289_0 := hx289_0
                   cases e289
                   replace hx289_0 := cel HB hx289_0
                   replace hx289_1 := cel HB hx289_1
                   have HR289_1 := Aside0.mk hi289_1
                   have HC289_1 := Aside0.mk hl289_1
                   clear hi289_1 hl289_1
                   replace p289 := eq_true p289
                   replace q289 := eq_true q289
                   refine start_ (n := 13) (S := fun w' => w'.cell? ⟨gb288, 0, none⟩ = some (.int .i64 ((rd_T45 t283 x30_1).f0)) ∧ w'.cell? ⟨gb288, 1, none⟩ = some (.slice A287_1 ((rd_T45 t283 x30_1).f1).length c287_1) ∧ w'.cell? (ad289.add ((x30_1).toNat * 2)) = some (.int .i64 ((rd_T45 l2 x30_1).f0)) ∧ w'.cell? ⟨(ad289.add ((x30_1).toNat * 2)).block, (ad289.add ((x30_1).toNat * 2)).off + 1, none⟩ = some (.slice A289_1 ((rd_T45 l2 x30_1).f1).length c289_1)) (ds := []) (fb 13 0) (by kernel_rfl) rfl rfl ⟨(blk_cell BK288.out 0).trans rfl, (blk_cell BK288.out 1).trans rfl, ((HB.out.cell (World.block_lt_of_cell? w _ hw289_0)).trans hw289_0), ((HB.out.cell (World.block_lt_of_cell? w _ hw289_1)).trans hw289_1)⟩ (fun hHeld => ?_); refine with_tabW impl_FirstWrong.tab9 impl_FirstWrong.bits9 (fun HT_ HW_ => ?_)
                   generalize w23.drew = w24 at HO_28 HL287_1 BK288 HB HR289_1 hx289_0 hx289_1 hHeld ⊢
                   refine sqP_ 0 35 (fb 13 1) (any_of HT_.out (by kernel_rfl)) ?_
                   refine sqP_ 1 36 (fb 13 3) (any_of HT_.out (by kernel_rfl)) ?_
                   refine sqP_ 2 37 (fb 13 7) (any_of HT_.out (by kernel_rfl)) ?_
                   refine sqP_ 3 38 (fb 13 15) (any_of HT_.out (by kernel_rfl)) ?_
                   refine sqP_ 4 39 (fb 13 31) (any_of HT_.out (by kernel_rfl)) ?_
                   refine sqP_ 6 41 (fb 13 95) (any_of HT_.out (by kernel_rfl)) ?_
                   refine sqP_ 7 42 (fb 13 223) (any_of HT_.out (by kernel_rfl)) ?_
                   refine sqP_ 8 43 (fb 13 479) (any_of HT_.out (by kernel_rfl)) ?_
                   refine sqT_ 5 40 (fb 13 511) (take_ofW HT_.out HW_.out (by kernel_rfl)) hHeld ?_
                   refine sqT_ 9 44 (fb 13 1023) (take_ofW HT_.out HW_.out (by kernel_rfl)) hHeld ?_
                   refine one_ (i := 10) (N := some 45) (fb 13 2047) rfl rfl (one_of HT_.out (by kernel_rfl)) (by decide) (fun K hK => ?_)
                   refine goes_ Try.func61 (by kernel_rfl) rfl #[.agg #[.int .i64 ((rd_T45 t283 x30_1).f0), .slice A287_1 ((rd_T45 t283 x30_1).f1).length c287_1], .agg #[.int .i64 ((rd_T45 l2 x30_1).f0), .slice A289_1 ((rd_T45 l2 x30_1).f1).length c289_1]] (by rfl) rfl rfl (by (try simp only [List.map_toArray, List.map_cons, List.map_nil]); first | done | rfl | (simp only [List.length_drop, List.length_take]; rfl)) ?_
                   with_reducible refine (impl_sameDecision.calls k1 ((rd_T45 t283 x30_1).f0) _ _ ((rd_T45 t283 x30_1).f1) ((rd_T45 l2 x30_1).f0) _ _ ((rd_T45 l2 x30_1).f1) true _ ?side1 ?side2 ?side3 ?side4 A19.out).mono ?_
                   (case side1 => repeat (first | exact ((Kd.R_reads' (by (with_reducible repeat (first | apply Kd.R_alloc | apply Kd.R_drewN | apply Kd.R_drew)); exact HL287_1.out)).2.2) | (with_reducible refine Kd.C_alloc ?_ _) | (with_reducible refine Kd.C_drewN ?_ _) | (with_reducible refine Kd.C_drew ?_)))
                   (case side2 => exact HC287_1.out)
                   (case side3 => repeat (first | exact (Kd.C_below HR289_1.out HB.out) | (with_reducible refine Kd.C_alloc ?_ _) | (with_reducible refine Kd.C_drewN ?_ _) | (with_reducible refine Kd.C_drew ?_)))
                   (case side4 => exact HC289_1.out)
                   rintro e w25 ⟨rfl, hb⟩
                   refine ⟨_, rfl, ?_⟩
                   have n0_ := Aside0.mk (Kd.S_below (by (with_reducible repeat (first | apply Kd.S_alloc | apply Kd.S_drewN | apply Kd.S_drew)); exact HO_28.out) hb)
                   have n1_ := Aside0.mk (Kd.R_below (by (with_reducible repeat (first | apply Kd.R_alloc | apply Kd.R_drewN | apply Kd.R_drew)); exact HL287_1.out) hb)
                   have n2_ := Aside0.mk (bkb BK288 hb)
                   have n3_ := Aside0.mk (bs_ hb)
                   clear HO_28 HL287_1 BK288 HB; revert n0_ n1_ n2_ n3_; intro HO_28 HL287_1 BK288 HB
                   (try clear hb)
                   (try clear hb2)
                   (try clear hk)
                   (try clear hi)
                   refine hK.out _ _ ⟨(blk_cell BK288.out 0).trans rfl, (blk_cell BK288.out 1).trans rfl, ((HB.out.cell (World.block_lt_of_cell? w _ hw289_0)).trans hw289_0), ((HB.out.cell (World.block_lt_of_cell? w _ hw289_1)).trans hw289_1)⟩ (fun hHeld => ?_)
                   clear hK K
                   refine sqN_ 45 ?_
                   refine sqP_ 11 46 (fb 13 4095) (any_of HT_.out (by kernel_rfl)) ?_
                   refine sqP_ 12 47 (fb 13 8191) (any_of HT_.out (by kernel_rfl)) ?_
                   refine done_ (done_of HT_.out (by kernel_rfl)) ?_
                   try go_wp2
                   go_roundg k1
                   case measure => have := HK1.out; omega
                   case rel => exact ⟨(wrap64 (x30_1 + 1)), (by first | rfl | (simp; done) | (simp [*]; done)), H', ⟨by have := HK1.out; omega⟩, ⟨by (with_reducible repeat (first | apply Kd.S_alloc | apply Kd.S_drewN | apply Kd.S_drew)); exact Kd.S_mono HO_28.out (fun _ hk => trivial)⟩, ⟨bb_⟩⟩
                 · replace c20 := Bool.eq_false_iff.mpr c20
                   subst c20
                   have H1 : (some (x30_1, 0)) = some (r1, r2) := by rw [if_neg (show ¬ (false = true) by decide)] at H; exact H
                   clear H
                   have H := H1
                   clear H1
                   simp only [Option.some.injEq, Prod.mk.injEq] at H
                   obtain ⟨rfl, rfl⟩ := H
                   have p287 : 0 ≤ (x30_1 : Int) := od_
                   have q287 : x30_1 < (t283.length : Int) := od_
                   obtain ⟨ad287, A287_1, c287_1, e287, hx287_0, hx287_1, hl287_1, hi287_1⟩ := at_T45 (Kd.S_reads' HO_28.out).2.2 x30_1 p287 q287
                   cases e287
                   obtain ⟨ce287, hce287, hMe287, hcc287⟩ := Kd.S_get HO_28.out z45 x30_1 p287 (by first | exact q287 | exact od_ | (have e_ := (Kd.S_reads' HO_28.out).1; omega))
                   obtain ⟨ve287_1, rfl, ge287_1⟩ := k45_openM hMe287
                   have hv287_1 := hcc287 1 _ rfl
                   rw [add_field _ _ 1 (by omega)] at hv287_1
                   replace hv287_1 := Option.some.inj (hv287_1.symm.trans hx287_1)
                   rw [hv287_1] at ge287_1
                   have HL287_1 := Aside0.mk (show Kd.R Kd.string 9 _ _ _ _ ((rd_T45 t283 x30_1).f1) from ge287_1)
                   clear hv287_1 ge287_1
                   clear hcc287 hce287
                   have HR287_1 := Aside0.mk hi287_1
                   have HC287_1 := Aside0.mk hl287_1
                   clear hi287_1 hl287_1
                   replace p287 := eq_true p287
                   replace q287 := eq_true q287
                   try go_wp2_with (first | ((with_reducible refine gate_dst (N := 11) rfl ?_); refine bx_ 11 #[.int .i64 0, .slice none 0 0] 45 ?_; intro gb288 hg w26 hbox hb; have n0_ := Aside0.mk (Kd.S_below (Kd.S_elderB (by (with_reducible repeat (first | apply Kd.S_alloc | apply Kd.S_drewN | apply Kd.S_drew)); exact HO_28.out) gb288 (Nat.le_of_eq hg.symm)) hb); have n1_ := Aside0.mk (Kd.R_below (by (with_reducible repeat (first | apply Kd.R_alloc | apply Kd.R_drewN | apply Kd.R_drew)); exact HL287_1.out) hb); have n2_ := Aside0.mk (Kd.C_below (by repeat (first | (with_reducible exact HR287_1.out) | (with_reducible refine Kd.C_alloc ?_ _) | (with_reducible refine Kd.C_drewN ?_ _) | (with_reducible refine Kd.C_drew ?_) | exact HR287_1.out)) hb); have n3_ := Aside0.mk (bs_ hb); have n4_ := Aside0.mk (hbox); have n5_ := Aside0.mk ((by rw [hg]; exact (bz_) : w.heap.size ≤ gb288)); have n6_ := Aside0.mk ((by rw [hg]; exact (bz_) : w.heap.size ≤ gb288)); clear HO_28 HL287_1 HR287_1 HB; revert n0_ n1_ n2_ n3_ n4_ n5_ n6_; intro HO_28 HL287_1 HR287_1 HB BK288 GW288 GE288; clear hb hbox hg; have hcz27_0 := bk BK288 0; have hcz27_1 := bk BK288 1; have hfz27_0 := blk_frozen BK288.out 0; have hfz27_1 := blk_frozen BK288.out 1))
                   have n0_ : Aside0 (Kd.S k45 45 ((w26.setCell ⟨gb288, 0, none⟩ (.int .i64 ((rd_T45 t283 x30_1).f0))).setCell ⟨gb288, 1, none⟩ (.slice A287_1 ((rd_T45 t283 x30_1).f1).length c287_1)) w.heap.size (fun k_ => k_ ≠ gb288) (.slice (some ad287) t283.length co9) t283) := ⟨by (with_reducible repeat (first | apply Kd.S_alloc | apply Kd.S_drewN | apply Kd.S_drew)); exact Kd.S_mono (Kd.S_far (p := ⟨gb288, 1, none⟩) (Kd.S_far (p := ⟨gb288, 0, none⟩) (Kd.S_mono HO_28.out (fun k_ hk => (⟨hk, hk.2⟩ : _ ∧ k_ ≠ gb288))) (fun _ hk => hk.2) (.int .i64 ((rd_T45 t283 x30_1).f0))) (fun _ hk => hk.2) (.slice A287_1 ((rd_T45 t283 x30_1).f1).length c287_1)) (fun _ hk => hk.1.2)⟩
                   have n1_ : Aside0 (Kd.R Kd.string 9 ((w26.setCell ⟨gb288, 0, none⟩ (.int .i64 ((rd_T45 t283 x30_1).f0))).setCell ⟨gb288, 1, none⟩ (.slice A287_1 ((rd_T45 t283 x30_1).f1).length c287_1)) w.heap.size (fun k_ => some k_ ≠ (.slice (some ad287) t283.length co9 : Value).ownBlock) (.slice A287_1 ((rd_T45 t283 x30_1).f1).length c287_1) ((rd_T45 t283 x30_1).f1)) := ⟨by (with_reducible repeat (first | apply Kd.R_alloc | apply Kd.R_drewN | apply Kd.R_drew)); exact Kd.R_mono (Kd.R_far (p := ⟨gb288, 1, none⟩) (Kd.R_far (p := ⟨gb288, 0, none⟩) (Kd.R_types HL287_1.out BK288.out (by decide)) (fun _ hk => hk.2) (.int .i64 ((rd_T45 t283 x30_1).f0))) (fun _ hk => hk.2) (.slice A287_1 ((rd_T45 t283 x30_1).f1).length c287_1)) (fun _ hk => hk.1.2)⟩
                   have n2_ : Aside0 (((w26.setCell ⟨gb288, 0, none⟩ (.int .i64 ((rd_T45 t283 x30_1).f0))).setCell ⟨gb288, 1, none⟩ (.slice A287_1 ((rd_T45 t283 x30_1).f1).length c287_1)).heap[gb288]? = some (.cells #[.int .i64 ((rd_T45 t283 x30_1).f0), .slice A287_1 ((rd_T45 t283 x30_1).f1).length c287_1] 45 (0, 0))) := ⟨by (with_reducible repeat (first | refine blk_drewN ?_ _ | refine blk_drew ?_ | refine blk_alloc ?_ _)); refine blk_put (cs := #[.int .i64 ((rd_T45 t283 x30_1).f0), .slice none 0 0]) ?_ 1 _ rfl; (with_reducible repeat (first | refine blk_drewN ?_ _ | refine blk_drew ?_ | refine blk_alloc ?_ _)); refine blk_put (cs := #[.int .i64 0, .slice none 0 0]) ?_ 0 _ rfl; (with_reducible repeat (first | refine blk_drewN ?_ _ | refine blk_drew ?_ | refine blk_alloc ?_ _)); exact BK288.out⟩
                   have n3_ : Aside0 (Below w.heap.size w ((w26.setCell ⟨gb288, 0, none⟩ (.int .i64 ((rd_T45 t283 x30_1).f0))).setCell ⟨gb288, 1, none⟩ (.slice A287_1 ((rd_T45 t283 x30_1).f1).length c287_1))) := ⟨bb_⟩
                   (try clear HO_28)
                   (try clear HL287_1)
                   (try clear BK288)
                   (try clear HB)
                   generalize ((w26.setCell ⟨gb288, 0, none⟩ (.int .i64 ((rd_T45 t283 x30_1).f0))).setCell ⟨gb288, 1, none⟩ (.slice A287_1 ((rd_T45 t283 x30_1).f1).length c287_1)) = w28 at n0_ n1_ n2_ n3_ ⊢
                   have HO_28 := n0_
                   have HL287_1 := n1_
                   have BK288 := n2_
                   have HB := n3_
                   clear n0_ n1_ n2_ n3_
                   have n0_ := Aside0.mk (Kd.S_drew HO_28.out)
                   have n1_ := Aside0.mk (Kd.R_drew HL287_1.out)
                   have n2_ := Aside0.mk (blk_drew BK288.out)
                   have n3_ := Aside0.mk (below_drew1 HB.out)
                   clear HO_28 HL287_1 BK288 HB; revert n0_ n1_ n2_ n3_; intro HO_28 HL287_1 BK288 HB
                   have p289 : 0 ≤ (x30_1 : Int) := od_
                   have q289 : x30_1 < (l2.length : Int) := od_
                   obtain ⟨ad289, A289_1, c289_1, e289, hx289_0, hx289_1, hl289_1, hi289_1⟩ := at_T45 HR2.out x30_1 p289 q289
                   have hw289_1 := hx289_1
                   have hw289_0 := hx289_0
                   cases e289
                   replace hx289_0 := cel HB hx289_0
                   replace hx289_1 := cel HB hx289_1
                   have HR289_1 := Aside0.mk hi289_1
                   have HC289_1 := Aside0.mk hl289_1
                   clear hi289_1 hl289_1
                   replace p289 := eq_true p289
                   replace q289 := eq_true q289
                   refine start_ (n := 13) (S := fun w' => w'.cell? ⟨gb288, 0, none⟩ = some (.int .i64 ((rd_T45 t283 x30_1).f0)) ∧ w'.cell? ⟨gb288, 1, none⟩ = some (.slice A287_1 ((rd_T45 t283 x30_1).f1).length c287_1) ∧ w'.cell? (ad289.add ((x30_1).toNat * 2)) = some (.int .i64 ((rd_T45 l2 x30_1).f0)) ∧ w'.cell? ⟨(ad289.add ((x30_1).toNat * 2)).block, (ad289.add ((x30_1).toNat * 2)).off + 1, none⟩ = some (.slice A289_1 ((rd_T45 l2 x30_1).f1).length c289_1)) (ds := []) (fb 13 0) (by kernel_rfl) rfl rfl ⟨(blk_cell BK288.out 0).trans rfl, (blk_cell BK288.out 1).trans rfl, ((HB.out.cell (World.block_lt_of_cell? w _ hw289_0)).trans hw289_0), ((HB.out.cell (World.block_lt_of_cell? w _ hw289_1)).trans hw289_1)⟩ (fun hHeld => ?_); refine with_tabW impl_FirstWrong.tab9 impl_FirstWrong.bits9 (fun HT_ HW_ => ?_)
                   generalize w28.drew = w29 at HO_28 HL287_1 BK288 HB HR289_1 hx289_0 hx289_1 hHeld ⊢
                   refine sqP_ 0 35 (fb 13 1) (any_of HT_.out (by kernel_rfl)) ?_
                   refine sqP_ 1 36 (fb 13 3) (any_of HT_.out (by kernel_rfl)) ?_
                   refine sqP_ 2 37 (fb 13 7) (any_of HT_.out (by kernel_rfl)) ?_
                   refine sqP_ 3 38 (fb 13 15) (any_of HT_.out (by kernel_rfl)) ?_
                   refine sqP_ 4 39 (fb 13 31) (any_of HT_.out (by kernel_rfl)) ?_
                   refine sqP_ 6 41 (fb 13 95) (any_of HT_.out (by kernel_rfl)) ?_
                   refine sqP_ 7 42 (fb 13 223) (any_of HT_.out (by kernel_rfl)) ?_
                   refine sqP_ 8 43 (fb 13 479) (any_of HT_.out (by kernel_rfl)) ?_
                   refine sqT_ 5 40 (fb 13 511) (take_ofW HT_.out HW_.out (by kernel_rfl)) hHeld ?_
                   refine sqT_ 9 44 (fb 13 1023) (take_ofW HT_.out HW_.out (by kernel_rfl)) hHeld ?_
                   refine one_ (i := 10) (N := some 45) (fb 13 2047) rfl rfl (one_of HT_.out (by kernel_rfl)) (by decide) (fun K hK => ?_)
                   refine goes_ Try.func61 (by kernel_rfl) rfl #[.agg #[.int .i64 ((rd_T45 t283 x30_1).f0), .slice A287_1 ((rd_T45 t283 x30_1).f1).length c287_1], .agg #[.int .i64 ((rd_T45 l2 x30_1).f0), .slice A289_1 ((rd_T45 l2 x30_1).f1).length c289_1]] (by rfl) rfl rfl (by (try simp only [List.map_toArray, List.map_cons, List.map_nil]); first | done | rfl | (simp only [List.length_drop, List.length_take]; rfl)) ?_
                   with_reducible refine (impl_sameDecision.calls k1 ((rd_T45 t283 x30_1).f0) _ _ ((rd_T45 t283 x30_1).f1) ((rd_T45 l2 x30_1).f0) _ _ ((rd_T45 l2 x30_1).f1) false _ ?side1 ?side2 ?side3 ?side4 A19.out).mono ?_
                   (case side1 => repeat (first | exact ((Kd.R_reads' (by (with_reducible repeat (first | apply Kd.R_alloc | apply Kd.R_drewN | apply Kd.R_drew)); exact HL287_1.out)).2.2) | (with_reducible refine Kd.C_alloc ?_ _) | (with_reducible refine Kd.C_drewN ?_ _) | (with_reducible refine Kd.C_drew ?_)))
                   (case side2 => exact HC287_1.out)
                   (case side3 => repeat (first | exact (Kd.C_below HR289_1.out HB.out) | (with_reducible refine Kd.C_alloc ?_ _) | (with_reducible refine Kd.C_drewN ?_ _) | (with_reducible refine Kd.C_drew ?_)))
                   (case side4 => exact HC289_1.out)
                   rintro e w30 ⟨rfl, hb⟩
                   refine ⟨_, rfl, ?_⟩
                   have n0_ := Aside0.mk (Kd.S_below (by (with_reducible repeat (first | apply Kd.S_alloc | apply Kd.S_drewN | apply Kd.S_drew)); exact HO_28.out) hb)
                   have n1_ := Aside0.mk (Kd.R_below (by (with_reducible repeat (first | apply Kd.R_alloc | apply Kd.R_drewN | apply Kd.R_drew)); exact HL287_1.out) hb)
                   have n2_ := Aside0.mk (bkb BK288 hb)
                   have n3_ := Aside0.mk (bs_ hb)
                   clear HO_28 HL287_1 BK288 HB; revert n0_ n1_ n2_ n3_; intro HO_28 HL287_1 BK288 HB
                   (try clear hb)
                   (try clear hb2)
                   (try clear hk)
                   (try clear hi)
                   refine hK.out _ _ ⟨(blk_cell BK288.out 0).trans rfl, (blk_cell BK288.out 1).trans rfl, ((HB.out.cell (World.block_lt_of_cell? w _ hw289_0)).trans hw289_0), ((HB.out.cell (World.block_lt_of_cell? w _ hw289_1)).trans hw289_1)⟩ (fun hHeld => ?_)
                   clear hK K
                   refine sqN_ 45 ?_
                   refine sqP_ 11 46 (fb 13 4095) (any_of HT_.out (by kernel_rfl)) ?_
                   refine sqP_ 12 47 (fb 13 8191) (any_of HT_.out (by kernel_rfl)) ?_
                   refine done_ (done_of HT_.out (by kernel_rfl)) ?_
                   try go_wp2
                   go_ret2
                   exact ⟨by first | rfl | (simp [errW_none, errW_some] <;> rfl) | (simp [*, errW_none, errW_some] <;> rfl), bb_⟩
               · rw [if_neg c18] at H
                 exact absurd H (by simp)
           · rw [if_neg c12] at H
             exact absurd H (by simp)
         · rw [if_neg c11] at H
           exact absurd H (by simp)
       · rw [if_neg c10] at H
         have c10b0 : decide (x30_1 < (t283.length : Int)) = false := decide_eq_false c10
         clear c10
         simp only [Option.some.injEq, Prod.mk.injEq] at H
         obtain ⟨rfl, rfl⟩ := H
         go_wp2
         go_ret2
         exact ⟨by first | rfl | (simp [errW_none, errW_some] <;> rfl) | (simp [*, errW_none, errW_some] <;> rfl), bb_⟩
 · rw [if_neg c5] at H
   have c5b0 : (t284 == 0) = false := beq_eq_false_iff_ne.mpr c5
   have c5b1 : (t284 != 0) = true := bne_iff_ne.mpr c5
   simp only [Option.some.injEq, Prod.mk.injEq] at H
   obtain ⟨rfl, rfl⟩ := H
   go_enter Try.func29, Try.ntmps29
   go_wp2_with (first | ((with_reducible refine gate_callee (f := 32) rfl ?_); refine gl_ 15 Try.func32 #[.slice A0 l0.length c0, .slice A1 l1.length c1] ?_; (with_reducible refine (impl_DecideLog.calls k _ _ l0 _ _ l1 t283 t284 _ ?side1 ?side2 ?side3 ?side4 A4.out).mono ?_); (case side1 => repeat (first | exact HR0.out | (with_reducible refine Kd.C_alloc ?_ _) | (with_reducible refine Kd.C_drewN ?_ _) | (with_reducible refine Kd.C_drew ?_))); (case side2 => exact HC0.out); (case side3 => repeat (first | exact HR1.out | (with_reducible refine Kd.C_alloc ?_ _) | (with_reducible refine Kd.C_drewN ?_ _) | (with_reducible refine Kd.C_drew ?_))); (case side4 => exact HC1.out); rintro e w31 ⟨v285, rfl, ho0, hb⟩; refine ⟨_, rfl, ?_⟩; have n0_ := Aside0.mk (Kd.S_lower ho0 (bz_)); have n1_ := Aside0.mk (bs_ hb); clear HB; revert n0_ n1_; intro HO286 HB; (try clear hb); (try clear hb2); (try clear hk); (try clear hi); (try clear ho0)))
   go_ret2
   exact ⟨by first | rfl | (simp [errW_none, errW_some] <;> rfl) | (simp [*, errW_none, errW_some] <;> rfl), bb_⟩

end Go.Proofs.Ytmfbkbbgokjhnaa.F
