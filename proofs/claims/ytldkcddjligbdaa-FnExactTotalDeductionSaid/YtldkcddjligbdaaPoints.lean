/- Points for an age, a deduction: the program and the reference alike. -/
import Derived.Test.YtldkcddjligbdaaFx4
import Derived.Test.YtldkcddjligbdaaFx5
import Derived.Test.YtldkcddjligbdaaFx8
import Derived.Test.YtldkcddjligbdaaFx10

import Derived.Test.YtldkcddjligbdaaScale
namespace Go.Proofs.Ytldkcddjligbdaa.Pu
open Go.RowKit Go.Proofs.YtldkcddjligbdaaW.PrintWords Go.Proofs.Ytldkcddjligbdaa.F
set_option linter.unusedVariables false
set_option linter.unusedSimpArgs false

/-- The nearest whole number to a quotient. -/
def nearM (a b : Int) : Int := if 2 * (a % b) ≥ b then a / b + 1 else a / b
theorem near_impl (a b : Int) (ha : 0 ≤ a) (ha' : a ≤ 2000000000000000000) (hb : 0 < b) (hb' : b ≤ 2000000000000000000) : impl_nearest.f a b = some (nearM a b) := by
  have h1 : Int.tmod a b = a % b := Int.tmod_eq_emod_of_nonneg ha
  have h2 : Int.tdiv a b = a / b := Int.tdiv_eq_ediv_of_nonneg ha
  have h3 : 0 ≤ a % b := Int.emod_nonneg _ (by omega)
  have h4 : a % b < b := Int.emod_lt_of_pos _ hb
  have h5 : 0 ≤ a / b := Int.ediv_nonneg ha (by omega)
  have h6 : a / b ≤ a := Int.ediv_le_self _ ha
  unfold impl_nearest.f nearM
  rw [if_neg (by omega), h1, h2, w64 (i := b - a % b) (by omega) (by omega), w64 (i := a / b) (by omega) (by omega), w64 (i := a / b + 1) (by omega) (by omega)]
  by_cases h : a % b ≥ b - a % b
  · rw [if_pos h, if_pos (by omega)]
  · rw [if_neg h, if_neg (by omega)]
theorem near_spec (x y b : Int) (ha : 0 ≤ x * y) (ha' : x * y ≤ 2000000000000000000) (hb : 0 < b) (hb' : b ≤ 2000000000000000000) : spec_l01Proportion.f x y b = some (nearM (x * y) b) := by
  unfold spec_l01Proportion.f nearM
  rw [if_neg (by omega), w64 (i := x * y) (by omega) (by omega)]
  generalize x * y = a at ha ha'
  have h1 : Int.tmod a b = a % b := Int.tmod_eq_emod_of_nonneg ha
  have h2 : Int.tdiv a b = a / b := Int.tdiv_eq_ediv_of_nonneg ha
  have h3 : 0 ≤ a % b := Int.emod_nonneg _ (by omega)
  have h4 : a % b < b := Int.emod_lt_of_pos _ hb
  have h5 : 0 ≤ a / b := Int.ediv_nonneg ha (by omega)
  have h6 : a / b ≤ a := Int.ediv_le_self _ ha
  rw [h1, h2, w64 (i := 2 * (a % b)) (by omega) (by omega), w64 (i := a / b) (by omega) (by omega), w64 (i := a / b + 1) (by omega) (by omega)]
  by_cases h : 2 * (a % b) ≥ b
  · rw [if_pos h, if_pos h]
  · rw [if_neg h, if_neg h]
theorem near_bd (a b : Int) (ha : 0 ≤ a) (hb : 0 < b) : 0 ≤ nearM a b ∧ nearM a b ≤ a + 1 := by
  have h5 : 0 ≤ a / b := Int.ediv_nonneg ha (by omega)
  have h6 : a / b ≤ a := Int.ediv_le_self _ ha
  unfold nearM
  split <;> omega
theorem mul_bd {a b A B : Int} (h0 : 0 ≤ a) (h1 : a ≤ A) (h2 : 0 ≤ b) (h3 : b ≤ B) : 0 ≤ a * b ∧ a * b ≤ A * B :=
  ⟨Int.mul_nonneg h0 h2, Int.mul_le_mul h1 h3 h2 (by omega)⟩

/-- Points of an amount. -/
def commM (a p : Int) : Int := nearM (a * p) 10000
theorem comm_impl (a p : Int) (h0 : 0 ≤ a) (h1 : a ≤ 1000000000) (h2 : 0 ≤ p) (h3 : p ≤ 10000) : impl_commission.f a p = some (commM a p) := by
  have hb := mul_bd h0 h1 h2 h3
  unfold impl_commission.f commM
  rw [w64 (i := a * p) (by omega) (by omega), near_impl _ _ hb.1 (by omega) (by omega) (by omega)]
  rfl
theorem comm_spec (a p : Int) (h0 : 0 ≤ a) (h1 : a ≤ 1000000000) (h2 : 0 ≤ p) (h3 : p ≤ 10000) : spec_l04Commission.f a p = some (commM a p) := by
  have hb := mul_bd h0 h1 h2 h3
  unfold spec_l04Commission.f commM
  rw [near_spec _ _ _ hb.1 (by omega) (by omega) (by omega)]
  rfl
theorem comm_le (a p : Int) (h0 : 0 ≤ a) (h2 : 0 ≤ p) (h3 : p ≤ 10000) : 0 ≤ commM a p ∧ commM a p ≤ a := by
  unfold commM
  have h : a * p ≤ a * 10000 := Int.mul_le_mul_of_nonneg_left h3 h0
  have h0' : 0 ≤ a * p := Int.mul_nonneg h0 h2
  refine ⟨(near_bd _ _ h0' (by omega)).1, ?_⟩
  unfold nearM
  generalize a * p = q at h h0'
  split <;> omega

def isAmountN (n : Int) : Bool := decide (0 ≤ n ∧ n ≤ 1000000000)
theorem isAmountN_impl (n : Int) : impl_IsAmount.f n = some (isAmountN n) := by
  unfold impl_IsAmount.f impl_in.f isAmountN
  by_cases h : n ≥ 0 <;> simp [h]
theorem isAmountN_spec (n : Int) : spec_IsAmount.f n = some (isAmountN n) := by
  unfold spec_IsAmount.f spec_l01In.f isAmountN
  by_cases h : n ≥ 0 <;> simp [h]
def scaleCode (l : List S113) (age amount : Int) : Int := if isScale l = true then (if (0 ≤ age ∧ age ≤ 60) ∧ isAmountN amount = true then 0 else 2) else 1
theorem scaleCode_spec (l : List S113) (a b : Int) (hl : l.length ≤ 8796093022208) : Ev (fun k => spec_l13Code.f k l a b) (scaleCode l a b) := by
  unfold spec_l13Code.f scaleCode
  refine Ev.bind (isScale_spec l hl) ?_
  by_cases h : isScale l = true
  · refine ev_pos h (ev_bind_eq (in_spec a 0 60) ?_)
    rw [if_pos h]
    by_cases ha : 0 ≤ a ∧ a ≤ 60
    · refine ev_pos (by simpa using ha) (ev_bind_eq (isAmountN_spec b) ?_)
      cases hb : isAmountN b with
      | true => refine ev_pos rfl ?_; rw [if_pos ⟨ha, rfl⟩]; exact Ev.now _
      | false => refine ev_neg (by simp) ?_; rw [if_neg (by simp)]; exact Ev.now _
    · refine ev_neg (by simpa using ha) ?_
      rw [if_neg (fun h => ha h.1)]; exact Ev.now _
  · refine ev_neg h ?_
    rw [if_neg h]; exact Ev.now _
theorem scaleCode_impl (l : List S113) (a b : Int) (hl : l.length ≤ 8796093022208) : Ev (fun k => impl_scaled.f k l a b) (scaleCode l a b) := by
  unfold impl_scaled.f scaleCode
  refine Ev.bind (isScale_impl l hl) ?_
  by_cases h : isScale l = true
  · refine ev_pos h (ev_bind_eq (age_impl a) ?_)
    rw [if_pos h]
    by_cases ha : 0 ≤ a ∧ a ≤ 60
    · refine ev_pos (by simpa using ha) (ev_bind_eq (isAmountN_impl b) ?_)
      cases hb : isAmountN b with
      | true => refine ev_pos rfl ?_; rw [if_pos ⟨ha, rfl⟩]; exact Ev.now _
      | false => refine ev_neg (by simp) ?_; rw [if_neg (by simp)]; exact Ev.now _
    · refine ev_neg (by simpa using ha) ?_
      rw [if_neg (fun h => ha h.1)]; exact Ev.now _
  · refine ev_neg h ?_
    rw [if_neg h]; exact Ev.now _
theorem scaleCode_zero {l : List S113} {a b : Int} (h : scaleCode l a b = 0) : isScale l = true ∧ 0 ≤ a ∧ a ≤ 60 ∧ 0 ≤ b ∧ b ≤ 1000000000 := by
  unfold scaleCode at h
  by_cases h1 : isScale l = true
  · rw [if_pos h1] at h
    by_cases h2 : (0 ≤ a ∧ a ≤ 60) ∧ isAmountN b = true
    · have h3 := h2.2
      simp [isAmountN] at h3
      exact ⟨h1, h2.1.1, h2.1.2, h3.1, h3.2⟩
    · rw [if_neg h2] at h; omega
  · rw [if_neg h1] at h; omega
theorem isScale_pts {l : List S113} (h : isScale l = true) : ∀ x ∈ l, 0 ≤ x.f1 ∧ x.f1 ≤ 10000 := by
  intro x hx
  obtain ⟨i, hi, rfl⟩ := List.mem_iff_getElem.1 hx
  unfold isScale at h
  simp only [Bool.and_eq_true, decide_eq_true_eq] at h
  have := h.1 i hi
  simp only [bandOK, Bool.and_eq_true, decide_eq_true_eq] at this
  rw [getD_lt _ _ _ hi] at this
  exact this.1.2
def pointsM (l : List S113) (age : Int) : Int := l.foldl (fun s b => if b.f0 ≤ age then b.f1 else s) 0
theorem points_bd {l : List S113} (h : ∀ x ∈ l, 0 ≤ x.f1 ∧ x.f1 ≤ 10000) (age : Int) : 0 ≤ pointsM l age ∧ pointsM l age ≤ 10000 := by
  have key : ∀ (l : List S113) (s : Int), (∀ x ∈ l, 0 ≤ x.f1 ∧ x.f1 ≤ 10000) → 0 ≤ s → s ≤ 10000 → 0 ≤ l.foldl (fun s b => if b.f0 ≤ age then b.f1 else s) s ∧ l.foldl (fun s b => if b.f0 ≤ age then b.f1 else s) s ≤ 10000 := by
    intro l
    induction l with
    | nil => intro s _ h0 h1; exact ⟨h0, h1⟩
    | cons x l ih =>
      intro s hx h0 h1
      rw [List.foldl_cons]
      have hxx := hx x (by simp)
      refine ih _ (fun y hy => hx y (by simp [hy])) ?_ ?_
      · split <;> omega
      · split <;> omega
  exact key l 0 h (by omega) (by omega)
theorem points_spec' (l : List S113) (age : Int) (hl : l.length ≤ 8796093022208) : Ev (fun k => spec_l13Points.f k l age) (pointsM l age) := by
  unfold spec_l13Points.f
  have h := ev_range l.length (fun k (s : Int) i => spec_l13Points.l0 k l age s i) (fun i s => if (l.getD i z113).f0 ≤ age then (l.getD i z113).f1 else s) id (fun _ _ => True)
    (fun _ _ _ _ => trivial)
    (fun i s r hi _ hr => by
      refine Ev.step (fun k => ?_) hr
      simp only [spec_l13Points.l0, rdB]
      rw [if_pos (by omega), if_pos (by omega), w64s i (by omega)]
      by_cases hg : (l.getD i z113).f0 ≤ age
      · rw [if_pos hg, if_pos hg]
      · rw [if_neg hg, if_neg hg])
    (fun s _ => ev_pt fun k => by simp only [spec_l13Points.l0]; rw [if_neg (by omega)]; rfl)
    l.length 0 0 (by omega) trivial
  rw [fold_idx l z113 (fun s b => if b.f0 ≤ age then b.f1 else s)] at h
  exact h
theorem points_impl' (l : List S113) (age : Int) (hl : l.length ≤ 8796093022208) : Ev (fun k => impl_pointsForAge.f k l age) (pointsM l age) := by
  unfold impl_pointsForAge.f
  have h := ev_range l.length (fun k (s : Int) i => impl_pointsForAge.l0 k age s l (l.length : Int) i) (fun i s => if (l.getD i z113).f0 ≤ age then (l.getD i z113).f1 else s) id (fun _ _ => True)
    (fun _ _ _ _ => trivial)
    (fun i s r hi _ hr => by
      refine Ev.step (fun k => ?_) hr
      simp only [impl_pointsForAge.l0, rdB]
      rw [if_pos (by omega), if_pos (by omega), if_pos (by omega), w64s i (by omega)]
      by_cases hg : (l.getD i z113).f0 ≤ age
      · rw [if_pos hg, if_pos hg]
      · rw [if_neg hg, if_neg hg])
    (fun s _ => ev_pt fun k => by simp only [impl_pointsForAge.l0]; rw [if_neg (by omega)]; rfl)
    l.length 0 0 (by omega) trivial
  rw [fold_idx l z113 (fun s b => if b.f0 ≤ age then b.f1 else s)] at h
  exact h
def deductM (l : List S113) (age amount : Int) : Int := commM amount (pointsM l age)
theorem deduct_spec (l : List S113) (age amount : Int) (hs : isScale l = true) (h0 : 0 ≤ amount) (h1 : amount ≤ 1000000000) (hl : l.length ≤ 8796093022208) : Ev (fun k => spec_l13Deduction.f k l age amount) (deductM l age amount) := by
  have hp := points_bd (isScale_pts hs) age
  unfold spec_l13Deduction.f deductM
  exact Ev.bind (points_spec' l age hl) (ev_bind_eq (comm_spec amount _ h0 h1 hp.1 hp.2) (Ev.now _))
end Go.Proofs.Ytldkcddjligbdaa.Pu
