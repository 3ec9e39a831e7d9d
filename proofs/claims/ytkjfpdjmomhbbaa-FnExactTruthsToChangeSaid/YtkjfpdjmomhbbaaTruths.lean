/- The fewest truths to change for a result: the program and the reference alike. -/
import Derived.Test.YtkjfpdjmomhbbaaFx21
import Derived.Test.YtkjfpdjmomhbbaaFx23
import Derived.Test.YtkjfpdjmomhbbaaFx24
import Derived.Test.YtkjfpdjmomhbbaaShapes
namespace Go.Proofs.Ytkjfpdjmomhbbaa.Pu
open Go.RowKit Go.Proofs.YtkjfpdjmomhbbaaW.PrintWords Go.Proofs.Ytkjfpdjmomhbbaa.F
set_option linter.unusedVariables false
set_option linter.unusedSimpArgs false
/-- A result depends on an event's kind and truths alone. -/
theorem resM_like (l : List Cl) (e g : Evt) (h1 : e.f1 = g.f1) (h4 : e.f4 = g.f4) (h5 : e.f5 = g.f5) (h6 : e.f6 = g.f6) : resM l e = resM l g := by
  have hm : matchB e = matchB g := by funext c; unfold matchB; rw [h1, h4, h5, h6]
  have hf : fmN l e = fmN l g := by funext k; unfold fmN; rw [hm]
  have hl : ∀ n k, lastI l e n k = lastI l g n k := by
    intro n
    induction n with
    | zero => intro k; rfl
    | succ n ih => intro k; unfold lastI; rw [hf, ih]
  unfold resM lst
  rw [hl]
/-- How many of three truths differ. -/
def diffs (a4 a5 a6 b4 b5 b6 : Bool) : Int := (if a4 != b4 then 1 else 0) + (if a5 != b5 then 1 else 0) + (if a6 != b6 then 1 else 0)
theorem changed_l (a b c : Bool) : impl_changed.l0 8 0 [a, b, c] 3 0 = some ((if a then 1 else 0) + (if b then 1 else 0) + (if c then 1 else 0)) := by
  revert a b c
  decide +kernel
theorem changed_i (a b : Evt) : Ev (fun k => impl_changed.f k a.f0 a.f1 a.f2 a.f3 a.f4 a.f5 a.f6 b.f0 b.f1 b.f2 b.f3 b.f4 b.f5 b.f6) (diffs a.f4 a.f5 a.f6 b.f4 b.f5 b.f6) :=
  Ev.of (k := 8) (fun k => impl_changed.mono _ _ _ _ _ _ _ _ _ _ _ _ _ _ k) (changed_l (a.f4 != b.f4) (a.f5 != b.f5) (a.f6 != b.f6))
def flipB (b : Bool) (c : Bool) : Bool := if c = true then !b else b
/-- The event with some truths turned, by a number from 0 to 7. -/
def turned (e : Evt) (k : Nat) : Evt := ⟨e.f0, e.f1, e.f2, e.f3, flipB e.f4 (decide (k % 2 = 1)), flipB e.f5 (decide (k / 2 % 2 = 1)), flipB e.f6 (decide (k / 4 = 1))⟩
def bitsOf (k : Nat) : Int := (if k % 2 = 1 then 1 else 0) + (if k / 2 % 2 = 1 then 1 else 0) + (if k / 4 = 1 then 1 else 0)
def leastS (l : List Cl) (e : Evt) (r : Int) (k : Nat) (s : Int) : Int := if resM l (turned e k) = r then mn s (bitsOf k) else s
def leastI (l : List Cl) (e : Evt) (r : Int) (i : Nat) (s : Int) : Int := if (pe i).f1 = e.f1 then (if resM l (pe i) = r then mn s (diffs (pe i).f4 (pe i).f5 (pe i).f6 e.f4 e.f5 e.f6) else s) else s
def outT (s : Int) : Int × Int := if s = 4 then (0, 4) else (s, 0)
/-- The two folds agree, whatever the eight results are. -/
theorem least_bits (R : Bool → Bool → Bool → Bool) (a b c : Bool) :
    (List.range' 0 8).foldl (fun s k => if R (flipB a (decide (k % 2 = 1))) (flipB b (decide (k / 2 % 2 = 1))) (flipB c (decide (k / 4 = 1))) = true then mn s (bitsOf k) else s) (4 : Int) =
    (List.range' 0 8).foldl (fun s k => if R (decide (k / 4 = 1)) (decide (k / 2 % 2 = 1)) (decide (k % 2 = 1)) = true then mn s (diffs (decide (k / 4 = 1)) (decide (k / 2 % 2 = 1)) (decide (k % 2 = 1)) a b c) else s) (4 : Int) := by
  have e1 : List.range' 0 8 = [0, 1, 2, 3, 4, 5, 6, 7] := by decide
  rw [e1]
  simp only [List.foldl_cons, List.foldl_nil]
  cases a <;> cases b <;> cases c <;> simp [flipB, bitsOf, diffs] <;>
    (generalize R true true true = r7; generalize R true true false = r6; generalize R true false true = r5; generalize R true false false = r4; generalize R false true true = r3; generalize R false true false = r2; generalize R false false true = r1; generalize R false false false = r0; revert r0 r1 r2 r3 r4 r5 r6 r7; decide +kernel)
theorem foldl_id {α σ : Type} (f : σ → α → σ) (l : List α) (s : σ) (h : ∀ x ∈ l, ∀ s, f s x = s) : l.foldl f s = s := by
  induction l generalizing s with
  | nil => rfl
  | cons x l ih => rw [List.foldl_cons, h x (List.mem_cons_self ..)]; exact ih s fun y hy => h y (List.mem_cons_of_mem _ hy)
theorem least_eq (l : List Cl) (e : Evt) (r : Int) (h0 : 0 ≤ e.f1) (h1 : e.f1 ≤ 6) : (List.range' 0 56).foldl (fun s i => leastI l e r i s) 4 = (List.range' 0 8).foldl (fun s k => leastS l e r k s) 4 := by
  obtain ⟨kd, hkd⟩ : ∃ kd : Nat, (kd : Int) = e.f1 := ⟨e.f1.toNat, by omega⟩
  have hk6 : kd ≤ 6 := by omega
  have hsplit : List.range' 0 56 = List.range' 0 (8 * kd) ++ (List.range' (8 * kd) 8 ++ List.range' (8 * kd + 8) (56 - (8 * kd + 8))) := by
    rw [List.range'_append_1, show 8 * kd + 8 = 0 + 1 * (8 * kd) + 8 by omega]
    rw [show List.range' (8 * kd) (8 + (56 - (0 + 1 * (8 * kd) + 8))) = List.range' (0 + 1 * (8 * kd)) (8 + (56 - (0 + 1 * (8 * kd) + 8))) by rw [show 0 + 1 * (8 * kd) = 8 * kd by omega]]
    rw [List.range'_append]
    congr 1
    omega
  have off : ∀ i s, i / 8 ≠ kd → leastI l e r i s = s := by
    intro i s h
    unfold leastI
    rw [if_neg]
    unfold pe
    simp only
    omega
  rw [hsplit, List.foldl_append, List.foldl_append, foldl_id _ (List.range' 0 (8 * kd)) _ (fun i hi s => off i s (by rw [List.mem_range'_1] at hi; omega)),
    foldl_id _ (List.range' (8 * kd + 8) _) _ (fun i hi s => off i s (by rw [List.mem_range'_1] at hi; omega))]
  let R : Bool → Bool → Bool → Bool := fun a b c => decide (resM l ⟨0, e.f1, (⟨#[]⟩ : ByteArray), 0, a, b, c⟩ = r)
  have hb := least_bits R e.f4 e.f5 e.f6
  have hL : (List.range' 0 8).foldl (fun s k => leastS l e r k s) 4 = (List.range' 0 8).foldl (fun s k => if R (flipB e.f4 (decide (k % 2 = 1))) (flipB e.f5 (decide (k / 2 % 2 = 1))) (flipB e.f6 (decide (k / 4 = 1))) = true then mn s (bitsOf k) else s) (4 : Int) := by
    congr 1
    funext s k
    unfold leastS
    rw [resM_like l (turned e k) ⟨0, e.f1, (⟨#[]⟩ : ByteArray), 0, flipB e.f4 (decide (k % 2 = 1)), flipB e.f5 (decide (k / 2 % 2 = 1)), flipB e.f6 (decide (k / 4 = 1))⟩ rfl rfl rfl rfl]
    simp only [R, decide_eq_true_eq]
  rw [hL, hb]
  have hmap : List.range' (8 * kd) 8 = (List.range' 0 8).map (8 * kd + ·) := by rw [List.map_add_range']; rfl
  rw [hmap, List.foldl_map]
  have hc : ∀ (m : List Nat), (∀ x ∈ m, x < 8) → ∀ s : Int, m.foldl (fun s k => leastI l e r (8 * kd + k) s) s = m.foldl (fun s k => if R (decide (k / 4 = 1)) (decide (k / 2 % 2 = 1)) (decide (k % 2 = 1)) = true then mn s (diffs (decide (k / 4 = 1)) (decide (k / 2 % 2 = 1)) (decide (k % 2 = 1)) e.f4 e.f5 e.f6) else s) s := by
    intro m
    induction m with
    | nil => intro _ s; rfl
    | cons k m ih =>
      intro hm s
      have hk := hm k (List.mem_cons_self ..)
      rw [List.foldl_cons, List.foldl_cons]
      have e1 : leastI l e r (8 * kd + k) s = if R (decide (k / 4 = 1)) (decide (k / 2 % 2 = 1)) (decide (k % 2 = 1)) = true then mn s (diffs (decide (k / 4 = 1)) (decide (k / 2 % 2 = 1)) (decide (k % 2 = 1)) e.f4 e.f5 e.f6) else s := by
        unfold leastI
        rw [pe_at kd k hk]
        simp only [R, decide_eq_true_eq, hkd, if_true]
      rw [e1]
      exact ih (fun x hx => hm x (List.mem_cons_of_mem _ hx)) _
  exact hc _ (fun x hx => by rw [List.mem_range'_1] at hx; omega) 4
def truthsM (l : List Cl) (e : Evt) (r : Int) : Int × Int := if eventB e = true then (if askCode l r = 0 then outT ((List.range' 0 8).foldl (fun s k => leastS l e r k s) 4) else (0, askCode l r)) else (0, 1)
theorem bits_tdiv (j : Nat) (h : j < 8) : (Int.tmod (j : Int) 2 = 1 ↔ j % 2 = 1) ∧ (Int.tmod (wrap64 (Int.tdiv (j : Int) 2)) 2 = 1 ↔ j / 2 % 2 = 1) ∧ (wrap64 (Int.tdiv (j : Int) 4) = 1 ↔ j / 4 = 1) := by
  rcases (by omega : j = 0 ∨ j = 1 ∨ j = 2 ∨ j = 3 ∨ j = 4 ∨ j = 5 ∨ j = 6 ∨ j = 7) with rfl | rfl | rfl | rfl | rfl | rfl | rfl | rfl <;> decide +kernel
theorem bits8 : bitsOf 0 = 0 ∧ bitsOf 1 = 1 ∧ bitsOf 2 = 1 ∧ bitsOf 3 = 2 ∧ bitsOf 4 = 1 ∧ bitsOf 5 = 2 ∧ bitsOf 6 = 2 ∧ bitsOf 7 = 3 := by decide +kernel
theorem wr3 : (0 : Int) + 1 = 1 ∧ wrap64 (0 + 1) = 1 ∧ wrap64 (1 + 1) = 2 ∧ wrap64 (2 + 1) = 3 ∧ wrap64 1 = 1 := by decide +kernel
theorem Truths_s (l : List Cl) (e : Evt) (r : Int) (hs : ∀ x ∈ l, smallClauseI x) (he : smallEventI e) (hl : l.length ≤ 1048576) : Ev (fun k => spec_TruthsToChange.f k l e.f0 e.f1 e.f2 e.f3 e.f4 e.f5 e.f6 r) (truthsM l e r) := by
  unfold spec_TruthsToChange.f truthsM
  refine Ev.bind (event_s e he) ?_
  by_cases hE : eventB e = true
  case neg => refine ev_neg hE ?_; rw [if_neg hE]; exact Ev.now _
  refine ev_pos hE (Ev.bind (askCode_s l r hs hl) ?_)
  rw [if_pos hE]
  by_cases h : askCode l r = 0
  case neg => refine ev_neg h ?_; rw [if_neg h]; exact Ev.now _
  refine ev_pos h ?_
  rw [if_pos h]
  have H : RB l := rb_of (by
    unfold askCode at h
    by_cases hr : rulebookB l = true
    · exact hr
    · rw [if_neg hr] at h; omega)
  refine ev_range 8 (fun k s i => spec_TruthsToChange.l0 k l r s i e.f0 e.f1 e.f2 e.f3 e.f4 e.f5 e.f6) (fun i s => leastS l e r i s) outT (fun _ _ => True) (fun _ _ _ _ => trivial) (fun j s q hj _ hq => ?_) (fun s _ => ?_) 8 0 _ (by omega) trivial
  · have hR := result_s H (turned e j)
    unfold leastS at hq
    obtain ⟨R, hRe⟩ : ∃ R, R = resM l (turned e j) := ⟨_, rfl⟩
    rw [← hRe] at hR hq
    have hw := w64s j (by omega)
    refine ev_succ (ev_succ (ev_succ ?_))
    simp only [spec_TruthsToChange.l0, spec_TruthsToChange.j1, spec_TruthsToChange.j2]
    rcases (by omega : j = 0 ∨ j = 1 ∨ j = 2 ∨ j = 3 ∨ j = 4 ∨ j = 5 ∨ j = 6 ∨ j = 7) with rfl | rfl | rfl | rfl | rfl | rfl | rfl | rfl <;>
    · refine ev_pos (by decide +kernel) ?_
      first | (refine ev_pos ?_ ?_; focus (decide +kernel)) | (refine ev_neg ?_ ?_; focus (decide +kernel))
      first | (refine ev_pos ?_ ?_; focus (decide +kernel)) | (refine ev_neg ?_ ?_; focus (decide +kernel))
      first | (refine ev_pos ?_ ?_; focus (decide +kernel)) | (refine ev_neg ?_ ?_; focus (decide +kernel))
      refine Ev.bind hR ?_
      obtain ⟨q0, q1, q2, q3, q4, q5, q6, q7⟩ := bits8
      obtain ⟨w0, w1, w2, w3, w4⟩ := wr3
      simp only [w0, w1, w2, w3, w4, q0, q1, q2, q3, q4, q5, q6, q7, hw] at hq ⊢
      by_cases c : R = r
      · refine ev_pos c ?_
        rw [if_pos c] at hq
        exact hq
      · refine ev_neg c ?_
        rw [if_neg c] at hq
        exact hq
  · refine ev_pt fun k => ?_
    simp only [spec_TruthsToChange.l0]
    rw [if_neg (by omega)]
    unfold outT
    by_cases h4 : s = 4
    · rw [if_pos h4, if_pos h4]
    · rw [if_neg h4, if_neg h4]
theorem Truths_i (l : List Cl) (e : Evt) (r : Int) (hs : ∀ x ∈ l, smallClauseI x) (he : smallEventI e) : Ev (fun k => impl_TruthsToChange.f k l e.f0 e.f1 e.f2 e.f3 e.f4 e.f5 e.f6 r) (truthsM l e r) := by
  unfold impl_TruthsToChange.f truthsM askCode
  refine Ev.bind (rulebook_i l hs) ?_
  by_cases hr : rulebookB l = true
  case neg =>
    refine ev_neg hr ?_
    rw [if_neg hr, if_neg (show ¬ (1 : Int) = 0 by omega), ite_self]
    exact ev_pt fun k => by simp only [impl_TruthsToChange.j0]; rfl
  refine ev_pos hr (Ev.bind (event_i e he) ?_)
  rw [if_pos hr]
  cases hE : eventB e with
  | false => exact ev_pt fun k => by simp only [impl_TruthsToChange.j0]; rfl
  | true =>
    refine ev_succ ?_
    simp only [impl_TruthsToChange.j0, isResult_i, Option.bind_some]
    refine ev_neg (by simp) ?_
    by_cases h2 : 0 ≤ r ∧ r ≤ 2
    case neg => refine ev_neg (by simpa using h2) ?_; rw [if_pos True.intro, if_neg h2, if_neg (show ¬ (2 : Int) = 0 by omega)]; exact Ev.now _
    refine ev_pos (by simpa using h2) (Ev.bind plain_i ?_)
    rw [if_pos True.intro, if_pos h2, if_pos (rfl : (0 : Int) = 0)]
    have H := rb_of hr
    have hk : 0 ≤ e.f1 ∧ e.f1 ≤ 6 := by
      unfold eventB at hE
      simp only [Bool.and_eq_true, decide_eq_true_eq] at hE
      exact hE.1.1.2
    rw [plain_len, ← least_eq l e r hk.1 hk.2]
    refine ev_range 56 (fun k s i => impl_TruthsToChange.l0 k l r s plain ((56 : Nat) : Int) i e.f0 e.f1 e.f2 e.f3 e.f4 e.f5 e.f6) (fun i s => leastI l e r i s) outT (fun _ _ => True) (fun _ _ _ _ => trivial) (fun j s q hj _ hq => ?_) (fun s _ => ?_) 56 0 _ (by omega) trivial
    · refine ev_succ ?_
      simp only [impl_TruthsToChange.l0, rdEv, plain_get j hj, plain_len]
      refine ev_pos (by omega) (ev_pos (by omega) (ev_pos (by omega) ?_))
      rw [w64s j (by omega)]
      unfold leastI at hq
      by_cases c1 : (pe j).f1 = e.f1
      · refine ev_pos c1 (Ev.bind (decide_i H (pe j)) ?_)
        rw [if_pos c1] at hq
        by_cases c2 : resM l (pe j) = r
        · refine ev_pos c2 (Ev.bind (changed_i (pe j) e) ?_)
          rw [if_pos c2] at hq
          exact hq
        · refine ev_neg c2 ?_
          rw [if_neg c2] at hq
          exact hq
      · refine ev_neg c1 ?_
        rw [if_neg c1] at hq
        exact hq
    · refine ev_pt fun k => ?_
      simp only [impl_TruthsToChange.l0]
      rw [if_neg (by omega)]
      unfold outT
      by_cases h4 : s = 4
      · rw [if_pos h4, if_pos h4]
      · rw [if_neg h4, if_neg h4]
end Go.Proofs.Ytkjfpdjmomhbbaa.Pu
