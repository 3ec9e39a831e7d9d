/- Which decisions are right: the reader's way along the clauses accepts the told chain and no other one. -/
import Derived.Test.YtmfbkbbgokjhnaaFx10
import Derived.Test.YtmfbkbbgokjhnaaFx25

import Derived.Test.YtmfbkbbgokjhnaaRules
import Derived.Test.YtmfbkbbgokjhnaaRulebook
import Derived.Test.YtmfbkbbgokjhnaaStr
namespace Go.Proofs.Ytmfbkbbgokjhnaa.Pu
open Go.RowKit Go.Proofs.YtmfbkbbgokjhnaaW.PrintWords Go.Proofs.Ytmfbkbbgokjhnaa.F
set_option linter.unusedVariables false
set_option linter.unusedSimpArgs false
def rightM (l : List Cl) (e : Evt) (d0 : Int) : Nat → Nat → List ByteArray → Bool
  | 0, _, _ => false
  | _ + 1, _, [] => false
  | n + 1, k, s :: ss => decide ((at0 l (fmN l e k)).f0.toList = s.toList) && (if ss = [] then (decide ((at0 l (fmN l e k)).f5 ≠ 3) && ((at0 l (fmN l e k)).f5 == d0)) else if (at0 l (fmN l e k)).f5 = 3 then rightM l e d0 n (dest l (fmN l e k)) ss else false)
theorem sameStrs_cons (c s : ByteArray) (cs ss : List ByteArray) : sameStrs (c :: cs) (s :: ss) = (decide (c.toList = s.toList) && sameStrs cs ss) := by
  unfold sameStrs
  rw [List.map_cons, List.map_cons, Bool.eq_iff_iff]
  simp
theorem sameStrs_nil_cons (s : ByteArray) (ss : List ByteArray) : sameStrs [] (s :: ss) = false := by simp [sameStrs]
theorem sameStrs_cons_nil (s : ByteArray) (ss : List ByteArray) : sameStrs (s :: ss) [] = false := by simp [sameStrs]
def codesOf (l : List Cl) (c : List Nat) : List ByteArray := c.map fun i => (at0 l i).f0
theorem rightM_eq {l : List Cl} (H : RB l) (e : Evt) (d0 : Int) : ∀ n k ss, k < l.length → l.length - k ≤ n → rightM l e d0 n k ss = (decide ((at0 l (lastI l e n k)).f5 = d0) && sameStrs (codesOf l (chain l e n k)) ss) := by
  intro n
  induction n with
  | zero => intro k ss h1 h2; omega
  | succ n ih =>
    intro k ss h1 h2
    obtain ⟨a, b, c, _⟩ := fm_at H e k h1
    cases ss with
    | nil =>
      unfold rightM chain
      rw [show codesOf l (fmN l e k :: (if (at0 l (fmN l e k)).f5 = 3 then chain l e n (dest l (fmN l e k)) else [])) = (at0 l (fmN l e k)).f0 :: codesOf l (if (at0 l (fmN l e k)).f5 = 3 then chain l e n (dest l (fmN l e k)) else []) from rfl, sameStrs_cons_nil, Bool.and_false]
    | cons s ss =>
      unfold rightM chain lastI
      rw [show codesOf l (fmN l e k :: (if (at0 l (fmN l e k)).f5 = 3 then chain l e n (dest l (fmN l e k)) else [])) = (at0 l (fmN l e k)).f0 :: codesOf l (if (at0 l (fmN l e k)).f5 = 3 then chain l e n (dest l (fmN l e k)) else []) from rfl, sameStrs_cons]
      by_cases h : (at0 l (fmN l e k)).f5 = 3
      · obtain ⟨g1, g2, g3⟩ := fm_go H e k h1 h
        have q := ih (dest l (fmN l e k)) ss g2 (by omega)
        rw [if_pos h, if_pos h, if_pos h]
        by_cases hs : ss = []
        · rw [if_pos hs, decide_eq_false (show ¬ ((at0 l (fmN l e k)).f5 ≠ 3) from fun hh => hh h), Bool.false_and, Bool.and_false]
          subst hs
          obtain ⟨⟨xs, q1⟩, _⟩ := chain_last H e n (dest l (fmN l e k)) g2 (by omega)
          have : sameStrs (codesOf l (chain l e n (dest l (fmN l e k)))) [] = false := by
            rw [q1]
            cases xs <;> simp [codesOf, sameStrs]
          rw [this, Bool.and_false, Bool.and_false]
        · rw [if_neg hs, q]
          cases decide ((at0 l (fmN l e k)).f0.toList = s.toList) <;> simp
      · rw [if_neg h, if_neg h, if_neg h, decide_eq_true (show (at0 l (fmN l e k)).f5 ≠ 3 from h), Bool.true_and]
        by_cases hs : ss = []
        · subst hs
          rw [if_pos rfl, show codesOf l [] = [] from rfl, show sameStrs [] [] = true by simp [sameStrs], Bool.and_true, Bool.and_comm]
          rfl
        · rw [if_neg hs]
          cases ss with
          | nil => exact absurd rfl hs
          | cons t ts => rw [show codesOf l [] = [] from rfl, sameStrs_nil_cons]; simp
theorem right_l {l : List Cl} (H : RB l) (e : Evt) (d0 : Int) (ds : List ByteArray) : ∀ n k i, k < l.length → l.length - k ≤ n → i ≤ ds.length → Ev (fun j => spec_l12Right.l0 j l (k : Int) (i : Int) e.f0 e.f1 e.f2 e.f3 e.f4 e.f5 e.f6 d0 ds) (rightM l e d0 n k (ds.drop i)) := by
  intro n
  induction n with
  | zero => intro k i h1 h2; omega
  | succ n ih =>
    intro k i h1 h2 hi
    obtain ⟨a, b, c, _⟩ := fm_at H e k h1
    refine ev_succ ?_
    simp only [spec_l12Right.l0]
    by_cases hlt : i < ds.length
    case neg =>
      rw [List.drop_eq_nil_of_le (by omega)]
      exact ev_neg (by omega) (Ev.now _)
    rw [List.drop_eq_getElem_cons hlt]
    refine ev_pos (by omega) (Ev.bind (fm_s H e k h1) (ev_pos (by omega) (ev_pos (by omega) (ev_pos (by omega) ?_))))
    simp only [rdCl, rdS, getD_lt ds i _ hlt]
    unfold rightM
    by_cases hc : (at0 l (fmN l e k)).f0.toList = ds[i].toList
    case neg =>
      rw [decide_eq_false hc, Bool.false_and]
      exact ev_neg hc (Ev.now _)
    rw [decide_eq_true hc, Bool.true_and]
    refine ev_pos hc ?_
    by_cases hlast : i + 1 = ds.length
    · rw [if_pos (show ds.drop (i + 1) = [] from List.drop_eq_nil_of_le (by omega))]
      refine ev_pos (by omega) ?_
      by_cases h3 : (at0 l (fmN l e k)).f5 = 3
      · rw [decide_eq_false (show ¬ ((at0 l (fmN l e k)).f5 ≠ 3) from fun hh => hh h3), Bool.false_and]
        exact ev_pos h3 (Ev.now _)
      · rw [decide_eq_true (show (at0 l (fmN l e k)).f5 ≠ 3 from h3), Bool.true_and]
        exact ev_neg h3 (Ev.now _)
    · rw [if_neg (show ¬ ds.drop (i + 1) = [] by rw [List.drop_eq_nil_iff]; omega)]
      refine ev_neg (by omega) ?_
      by_cases h3 : (at0 l (fmN l e k)).f5 = 3
      · rw [if_pos h3]
        obtain ⟨g1, g2, g3⟩ := fm_go H e k h1 h3
        have q := ih (dest l (fmN l e k)) (i + 1) g2 (by omega) (by omega)
        refine ev_pos h3 (Ev.bind (find_s l _ (by have := H.le; omega)) ?_)
        rw [g3, show ((i : Int) + 1) = ((i + 1 : Nat) : Int) by omega]
        exact q
      · rw [if_neg h3]
        exact ev_neg h3 (Ev.now _)
def rightB (l : List Cl) (e : Evt) (d0 : Int) (ds : List ByteArray) : Bool := decide (resM l e = d0) && sameStrs (codesM l e) ds
theorem right_s {l : List Cl} (H : RB l) (e : Evt) (d0 : Int) (ds : List ByteArray) : Ev (fun j => spec_l12Right.f j l e.f0 e.f1 e.f2 e.f3 e.f4 e.f5 e.f6 d0 ds) (rightB l e d0 ds) := by
  unfold spec_l12Right.f
  have h := right_l H e d0 ds l.length 0 0 (by have := H.pos; omega) (by omega) (by omega)
  rw [rightM_eq H e d0 l.length 0 _ (by have := H.pos; omega) (by omega), List.drop_zero] at h
  exact h
theorem right_i {l : List Cl} (H : RB l) (e : Evt) (d0 : Int) (ds : List ByteArray) : Ev (fun j => impl_sameDecision.f j (resM l e) (codesM l e) d0 ds) (rightB l e d0 ds) := by
  unfold impl_sameDecision.f rightB
  have hn := (chn_len H e).2
  have hm : (codesM l e).length ≤ 12 := by unfold codesM; rw [List.length_map]; exact hn
  by_cases h : resM l e = d0
  · rw [decide_eq_true h, Bool.true_and]
    exact ev_pos h (Ev.bind (equalStr _ _ (by omega)) (Ev.now _))
  · rw [decide_eq_false h, Bool.false_and]
    exact ev_neg h (Ev.now _)
def askR (l : List Cl) (e : Evt) : Bool := rulebookB l && eventB e
end Go.Proofs.Ytmfbkbbgokjhnaa.Pu
