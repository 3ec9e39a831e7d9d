/- The clauses an event skips: the program and the reference alike. -/
import Derived.Test.YtkjfpdjmomhbbaaFx10
import Derived.Test.YtkjfpdjmomhbbaaFx16
import Derived.Test.YtkjfpdjmomhbbaaFx22
import Derived.Test.YtkjfpdjmomhbbaaFx24
import Derived.Test.YtkjfpdjmomhbbaaFx25
import Derived.Test.YtkjfpdjmomhbbaaRulebook
namespace Go.Proofs.Ytkjfpdjmomhbbaa.Pu
open Go.RowKit Go.Proofs.YtkjfpdjmomhbbaaW.PrintWords Go.Proofs.Ytkjfpdjmomhbbaa.F
set_option linter.unusedVariables false
set_option linter.unusedSimpArgs false
def askEv (l : List Cl) (e : Evt) : Bool := rulebookB l && eventB e
theorem DecideEvent_i (l : List Cl) (e : Evt) (hs : ∀ x ∈ l, smallClauseI x) (he : smallEventI e) : Ev (fun k => impl_DecideEvent.f k l e.f0 e.f1 e.f2 e.f3 e.f4 e.f5 e.f6) (if askEv l e = true then (resM l e, codesM l e, 0) else (0, [], 1)) := by
  unfold impl_DecideEvent.f askEv
  refine Ev.bind (rulebook_i l hs) ?_
  cases hr : rulebookB l with
  | false => refine ev_neg (by simp) ?_; rw [if_neg (by simp)]; exact Ev.now _
  | true =>
    refine ev_pos rfl (Ev.bind (event_i e he) ?_)
    cases hE : eventB e with
    | false => refine ev_neg (by simp) ?_; rw [if_neg (by simp)]; exact Ev.now _
    | true =>
      refine ev_pos rfl (Ev.bind (decide_i (rb_of hr) e) ?_)
      rw [if_pos (show (true && true) = true from rfl)]
      exact Ev.now _
def skipStep (l : List Cl) (e : Evt) (i : Nat) (s : List ByteArray) : List ByteArray := if matchB e (at0 l i) = true then s else s ++ [(at0 l i).f0]
def skippedM (l : List Cl) (e : Evt) : List ByteArray × Int := if askEv l e = true then ((List.range' 0 (lst l e)).foldl (fun s i => skipStep l e i s) [], 0) else ([], 1)
theorem skipStep_len (l : List Cl) (e : Evt) (i : Nat) (s : List ByteArray) : (skipStep l e i s).length ≤ s.length + 1 := by
  unfold skipStep
  split <;> simp
theorem skippedM_len (l : List Cl) (e : Evt) : (skippedM l e).1.length ≤ 12 := by
  unfold skippedM
  split
  case isTrue h =>
    have H := rb_of (by unfold askEv at h; rw [Bool.and_eq_true] at h; exact h.1)
    have : ∀ (m : List Nat) (s : List ByteArray), (m.foldl (fun s i => skipStep l e i s) s).length ≤ s.length + m.length := by
      intro m
      induction m with
      | nil => intro s; simp
      | cons x m ih =>
        intro s
        rw [List.foldl_cons, List.length_cons]
        have h1 := ih (skipStep l e x s)
        have h2 := skipStep_len l e x s
        omega
    have h1 := this (List.range' 0 (lst l e)) []
    obtain ⟨_, h2, _⟩ := lst_at H e
    have h3 := H.le
    simp only [List.length_range', List.length_nil] at h1 ⊢
    omega
  case isFalse => decide
theorem Skipped_s (l : List Cl) (e : Evt) (hs : ∀ x ∈ l, smallClauseI x) (he : smallEventI e) (hl : l.length ≤ 1048576) : Ev (fun k => spec_SkippedClauses.f k l e.f0 e.f1 e.f2 e.f3 e.f4 e.f5 e.f6) (skippedM l e) := by
  unfold spec_SkippedClauses.f skippedM askEv
  refine Ev.bind (rulebook_s l hs hl) ?_
  cases hr : rulebookB l with
  | false => refine ev_neg (by simp) ?_; rw [if_neg (by simp)]; exact ev_pt fun k => by simp only [spec_SkippedClauses.j0]; rfl
  | true =>
    refine ev_pos rfl (Ev.bind (event_s e he) ?_)
    cases hE : eventB e with
    | false => rw [if_neg (by simp)]; exact ev_pt fun k => by simp only [spec_SkippedClauses.j0]; rfl
    | true =>
      have H := rb_of hr
      refine ev_succ ?_
      simp only [spec_SkippedClauses.j0]
      refine ev_neg (by simp) (Ev.bind (chn_s H e) ?_)
      rw [if_pos (show (true && true) = true from rfl)]
      obtain ⟨r1, r2⟩ := rd_last H e
      obtain ⟨h3, h4⟩ := chn_len H e
      obtain ⟨_, h5, _⟩ := lst_at H e
      refine ev_range (lst l e) (fun k s i => spec_SkippedClauses.l0 k l ((chn l e).map fun (i : Nat) => (i : Int)) s i e.f0 e.f1 e.f2 e.f3 e.f4 e.f5 e.f6) (fun i s => skipStep l e i s) (fun s => (s, (0 : Int))) (fun i s => s.length ≤ i)
        (fun i s hi h => by have := skipStep_len l e i s; omega) (fun i s q hi h hq => ?_) (fun s h => ?_) (lst l e) 0 _ (by omega) (by simp)
      · refine ev_succ ?_
        simp only [spec_SkippedClauses.l0]
        rw [r1]
        simp only [List.length_map, r2, rdCl, match_s, Option.bind_some]
        refine ev_pos (by omega) (ev_pos (by omega) (ev_pos (by omega) (ev_pos (by omega) (ev_pos (by omega) ?_))))
        rw [w64s i (by omega)]
        unfold skipStep at hq
        by_cases c : matchB e (at0 l i) = true
        · rw [if_pos c] at hq
          exact ev_pos c hq
        · rw [if_neg c] at hq
          exact ev_neg c (ev_pos (by omega) hq)
      · refine ev_succ ?_
        simp only [spec_SkippedClauses.l0]
        rw [r1]
        simp only [List.length_map, r2]
        exact ev_pos (by omega) (ev_pos (by omega) (ev_neg (by omega) (Ev.now _)))
theorem take_get (l : List Cl) (n i : Nat) (h : i < n) (hn : n ≤ l.length) : (l.take n).getD i z84 = at0 l i := by
  rw [getD_lt _ _ _ (by rw [List.length_take]; omega), List.getElem_take]
  exact (getD_lt _ _ _ (by omega)).symm
theorem Skipped_i (l : List Cl) (e : Evt) (hs : ∀ x ∈ l, smallClauseI x) (he : smallEventI e) : Ev (fun k => impl_SkippedClauses.f k l e.f0 e.f1 e.f2 e.f3 e.f4 e.f5 e.f6) (skippedM l e) := by
  unfold impl_SkippedClauses.f skippedM
  refine Ev.bind (DecideEvent_i l e hs he) ?_
  by_cases hA : askEv l e = true
  case neg => rw [if_neg hA, if_neg hA]; exact ev_neg (by simp) (Ev.now _)
  rw [if_pos hA, if_pos hA]
  have H := rb_of (by unfold askEv at hA; rw [Bool.and_eq_true] at hA; exact hA.1)
  obtain ⟨⟨xs, hx⟩, h5, _⟩ := lst_at H e
  obtain ⟨h3, h4⟩ := chn_len H e
  have hle := H.le
  have hlen : (codesM l e).length = (chn l e).length := by simp [codesM]
  refine ev_pos rfl ?_
  simp only [hlen]
  rw [w64p _ h3 (by omega)]
  refine ev_pos (by omega) (ev_pos (by omega) ?_)
  have hl2 : rdOf ByteArray.empty (codesM l e) (((chn l e).length - 1 : Nat) : Int) = (at0 l (lst l e)).f0 := by
    unfold rdOf codesM
    rw [Int.toNat_natCast, hx]
    simp
  rw [hl2]
  refine ev_bind_eq (find_i l _) ?_
  rw [H.uniq _ h5]
  refine ev_pos (by omega) (ev_pos (by omega) ?_)
  simp only [Option.bind_some, Int.toNat_natCast]
  have hT : (l.take (lst l e)).length = lst l e := by rw [List.length_take]; omega
  rw [hT]
  refine ev_range (lst l e) (fun k s i => impl_SkippedClauses.l0 k s (l.take (lst l e)) ((lst l e : Nat) : Int) i e.f0 e.f1 e.f2 e.f3 e.f4 e.f5 e.f6) (fun i s => skipStep l e i s) (fun s => (s, (0 : Int))) (fun i s => s.length ≤ i)
    (fun i s hi h => by have := skipStep_len l e i s; omega) (fun i s q hi h hq => ?_) (fun s h => ?_) (lst l e) 0 _ (by omega) (by simp)
  · refine ev_succ ?_
    simp only [impl_SkippedClauses.l0, rdCl, take_get l (lst l e) i hi (by omega), matchB_f, Option.bind_some, hT]
    refine ev_pos (by omega) (ev_pos (by omega) (ev_pos (by omega) ?_))
    rw [w64s i (by omega)]
    unfold skipStep at hq
    by_cases c : matchB e (at0 l i) = true
    · rw [if_pos c] at hq
      exact ev_pos c hq
    · rw [if_neg c] at hq
      exact ev_neg c (ev_pos (by omega) hq)
  · refine ev_pt fun k => ?_
    simp only [impl_SkippedClauses.l0]
    rw [if_neg (by omega)]
end Go.Proofs.Ytkjfpdjmomhbbaa.Pu
