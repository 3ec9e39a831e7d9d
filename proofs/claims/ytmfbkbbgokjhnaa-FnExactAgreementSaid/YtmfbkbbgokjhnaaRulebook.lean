/- What a clause and a rulebook are: the program and the reference alike. -/
import Derived.Test.YtmfbkbbgokjhnaaFx5
import Derived.Test.YtmfbkbbgokjhnaaFx8
import Derived.Test.YtmfbkbbgokjhnaaFx10
import Derived.Test.YtmfbkbbgokjhnaaFx16
import Derived.Test.YtmfbkbbgokjhnaaFx18
import Derived.Test.YtmfbkbbgokjhnaaLog
import Derived.Test.YtmfbkbbgokjhnaaRuleFind
namespace Go.Proofs.Ytmfbkbbgokjhnaa.Pu
open Go.RowKit Go.Proofs.YtmfbkbbgokjhnaaW.PrintWords Go.Proofs.Ytmfbkbbgokjhnaa.F
set_option linter.unusedVariables false
set_option linter.unusedSimpArgs false
theorem need_i (n : Int) : impl_isNeed.f n = some (needB n) := by simp [impl_isNeed.f, in_i, needB]
theorem need_s (n : Int) : spec_l09Need.f n = some (needB n) := by simp [spec_l09Need.f, in_s, needB]
theorem clause_i (c : Cl) (hs : smallClauseI c) : Ev (fun k => impl_IsClause.f k c.f0 c.f1 c.f2 c.f3 c.f4 c.f5 c.f6) (clauseB c) := by
  obtain ⟨h0, h6⟩ := hs
  have e0 := code_impl c.f0 h0
  have e6 := code_impl c.f6 h6
  unfold impl_IsClause.f clauseB
  simp only [need_i, Option.bind_some]
  have tail : ∀ b : Bool, Ev (fun k => impl_IsClause.j0 k b c.f0 c.f1 c.f2 c.f3 c.f4 c.f5 c.f6) (codeB c.f0 && decide (-1 ≤ c.f1 ∧ c.f1 ≤ 6) && b && decide (0 ≤ c.f5 ∧ c.f5 ≤ 3) && (if c.f5 = 3 then codeB c.f6 else c.f6.toList == [])) := by
    intro b
    refine ev_succ ?_
    simp only [impl_IsClause.j0, in_i, Option.bind_some]
    by_cases h : c.f5 = 3
    · refine ev_pos h ?_
      refine Ev.bind e6 (Ev.bind e0 ?_)
      rw [if_pos h]
      cases codeB c.f0 <;> cases decide (-1 ≤ c.f1 ∧ c.f1 ≤ 6) <;> cases b <;> cases decide (0 ≤ c.f5 ∧ c.f5 ≤ 3) <;> (refine ev_some fun _ => ?_) <;> simp
    · refine ev_neg h ?_
      refine Ev.bind e0 ?_
      rw [if_neg h]
      cases codeB c.f0 <;> cases decide (-1 ≤ c.f1 ∧ c.f1 ≤ 6) <;> cases b <;> cases decide (0 ≤ c.f5 ∧ c.f5 ≤ 3) <;> (refine ev_some fun _ => ?_) <;> simp
  have t1 := tail true
  have t0 := tail false
  generalize (if c.f5 = 3 then codeB c.f6 else c.f6.toList == []) = z at *
  revert t0 t1
  cases needB c.f2 <;> cases needB c.f3 <;> cases needB c.f4 <;> cases codeB c.f0 <;> cases decide (-1 ≤ c.f1 ∧ c.f1 ≤ 6) <;> cases decide (0 ≤ c.f5 ∧ c.f5 ≤ 3) <;> intro t1 t0 <;> simp at t0 t1 ⊢ <;> first | exact t0 | exact t1
theorem clause_s (c : Cl) (hs : smallClauseI c) : Ev (fun k => spec_IsClause.f k c.f0 c.f1 c.f2 c.f3 c.f4 c.f5 c.f6) (clauseB c) := by
  obtain ⟨h0, h6⟩ := hs
  have e0 := code_spec c.f0 h0
  have e6 := code_spec c.f6 h6
  unfold spec_IsClause.f clauseB
  refine Ev.bind e0 ?_
  simp only [need_s, in_s, Option.bind_some]
  have tail : ∀ b : Bool, Ev (fun k => spec_IsClause.j0 k b c.f0 c.f1 c.f2 c.f3 c.f4 c.f5 c.f6) (!b && (if c.f5 = 3 then codeB c.f6 else c.f6.toList == [])) := by
    intro b
    refine ev_succ ?_
    simp only [spec_IsClause.j0]
    cases b with
    | true => exact ev_some fun _ => rfl
    | false =>
      refine ev_neg (by simp) ?_
      by_cases h : c.f5 = 3
      · refine ev_pos h (Ev.bind e6 ?_)
        rw [if_pos h]
        exact Ev.now _
      · refine ev_neg h ?_
        rw [if_neg h]
        exact Ev.now _
  have t1 := tail true
  have t0 := tail false
  generalize (if c.f5 = 3 then codeB c.f6 else c.f6.toList == []) = z at *
  revert t0 t1
  cases needB c.f2 <;> cases needB c.f3 <;> cases needB c.f4 <;> cases codeB c.f0 <;> cases decide (-1 ≤ c.f1 ∧ c.f1 ≤ 6) <;> cases decide (0 ≤ c.f5 ∧ c.f5 ≤ 3) <;> intro t1 t0 <;> simp at t0 t1 ⊢ <;> first | exact t0 | exact t1
theorem ev_later {α : Type} {g : Nat → Option α} {r : α} (h : Ev g r) : Ev (fun k => g (k + 1)) r := by
  obtain ⟨K, h⟩ := h
  exact ⟨K, fun k hk => h (k + 1) (by omega)⟩
/-- The last clause's test as the reference has it. -/
def lastR (c : Cl) : Bool := decide (c.f1 = -1 ∧ c.f2 = 0 ∧ c.f3 = 0 ∧ c.f4 = 0 ∧ c.f5 ≠ 3)
theorem lastR_eq (c : Cl) (h : clauseB c = true) : lastR c = lastB c := by
  unfold clauseB needB at h
  simp only [Bool.and_eq_true, decide_eq_true_eq] at h
  obtain ⟨⟨⟨⟨⟨⟨g0, g1⟩, g2⟩, g3⟩, g4⟩, g5⟩, g6⟩ := h
  unfold lastR lastB
  rw [decide_eq_decide]
  constructor
  · rintro ⟨a, b, c, d, e⟩; exact ⟨a, by omega, e⟩
  · rintro ⟨a, b, c⟩; exact ⟨a, by omega, by omega, by omega, c⟩
theorem lastR_ev (c : Cl) : Ev (fun k => if c.f1 = -1 then (if c.f2 = 0 then (if c.f3 = 0 then (if c.f4 = 0 then some (c.f5 != 3) else some false) else some false) else some false) else some false) (lastR c) := by
  unfold lastR
  by_cases h1 : c.f1 = -1
  case neg =>
    exact ev_neg h1 (ev_some fun _ => by simp [h1])
  refine ev_pos h1 ?_
  by_cases h2 : c.f2 = 0
  case neg =>
    exact ev_neg h2 (ev_some fun _ => by simp [h2])
  refine ev_pos h2 ?_
  by_cases h3 : c.f3 = 0
  case neg =>
    exact ev_neg h3 (ev_some fun _ => by simp [h3])
  refine ev_pos h3 ?_
  by_cases h4 : c.f4 = 0
  case neg =>
    exact ev_neg h4 (ev_some fun _ => by simp [h4])
  refine ev_pos h4 ?_
  exact ev_some fun _ => by by_cases h5 : c.f5 = 3 <;> simp [h1, h2, h3, h4, h5]
/-- What holds of each from some round on holds of all. -/
theorem ev_each {α : Type} (l : List α) (G : Nat → α → Option Bool) (ok : α → Bool) (h : ∀ x ∈ l, Ev (fun k => G k x) (ok x)) : ∃ K, ∀ k, K ≤ k → ∀ x ∈ l, G k x = some (ok x) := by
  induction l with
  | nil => exact ⟨0, fun _ _ x hx => by cases hx⟩
  | cons y l ih =>
    obtain ⟨K, hK⟩ := ih fun x hx => h x (List.mem_cons_of_mem _ hx)
    obtain ⟨L, hL⟩ := h y (List.mem_cons_self ..)
    refine ⟨max K L, fun k hk x hx => ?_⟩
    rcases List.mem_cons.1 hx with rfl | hx
    · exact hL k (by omega)
    · exact hK k (by omega) x hx
theorem rulebook_i (l : List Cl) (hs : ∀ x ∈ l, smallClauseI x) : Ev (fun k => impl_IsRulebook.f k l) (rulebookB l) := by
  obtain ⟨K, hK⟩ := ev_each l (fun k c => impl_IsClause.f k c.f0 c.f1 c.f2 c.f3 c.f4 c.f5 c.f6) clauseB (fun x hx => clause_i x (hs x hx))
  refine ⟨K, fun k hk => ?_⟩
  show impl_IsRulebook.f k l = _
  unfold impl_IsRulebook.f
  rw [if_pos]
  unfold clausesAt
  rw [List.all_eq_true]
  intro x hx
  rw [hK k hk x hx]
  simp
theorem rulebook_s (l : List Cl) (hs : ∀ x ∈ l, smallClauseI x) (hl : l.length ≤ 1048576) : Ev (fun k => spec_IsRulebook.f k l) (rulebookB l) := by
  unfold spec_IsRulebook.f
  simp only [in_s, Option.bind_some]
  by_cases hn : 1 ≤ l.length ∧ l.length ≤ 12
  case neg =>
    refine ev_neg (by simp; omega) ?_
    have : rulebookB l = false := by unfold rulebookB; simp only [decide_eq_false hn, Bool.false_and]
    rw [this]
    exact Ev.now _
  refine ev_pos (by simp; omega) ?_
  have h := ev_all l.length (fun k i => spec_IsRulebook.l0 k l i) (fun i => clauseB (at0 l i) && linkB l i) (lastR (at0 l (l.length - 1)))
    (fun i r hi hp hr => ?_) (fun i hi hp => ?_) ?_ l.length 0 (by omega)
  · refine ev_cast h ?_
    rw [range_all]
    unfold rulebookB
    rw [decide_eq_true hn, Bool.true_and, Bool.eq_iff_iff]
    simp only [Bool.and_eq_true, decide_eq_true_eq, List.all_eq_true]
    constructor
    · rintro ⟨a, c⟩
      rw [lastR_eq _ (a _ (by omega)).1] at c
      refine ⟨⟨fun x hx => ?_, fun i hi => (a i hi).2⟩, c⟩
      obtain ⟨i, hi, rfl⟩ := List.mem_iff_getElem.1 hx
      rw [← getD_lt l i z94 hi]
      exact (a i hi).1
    · rintro ⟨⟨a, b⟩, c⟩
      refine ⟨fun i hi => ⟨a _ (mem_getD _ _ _ hi), b i hi⟩, ?_⟩
      rw [lastR_eq _ (a _ (mem_getD _ _ _ (by omega)))]
      exact c
  · rw [Bool.and_eq_true] at hp
    have hx := mem_getD l i z94 hi
    obtain ⟨p1, p2⟩ := hp
    unfold linkB at p2
    rw [Bool.and_eq_true, decide_eq_true_eq, decide_eq_true_eq] at p2
    refine ev_succ (ev_succ ?_)
    simp only [spec_IsRulebook.l0, rdCl]
    refine ev_pos (by omega) (ev_pos (by omega) ?_)
    refine Ev.bind (Ev.congr (fun _ => rfl) (ev_later (clause_s _ (hs _ hx)))) ?_
    refine ev_pos p1 (Ev.bind (ev_later (find_s l _ hl)) ?_)
    rw [p2.1]
    simp only [spec_IsRulebook.j1]
    refine ev_neg (by simp) ?_
    by_cases hg : (at0 l i).f5 = 3
    · refine ev_pos hg (Ev.bind (find_s l _ hl) ?_)
      have := p2.2 hg
      refine ev_neg (Int.not_le.mpr this) ?_
      rw [w64s i (by omega)]
      exact hr
    · refine ev_neg hg ?_
      rw [w64s i (by omega)]
      exact hr
  · have hx := mem_getD l i z94 hi
    refine ev_succ (ev_succ ?_)
    simp only [spec_IsRulebook.l0, rdCl]
    refine ev_pos (by omega) (ev_pos (by omega) ?_)
    refine Ev.bind (ev_later (clause_s _ (hs _ hx))) ?_
    cases hc : clauseB (at0 l i) with
    | false =>
      simp only [at0] at hc
      refine ev_neg (by simp [hc]) ?_
      exact ev_some fun _ => by simp only [spec_IsRulebook.j1]; rfl
    | true =>
      rw [hc, Bool.true_and] at hp
      unfold linkB at hp
      refine ev_pos rfl (Ev.bind (ev_later (find_s l _ hl)) ?_)
      simp only [spec_IsRulebook.j1]
      by_cases hq : idxP (hasCode (at0 l i).f0) l = i
      · rw [decide_eq_true hq, Bool.true_and, decide_eq_false_iff_not] at hp
        simp only [at0] at hq hp
        rw [hq]
        refine ev_neg (by simp) ?_
        by_cases hg : (at0 l i).f5 = 3
        · refine ev_pos hg (Ev.bind (find_s l _ hl) ?_)
          refine ev_pos (Classical.byContradiction fun hh => hp fun _ => by omega) (Ev.now _)
        · exact absurd (fun h => absurd h hg) hp
      · exact ev_pos (by simpa using hq) (Ev.now _)
  · refine ev_succ ?_
    simp only [spec_IsRulebook.l0, rdCl]
    refine ev_neg (by omega) ?_
    rw [w64p l.length (by omega) (by omega)]
    refine ev_pos (by omega) (ev_pos (by omega) ?_)
    simp only [rdCl]
    exact lastR_ev _
end Go.Proofs.Ytmfbkbbgokjhnaa.Pu
