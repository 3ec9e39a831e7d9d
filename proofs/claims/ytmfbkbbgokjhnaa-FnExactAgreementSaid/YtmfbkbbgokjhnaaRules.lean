/- Rulebooks: what the program and the reference compute on one: finding, matching, chains of clauses. -/
import Derived.Test.YtmfbkbbgokjhnaaFx8
import Derived.Test.YtmfbkbbgokjhnaaFx12
import Derived.Test.YtmfbkbbgokjhnaaFx18
import Derived.Test.YtmfbkbbgokjhnaaFx23
import Derived.Test.YtmfbkbbgokjhnaaFx14
import Derived.Test.YtmfbkbbgokjhnaaFx23
import Derived.Test.YtmfbkbbgokjhnaaRuleFind
namespace Go.Proofs.Ytmfbkbbgokjhnaa.Pu
open Go.RowKit Go.Proofs.YtmfbkbbgokjhnaaW.PrintWords Go.Proofs.Ytmfbkbbgokjhnaa.F
set_option linter.unusedVariables false
set_option linter.unusedSimpArgs false
theorem meets_s (a : Int) (b : Bool) : spec_l09Meets.f a b = some (needM a b) := by
  unfold spec_l09Meets.f needM
  by_cases h : a = 0
  · simp [h]
  · rw [if_neg h]
    by_cases h1 : a = 1 <;> cases b <;> simp [h, h1]
theorem match_s (e : Evt) (c : Cl) : spec_l09Matches.f c.f0 c.f1 c.f2 c.f3 c.f4 c.f5 c.f6 e.f0 e.f1 e.f2 e.f3 e.f4 e.f5 e.f6 = some (matchB e c) := by
  unfold spec_l09Matches.f matchB
  simp only [meets_s, Option.bind_some]
  by_cases h : c.f1 = -1 <;> by_cases h1 : c.f1 = e.f1 <;> cases needM c.f2 e.f4 <;> cases needM c.f3 e.f5 <;> cases needM c.f4 e.f6 <;> simp [h, h1]

/-- What a rulebook's test makes sure of. -/
structure RB (l : List Cl) : Prop where
  pos : 1 ≤ l.length
  le : l.length ≤ 12
  last : ∀ e, matchB e (at0 l (l.length - 1)) = true
  fin : (at0 l (l.length - 1)).f5 ≠ 3
  link : ∀ i, i < l.length → (at0 l i).f5 = 3 → (i : Int) < idxP (hasCode (at0 l i).f6) l
  uniq : ∀ i, i < l.length → idxP (hasCode (at0 l i).f0) l = i
  res : ∀ i, i < l.length → 0 ≤ (at0 l i).f5 ∧ (at0 l i).f5 ≤ 3
theorem rb_of {l : List Cl} (h : rulebookB l = true) : RB l := by
  unfold rulebookB at h
  simp only [Bool.and_eq_true, decide_eq_true_eq, List.all_eq_true] at h
  obtain ⟨⟨⟨⟨h1, h2⟩, h3⟩, h4⟩, h5⟩ := h
  have hc : ∀ i, i < l.length → clauseB (at0 l i) = true := fun i hi => h3 _ (mem_getD _ _ _ hi)
  have hL := hc (l.length - 1) (by omega)
  unfold lastB at h5
  unfold clauseB needB at hL
  simp only [Bool.and_eq_true, decide_eq_true_eq] at h5 hL
  obtain ⟨⟨⟨⟨⟨⟨g0, g1⟩, g2⟩, g3⟩, g4⟩, g5⟩, g6⟩ := hL
  replace h5 : (at0 l (l.length - 1)).f1 = -1 ∧ (at0 l (l.length - 1)).f2 + (at0 l (l.length - 1)).f3 + (at0 l (l.length - 1)).f4 = 0 ∧ (at0 l (l.length - 1)).f5 ≠ 3 := h5
  obtain ⟨h5a, h5b, h5c⟩ := h5
  refine ⟨h1, h2, fun e => ?_, h5c, fun i hi => ?_, fun i hi => ?_, fun i hi => ?_⟩
  · unfold matchB needM
    have a2 : (at0 l (l.length - 1)).f2 = 0 := by omega
    have a3 : (at0 l (l.length - 1)).f3 = 0 := by omega
    have a4 : (at0 l (l.length - 1)).f4 = 0 := by omega
    rw [h5a, a2, a3, a4]
    simp
  · have := h4 i hi
    unfold linkB at this
    simp only [Bool.and_eq_true, decide_eq_true_eq] at this
    exact this.2
  · have := h4 i hi
    unfold linkB at this
    simp only [Bool.and_eq_true, decide_eq_true_eq] at this
    exact this.1
  · have := hc i hi
    unfold clauseB at this
    simp only [Bool.and_eq_true, decide_eq_true_eq] at this
    exact this.1.2
/-- The first clause from place k on that matches. -/
def fmN (l : List Cl) (e : Evt) (k : Nat) : Nat := k + (l.drop k).findIdx (matchB e)
theorem fm_hit (l : List Cl) (e : Evt) (k : Nat) (hk : k < l.length) (h : matchB e (at0 l k) = true) : fmN l e k = k := by
  unfold fmN
  rw [List.drop_eq_getElem_cons hk, List.findIdx_cons, ← getD_lt l k z94 hk, h]
  rfl
theorem fm_miss (l : List Cl) (e : Evt) (k : Nat) (hk : k < l.length) (h : matchB e (at0 l k) = false) : fmN l e k = fmN l e (k + 1) := by
  unfold fmN
  rw [List.drop_eq_getElem_cons hk, List.findIdx_cons, ← getD_lt l k z94 hk, h]
  simp only [cond_false]
  omega
theorem fm_facts {l : List Cl} (H : RB l) (e : Evt) : ∀ d k, k + d + 1 = l.length → k ≤ fmN l e k ∧ fmN l e k < l.length ∧ matchB e (at0 l (fmN l e k)) = true ∧ ∀ j, k ≤ j → j < fmN l e k → matchB e (at0 l j) = false := by
  intro d
  induction d with
  | zero =>
    intro k hk
    have hm : matchB e (at0 l k) = true := by
      have := H.last e
      rwa [show l.length - 1 = k by omega] at this
    rw [fm_hit l e k (by omega) hm]
    exact ⟨by omega, by omega, hm, fun j h1 h2 => absurd h1 (by omega)⟩
  | succ d ih =>
    intro k hk
    cases hm : matchB e (at0 l k) with
    | true =>
      rw [fm_hit l e k (by omega) hm]
      exact ⟨by omega, by omega, hm, fun j h1 h2 => absurd h1 (by omega)⟩
    | false =>
      rw [fm_miss l e k (by omega) hm]
      obtain ⟨a, b, c, f⟩ := ih (k + 1) (by omega)
      refine ⟨by omega, b, c, fun j h1 h2 => ?_⟩
      by_cases ej : j = k
      · subst ej; exact hm
      · exact f j (by omega) h2
theorem fm_at {l : List Cl} (H : RB l) (e : Evt) (k : Nat) (hk : k < l.length) : k ≤ fmN l e k ∧ fmN l e k < l.length ∧ matchB e (at0 l (fmN l e k)) = true ∧ ∀ j, k ≤ j → j < fmN l e k → matchB e (at0 l j) = false := fm_facts H e (l.length - 1 - k) k (by omega)
theorem fm_s {l : List Cl} (H : RB l) (e : Evt) (k : Nat) (hk : k < l.length) : Ev (fun j => spec_l09First.f j l (k : Int) e.f0 e.f1 e.f2 e.f3 e.f4 e.f5 e.f6) (fmN l e k : Int) := by
  unfold spec_l09First.f
  have hle := H.le
  have key : ∀ d k, k + d + 1 = l.length → Ev (fun j => spec_l09First.l0 j l (k : Int) e.f0 e.f1 e.f2 e.f3 e.f4 e.f5 e.f6) (fmN l e k : Int) := by
    intro d
    induction d with
    | zero =>
      intro k hk
      have hm : matchB e (at0 l k) = true := by
        have := H.last e
        rwa [show l.length - 1 = k by omega] at this
      rw [fm_hit l e k (by omega) hm]
      exact ev_pt fun j => by
        simp only [spec_l09First.l0, rdCl, match_s, Option.bind_some]
        rw [if_pos (by omega), if_pos (by omega), if_pos hm]
    | succ d ih =>
      intro k hk
      cases hm : matchB e (at0 l k) with
      | true =>
        rw [fm_hit l e k (by omega) hm]
        exact ev_pt fun j => by
          simp only [spec_l09First.l0, rdCl, match_s, Option.bind_some]
          rw [if_pos (by omega), if_pos (by omega), if_pos hm]
      | false =>
        rw [fm_miss l e k (by omega) hm]
        refine (Ev.step (f := fun j => spec_l09First.l0 j l ((k + 1 : Nat) : Int) e.f0 e.f1 e.f2 e.f3 e.f4 e.f5 e.f6) (fun j => ?_) (ih (k + 1) (by omega)))
        simp only [spec_l09First.l0, rdCl, match_s, Option.bind_some]
        rw [if_pos (by omega), if_pos (by omega), if_neg (by rw [hm]; simp), w64s k (by omega)]
  exact key (l.length - 1 - k) k (by omega)
theorem idxP_findIdx {α : Type} (p : α → Bool) (l : List α) (h : l.findIdx p < l.length) : idxP p l = (l.findIdx p : Int) :=
  idxP_hit p l _ h List.findIdx_getElem (fun j hj => by simpa using List.not_of_lt_findIdx hj)
theorem fm_i {l : List Cl} (H : RB l) (e : Evt) (k : Nat) (hk : k < l.length) : impl_firstMatch.f l (k : Int) e.f0 e.f1 e.f2 e.f3 e.f4 e.f5 e.f6 = some (fmN l e k : Int) := by
  unfold impl_firstMatch.f
  obtain ⟨a, b, _, _⟩ := fm_at H e k hk
  rw [if_pos ⟨by omega, by omega⟩, Int.toNat_natCast, idxP_findIdx]
  · unfold fmN; simp
  · unfold fmN at b
    rw [List.length_drop]
    exact (show List.findIdx (matchB e) (l.drop k) < l.length - k by omega)
theorem find_i (l : List Cl) (code : ByteArray) : impl_findClause.f l code = some (idxP (hasCode code) l) := rfl
/-- Where a clause leads. -/
def dest (l : List Cl) (i : Nat) : Nat := (idxP (hasCode (at0 l i).f6) l).toNat
theorem dest_at {l : List Cl} (H : RB l) (i : Nat) (hi : i < l.length) (h : (at0 l i).f5 = 3) : i < dest l i ∧ dest l i < l.length ∧ idxP (hasCode (at0 l i).f6) l = (dest l i : Int) := by
  have h1 := H.link i hi h
  have h2 := (idxP_range (hasCode (at0 l i).f6) l).2
  unfold dest
  omega
/-- The places of a chain from place k on, and its last. -/
def chain (l : List Cl) (e : Evt) : Nat → Nat → List Nat
  | 0, _ => []
  | n + 1, k => fmN l e k :: (if (at0 l (fmN l e k)).f5 = 3 then chain l e n (dest l (fmN l e k)) else [])
def lastI (l : List Cl) (e : Evt) : Nat → Nat → Nat
  | 0, _ => 0
  | n + 1, k => if (at0 l (fmN l e k)).f5 = 3 then lastI l e n (dest l (fmN l e k)) else fmN l e k
theorem fm_go {l : List Cl} (H : RB l) (e : Evt) (k : Nat) (hk : k < l.length) (h : (at0 l (fmN l e k)).f5 = 3) : k < dest l (fmN l e k) ∧ dest l (fmN l e k) < l.length ∧ idxP (hasCode (at0 l (fmN l e k)).f6) l = (dest l (fmN l e k) : Int) := by
  obtain ⟨a, b, _, _⟩ := fm_at H e k hk
  obtain ⟨c, d, f⟩ := dest_at H _ b h
  exact ⟨by omega, d, f⟩
theorem chain_len (l : List Cl) (e : Evt) : ∀ n k, (chain l e n k).length ≤ n := by
  intro n
  induction n with
  | zero => intro k; simp [chain]
  | succ n ih =>
    intro k
    unfold chain
    have := ih (dest l (fmN l e k))
    split
    · simp only [List.length_cons]; omega
    · simp
theorem chain_last {l : List Cl} (H : RB l) (e : Evt) : ∀ n k, k < l.length → l.length - k ≤ n → (∃ xs, chain l e n k = xs ++ [lastI l e n k]) ∧ lastI l e n k < l.length ∧ (at0 l (lastI l e n k)).f5 ≠ 3 ∧ (∀ i ∈ chain l e n k, i < l.length) ∧ matchB e (at0 l (lastI l e n k)) = true := by
  intro n
  induction n with
  | zero => intro k h1 h2; omega
  | succ n ih =>
    intro k h1 h2
    obtain ⟨a, b, c, _⟩ := fm_at H e k h1
    unfold chain lastI
    by_cases h : (at0 l (fmN l e k)).f5 = 3
    · rw [if_pos h, if_pos h]
      obtain ⟨g1, g2, g3⟩ := fm_go H e k h1 h
      obtain ⟨⟨xs, q1⟩, q2, q3, q4, q5⟩ := ih _ g2 (by omega)
      refine ⟨⟨fmN l e k :: xs, by rw [q1]; rfl⟩, q2, q3, fun i hi => ?_, q5⟩
      rcases List.mem_cons.1 hi with rfl | hi
      · exact b
      · exact q4 i hi
    · rw [if_neg h, if_neg h]
      refine ⟨⟨[], rfl⟩, b, h, fun i hi => ?_, c⟩
      simp at hi
      omega
theorem chain_s {l : List Cl} (H : RB l) (e : Evt) : ∀ n k (acc : List Int), k < l.length → l.length - k ≤ n → acc.length + n ≤ 1000 → Ev (fun j => spec_l09Chain.l0 j l acc (k : Int) e.f0 e.f1 e.f2 e.f3 e.f4 e.f5 e.f6) (acc ++ (chain l e n k).map fun (i : Nat) => (i : Int)) := by
  intro n
  have hle := H.le
  induction n with
  | zero => intro k acc h1 h2 h3; omega
  | succ n ih =>
    intro k acc h1 h2 h3
    obtain ⟨a, b, c, _⟩ := fm_at H e k h1
    unfold chain
    refine ev_succ ?_
    simp only [spec_l09Chain.l0]
    refine Ev.bind (fm_s H e k h1) ?_
    refine ev_pos (by omega) ?_
    simp only [Option.bind_some, rdCl]
    refine ev_pos (by omega) (ev_pos (by omega) ?_)
    by_cases h : (at0 l (fmN l e k)).f5 = 3
    · obtain ⟨g1, g2, g3⟩ := fm_go H e k h1 h
      refine ev_pos h (Ev.bind (find_s l _ (by omega)) ?_)
      rw [g3, if_pos h, List.map_cons]
      have h' := ih _ (acc ++ [(fmN l e k : Int)]) g2 (by omega) (by rw [List.length_append]; simp only [List.length_cons, List.length_nil]; omega)
      rw [List.append_assoc, List.singleton_append] at h'
      exact h'
    · refine ev_neg h ?_
      rw [if_neg h]
      exact Ev.now _
theorem decide_l {l : List Cl} (H : RB l) (e : Evt) : ∀ n k (acc : List ByteArray), k < l.length → l.length - k ≤ n → acc.length + n ≤ 1000 → Ev (fun j => impl_decide.l0 j l acc (k : Int) e.f0 e.f1 e.f2 e.f3 e.f4 e.f5 e.f6) ((at0 l (lastI l e n k)).f5, acc ++ (chain l e n k).map fun i => (at0 l i).f0) := by
  intro n
  have hle := H.le
  induction n with
  | zero => intro k acc h1 h2 h3; omega
  | succ n ih =>
    intro k acc h1 h2 h3
    obtain ⟨a, b, c, _⟩ := fm_at H e k h1
    unfold chain lastI
    refine ev_succ ?_
    simp only [impl_decide.l0]
    refine ev_bind_eq (fm_i H e k h1) ?_
    simp only [Option.bind_some, rdCl, find_i]
    refine ev_pos (by omega) (ev_pos (by omega) (ev_pos (by omega) ?_))
    by_cases h : (at0 l (fmN l e k)).f5 = 3
    · obtain ⟨g1, g2, g3⟩ := fm_go H e k h1 h
      refine ev_pos h ?_
      rw [g3, if_pos h, if_pos h, List.map_cons]
      have h' := ih _ (acc ++ [(at0 l (fmN l e k)).f0]) g2 (by omega) (by rw [List.length_append]; simp only [List.length_cons, List.length_nil]; omega)
      rw [List.append_assoc, List.singleton_append] at h'
      exact h'
    · refine ev_neg h ?_
      rw [if_neg h, if_neg h]
      exact Ev.now _
/-- The whole chain, its result, its codes. -/
def chn (l : List Cl) (e : Evt) : List Nat := chain l e l.length 0
def lst (l : List Cl) (e : Evt) : Nat := lastI l e l.length 0
def resM (l : List Cl) (e : Evt) : Int := (at0 l (lst l e)).f5
def codesM (l : List Cl) (e : Evt) : List ByteArray := (chn l e).map fun i => (at0 l i).f0
theorem lst_at {l : List Cl} (H : RB l) (e : Evt) : (∃ xs, chn l e = xs ++ [lst l e]) ∧ lst l e < l.length ∧ (at0 l (lst l e)).f5 ≠ 3 ∧ (∀ i ∈ chn l e, i < l.length) ∧ matchB e (at0 l (lst l e)) = true := chain_last H e l.length 0 H.pos (by omega)
theorem chn_len {l : List Cl} (H : RB l) (e : Evt) : 1 ≤ (chn l e).length ∧ (chn l e).length ≤ 12 := by
  obtain ⟨⟨xs, hx⟩, _⟩ := lst_at H e
  have h2 : (chn l e).length ≤ l.length := chain_len l e l.length 0
  have h3 := H.le
  rw [hx] at h2 ⊢
  simp at h2 ⊢
  omega
theorem resM_range {l : List Cl} (H : RB l) (e : Evt) : 0 ≤ resM l e ∧ resM l e ≤ 2 := by
  obtain ⟨_, a, b, _⟩ := lst_at H e
  have := H.res _ a
  unfold resM
  omega
/-- The chain's last, read by index. -/
theorem last_get {xs : List Nat} {y : Nat} {c : List Nat} (h : c = xs ++ [y]) (z : Int) : (c.map fun (i : Nat) => (i : Int)).getD (c.length - 1) z = (y : Int) := by
  subst h
  simp
theorem chn_s {l : List Cl} (H : RB l) (e : Evt) : Ev (fun j => spec_l09Chain.f j l e.f0 e.f1 e.f2 e.f3 e.f4 e.f5 e.f6) ((chn l e).map fun (i : Nat) => (i : Int)) := by
  unfold spec_l09Chain.f
  have h := chain_s H e l.length 0 [] H.pos (by omega) (by have := H.le; simp; omega)
  simpa [chn] using h
theorem decide_i {l : List Cl} (H : RB l) (e : Evt) : Ev (fun j => impl_decide.f j l e.f0 e.f1 e.f2 e.f3 e.f4 e.f5 e.f6) (resM l e, codesM l e) := by
  unfold impl_decide.f
  have h := decide_l H e l.length 0 [] H.pos (by omega) (by have := H.le; simp; omega)
  simpa [chn, resM, codesM, lst] using h
theorem rd_last {l : List Cl} (H : RB l) (e : Evt) : wrap64 ((((chn l e).map fun (i : Nat) => (i : Int)).length : Int) - 1) = (((chn l e).length - 1 : Nat) : Int) ∧ rd ((chn l e).map fun (i : Nat) => (i : Int)) (((chn l e).length - 1 : Nat) : Int) = (lst l e : Int) := by
  obtain ⟨⟨xs, hx⟩, _⟩ := lst_at H e
  obtain ⟨h1, h2⟩ := chn_len H e
  refine ⟨?_, ?_⟩
  · rw [List.length_map]
    exact w64p _ h1 (by omega)
  · unfold rd
    rw [Int.toNat_natCast]
    exact last_get hx _
theorem result_s {l : List Cl} (H : RB l) (e : Evt) : Ev (fun j => spec_l10Result.f j l e.f0 e.f1 e.f2 e.f3 e.f4 e.f5 e.f6) (resM l e) := by
  unfold spec_l10Result.f
  refine Ev.bind (chn_s H e) ?_
  obtain ⟨h1, h2⟩ := rd_last H e
  obtain ⟨h3, h4⟩ := chn_len H e
  obtain ⟨_, h5, _⟩ := lst_at H e
  rw [h1]
  simp only [List.length_map, h2, rdCl]
  refine ev_pos (by omega) (ev_pos (by omega) (ev_pos (by omega) (ev_pos (by omega) ?_)))
  exact Ev.now _
end Go.Proofs.Ytmfbkbbgokjhnaa.Pu
