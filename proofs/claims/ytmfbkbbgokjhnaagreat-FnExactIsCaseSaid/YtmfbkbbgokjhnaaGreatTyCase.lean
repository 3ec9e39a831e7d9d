/- The laws' helpers over a Case, as plain functions on its lists. -/
import Derived.Test.YtmfbkbbgokjhnaaGreatFx0
import Derived.Test.YtmfbkbbgokjhnaaGreatFx18
import Derived.Test.YtmfbkbbgokjhnaaGreatFx38
import Derived.Test.YtmfbkbbgokjhnaaGreatTyInterest
import Derived.Test.YtmfbkbbgokjhnaaGreatTyEvent
import Derived.Test.YtmfbkbbgokjhnaaGreatTyClause
import Derived.Test.YtmfbkbbgokjhnaaGreatTyBand
import Derived.Test.YtmfbkbbgokjhnaaGreatTyStep
namespace Go.Proofs.YtmfbkbbgokjhnaaGreat.Pu
open Go.RowKit Go.Proofs.YtmfbkbbgokjhnaaGreatW.PrintWords Go.Proofs.YtmfbkbbgokjhnaaGreat.F
set_option linter.unusedVariables false
set_option linter.unusedSimpArgs false
def fewL {α : Type} (l : List α) (p : α → Prop) : Prop := l.length ≤ 1048576 ∧ ∀ x ∈ l, p x
def bigL {α : Type} (l : List α) (p : α → Prop) : Prop := l.length ≤ maxLen ∧ ∀ x ∈ l, p x
theorem szCase1 (l0 : List S96) (l1 : List S98) (l2 : List S101) (l3 : List S117) (l4 : List S119) (a5 a6 a : Int) (h0 : 0 ≤ a) (h1 : a ≤ 1048576)
    (b0 : bigL l0 bigInterest) (b1 : bigL l1 bigEvent) (b2 : bigL l2 bigClause) (b3 : l3.length ≤ maxLen) (b4 : l4.length ≤ maxLen) :
    ∃ r, Ev (fun k => laws_szCase.f k l0 l1 l2 l3 l4 a5 a6 a) r ∧ (r < 0 ∨ (0 ≤ r ∧ r ≤ a ∧ fewL l0 smallInterest ∧ fewL l1 smallEvent ∧ fewL l2 smallClause ∧ l3.length ≤ 1048576 ∧ l4.length ≤ 1048576)) := by
  unfold laws_szCase.f
  obtain ⟨r0, e0, c0⟩ := szInterestS l0 a h0 h1 b0.1 b0.2
  by_cases n0 : r0 < 0
  · exact ⟨-1, Ev.bind e0 (ev_pos n0 (Ev.now _)), .inl (by omega)⟩
  obtain ⟨p0, q0, s0⟩ := c0.resolve_left n0
  obtain ⟨r1, e1, c1⟩ := szEventS l1 r0 p0 (by omega) b1.1 b1.2
  by_cases n1 : r1 < 0
  · exact ⟨-1, Ev.bind e0 (ev_neg n0 (Ev.bind e1 (ev_pos n1 (Ev.now _)))), .inl (by omega)⟩
  obtain ⟨p1, q1, s1⟩ := c1.resolve_left n1
  obtain ⟨r2, e2, c2⟩ := szClauseS l2 r1 p1 (by omega) b2.1 b2.2
  by_cases n2 : r2 < 0
  · exact ⟨-1, Ev.bind e0 (ev_neg n0 (Ev.bind e1 (ev_neg n1 (Ev.bind e2 (ev_pos n2 (Ev.now _)))))), .inl (by omega)⟩
  obtain ⟨p2, q2, s2⟩ := c2.resolve_left n2
  obtain ⟨r3, e3, c3⟩ := szBandS l3 r2 p2 (by omega) b3
  by_cases n3 : r3 < 0
  · exact ⟨-1, Ev.bind e0 (ev_neg n0 (Ev.bind e1 (ev_neg n1 (Ev.bind e2 (ev_neg n2 (ev_bind_eq e3 (ev_pos n3 (Ev.now _)))))))), .inl (by omega)⟩
  obtain ⟨p3, q3, s3⟩ := c3.resolve_left n3
  obtain ⟨r4, e4, c4⟩ := szStepS l4 r3 p3 (by omega) b4
  by_cases n4 : r4 < 0
  · exact ⟨-1, Ev.bind e0 (ev_neg n0 (Ev.bind e1 (ev_neg n1 (Ev.bind e2 (ev_neg n2 (ev_bind_eq e3 (ev_neg n3 (ev_bind_eq e4 (ev_pos n4 (Ev.now _)))))))))), .inl (by omega)⟩
  obtain ⟨p4, q4, s4⟩ := c4.resolve_left n4
  exact ⟨r4, Ev.bind e0 (ev_neg n0 (Ev.bind e1 (ev_neg n1 (Ev.bind e2 (ev_neg n2 (ev_bind_eq e3 (ev_neg n3 (ev_bind_eq e4 (ev_neg n4 (Ev.now _)))))))))), .inr ⟨p4, by omega, s0, s1, s2, s3, s4⟩⟩
theorem toCase1 (l0 : List S96) (l1 : List S98) (l2 : List S101) (l3 : List S117) (l4 : List S119) (a5 a6 : Int)
    (b0 : l0.length ≤ 1048576) (b1 : l1.length ≤ 1048576) (b2 : l2.length ≤ 1048576) (b3 : l3.length ≤ 1048576) (b4 : l4.length ≤ 1048576) :
    Ev (fun k => laws_toCase.f k l0 l1 l2 l3 l4 a5 a6) (l0.map cvInterest, l1.map cvEvent, l2.map cvClause, l3.map cvBand, l4.map cvStep, a5, a6) := by
  unfold laws_toCase.f
  exact Ev.bind (toInterestS l0 b0) (Ev.bind (toEventS l1 b1) (Ev.bind (toClauseS l2 b2) (Ev.bind (toBandS l3 b3) (Ev.bind (toStepS l4 b4) (Ev.now _)))))
theorem eqCase1 (l0 : List S103) (l1 : List S65) (l2 : List S105) (l3 : List S109) (l4 : List S111) (a5 a6 : Int)
    (b0 : l0.length ≤ 1048576) (b1 : l1.length ≤ 1048576) (b2 : l2.length ≤ 1048576) (b3 : l3.length ≤ 1048576) (b4 : l4.length ≤ 1048576) :
    Ev (fun k => laws_eqCase.f k l0 l1 l2 l3 l4 a5 a6 l0 l1 l2 l3 l4 a5 a6) true := by
  unfold laws_eqCase.f
  exact Ev.bind (eqInterestS l0 (by omega)) (ev_pos rfl (Ev.bind (eqEventS l1 (by omega)) (ev_pos rfl (Ev.bind (eqClauseS l2 (by omega)) (ev_pos rfl (Ev.bind (eqBandS l3 (by omega)) (ev_pos rfl (Ev.bind (eqStepS l4 (by omega)) (ev_pos rfl (ev_pos rfl (ev_pos rfl (Ev.now _))))))))))))
/-- A case's lists, small. -/
structure SmallCase (l0 : List S103) (l1 : List S65) (l2 : List S105) (l3 : List S109) (l4 : List S111) : Prop where
  n0 : l0.length ≤ 1048576
  n1 : l1.length ≤ 1048576
  n2 : l2.length ≤ 1048576
  n3 : l3.length ≤ 1048576
  n4 : l4.length ≤ 1048576
  s0 : ∀ x ∈ l0, smallInterestI x
  s1 : ∀ x ∈ l1, smallEventI x
  s2 : ∀ x ∈ l2, smallClauseI x
theorem smallCase_map {l0 : List S96} {l1 : List S98} {l2 : List S101} {l3 : List S117} {l4 : List S119}
    (b0 : fewL l0 smallInterest) (b1 : fewL l1 smallEvent) (b2 : fewL l2 smallClause) (b3 : l3.length ≤ 1048576) (b4 : l4.length ≤ 1048576) : SmallCase (l0.map cvInterest) (l1.map cvEvent) (l2.map cvClause) (l3.map cvBand) (l4.map cvStep) :=
  ⟨by simpa using b0.1, by simpa using b1.1, by simpa using b2.1, by simpa using b3, by simpa using b4, smallInterest_map l0 b0.2, smallEvent_map l1 b1.2, smallClause_map l2 b2.2⟩
end Go.Proofs.YtmfbkbbgokjhnaaGreat.Pu
