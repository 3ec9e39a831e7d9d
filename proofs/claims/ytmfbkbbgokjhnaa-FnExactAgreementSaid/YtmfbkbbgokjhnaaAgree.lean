/- How many events two rulebooks decide alike. -/
import Derived.Test.YtmfbkbbgokjhnaaFx14
import Derived.Test.YtmfbkbbgokjhnaaFx16
import Derived.Test.YtmfbkbbgokjhnaaFx23
import Derived.Test.YtmfbkbbgokjhnaaFx25
import Derived.Test.YtmfbkbbgokjhnaaRules
import Derived.Test.YtmfbkbbgokjhnaaRulebook
namespace Go.Proofs.Ytmfbkbbgokjhnaa.Pu
open Go.RowKit Go.Proofs.YtmfbkbbgokjhnaaW.PrintWords Go.Proofs.Ytmfbkbbgokjhnaa.F
set_option linter.unusedVariables false
set_option linter.unusedSimpArgs false
def alikeB (a b : List Cl) (e : Evt) : Bool := resM a e == resM b e
def agreeRes (a b : List Cl) (log : List Evt) : Int × Int := if (rulebookB a && (rulebookB b && isLog log)) = true then (((log.countP (alikeB a b) : Nat) : Int), 0) else (0, 1)
theorem eachG {α β : Type} (l : List α) (G : Nat → α → Option β) (v : α → β) (h : ∀ x ∈ l, Ev (fun k => G k x) (v x)) : ∃ K, ∀ k, K ≤ k → ∀ x ∈ l, G k x = some (v x) := by
  induction l with
  | nil => exact ⟨0, fun _ _ x hx => by cases hx⟩
  | cons y l ih =>
    obtain ⟨K, hK⟩ := ih fun x hx => h x (List.mem_cons_of_mem _ hx)
    obtain ⟨L, hL⟩ := h y (List.mem_cons_self ..)
    refine ⟨max K L, fun k hk x hx => ?_⟩
    rcases List.mem_cons.1 hx with rfl | hx
    · exact hL k (by omega)
    · exact hK k (by omega) x hx
theorem Agreement_i (a b : List Cl) (log : List Evt) (ha : ∀ x ∈ a, smallClauseI x) (hb : ∀ x ∈ b, smallClauseI x) (he : ∀ x ∈ log, smallEventI x) (hm : log.length ≤ 1048576) : Ev (fun k => impl_Agreement.f k a b log) (agreeRes a b log) := by
  unfold impl_Agreement.f agreeRes
  refine Ev.bind (rulebook_i a ha) ?_
  cases hra : rulebookB a with
  | false => refine ev_neg (by simp) ?_; rw [if_neg (by simp)]; exact Ev.now _
  | true =>
  refine ev_pos rfl (Ev.bind (rulebook_i b hb) ?_)
  cases hrb : rulebookB b with
  | false => refine ev_neg (by simp) ?_; rw [if_neg (by simp)]; exact Ev.now _
  | true =>
  refine ev_pos rfl (Ev.bind (isLog_i log hm he) ?_)
  cases hE : isLog log with
  | false => refine ev_neg (by simp) ?_; rw [if_neg (by simp)]; exact Ev.now _
  | true =>
  refine ev_pos rfl ?_
  rw [if_pos (show (true && (true && true)) = true from rfl)]
  obtain ⟨K1, h1⟩ := eachG log (fun k e => impl_decide.f k a e.f0 e.f1 e.f2 e.f3 e.f4 e.f5 e.f6) (fun e => (resM a e, codesM a e)) (fun e _ => decide_i (rb_of hra) e)
  obtain ⟨K2, h2⟩ := eachG log (fun k e => impl_decide.f k b e.f0 e.f1 e.f2 e.f3 e.f4 e.f5 e.f6) (fun e => (resM b e, codesM b e)) (fun e _ => decide_i (rb_of hrb) e)
  have h15 := (isLog_events hE).2
  refine ⟨max K1 K2, fun k hk => ?_⟩
  have g1 := h1 k (by omega)
  have g2 := h2 k (by omega)
  show (if log.length ≤ 1000000 ∧ agreeAt k a b log = true then some (((log.countP (agreeB k a b) : Nat) : Int), (0 : Int)) else none) = _
  have hA : agreeAt k a b log = true := by
    unfold agreeAt
    rw [List.all_eq_true]
    intro e hx
    have e1 := g1 e hx
    have e2 := g2 e hx
    try simp only at e1 e2
    rw [e1, e2]
    rfl
  rw [if_pos ⟨by omega, hA⟩]
  have : log.countP (agreeB k a b) = log.countP (alikeB a b) := by
    apply List.countP_congr
    intro e hx
    have e1 := g1 e hx
    have e2 := g2 e hx
    try simp only at e1 e2
    unfold agreeB alikeB
    rw [e1, e2]
    rfl
  rw [this]
theorem Agreement_s (a b : List Cl) (log : List Evt) (ha : ∀ x ∈ a, smallClauseI x) (hb : ∀ x ∈ b, smallClauseI x) (he : ∀ x ∈ log, smallEventI x) (hla : a.length ≤ 1048576) (hlb : b.length ≤ 1048576) (hm : log.length ≤ 1048576) : Ev (fun k => spec_Agreement.f k a b log) (agreeRes a b log) := by
  unfold spec_Agreement.f agreeRes
  refine Ev.bind (rulebook_s a ha hla) ?_
  cases hra : rulebookB a with
  | false =>
    refine ev_neg (by simp) (ev_succ ?_)
    rw [if_neg (by simp)]
    simp only [spec_Agreement.j0]
    exact ev_pos True.intro (Ev.now _)
  | true =>
  refine ev_pos rfl (Ev.bind (rulebook_s b hb hlb) ?_)
  cases hrb : rulebookB b with
  | false =>
    refine ev_neg (by simp) (ev_succ ?_)
    rw [if_neg (by simp)]
    simp only [spec_Agreement.j0]
    exact ev_pos True.intro (Ev.now _)
  | true =>
  refine ev_pos rfl (Ev.bind (isLog_s log hm he) (ev_succ ?_))
  cases hE : isLog log with
  | false =>
    rw [if_neg (by simp)]
    simp only [spec_Agreement.j0]
    exact ev_pos rfl (Ev.now _)
  | true =>
  rw [if_pos (show (true && (true && true)) = true from rfl)]
  simp only [spec_Agreement.j0]
  refine ev_neg (by simp) ?_
  have key : ∀ d i (n : Nat), i + d = log.length → n ≤ i → Ev (fun k => spec_Agreement.l0 k a b log (n : Int) (i : Int)) (((n + (log.drop i).countP (alikeB a b) : Nat) : Int), 0) := by
    intro d
    induction d with
    | zero =>
      intro i n hi hn
      rw [List.drop_eq_nil_of_le (by omega), List.countP_nil, Nat.add_zero]
      exact ev_pt fun k => by simp only [spec_Agreement.l0]; rw [if_neg (by omega)]
    | succ d ih =>
      intro i n hi hn
      have hlt : i < log.length := by omega
      have hx : log.getD i z43 = log[i] := getD_lt _ _ _ hlt
      refine ev_succ ?_
      simp only [spec_Agreement.l0, rdEv]
      rw [List.drop_eq_getElem_cons hlt, List.countP_cons, ← hx]
      refine ev_pos (by omega) (ev_pos (by omega) (Ev.bind (result_s (rb_of hra) _) (Ev.bind (result_s (rb_of hrb) _) ?_)))
      by_cases hc : resM a (log.getD i z43) = resM b (log.getD i z43)
      · refine ev_pos hc ?_
        have hB : alikeB a b (log.getD i z43) = true := by unfold alikeB; rw [hc]; simp
        rw [if_pos hB, w64s i (by omega), w64s n (by omega), show n + ((log.drop (i + 1)).countP (alikeB a b) + 1) = (n + 1) + (log.drop (i + 1)).countP (alikeB a b) by omega]
        exact ih (i + 1) (n + 1) (by omega) (by omega)
      · refine ev_neg hc ?_
        have hB : ¬ alikeB a b (log.getD i z43) = true := by unfold alikeB; simpa using hc
        rw [if_neg hB, w64s i (by omega), Nat.add_zero]
        exact ih (i + 1) n (by omega) (by omega)
  have h := key log.length 0 0 (by omega) (by omega)
  rw [List.drop_zero, Nat.zero_add] at h
  exact h
end Go.Proofs.Ytmfbkbbgokjhnaa.Pu
