/- The laws' helpers over a Decision (a number and a list of strings). -/
import Derived.Test.YtmfbkbbgokjhnaaFx2
import Derived.Test.YtmfbkbbgokjhnaaFx15
import Derived.Test.YtmfbkbbgokjhnaaFx27
import Derived.Test.YtmfbkbbgokjhnaaStr
namespace Go.Proofs.Ytmfbkbbgokjhnaa.Pu
open Go.RowKit Go.Proofs.YtmfbkbbgokjhnaaW.PrintWords Go.Proofs.Ytmfbkbbgokjhnaa.F
set_option linter.unusedVariables false
set_option linter.unusedSimpArgs false
theorem szDecision1 (d : Int) (l : List ByteArray) (a : Int) (h0 : 0 ≤ a) (h1 : a ≤ 1048576) (hl : l.length ≤ maxLen) (hb : ∀ x ∈ l, x.size ≤ maxLen) : ∃ r, Ev (fun k => laws_szDecision.f k d l a) r ∧ (r < 0 ∨ (0 ≤ r ∧ r ≤ a ∧ l.length ≤ 1048576)) := by
  unfold laws_szDecision.f
  obtain ⟨r, hr, hc⟩ := szStringS l a h0 h1 hl hb
  by_cases hn : r < 0
  · exact ⟨-1, Ev.bind hr (ev_pos hn (Ev.now _)), .inl (by omega)⟩
  · have hc' := hc.resolve_left hn
    exact ⟨r, Ev.bind hr (ev_neg hn (Ev.now _)), .inr ⟨hc'.1, hc'.2.1, hc'.2.2.1⟩⟩
theorem toDecision1 (d : Int) (l : List ByteArray) (hl : l.length ≤ 1048576) : Ev (fun k => laws_toDecision.f k d l) (d, l) := by
  unfold laws_toDecision.f
  exact Ev.bind (toStringS l hl) (Ev.now _)
theorem eqDecision1 (d : Int) (l : List ByteArray) (hl : l.length ≤ 1048576) : Ev (fun k => laws_eqDecision.f k d l d l) true := by
  unfold laws_eqDecision.f
  exact ev_pos rfl (Ev.bind (eqStringS l (by omega)) (ev_pos rfl (Ev.now _)))
end Go.Proofs.Ytmfbkbbgokjhnaa.Pu
