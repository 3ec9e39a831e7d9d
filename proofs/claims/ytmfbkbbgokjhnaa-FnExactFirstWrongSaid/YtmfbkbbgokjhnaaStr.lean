/- Lists of strings: the laws' helpers, and what a text's mark is. -/
import Derived.Test.YtmfbkbbgokjhnaaFx2
import Derived.Test.YtmfbkbbgokjhnaaFx15
import Derived.Test.YtmfbkbbgokjhnaaFx25
import Derived.Test.YtmfbkbbgokjhnaaFx27
import Derived.Test.YtmfbkbbgokjhnaaPu
namespace Go.Proofs.Ytmfbkbbgokjhnaa.Pu
open Go.RowKit Go.Proofs.YtmfbkbbgokjhnaaW.PrintWords Go.Proofs.Ytmfbkbbgokjhnaa.F
set_option linter.unusedVariables false
set_option linter.unusedSimpArgs false
theorem rdS (l : List ByteArray) (i : Nat) : rdOf ByteArray.empty l (i : Int) = l.getD i ByteArray.empty := by simp [rdOf]
/-- The same texts, byte by byte. -/
def sameStrs (a b : List ByteArray) : Bool := decide (a.map (·.toList) = b.map (·.toList))
theorem sameStrs_at (a b : List ByteArray) (h : a.length = b.length) : (List.range' 0 a.length).all (fun i => decide ((a.getD i ByteArray.empty).toList = (b.getD i ByteArray.empty).toList)) = sameStrs a b := by
  rw [range_all]
  unfold sameStrs
  rw [decide_eq_decide]
  constructor
  · intro H
    refine list_ext_getD _ _ [] (by simpa using h) fun i hi => ?_
    rw [List.length_map] at hi
    rw [getD_map_lt _ _ _ ByteArray.empty _ hi, getD_map_lt _ _ _ ByteArray.empty _ (by omega)]
    simpa using H i hi
  · intro H i hi
    have := congrArg (fun l => l.getD i []) H
    simp only at this
    rw [getD_map_lt _ _ _ ByteArray.empty _ hi, getD_map_lt _ _ _ ByteArray.empty _ (by omega)] at this
    simpa using this
theorem sameStrs_len (a b : List ByteArray) (h : ¬ a.length = b.length) : sameStrs a b = false := by
  unfold sameStrs
  rw [decide_eq_false_iff_not]
  intro H
  exact h (by simpa using congrArg List.length H)
theorem equalStr (a b : List ByteArray) (hl : a.length ≤ 8796093022208) : Ev (fun k => slices_Equal_string_string.f k a b) (sameStrs a b) := by
  unfold slices_Equal_string_string.f
  by_cases h : a.length = b.length
  case neg =>
    rw [sameStrs_len a b h]
    exact ev_neg (by omega) (Ev.now _)
  refine ev_pos (by omega) ?_
  have key := ev_all a.length (fun k i => slices_Equal_string_string.l0 k a b (a.length : Int) i) (fun i => decide ((a.getD i ByteArray.empty).toList = (b.getD i ByteArray.empty).toList)) true
    (fun i r hi hp hr => ?_) (fun i hi hp => ?_) ?_ a.length 0 (by omega)
  · rw [sameStrs_at a b h, Bool.and_true] at key
    exact key
  · refine Ev.step (f := fun k => slices_Equal_string_string.l0 k a b (a.length : Int) ((i + 1 : Nat) : Int)) (fun k => ?_) hr
    simp only [slices_Equal_string_string.l0, rdS]
    rw [if_pos (by omega), if_pos (by omega), if_pos (by omega), if_pos (by omega), if_pos (of_decide_eq_true hp), w64s i (by omega)]
  · exact ev_pt fun k => by
      simp only [slices_Equal_string_string.l0, rdS]
      rw [if_pos (by omega), if_pos (by omega), if_pos (by omega), if_pos (by omega), if_neg (of_decide_eq_false hp)]
  · exact ev_pt fun k => by simp only [slices_Equal_string_string.l0]; rw [if_neg (by omega)]
theorem eqStringS (a : List ByteArray) (hl : a.length ≤ 8796093022208) : Ev (fun k => laws_eqStringS.f k a a) true := by
  unfold laws_eqStringS.f
  refine ev_pos rfl ?_
  have key := ev_all a.length (fun k i => laws_eqStringS.l0 k a a i) (fun i => true) true
    (fun i r hi hp hr => ?_) (fun i hi hp => absurd hp (by simp)) ?_ a.length 0 (by omega)
  · rw [range_all] at key
    simpa using key
  · refine Ev.step (f := fun k => laws_eqStringS.l0 k a a ((i + 1 : Nat) : Int)) (fun k => ?_) hr
    simp only [laws_eqStringS.l0, rdS]
    rw [if_pos (by omega), if_pos (by omega), if_pos (by omega), if_pos True.intro, w64s i (by omega)]
  · exact ev_pt fun k => by simp only [laws_eqStringS.l0]; rw [if_neg (by omega)]
theorem szStringS (l : List ByteArray) (a : Int) (h0 : 0 ≤ a) (h1 : a ≤ 1048576) (hl : l.length ≤ maxLen) (hb : ∀ x ∈ l, x.size ≤ maxLen) : ∃ r, Ev (fun k => laws_szStringS.f k l a) r ∧ (r < 0 ∨ (0 ≤ r ∧ r ≤ a ∧ l.length ≤ 1048576 ∧ ∀ x ∈ l, x.size ≤ 1048576)) := by
  unfold maxLen at hl hb
  have e0 : wrap64 (a - (l.length : Int)) = a - (l.length : Int) := w64 (by omega) (by omega)
  unfold laws_szStringS.f
  rw [e0]
  by_cases hn : a - (l.length : Int) < 0
  · exact ⟨-1, ev_pos hn (Ev.now _), .inl (by omega)⟩
  have key : ∀ d i (s : Int), i + d = l.length → 0 ≤ s → s ≤ a - (l.length : Int) → ∃ r, Ev (fun k => laws_szStringS.l0 k l s (i : Int)) r ∧ (r < 0 ∨ (0 ≤ r ∧ r ≤ s ∧ ∀ j, i ≤ j → j < l.length → (l.getD j ByteArray.empty).size ≤ 1048576)) := by
    intro d
    induction d with
    | zero =>
      intro i s hi hs0 hs1
      obtain rfl : i = l.length := by omega
      exact ⟨s, ev_pt fun k => by simp only [laws_szStringS.l0]; rw [if_neg (by omega)], .inr ⟨hs0, by omega, fun j h1 h2 => absurd h1 (by omega)⟩⟩
    | succ d ih =>
      intro i s hi hs0 hs1
      have hx := hb _ (mem_getD l i ByteArray.empty (by omega))
      have e1 : wrap64 (s - ((l.getD i ByteArray.empty).size : Int)) = s - ((l.getD i ByteArray.empty).size : Int) := w64 (by omega) (by omega)
      by_cases hneg : s - ((l.getD i ByteArray.empty).size : Int) < 0
      · exact ⟨-1, ev_pt fun k => by simp only [laws_szStringS.l0, rdS]; rw [if_pos (by omega), if_pos (by omega), e1, if_pos hneg], .inl (by omega)⟩
      · obtain ⟨r, hr, hc⟩ := ih (i + 1) (s - ((l.getD i ByteArray.empty).size : Int)) (by omega) (by omega) (by omega)
        refine ⟨r, Ev.step (fun k => ?_) hr, hc.imp_right fun ⟨q0, q1, q2⟩ => ⟨q0, by omega, fun j h1 h2 => ?_⟩⟩
        · simp only [laws_szStringS.l0, rdS]; rw [if_pos (by omega), if_pos (by omega), e1, if_neg hneg, w64s i (by omega)]
        · by_cases e : j = i
          · subst e; omega
          · exact q2 j (by omega) h2
  obtain ⟨r, hr, hc⟩ := key l.length 0 (a - (l.length : Int)) (by omega) (by omega) (by omega)
  refine ⟨r, ev_neg hn hr, hc.imp_right fun ⟨q0, q1, q2⟩ => ⟨q0, by omega, by omega, fun x hx => ?_⟩⟩
  obtain ⟨j, hj, rfl⟩ := List.mem_iff_getElem.1 hx
  rw [← getD_lt l j ByteArray.empty hj]
  exact q2 j (by omega) hj
theorem toStringS (l : List ByteArray) (hl : l.length ≤ 1048576) : Ev (fun k => laws_toStringS.f k l) l := by
  unfold laws_toStringS.f
  refine ev_pos (by omega) (ev_pos (by simp; omega) ?_)
  obtain ⟨s, ⟨hs, hv⟩, hE⟩ := ev_inv l.length (fun k s i => laws_toStringS.l0 k l s i) (fun i s => s.length = l.length ∧ ∀ j, j < i → s.getD j ByteArray.empty = l.getD j ByteArray.empty) id
    (fun i s hi ⟨hs, hv⟩ => ⟨s.set i (l.getD i ByteArray.empty), ⟨by simpa using hs, fun j hj => by
        rw [getD_set_eq _ _ _ _ _ (by omega)]
        by_cases h : j = i
        · rw [if_pos h, h]
        · rw [if_neg h]; exact hv j (by omega)⟩, fun r hr => Ev.step (f := fun k => laws_toStringS.l0 k l (s.set i (l.getD i ByteArray.empty)) ((i + 1 : Nat) : Int)) (fun k => by
          simp only [laws_toStringS.l0, rdS]; rw [if_pos (by omega), if_pos (by omega), if_pos (by omega), w64s i (by omega), Int.toNat_natCast]) hr⟩)
    (fun s ⟨hs, hv⟩ => ev_pt fun k => by simp only [laws_toStringS.l0]; rw [if_neg (by omega)]; rfl)
    l.length 0 (List.replicate l.length (⟨#[]⟩ : ByteArray)) (by omega) ⟨by simp, fun j hj => absurd hj (Nat.not_lt_zero _)⟩
  have e : s = l := list_ext_getD _ _ ByteArray.empty hs fun i hi => hv i (by omega)
  rw [e] at hE
  simpa using hE
end Go.Proofs.Ytmfbkbbgokjhnaa.Pu
