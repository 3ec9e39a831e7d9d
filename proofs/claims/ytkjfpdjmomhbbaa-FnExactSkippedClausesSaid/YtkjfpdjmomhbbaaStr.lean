/- Lists of strings: the laws' helpers, and what a text's mark is. -/
import Derived.Test.YtkjfpdjmomhbbaaFx18
import Derived.Test.YtkjfpdjmomhbbaaFx26
import Derived.Test.YtkjfpdjmomhbbaaFx27
import Derived.Test.YtkjfpdjmomhbbaaPu
namespace Go.Proofs.Ytkjfpdjmomhbbaa.Pu
open Go.RowKit Go.Proofs.YtkjfpdjmomhbbaaW.PrintWords Go.Proofs.Ytkjfpdjmomhbbaa.F
set_option linter.unusedVariables false
set_option linter.unusedSimpArgs false
theorem rdS (l : List ByteArray) (i : Nat) : rdOf ByteArray.empty l (i : Int) = l.getD i ByteArray.empty := by simp [rdOf]
/-- The same texts, byte by byte. -/
def sameStrs (a b : List ByteArray) : Bool := decide (a.map (·.toList) = b.map (·.toList))
theorem sameStrs_at (a b : List ByteArray) (h : a.length = b.length) : (List.range' 0 a.length).all (fun i => decide ((a.getD i ByteArray.empty).toList = (b.getD i ByteArray.empty).toList)) = sameStrs a b := by
  rw [range_all]
  unfold sameStrs
  rw [decide_eq_decide]
  constructor
  · intro H
    refine list_ext_getD _ _ [] (by simpa using h) fun i hi => ?_
    rw [List.length_map] at hi
    rw [getD_map_lt _ _ _ ByteArray.empty _ hi, getD_map_lt _ _ _ ByteArray.empty _ (by omega)]
    simpa using H i hi
  · intro H i hi
    have := congrArg (fun l => l.getD i []) H
    simp only at this
    rw [getD_map_lt _ _ _ ByteArray.empty _ hi, getD_map_lt _ _ _ ByteArray.empty _ (by omega)] at this
    simpa using this
theorem sameStrs_len (a b : List ByteArray) (h : ¬ a.length = b.length) : sameStrs a b = false := by
  unfold sameStrs
  rw [decide_eq_false_iff_not]
  intro H
  exact h (by simpa using congrArg List.length H)
theorem eqStringS (a : List ByteArray) (hl : a.length ≤ 8796093022208) : Ev (fun k => laws_eqStringS.f k a a) true := by
  unfold laws_eqStringS.f
  refine ev_pos rfl ?_
  have key := ev_all a.length (fun k i => laws_eqStringS.l0 k a a i) (fun i => true) true
    (fun i r hi hp hr => ?_) (fun i hi hp => absurd hp (by simp)) ?_ a.length 0 (by omega)
  · rw [range_all] at key
    simpa using key
  · refine Ev.step (f := fun k => laws_eqStringS.l0 k a a ((i + 1 : Nat) : Int)) (fun k => ?_) hr
    simp only [laws_eqStringS.l0, rdS]
    rw [if_pos (by omega), if_pos (by omega), if_pos (by omega), if_pos True.intro, w64s i (by omega)]
  · exact ev_pt fun k => by simp only [laws_eqStringS.l0]; rw [if_neg (by omega)]
/-- A mark's text is there. -/
theorem markText_ev (n : Int) (h0 : 0 ≤ n) (h1 : n ≤ 9000000000000000000) : ∃ t, Ev (fun k => laws_markText.f k n) t := by
  unfold laws_markText.f
  by_cases hz : n ≤ 0
  · exact ⟨_, ev_pos hz (Ev.now _)⟩
  have key : ∀ d (n : Nat) (s : ByteArray), n ≤ 9000000000000000000 → n < 10 ^ d → s.size + d ≤ 100 → ∃ t, Ev (fun k => laws_markText.l0 k (n : Int) s) t := by
    intro d
    induction d with
    | zero =>
      intro n s hb h hs
      obtain rfl : n = 0 := by simpa using h
      exact ⟨_, ev_pt fun k => by simp only [laws_markText.l0]; rw [if_neg (by simp), if_pos (by omega)]⟩
    | succ d ih =>
      intro n s hb h hs
      by_cases hn : n = 0
      · subst hn
        exact ⟨_, ev_pt fun k => by simp only [laws_markText.l0]; rw [if_neg (by simp), if_pos (by omega)]⟩
      have hdig : Int.tmod (n : Int) 10 = ((n % 10 : Nat) : Int) := by rw [Int.tmod_eq_emod_of_nonneg (by omega)]; rfl
      have hdiv : Int.tdiv (n : Int) 10 = ((n / 10 : Nat) : Int) := by rw [Int.tdiv_eq_ediv_of_nonneg (by omega)]; rfl
      have hlt : n / 10 < 10 ^ d := by
        rw [Nat.pow_succ] at h
        omega
      have hsz : ((strOfNums [wrap64 (48 + Int.tmod (n : Int) 10) % 256]) ++ s).size = 1 + s.size := by
        rw [ByteArray.size_append]
        rfl
      obtain ⟨t, ht⟩ := ih (n / 10) ((strOfNums [wrap64 (48 + Int.tmod (n : Int) 10) % 256]) ++ s) (by omega) hlt (by omega)
      refine ⟨t, Ev.step (fun k => ?_) ht⟩
      simp only [laws_markText.l0, Option.bind_some]
      rw [if_pos (by omega), if_pos (by rw [ByteArray.size_append] at hsz; omega), hdiv, w64 (i := ((n / 10 : Nat) : Int)) (by omega) (by omega)]
  obtain ⟨t, ht⟩ := key 19 n.toNat (⟨#[]⟩ : ByteArray) (by omega) (by omega) (by decide)
  rw [Int.toNat_of_nonneg h0] at ht
  exact ⟨t, ev_neg hz ht⟩
theorem markHeldStringS (l : List ByteArray) (hl : l.length ≤ 1048576) : ∃ k' m, 0 ≤ k' ∧ Ev (fun k => laws_markStringS.f k l 1) (k', m) ∧ Ev (fun k => laws_heldStringS.f k m 1) k' := by
  unfold laws_markStringS.f laws_heldStringS.f
  obtain ⟨s, ⟨hs, hx, hv⟩, hE⟩ := ev_inv l.length (fun k (s : List ByteArray × Int) i => laws_markStringS.l0 k s.1 s.2 i) (fun i s => s.1.length = l.length ∧ s.2 = 1 + (i : Int) ∧ ∀ j, j < i → Ev (fun k => laws_markText.f k (1 + (j : Int))) (s.1.getD j ByteArray.empty)) (fun s => (s.2, s.1))
    (fun i s hi ⟨hs, hx, hv⟩ => by
      obtain ⟨t, ht⟩ := markText_ev s.2 (by omega) (by omega)
      refine ⟨(s.1.set i t, s.2 + 1), ⟨by simpa using hs, by simp only; omega, fun j hj => ?_⟩, fun r hr => ?_⟩
      · rw [getD_set_eq _ _ _ _ _ (by omega)]
        by_cases h : j = i
        · rw [if_pos h, h, ← hx]; exact ht
        · rw [if_neg h]; exact hv j (by omega)
      · refine ev_succ ?_
        simp only [laws_markStringS.l0]
        refine ev_pos (by omega) (Ev.bind ht (ev_pos (by omega) ?_))
        rw [w64s i (by omega), w64 (i := s.2 + 1) (by omega) (by omega), Int.toNat_natCast]
        exact hr)
    (fun s ⟨hs, hx, hv⟩ => ev_pt fun k => by simp only [laws_markStringS.l0]; rw [if_neg (by omega)])
    l.length 0 (l, 1) (by omega) ⟨rfl, rfl, fun j hj => absurd hj (Nat.not_lt_zero _)⟩
  refine ⟨s.2, s.1, by omega, hE, ?_⟩
  have key : ∀ d i, i + d = s.1.length → Ev (fun k => laws_heldStringS.l0 k s.1 (1 + (i : Int)) (i : Int)) s.2 := by
    intro d
    induction d with
    | zero =>
      intro i hi
      obtain rfl : i = s.1.length := by omega
      rw [hx, hs]
      exact ev_pt fun k => by simp only [laws_heldStringS.l0]; rw [if_neg (by omega)]
    | succ d ih =>
      intro i hi
      refine ev_succ ?_
      simp only [laws_heldStringS.l0, rdS]
      refine ev_pos (by omega) (ev_pos (by omega) (Ev.bind (hv i (by omega)) (ev_pos rfl ?_)))
      rw [w64s i (by omega), w64 (i := 1 + (i : Int) + 1) (by omega) (by omega), show 1 + (i : Int) + 1 = 1 + ((i + 1 : Nat) : Int) by omega]
      exact ih (i + 1) (by omega)
  exact key s.1.length 0 (by omega)
end Go.Proofs.Ytkjfpdjmomhbbaa.Pu
