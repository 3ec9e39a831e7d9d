/- The chain that is told is the only one that the reader accepts. -/
import Derived.Test.YtmfbkbbgokjhnaaFx22
import Derived.Test.YtmfbkbbgokjhnaaFx25
import Derived.Test.YtmfbkbbgokjhnaaFirst
namespace Go.Proofs.Ytmfbkbbgokjhnaa.Pu
open Go.RowKit Go.Proofs.YtmfbkbbgokjhnaaW.PrintWords Go.Proofs.Ytmfbkbbgokjhnaa.F
set_option linter.unusedVariables false
set_option linter.unusedSimpArgs false
theorem likeTexts (a b : List ByteArray) (hl : a.length ≤ 9223372036854775806) : Ev (fun k => laws_likeTexts.f k a b) (sameStrs a b) := by
  unfold laws_likeTexts.f
  by_cases h : a.length = b.length
  case neg =>
    rw [sameStrs_len a b h]
    exact ev_neg (by omega) (Ev.now _)
  refine ev_pos (by omega) ?_
  have key := ev_all a.length (fun k i => laws_likeTexts.l0 k a b i) (fun i => decide ((a.getD i ByteArray.empty).toList = (b.getD i ByteArray.empty).toList)) true
    (fun i r hi hp hr => ?_) (fun i hi hp => ?_) ?_ a.length 0 (by omega)
  · rw [sameStrs_at a b h, Bool.and_true] at key
    exact key
  · refine Ev.step (f := fun k => laws_likeTexts.l0 k a b ((i + 1 : Nat) : Int)) (fun k => ?_) hr
    simp only [laws_likeTexts.l0, rdS]
    rw [if_pos (by omega), if_pos (by omega), if_pos (by omega), if_pos (of_decide_eq_true hp), w64s i (by omega)]
  · exact ev_pt fun k => by
      simp only [laws_likeTexts.l0, rdS]
      rw [if_pos (by omega), if_pos (by omega), if_pos (by omega), if_neg (of_decide_eq_false hp)]
  · exact ev_pt fun k => by simp only [laws_likeTexts.l0]; rw [if_neg (by omega)]
def likeB (x y : Dec) : Bool := decide (x.f0 = y.f0) && sameStrs x.f1 y.f1
theorem like1 (x y : Dec) (hl : x.f1.length ≤ 9223372036854775806) : Ev (fun k => laws_likeDecision.f k x.f0 x.f1 y.f0 y.f1) (likeB x y) := by
  unfold laws_likeDecision.f likeB
  by_cases h : x.f0 = y.f0
  · rw [decide_eq_true h, Bool.true_and]
    exact ev_pos h (Ev.bind (likeTexts _ _ hl) (Ev.now _))
  · rw [decide_eq_false h, Bool.false_and]
    exact ev_neg h (Ev.now _)
def likeAll (a b : List Dec) : Bool := decide (a.length = b.length) && decide (∀ i, i < a.length → likeB (a.getD i z45) (b.getD i z45) = true)
theorem likeS (a b : List Dec) (hl : a.length ≤ 1048576) (hs : ∀ x ∈ a, x.f1.length ≤ 12) : Ev (fun k => laws_likeDecisions.f k a b) (likeAll a b) := by
  unfold laws_likeDecisions.f likeAll
  by_cases h : a.length = b.length
  case neg =>
    rw [decide_eq_false h, Bool.false_and]
    exact ev_neg (by omega) (Ev.now _)
  rw [decide_eq_true h, Bool.true_and]
  refine ev_pos (by omega) ?_
  have key := ev_all a.length (fun k i => laws_likeDecisions.l0 k a b i) (fun i => likeB (a.getD i z45) (b.getD i z45)) true
    (fun i r hi hp hr => ?_) (fun i hi hp => ?_) ?_ a.length 0 (by omega)
  · rw [range_all, Bool.and_true] at key
    exact key
  · refine ev_succ ?_
    simp only [laws_likeDecisions.l0, rdDec]
    refine ev_pos (by omega) (ev_pos (by omega) (ev_pos (by omega) (Ev.bind (like1 _ _ (by have := hs _ (mem_getD a i z45 hi); omega)) (ev_pos hp ?_))))
    rw [w64s i (by omega)]
    exact hr
  · refine ev_succ ?_
    simp only [laws_likeDecisions.l0, rdDec]
    exact ev_pos (by omega) (ev_pos (by omega) (ev_pos (by omega) (Ev.bind (like1 _ _ (by have := hs _ (mem_getD a i z45 hi); omega)) (ev_neg (by rw [hp]; simp) (Ev.now _)))))
  · exact ev_pt fun k => by simp only [laws_likeDecisions.l0]; rw [if_neg (by omega)]
theorem likeB_refl (x : Dec) : likeB x x = true := by simp [likeB, sameStrs]
theorem likeAll_refl (a : List Dec) : likeAll a a = true := by
  unfold likeAll
  rw [decide_eq_true rfl, Bool.true_and, decide_eq_true_eq]
  intro i _
  exact likeB_refl _
theorem told_few {l : List Cl} (H : RB l) (log : List Evt) : ∀ x ∈ log.map (toldM l), x.f1.length ≤ 12 := by
  intro x hx
  obtain ⟨e, _, rfl⟩ := List.mem_map.1 hx
  unfold toldM codesM
  simp only [List.length_map]
  exact (chn_len H e).2
theorem first_iff (l : List Cl) (log : List Evt) (ds : List Dec) : ((if ds.length > log.length then ((0 : Int), (2 : Int)) else firstM l log ds).2 == 4) = likeAll (log.map (toldM l)) ds := by
  unfold likeAll
  rw [List.length_map]
  by_cases hn : ds.length > log.length
  · rw [if_pos hn, decide_eq_false (show ¬ log.length = ds.length by omega), Bool.false_and]; rfl
  rw [if_neg hn]
  unfold firstM
  cases hf : (List.range' 0 log.length).find? (wrongAt l log ds) with
  | some i =>
    have h1 := List.find?_some hf
    have h2 := List.mem_of_find?_eq_some hf
    rw [List.mem_range'_1] at h2
    have : (decide (log.length = ds.length) && decide (∀ i, i < log.length → likeB ((log.map (toldM l)).getD i z45) (ds.getD i z45) = true)) = false := by
      rw [Bool.eq_false_iff]
      intro hh
      rw [Bool.and_eq_true, decide_eq_true_eq, decide_eq_true_eq] at hh
      have := hh.2 i (by omega)
      rw [getD_map_lt (toldM l) log i z43 _ (by omega)] at this
      unfold wrongAt at h1
      rw [decide_eq_true (show i < ds.length by omega), Bool.true_and] at h1
      unfold likeB toldM at this
      unfold rightB at h1
      rw [this] at h1
      cases h1
    rw [this]
    rfl
  | none =>
    have h1 := List.find?_eq_none.1 hf
    have hall : ∀ i, i < log.length → wrongAt l log ds i = false := fun i hi => by
      have := h1 i (by rw [List.mem_range'_1]; omega)
      simpa using this
    have : (decide (log.length = ds.length) && decide (∀ i, i < log.length → likeB ((log.map (toldM l)).getD i z45) (ds.getD i z45) = true)) = true := by
      rw [Bool.and_eq_true, decide_eq_true_eq, decide_eq_true_eq]
      refine ⟨?_, fun i hi => ?_⟩
      · by_cases hz : log.length = 0
        · omega
        · have := hall (log.length - 1) (by omega)
          unfold wrongAt at this
          rw [Bool.not_eq_false', Bool.and_eq_true, decide_eq_true_eq] at this
          omega
      · have := hall i hi
        unfold wrongAt at this
        rw [Bool.not_eq_false', Bool.and_eq_true] at this
        rw [getD_map_lt (toldM l) log i z43 _ hi]
        exact this.2
    rw [this]
    rfl
theorem only_chain (l : List Cl) (log : List Evt) (ds : List Dec) (hs : ∀ x ∈ l, smallClauseI x) (he : ∀ x ∈ log, smallEventI x) : Ev (fun k => laws_FnOnlyChain.f k l log ds) true := by
  unfold laws_FnOnlyChain.f
  by_cases c0 : (l.length : Int) > 65536
  · refine ev_pos c0 (ev_succ ?_)
    simp only [laws_FnOnlyChain.j0]
    exact ev_pos True.intro (Ev.now _)
  refine ev_neg c0 ?_
  by_cases c1 : (log.length : Int) > 65536
  · refine ev_pos c1 (ev_succ ?_)
    simp only [laws_FnOnlyChain.j0]
    exact ev_pos True.intro (Ev.now _)
  refine ev_neg c1 (ev_succ ?_)
  simp only [laws_FnOnlyChain.j0]
  by_cases c2 : (ds.length : Int) > 65536
  · rw [decide_eq_true c2]
    exact ev_pos rfl (Ev.now _)
  rw [decide_eq_false c2]
  refine ev_neg (by simp) (Ev.bind (DecideLog_i l log hs he (by omega)) (Ev.bind (DecideLog_s l log hs (by omega) he (by omega)) (ev_pos rfl ?_)))
  have hF : ∀ x ∈ (toldRes l log).1, x.f1.length ≤ 12 := by
    unfold toldRes
    by_cases hA : askL l log = true
    · rw [if_pos hA]
      exact told_few (rb_of (by unfold askL at hA; rw [Bool.and_eq_true] at hA; exact hA.1)) log
    · rw [if_neg hA]; intro x hx; cases hx
  have hN : (toldRes l log).1.length ≤ 1048576 := by
    unfold toldRes
    by_cases hA : askL l log = true
    · rw [if_pos hA]; simp; omega
    · rw [if_neg hA]; simp
  refine Ev.bind (likeS _ _ hN hF) ?_
  rw [likeAll_refl]
  refine ev_succ ?_
  simp only [laws_FnOnlyChain.j1]
  refine ev_neg (by simp) (Ev.bind (FirstWrong_i l log ds hs he (by omega)) (Ev.bind (FirstWrong_s l log ds hs (by omega) he (by omega)) (ev_pos rfl (ev_pos rfl ?_))))
  by_cases hA : askL l log = true
  · refine ev_pos (by unfold toldRes; rw [if_pos hA]) (Ev.bind (likeS _ _ hN hF) ?_)
    have h4 := first_iff l log ds
    have e1 : (toldRes l log).1 = log.map (toldM l) := by unfold toldRes; rw [if_pos hA]
    have e2 : firstRes l log ds = (if ds.length > log.length then ((0 : Int), (2 : Int)) else firstM l log ds) := by unfold firstRes; rw [if_pos hA]
    rw [e1, e2, h4]
    simp only [beq_self_eq_true]
    exact Ev.now _
  · exact ev_neg (by unfold toldRes; rw [if_neg hA]; simp) (Ev.now _)
end Go.Proofs.Ytmfbkbbgokjhnaa.Pu
