/- A log's decisions, told and read: the first wrong one. -/
import Derived.Test.YtmfbkbbgokjhnaaFx14
import Derived.Test.YtmfbkbbgokjhnaaFx24
import Derived.Test.YtmfbkbbgokjhnaaFx25

import Derived.Test.YtmfbkbbgokjhnaaRight
namespace Go.Proofs.Ytmfbkbbgokjhnaa.Pu
open Go.RowKit Go.Proofs.YtmfbkbbgokjhnaaW.PrintWords Go.Proofs.Ytmfbkbbgokjhnaa.F
set_option linter.unusedVariables false
set_option linter.unusedSimpArgs false
abbrev Dec := S45
theorem rdDec (l : List Dec) (i : Nat) : rd_T45 l (i : Int) = l.getD i z45 := by simp [rd_T45]
def toldM (l : List Cl) (e : Evt) : Dec := ⟨resM l e, codesM l e⟩
theorem decided_i {l : List Cl} (H : RB l) (log : List Evt) (hl : log.length ≤ 1048576) : Ev (fun k => impl_decided.f k l log) (log.map (toldM l)) := by
  unfold impl_decided.f
  have key : ∀ d i (acc : List Dec), i + d = log.length → acc.length = i → Ev (fun k => impl_decided.l0 k l acc log (log.length : Int) (i : Int)) (acc ++ (log.drop i).map (toldM l)) := by
    intro d
    induction d with
    | zero =>
      intro i acc hi ha
      rw [List.drop_eq_nil_of_le (by omega), List.map_nil, List.append_nil]
      exact ev_pt fun k => by simp only [impl_decided.l0]; rw [if_neg (by omega)]
    | succ d ih =>
      intro i acc hi ha
      have hlt : i < log.length := by omega
      refine ev_succ ?_
      simp only [impl_decided.l0, rdEv]
      refine ev_pos (by omega) (ev_pos (by omega) (ev_pos (by omega) (Ev.bind (decide_i H (log.getD i z43)) (ev_pos (by omega) ?_))))
      have q := ih (i + 1) (acc ++ [toldM l (log.getD i z43)]) (by omega) (by simp [ha])
      rw [w64s i (by omega)]
      rw [List.drop_eq_getElem_cons hlt, List.map_cons, ← getD_lt log i z43 hlt]
      rw [List.append_assoc, List.singleton_append] at q
      exact q
  exact key log.length 0 [] (by omega) rfl
def askL (l : List Cl) (log : List Evt) : Bool := rulebookB l && isLog log
def toldRes (l : List Cl) (log : List Evt) : List Dec × Int := if askL l log = true then (log.map (toldM l), 0) else ([], 1)
theorem DecideLog_i (l : List Cl) (log : List Evt) (hs : ∀ x ∈ l, smallClauseI x) (he : ∀ x ∈ log, smallEventI x) (hm : log.length ≤ 1048576) : Ev (fun k => impl_DecideLog.f k l log) (toldRes l log) := by
  unfold impl_DecideLog.f toldRes askL
  refine Ev.bind (rulebook_i l hs) ?_
  cases hr : rulebookB l with
  | false => refine ev_neg (by simp) ?_; rw [if_neg (by simp)]; exact Ev.now _
  | true =>
    refine ev_pos rfl (Ev.bind (isLog_i log hm he) ?_)
    cases hE : isLog log with
    | false => refine ev_neg (by simp) ?_; rw [if_neg (by simp)]; exact Ev.now _
    | true =>
      refine ev_pos rfl (Ev.bind (decided_i (rb_of hr) log hm) ?_)
      rw [if_pos (show (true && true) = true from rfl)]
      exact Ev.now _
def wrongAt (l : List Cl) (log : List Evt) (ds : List Dec) (i : Nat) : Bool := !(decide (i < ds.length) && rightB l (log.getD i z43) (ds.getD i z45).f0 (ds.getD i z45).f1)
def firstM (l : List Cl) (log : List Evt) (ds : List Dec) : Int × Int := (((List.range' 0 log.length).find? (wrongAt l log ds)).map fun (i : Nat) => ((i : Int), (0 : Int))).getD (0, 4)
def firstRes (l : List Cl) (log : List Evt) (ds : List Dec) : Int × Int := if askL l log = true then (if ds.length > log.length then (0, 2) else firstM l log ds) else (0, 1)
theorem first_sl {l : List Cl} (H : RB l) (log : List Evt) (ds : List Dec) (hm : log.length ≤ 1048576) : Ev (fun k => spec_FirstWrong.l0 k l log ds 0) (firstM l log ds) := by
  have h := ev_find log.length (fun k i => spec_FirstWrong.l0 k l log ds i) (wrongAt l log ds) (fun i => ((i : Int), (0 : Int))) (0, 4) (fun i r hi hp hr => ?_) (fun i hi hp => ?_) ?_ log.length 0 (by omega)
  · refine ev_cast h ?_
    unfold firstM
    rfl
  · unfold wrongAt at hp
    rw [Bool.not_eq_false', Bool.and_eq_true, decide_eq_true_eq] at hp
    refine ev_succ ?_
    simp only [spec_FirstWrong.l0, rdEv, rdDec]
    refine ev_pos (by omega) (ev_neg (by omega) (ev_pos (by omega) (ev_pos (by omega) (Ev.bind (right_s H _ _ _) ?_))))
    refine ev_pos hp.2 ?_
    rw [w64s i (by omega)]
    exact hr
  · unfold wrongAt at hp
    refine ev_succ ?_
    simp only [spec_FirstWrong.l0, rdEv, rdDec]
    refine ev_pos (by omega) ?_
    by_cases hd : i < ds.length
    · rw [decide_eq_true hd, Bool.true_and, Bool.not_eq_true'] at hp
      refine ev_neg (by omega) (ev_pos (by omega) (ev_pos (by omega) (Ev.bind (right_s H _ _ _) ?_)))
      exact ev_neg (by rw [hp]; simp) (Ev.now _)
    · exact ev_pos (by omega) (Ev.now _)
  · exact ev_pt fun k => by simp only [spec_FirstWrong.l0]; rw [if_neg (by omega)]
theorem first_il {l : List Cl} (H : RB l) (log : List Evt) (ds : List Dec) (hm : log.length ≤ 1048576) : Ev (fun k => impl_FirstWrong.l0 k ds (log.map (toldM l)) ((log.map (toldM l)).length : Int) 0) (firstM l log ds) := by
  rw [List.length_map]
  have h := ev_find log.length (fun k i => impl_FirstWrong.l0 k ds (log.map (toldM l)) (log.length : Int) i) (wrongAt l log ds) (fun i => ((i : Int), (0 : Int))) (0, 4) (fun i r hi hp hr => ?_) (fun i hi hp => ?_) ?_ log.length 0 (by omega)
  · refine ev_cast h ?_
    unfold firstM
    rfl
  · unfold wrongAt at hp
    rw [Bool.not_eq_false', Bool.and_eq_true, decide_eq_true_eq] at hp
    refine ev_succ ?_
    simp only [impl_FirstWrong.l0, rdDec, List.length_map, getD_map_lt (toldM l) log i z43 _ hi]
    refine ev_pos (by omega) (ev_pos (by omega) (ev_pos (by omega) (ev_neg (by omega) (ev_pos (by omega) (Ev.bind (right_i H _ _ _) ?_)))))
    refine ev_pos hp.2 ?_
    rw [w64s i (by omega)]
    exact hr
  · unfold wrongAt at hp
    refine ev_succ ?_
    simp only [impl_FirstWrong.l0, rdDec, List.length_map, getD_map_lt (toldM l) log i z43 _ hi]
    refine ev_pos (by omega) (ev_pos (by omega) (ev_pos (by omega) ?_))
    by_cases hd : i < ds.length
    · rw [decide_eq_true hd, Bool.true_and, Bool.not_eq_true'] at hp
      refine ev_neg (by omega) (ev_pos (by omega) (Ev.bind (right_i H _ _ _) ?_))
      exact ev_neg (by rw [hp]; simp) (Ev.now _)
    · exact ev_pos (by omega) (Ev.now _)
  · exact ev_pt fun k => by simp only [impl_FirstWrong.l0]; rw [if_neg (by omega)]
theorem FirstWrong_s (l : List Cl) (log : List Evt) (ds : List Dec) (hs : ∀ x ∈ l, smallClauseI x) (hl : l.length ≤ 1048576) (he : ∀ x ∈ log, smallEventI x) (hm : log.length ≤ 1048576) : Ev (fun k => spec_FirstWrong.f k l log ds) (firstRes l log ds) := by
  unfold spec_FirstWrong.f firstRes askL
  refine Ev.bind (rulebook_s l hs hl) ?_
  cases hr : rulebookB l with
  | false =>
    refine ev_neg (by simp) (ev_succ ?_)
    rw [if_neg (by simp)]
    simp only [spec_FirstWrong.j0]
    exact ev_pos True.intro (Ev.now _)
  | true =>
    refine ev_pos rfl (Ev.bind (isLog_s log hm he) (ev_succ ?_))
    cases hE : isLog log with
    | false =>
      rw [if_neg (by simp)]
      simp only [spec_FirstWrong.j0]
      exact ev_pos rfl (Ev.now _)
    | true =>
      rw [if_pos (show (true && true) = true from rfl)]
      simp only [spec_FirstWrong.j0]
      refine ev_neg (by simp) ?_
      by_cases hn : ds.length > log.length
      · rw [if_pos hn]; exact ev_pos (by omega) (Ev.now _)
      · rw [if_neg hn]; exact ev_neg (by omega) (first_sl (rb_of hr) log ds hm)
theorem FirstWrong_i (l : List Cl) (log : List Evt) (ds : List Dec) (hs : ∀ x ∈ l, smallClauseI x) (he : ∀ x ∈ log, smallEventI x) (hm : log.length ≤ 1048576) : Ev (fun k => impl_FirstWrong.f k l log ds) (firstRes l log ds) := by
  unfold impl_FirstWrong.f firstRes
  refine Ev.bind (DecideLog_i l log hs he hm) ?_
  unfold toldRes
  by_cases hA : askL l log = true
  case neg => rw [if_neg hA, if_neg hA]; exact ev_neg (by simp) (Ev.now _)
  rw [if_pos hA, if_pos hA]
  have H := rb_of (by unfold askL at hA; rw [Bool.and_eq_true] at hA; exact hA.1)
  refine ev_pos rfl ?_
  by_cases hn : ds.length > log.length
  · rw [if_pos hn]; exact ev_pos (by omega) (Ev.now _)
  · rw [if_neg hn]; exact ev_neg (by omega) (first_il H log ds hm)
end Go.Proofs.Ytmfbkbbgokjhnaa.Pu
