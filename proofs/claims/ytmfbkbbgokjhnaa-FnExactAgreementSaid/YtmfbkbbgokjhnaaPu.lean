/- Plain lemmas: what holds from some number of rounds on (Ev), loops over an index, wrapping that does not wrap. No program in sight. -/
import Derived.Test.YtmfbkbbgokjhnaaWMore
namespace Go.Proofs.Ytmfbkbbgokjhnaa.Pu
open Go.RowKit Go.Proofs.YtmfbkbbgokjhnaaW.PrintWords
set_option linter.unusedVariables false
set_option linter.unusedSimpArgs false

theorem ev_succ {α : Type} {g : Nat → Option α} {r : α} (h : Ev (fun k => g (k + 1)) r) : Ev g r := by
  obtain ⟨K, h⟩ := h
  refine ⟨K + 1, fun k hk => ?_⟩
  obtain ⟨m, rfl⟩ : ∃ m, k = m + 1 := ⟨k - 1, by omega⟩
  exact h m (by omega)
theorem ev_pt {α : Type} {g : Nat → Option α} {r : α} (h : ∀ k, g (k + 1) = some r) : Ev g r := ⟨1, fun k hk => by
  obtain ⟨m, rfl⟩ : ∃ m, k = m + 1 := ⟨k - 1, by omega⟩
  exact h m⟩
theorem ev_eq {α : Type} {x : Option α} {r : α} (h : x = some r) : Ev (fun _ => x) r := ⟨0, fun _ _ => h⟩
theorem ev_some {α : Type} {g : Nat → Option α} {r : α} (h : ∀ k, g k = some r) : Ev g r := ⟨0, fun k _ => h k⟩
theorem ev_bind {α β : Type} {g : Nat → Option α} {f : Nat → α → Option β} {a : α} {r : β} (h : Ev g a) (k : Ev (fun n => f n a) r) : Ev (fun n => (g n).bind (f n)) r := Ev.bind h k
theorem ev_bind_eq {α β : Type} {x : Option α} {f : Nat → α → Option β} {a : α} {r : β} (h : x = some a) (k : Ev (fun n => f n a) r) : Ev (fun n => x.bind (f n)) r := Ev.bind (ev_eq h) k
theorem ev_pos {α : Type} {c : Prop} [Decidable c] {g f : Nat → Option α} {r : α} (hc : c) (h : Ev g r) : Ev (fun k => if c then g k else f k) r := by
  simpa only [if_pos hc] using h
theorem ev_neg {α : Type} {c : Prop} [Decidable c] {g f : Nat → Option α} {r : α} (hc : ¬ c) (h : Ev f r) : Ev (fun k => if c then g k else f k) r := by
  simpa only [if_neg hc] using h
theorem ev_cast {α : Type} {g : Nat → Option α} {r r' : α} (h : Ev g r) (e : r = r') : Ev g r' := e ▸ h

theorem w64 {i : Int} (h0 : -9223372036854775808 ≤ i) (h1 : i ≤ 9223372036854775807) : wrap64 i = i := by
  unfold wrap64
  omega
theorem w64s (i : Nat) (h : i < 9223372036854775807) : wrap64 ((i : Int) + 1) = ((i + 1 : Nat) : Int) := by
  unfold wrap64
  omega
theorem w64p (i : Nat) (h0 : 0 < i) (h : i ≤ 9223372036854775807) : wrap64 ((i : Int) - 1) = ((i - 1 : Nat) : Int) := by
  unfold wrap64
  omega
theorem wf64 {a : Int} (h : (Lit.int .i64 a).wf = true) : -9223372036854775808 ≤ a ∧ a ≤ 9223372036854775807 := by
  simp [Lit.wf, IntKind.min, IntKind.max, IntKind.bits, IntKind.signed] at h
  omega

/-- A loop over an index that folds. -/
theorem ev_range {σ β : Type} (n : Nat) (G : Nat → σ → Int → Option β) (f : Nat → σ → σ) (out : σ → β) (Inv : Nat → σ → Prop)
    (keep : ∀ i s, i < n → Inv i s → Inv (i + 1) (f i s))
    (step : ∀ i s r, i < n → Inv i s → Ev (fun k => G k (f i s) ((i + 1 : Nat) : Int)) r → Ev (fun k => G k s (i : Int)) r)
    (done : ∀ s, Inv n s → Ev (fun k => G k s (n : Int)) (out s)) :
    ∀ d i s, i + d = n → Inv i s → Ev (fun k => G k s (i : Int)) (out ((List.range' i d).foldl (fun s j => f j s) s)) := by
  intro d
  induction d with
  | zero =>
    intro i s hi hs
    obtain rfl : i = n := by omega
    exact done s hs
  | succ d ih =>
    intro i s hi hs
    rw [List.range'_succ, List.foldl_cons]
    exact step i s _ (by omega) hs (ih (i + 1) (f i s) (by omega) (keep i s (by omega) hs))
/-- A loop over an index that stops at the first one with p. -/
theorem ev_find {β : Type} (n : Nat) (G : Nat → Int → Option β) (p : Nat → Bool) (hit : Nat → β) (fin : β)
    (good : ∀ i r, i < n → p i = false → Ev (fun k => G k ((i + 1 : Nat) : Int)) r → Ev (fun k => G k (i : Int)) r)
    (bad : ∀ i, i < n → p i = true → Ev (fun k => G k (i : Int)) (hit i))
    (done : Ev (fun k => G k (n : Int)) fin) :
    ∀ d i, i + d = n → Ev (fun k => G k (i : Int)) ((((List.range' i d).find? p).map hit).getD fin) := by
  intro d
  induction d with
  | zero =>
    intro i hi
    obtain rfl : i = n := by omega
    exact done
  | succ d ih =>
    intro i hi
    rw [List.range'_succ, List.find?_cons]
    cases h : p i with
    | true => exact bad i (by omega) h
    | false => exact good i _ (by omega) h (ih (i + 1) (by omega))
/-- .. and answers no. -/
theorem ev_all (n : Nat) (G : Nat → Int → Option Bool) (ok : Nat → Bool) (fin : Bool)
    (good : ∀ i r, i < n → ok i = true → Ev (fun k => G k ((i + 1 : Nat) : Int)) r → Ev (fun k => G k (i : Int)) r)
    (bad : ∀ i, i < n → ok i = false → Ev (fun k => G k (i : Int)) false)
    (done : Ev (fun k => G k (n : Int)) fin) :
    ∀ d i, i + d = n → Ev (fun k => G k (i : Int)) ((List.range' i d).all ok && fin) := by
  intro d
  induction d with
  | zero =>
    intro i hi
    obtain rfl : i = n := by omega
    exact done
  | succ d ih =>
    intro i hi
    rw [List.range'_succ, List.all_cons]
    cases h : ok i with
    | false => exact bad i (by omega) h
    | true => simpa using good i _ (by omega) h (ih (i + 1) (by omega))

theorem range_all (n : Nat) (p : Nat → Bool) : (List.range' 0 n).all p = decide (∀ i, i < n → p i = true) := by
  rw [Bool.eq_iff_iff]
  simp [List.all_eq_true, List.mem_range'_1]
/-- Folding over an index is folding over the list. -/
theorem fold_idx {α σ : Type} (l : List α) (z : α) (f : σ → α → σ) (s : σ) : (List.range' 0 l.length).foldl (fun s j => f s (l.getD j z)) s = l.foldl f s := by
  have key : ∀ (m : List α) (p : List α) (s : σ), (List.range' p.length m.length).foldl (fun s j => f s ((p ++ m).getD j z)) s = m.foldl f s := by
    intro m
    induction m with
    | nil => intro p s; rfl
    | cons x m ih =>
      intro p s
      rw [List.length_cons, List.range'_succ, List.foldl_cons, List.foldl_cons]
      have hx : (p ++ x :: m).getD p.length z = x := by simp
      rw [hx]
      have := ih (p ++ [x]) (f s x)
      simpa using this
  exact key l [] s
theorem foldl_push {α β : Type} (g : α → β) (l : List α) (s : List β) : l.foldl (fun s x => s ++ [g x]) s = s ++ l.map g := by
  induction l generalizing s with
  | nil => simp
  | cons x l ih => rw [List.foldl_cons, ih]; simp
/-- A loop over an index, told by what holds of its state. -/
theorem ev_inv {σ β : Type} (n : Nat) (G : Nat → σ → Int → Option β) (Inv : Nat → σ → Prop) (out : σ → β)
    (step : ∀ i s, i < n → Inv i s → ∃ s', Inv (i + 1) s' ∧ ∀ r, Ev (fun k => G k s' ((i + 1 : Nat) : Int)) r → Ev (fun k => G k s (i : Int)) r)
    (done : ∀ s, Inv n s → Ev (fun k => G k s (n : Int)) (out s)) :
    ∀ d i s, i + d = n → Inv i s → ∃ s', Inv n s' ∧ Ev (fun k => G k s (i : Int)) (out s') := by
  intro d
  induction d with
  | zero =>
    intro i s hi hs
    obtain rfl : i = n := by omega
    exact ⟨s, hs, done s hs⟩
  | succ d ih =>
    intro i s hi hs
    obtain ⟨s1, h1, g1⟩ := step i s (by omega) hs
    obtain ⟨s2, h2, g2⟩ := ih (i + 1) s1 (by omega) h1
    exact ⟨s2, h2, g1 _ g2⟩
theorem getD_lt {α : Type} (l : List α) (i : Nat) (z : α) (h : i < l.length) : l.getD i z = l[i] := by
  rw [List.getD_eq_getElem?_getD, List.getElem?_eq_getElem h, Option.getD_some]
theorem getD_set_eq {α : Type} (l : List α) (i j : Nat) (x z : α) (hi : i < l.length) : (l.set i x).getD j z = if j = i then x else l.getD j z := by
  by_cases h : j = i
  · subst h; simp [List.getD_eq_getElem?_getD, hi]
  · rw [if_neg h]; simp [List.getD_eq_getElem?_getD, List.getElem?_set_ne (Ne.symm h)]
theorem list_ext_getD {α : Type} (l m : List α) (z : α) (hl : l.length = m.length) (h : ∀ i, i < l.length → l.getD i z = m.getD i z) : l = m := by
  apply List.ext_getElem hl
  intro i h1 h2
  have := h i h1
  rwa [getD_lt _ _ _ h1, getD_lt _ _ _ h2] at this
theorem getD_map_lt {α β : Type} (g : α → β) (l : List α) (i : Nat) (z : α) (y : β) (h : i < l.length) : (l.map g).getD i y = g (l.getD i z) := by
  rw [getD_lt _ _ _ (by simpa using h), getD_lt _ _ _ h, List.getElem_map]
theorem mem_getD {α : Type} (l : List α) (i : Nat) (z : α) (h : i < l.length) : l.getD i z ∈ l := by
  rw [getD_lt _ _ _ h]; exact List.getElem_mem h
end Go.Proofs.Ytmfbkbbgokjhnaa.Pu
