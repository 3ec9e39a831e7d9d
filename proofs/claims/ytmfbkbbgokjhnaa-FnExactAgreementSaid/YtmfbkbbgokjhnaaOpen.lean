/- What a parameter reads as (DataW.trod) is what the printed contracts ask of it (Kd.K, Kd.C): whole numbers, bools, strings, structs, slices of these, nested. -/
import Derived.Test.YtmfbkbbgokjhnaaWMore
import Derived.ChangeArms
import Derived.DataReads
import Derived.Deep.Slices
import Derived.Deep.Fields
namespace Go.Proofs.Ytmfbkbbgokjhnaa.Op
open Go.RowKit Go.Deep Go.Proofs.YtmfbkbbgokjhnaaW.PrintWords
set_option linter.unusedVariables false
variable {P : Program}

/-- What reads as data of type t is a value of kind K within WF. -/
def Opens {α : Type} (P : Program) (t : Nat) (K : Kd α) (WF : α → Prop) : Prop :=
  ∀ {H : Type} {enc : TypeId × Value → H} {w : World} {base : Nat} {spare : Nat → Bool} {held : Bool} {fuel : Nat} {cs : List Value} {x : DataW H × List MemPlace},
    DataW.trod enc P w base spare held fuel t cs = some x → ∃ a, K.K w a cs ∧ WF a

theorem opens_int {t : Nat} {k : IntKind} (hu : P.underlying t = some (.int k)) : Opens P t (Kd.int k) (fun a => (Lit.int k a).wf = true) := by
  intro H enc w base spare held fuel cs x h
  obtain ⟨n, rfl, _, hw⟩ := DataW.trod_int hu h
  exact ⟨n, rfl, hw⟩
theorem opens_bool {t : Nat} (hu : P.underlying t = some .bool) : Opens P t Kd.bool (fun _ => True) := by
  intro H enc w base spare held fuel cs x h
  obtain ⟨b, rfl, _⟩ := DataW.trod_bool hu h
  exact ⟨b, rfl, trivial⟩
theorem opens_string {t : Nat} (hu : P.underlying t = some .string) : Opens P t Kd.string (fun s => s.size ≤ maxLen) := by
  intro H enc w base spare held fuel cs x h
  obtain ⟨s, rfl, _, hs⟩ := DataW.trod_string hu h
  exact ⟨s, rfl, hs⟩

/-- A choice for each index, as a list. -/
theorem list_of {α : Type} (n : Nat) (Q : Nat → α → Prop) (h : ∀ i, i < n → ∃ a, Q i a) : ∃ l : List α, l.length = n ∧ ∀ i a, l[i]? = some a → Q i a := by
  induction n with
  | zero => exact ⟨[], rfl, fun i a hi => by simp at hi⟩
  | succ n ih =>
    obtain ⟨l, hl, hq⟩ := ih (fun i hi => h i (by omega))
    obtain ⟨a, ha⟩ := h n (by omega)
    refine ⟨l ++ [a], by simp [hl], fun i b hi => ?_⟩
    rcases Nat.lt_trichotomy i n with hlt | heq | hgt
    · exact hq i b (by rwa [List.getElem?_append_left (by omega)] at hi)
    · subst heq
      have : b = a := by
        have h2 : (l ++ [a])[i]? = some a := by rw [← hl]; simp
        rw [h2] at hi; injection hi with hi; exact hi.symm
      subst this; exact ha
    · rw [List.getElem?_eq_none (by simp; omega)] at hi; cases hi

theorem opens_slice {α : Type} {t e : Nat} {K : Kd α} {WF : α → Prop} (hu : P.underlying t = some (.slice e)) (hC : P.cellsOf e = K.sz) (h : Opens P e K WF) :
    Opens P t (Kd.slice e K) (fun l => l.length ≤ maxLen ∧ ∀ x ∈ l, WF x) := by
  intro H enc w base spare held fuel cs x hx
  rcases open_slice hu hx with ⟨rfl, _⟩ | ⟨a, len, cap, m, n, D, Pl, rfl, hb, hl, hm, hmm, _, hi⟩
  · exact ⟨[], ⟨none, 0, rfl, Nat.le_refl _, ⟨rfl, by simp, fun h0 => absurd h0 (by simp)⟩⟩, by simp, fun x hx => by simp at hx⟩
  · have hle : len ≤ m := by rw [hmm]; split <;> omega
    obtain ⟨l, hlen, hq⟩ := list_of len (fun i b => (∃ c, c.length = K.sz ∧ K.K w b c ∧ ∀ j u, c[j]? = some u → w.cell? (a.add (i * K.sz + j)) = some u) ∧ WF b) (fun i hil => by
      obtain ⟨cs', hc, ht⟩ := hi i (by omega)
      obtain ⟨b, hK, hw⟩ := h ht
      obtain ⟨_, hcl, hat⟩ := World.cells?_some hc
      refine ⟨b, ⟨cs', by rw [hcl, hC], hK, fun j u hj => ?_⟩, hw⟩
      have hjl : j < P.cellsOf e := by
        have := (List.getElem?_eq_some_iff.1 hj).1
        omega
      rw [← hC, ← Go.Deep.add_add, hat j hjl, hj])
    refine ⟨l, ⟨some a, cap, by rw [hlen], by omega, ?_⟩, by omega, fun x hx => ?_⟩
    · refine ⟨rfl, by rw [hlen]; exact Nat.le_trans hl (Nat.le_trans hm (by decide)), fun _ => ⟨a, rfl, fun j p hj => ?_⟩⟩
      exact (hq j p hj).1
    · obtain ⟨i, hi', he⟩ := List.mem_iff_getElem.1 hx
      exact (hq i x (by rw [List.getElem?_eq_getElem hi', he])).2

/-- Fields from place j on, at offset off. -/
def OpensAt {α : Type} (P : Program) (fs : Array Field) (j off : Nat) (K : Kd α) (WF : α → Prop) : Prop :=
  ∀ {H : Type} {enc : TypeId × Value → H} {w : World} {base : Nat} {spare : Nat → Bool} {held : Bool} {n : Nat} {cs : List Value},
    (∀ (i : Nat) (f : Field), fs[i]? = some f → ∃ y, DataW.trod enc P w base spare held n f.type ((cs.drop f.offset).take (P.cellsOf f.type)) = some y) → cs.length = off + K.sz → ∃ a, K.K w a (cs.drop off) ∧ WF a
theorem opensAt_last {α : Type} {fs : Array Field} {j off : Nat} {f : Field} {K : Kd α} {WF : α → Prop} (hf : fs[j]? = some f) (ho : f.offset = off) (hC : P.cellsOf f.type = K.sz) (h : Opens P f.type K WF) : OpensAt P fs j off K WF := by
  intro H enc w base spare held n cs hr hl
  obtain ⟨y, hy⟩ := hr j f hf
  obtain ⟨a, ha, hw⟩ := h hy
  refine ⟨a, ?_, hw⟩
  rw [ho, hC, List.take_of_length_le (by simp; omega)] at ha
  exact ha
theorem opensAt_cons {α β : Type} {fs : Array Field} {j off : Nat} {f : Field} {K : Kd α} {L : Kd β} {WF : α → Prop} {WG : β → Prop} (hf : fs[j]? = some f) (ho : f.offset = off) (hC : P.cellsOf f.type = K.sz) (h : Opens P f.type K WF) (hs : OpensAt P fs (j + 1) (off + K.sz) L WG) :
    OpensAt P fs j off (Kd.pair K L) (fun x => WF x.1 ∧ WG x.2) := by
  intro H enc w base spare held n cs hr hl
  obtain ⟨y, hy⟩ := hr j f hf
  obtain ⟨a, ha, hw⟩ := h hy
  have hl' : cs.length = off + (K.sz + L.sz) := hl
  obtain ⟨b, hb, hw'⟩ := hs hr (by omega)
  refine ⟨(a, b), ⟨_, _, ?_, ha, hb⟩, hw, hw'⟩
  rw [ho, hC, ← List.drop_drop, List.take_append_drop]
theorem opens_struct {α β : Type} {t : Nat} {fs : Array Field} {K : Kd α} {WF : α → Prop} (f : β → α) (g : α → β) (hfg : ∀ a, f (g a) = a) (hu : P.underlying t = some (.struct fs)) (hC : P.cellsOf t = K.sz) (h : OpensAt P fs 0 0 K WF) :
    Opens P t (Kd.iso K f) (fun b => WF (f b)) := by
  intro H enc w base spare held fuel cs x hx
  obtain ⟨xs, n, _, _, hl, hlen, hg⟩ := DataW.trod_struct hu hx
  obtain ⟨a, ha, hw⟩ := h (cs := cs) (fun i f hf => by
    have hi : i < xs.length := by rw [hlen]; exact (Array.getElem?_eq_some_iff.1 hf).1
    exact ⟨xs[i], by rw [hg i f hf, List.getElem?_eq_getElem hi]⟩) (by rw [hl, hC]; omega)
  refine ⟨g a, ?_, ?_⟩
  · show K.K w (f (g a)) cs
    rw [hfg]; exact ha
  · show WF (f (g a))
    rw [hfg]; exact hw
theorem Opens.weaken {α : Type} {t : Nat} {K : Kd α} {WF WG : α → Prop} (h : Opens P t K WF) (hw : ∀ a, WF a → WG a) : Opens P t K WG := by
  intro H enc w base spare held fuel cs x hx
  obtain ⟨a, ha, hb⟩ := h hx
  exact ⟨a, ha, hw a hb⟩
end Go.Proofs.Ytmfbkbbgokjhnaa.Op
