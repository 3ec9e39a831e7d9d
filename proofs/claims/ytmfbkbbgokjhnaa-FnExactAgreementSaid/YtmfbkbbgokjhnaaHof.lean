/- What a function value that is handed over is asked: a predicate on the elements of a list, that makes memory at most. -/
import Derived.Test.YtmfbkbbgokjhnaaWMore
import Derived.Shelf.Abstract
import Derived.Deep.Slices
import Derived.StillTailTactics
namespace Go.Proofs.Ytmfbkbbgokjhnaa.F
open Go.RowKit Go.Proofs.YtmfbkbbgokjhnaaW.PrintWords
set_option linter.unusedVariables false

def FnP (P : Program) {α : Type} (val : α → Value) (g : Nat) (lb : Array Value) (p : α → Bool) (l : List α) (w : World) : Prop :=
  ∀ (W : World) (x : α), x ∈ l → Below w.heap.size w W → Calls P g (#[val x] ++ lb) W fun e w' => e = .returned (.bool (p x)) ∧ Below W.heap.size W w'
theorem FnP.later {P : Program} {α : Type} {val : α → Value} {g : Nat} {lb : Array Value} {p : α → Bool} {l : List α} {w w1 : World} (h : FnP P val g lb p l w) (hb : Below w.heap.size w w1) : FnP P val g lb p l w1 :=
  fun W x hx hW => h W x hx (below_then hb hb.size hW)
/-- The index of the first one with p, or -1. -/
def idxP {α : Type} (p : α → Bool) (l : List α) : Int := ((l.findIdx? p).map fun i => (i : Int)).getD (-1)
theorem idxP_hit {α : Type} (p : α → Bool) (l : List α) (i : Nat) (h : i < l.length) (hp : p l[i] = true) (ha : ∀ j (hj : j < i), p (l[j]'(by omega)) = false) : idxP p l = i := by
  have : l.findIdx? p = some i := by
    rw [List.findIdx?_eq_some_iff_getElem]
    exact ⟨h, hp, fun j hj => by simp [ha j hj]⟩
  simp [idxP, this]
theorem idxP_miss {α : Type} (p : α → Bool) (l : List α) (ha : ∀ j (hj : j < l.length), p l[j] = false) : idxP p l = -1 := by
  have : l.findIdx? p = none := by
    rw [List.findIdx?_eq_none_iff]
    intro x hx
    obtain ⟨j, hj, rfl⟩ := List.mem_iff_getElem.1 hx
    exact ha j hj
  simp [idxP, this]
theorem idxP_range {α : Type} (p : α → Bool) (l : List α) : -1 ≤ idxP p l ∧ idxP p l < l.length := by
  rcases hf : l.findIdx? p with _ | i
  · have e : idxP p l = -1 := by simp [idxP, hf]
    omega
  · have e : idxP p l = i := by simp [idxP, hf]
    obtain ⟨h1, _⟩ := List.findIdx?_eq_some_iff_getElem.1 hf
    omega
theorem idxP_any {α : Type} (p : α → Bool) (l : List α) : decide (idxP p l ≥ 0) = l.any p := by
  rcases h : l.findIdx? p with _ | i
  · have h1 := (List.findIdx?_eq_none_iff.1 h)
    have : l.any p = false := by rw [List.any_eq_false]; intro x hx; simp [h1 x hx]
    simp [idxP, h, this]
  · obtain ⟨h1, h2, _⟩ := List.findIdx?_eq_some_iff_getElem.1 h
    have : l.any p = true := List.any_eq_true.2 ⟨l[i], List.getElem_mem h1, h2⟩
    simp [idxP, h, this]
theorem any_not_all {α : Type} (p : α → Bool) (l : List α) : (!l.any fun x => !p x) = l.all p := by
  induction l with
  | nil => rfl
  | cons x l ih => rw [List.any_cons, List.all_cons, ← ih]; cases p x <;> simp
/-- What impl.indexOf hands back. -/
def idxOf {α : Type} (p : α → Bool) (l : List α) : Int × Int := if idxP p l < 0 then (0, 4) else (idxP p l, 0)
theorem idxOf_miss {α : Type} (p : α → Bool) (l : List α) (h : idxP p l < 0) : idxOf p l = (0, 4) := by unfold idxOf; rw [if_pos h]
theorem idxOf_hit {α : Type} (p : α → Bool) (l : List α) (h : ¬ idxP p l < 0) : idxOf p l = (idxP p l, 0) := by unfold idxOf; rw [if_neg h]
theorem idxOf_range {α : Type} (p : α → Bool) (l : List α) (h : 0 < l.length) : 0 ≤ (idxOf p l).1 ∧ (idxOf p l).1 < l.length := by
  rcases hf : l.findIdx? p with _ | i
  · have e : idxP p l = -1 := by simp [idxP, hf]
    rw [idxOf_miss p l (by omega)]
    simp only
    omega
  · have e : idxP p l = i := by simp [idxP, hf]
    obtain ⟨h1, _⟩ := List.findIdx?_eq_some_iff_getElem.1 hf
    rw [idxOf_hit p l (by omega), e]
    simp only
    omega
/-- A comparison that is handed over. -/
def FnC (P : Program) {α : Type} (val : α → Value) (g : Nat) (lb : Array Value) (q : α → α → Int) (l : List α) (w : World) : Prop :=
  ∀ (W : World) (x y : α), x ∈ l → y ∈ l → Below w.heap.size w W → Calls P g (#[val x, val y] ++ lb) W fun e w' => e = .returned (.int .i64 (q x y)) ∧ Below W.heap.size W w'
def risingB {α : Type} (q : α → α → Int) (l : List α) : Bool := decide (∀ j (hj : j < l.length) (h1 : 1 ≤ j), q (l[j - 1]'(by omega)) l[j] < 0)
theorem risingB_yes {α : Type} (q : α → α → Int) (l : List α) (h : ∀ j (hj : j < l.length) (h1 : 1 ≤ j), q (l[j - 1]'(by omega)) l[j] < 0) : risingB q l = true := decide_eq_true h
theorem risingB_no {α : Type} (q : α → α → Int) (l : List α) (j : Nat) (hj : j < l.length) (h1 : 1 ≤ j) (h : ¬ q (l[j - 1]'(by omega)) l[j] < 0) : risingB q l = false := decide_eq_false fun H => h (H j hj h1)
/-- What is left of a row that is read. -/
theorem C_dropK {α : Type} {d : Kd α} {w : World} {ad : Addr} {l : List α} (h : d.C w (some ad) l.length l) (m : Nat) (hm : m < l.length) : d.C w (some (ad.add (m * d.sz))) (l.drop m).length (l.drop m) := by
  obtain ⟨h1, h2, h3⟩ := h
  refine ⟨rfl, by rw [List.length_drop]; omega, fun _ => ⟨_, rfl, fun j p hj => ?_⟩⟩
  obtain ⟨ad', e, hc⟩ := h3 (by omega)
  cases e
  obtain ⟨c, hc1, hc2, hc3⟩ := hc (m + j) p (by rw [← hj, List.getElem?_drop])
  refine ⟨c, hc1, hc2, fun i u hu => ?_⟩
  have := hc3 i u hu
  rw [Go.Deep.add_add]
  rw [Nat.add_mul, Nat.add_assoc] at this
  exact this
/-- A code of one to six small letters. -/
def codeB (s : ByteArray) : Bool := decide (∀ i, i < s.size → 97 ≤ bt s (i : Int) ∧ bt s (i : Int) ≤ 122) && decide (1 ≤ s.size ∧ s.size ≤ 6)
end Go.Proofs.Ytmfbkbbgokjhnaa.F
