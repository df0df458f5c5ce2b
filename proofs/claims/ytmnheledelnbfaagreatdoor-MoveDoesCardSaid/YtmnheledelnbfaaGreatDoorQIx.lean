/- Part of the proof of a law of moving. -/
import Derived.Test.YtmnheledelnbfaaGreatDoorQPU
set_option linter.all false
namespace Go.Am
def idxF {α : Type} (p : α → Bool) : List α → Nat → Int
  | [], _ => -1
  | x :: l, i => if p x then (i : Int) else idxF p l (i + 1)
theorem idxF_some {α : Type} (p : α → Bool) : ∀ (l : List α) (i : Nat) (x : α), l.find? p = some x → ∃ j, idxF p l i = ((i + j : Nat) : Int) ∧ l[j]? = some x := by
  intro l
  induction l with
  | nil => intro i x h; simp at h
  | cons y l ih =>
    intro i x h
    rw [List.find?_cons] at h
    cases hp : p y with
    | true => rw [hp] at h; cases h; exact ⟨0, by simp [idxF, hp], rfl⟩
    | false =>
      rw [hp] at h
      obtain ⟨j, h1, h2⟩ := ih (i + 1) x h
      exact ⟨j + 1, by simp only [idxF, hp]; rw [if_neg (by simp), h1]; congr 1; omega, by simpa using h2⟩
theorem idxF_any {α : Type} (p : α → Bool) : ∀ (l : List α) (i : Nat), decide (0 ≤ idxF p l i) = l.any p := by
  intro l
  induction l with
  | nil => intro i; simp [idxF]
  | cons x l ih =>
    intro i
    have := ih (i + 1)
    simp only [List.any_cons]
    by_cases hx : p x = true
    · rw [hx]; simp [idxF, hx]
    · have hx' : p x = false := by simpa using hx
      rw [hx']; simp only [idxF, hx', Bool.false_eq_true, if_false, Bool.false_or]; exact this
end Go.Am
