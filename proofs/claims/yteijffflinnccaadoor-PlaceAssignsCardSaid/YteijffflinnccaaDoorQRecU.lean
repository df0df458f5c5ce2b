/- Part of the proof of a law of placing. -/
import Derived.Test.YteijffflinnccaaDoorQRec
set_option linter.all false
namespace Go.Am
open Go
noncomputable section
abbrev lU : Lf := .sl false [.int .u8]
theorem fit_bytes {x : V} (h : Fit lU x) : ∃ l : List Int, x = .sl (l.map fun n => .c (.int .u8 n)) := by
  simp only [Fit, FitL] at h
  obtain ⟨rows, rfl, h⟩ := h
  induction rows with
  | nil => exact ⟨[], rfl⟩
  | cons y ys ih =>
    obtain ⟨l, e⟩ := ih fun z hz => h z (by simp [hz])
    obtain ⟨_, _, e1, ⟨n, rfl, hn⟩, _⟩ := h y (by simp)
    cases e1
    exact ⟨n :: l, by simp at e ⊢; exact e⟩
theorem u8_of {n : Int} (h : (Lit.int .u8 n).wf = true) : 0 ≤ n ∧ n ≤ 255 := by
  simp only [Lit.wf, Bool.and_eq_true, decide_eq_true_eq] at h
  exact h
theorem u16_of {n : Int} (h : (Lit.int .u16 n).wf = true) : 0 ≤ n ∧ n ≤ 65535 := by
  simp only [Lit.wf, Bool.and_eq_true, decide_eq_true_eq] at h
  exact h
end
end Go.Am
