/- Part of the proof of a law of moving. -/
import Derived.Test.YtmnheledelnbfaaGreatDoorQData
set_option linter.all false
set_option maxRecDepth 100000
namespace Go.Am
open Go
noncomputable section
theorem Wk.frz1 {l : List (Nat × E)} {r j : Nat} {cs : List V} {z : V} (h : Am.ofA l r = .p (.own cs)) (hz : cs[j]? = some z) (hne : z ≠ .any) : Wk (Am.ofA l) (Am.ofA ((r, .p (.own (cs.set j (pv z)))) :: blurK r [(0, j)] l)) := by
  have hc : cont (Am.ofA l) r = .own cs := by simp [cont, h]
  have := Wk.freeze (Γ := Am.ofA l) (r := r) (q := [(0, j)]) (D := z) (by rw [hc]; simp [V.getP, V.cell, V.row, hz]) hne
  rw [upd_ofA, hc] at this
  have e : (V.own cs).setP [(0, j)] (pv z) = .own (cs.set j (pv z)) := by simp [V.setP, V.cell, V.row, hz, V.setCell, V.setRow]
  rw [e] at this
  exact this
theorem Wk.frzPart {l : List (Nat × E)} {r : Nat} {a b c d : List V} {x y : V} (h : Am.ofA l r = .p (.own [.uq a, .uq b, x, y, .uq c, .uq d])) :
    Wk (Am.ofA l) (Am.ofA ((r, .p (.own [.sl (pvL a), .sl (pvL b), x, y, .sl (pvL c), .sl (pvL d)])) :: blurK r [(0, 5)] (blurK r [(0, 4)] (blurK r [(0, 1)] (blurK r [(0, 0)] l))))) := by
  have h1 := Wk.frz1 h (j := 0) rfl (by simp)
  have h2 := Wk.frz1 (r := r) (j := 1) (cs := [.sl (pvL a), .uq b, x, y, .uq c, .uq d]) (z := .uq b) (l := (r, .p (.own [.sl (pvL a), .uq b, x, y, .uq c, .uq d])) :: blurK r [(0, 0)] l) (by simp) rfl (by simp)
  have h3 := Wk.frz1 (r := r) (j := 4) (cs := [.sl (pvL a), .sl (pvL b), x, y, .uq c, .uq d]) (z := .uq c) (l := (r, .p (.own [.sl (pvL a), .sl (pvL b), x, y, .uq c, .uq d])) :: blurK r [(0, 1)] (blurK r [(0, 0)] l)) (by simp) rfl (by simp)
  have h4 := Wk.frz1 (r := r) (j := 5) (cs := [.sl (pvL a), .sl (pvL b), x, y, .sl (pvL c), .uq d]) (z := .uq d) (l := (r, .p (.own [.sl (pvL a), .sl (pvL b), x, y, .sl (pvL c), .uq d])) :: blurK r [(0, 4)] (blurK r [(0, 1)] (blurK r [(0, 0)] l))) (by simp) rfl (by simp)
  simp [pv] at h1 h2 h3 h4
  exact h1.trans (h2.trans (h3.trans h4))
end
end Go.Am
