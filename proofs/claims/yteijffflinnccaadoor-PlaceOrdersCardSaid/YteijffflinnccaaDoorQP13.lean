/- Part of the proof of a law of placing. -/
import Derived.Test.YteijffflinnccaaDoorQP10
import Derived.Test.YteijffflinnccaaDoorQP11
import Derived.Test.YteijffflinnccaaDoorQP12
import Derived.Test.YteijffflinnccaaDoorQPK
set_option linter.all false
set_option maxRecDepth 100000
set_option maxHeartbeats 0
namespace Go.Am
open Go
noncomputable section
theorem lawBs_len (l : List Int) : (lawBs l).length = min l.length 12 := by simp [lawBs]
theorem lawM_few (l : List Int) : (lawM l).Few := by
  refine ⟨?_, ?_, ?_⟩
  · show (lawBs l).length ≤ 100
    rw [lawBs_len]; omega
  · intro b hb
    simp only [lawM, lawBs, List.mem_map] at hb
    obtain ⟨i, _, rfl⟩ := hb
    simp only [lawB]; omega
  · simp only [lawM, lawBs, List.map_map]
    rw [List.nodup_iff_pairwise_ne, List.pairwise_map]
    refine List.Pairwise.imp ?_ List.nodup_range
    intro a b hab e
    simp only [Function.comp_apply, lawB] at e
    omega
theorem tmodN {x : Int} {n : Nat} (h : 0 ≤ x) (hn : 0 < n) : ∃ k : Nat, x.tmod (n : Int) = k ∧ k < n := by
  obtain ⟨y, rfl⟩ : ∃ y : Nat, x = y := ⟨x.toNat, by omega⟩
  exact ⟨y % n, rfl, Nat.mod_lt _ hn⟩
end
end Go.Am
