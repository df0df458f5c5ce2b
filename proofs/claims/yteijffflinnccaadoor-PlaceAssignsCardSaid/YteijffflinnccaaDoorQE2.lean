/- Part of the proof of a law of placing. -/
import Derived.Test.YteijffflinnccaaDoorQAA
import Derived.Test.YteijffflinnccaaDoorQPU
set_option linter.all false
set_option maxRecDepth 100000
set_option maxHeartbeats 0
namespace Go.Am
open Go
noncomputable section
abbrev big62 (n : Int) : Prop := -4611686018427387904 ≤ n ∧ n ≤ 4611686018427387904
end
end Go.Am
