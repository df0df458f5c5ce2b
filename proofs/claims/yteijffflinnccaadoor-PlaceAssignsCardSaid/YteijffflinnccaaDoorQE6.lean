/- Part of the proof of a law of placing. -/
import Derived.Test.YteijffflinnccaaDoorQE3
set_option linter.all false
set_option maxRecDepth 100000
set_option maxHeartbeats 0
namespace Go.Am
open Go
noncomputable section
end
end Go.Am
