/- Part of the proof of a law of placing. -/
import Derived.Test.YteijffflinnccaaDoorQE1
import Derived.Test.YteijffflinnccaaDoorQE2
set_option linter.all false
set_option maxRecDepth 100000
set_option maxHeartbeats 0
namespace Go.Am
open Go
noncomputable section
def encPO (p : Part) : V := .agg [.uq (p.ids.map I), .uq (p.isr.map I), I p.leader, I p.epoch, .uq (p.add.map I), .uq (p.drop.map I)]
@[simp] theorem encPO_eq (p : Part) : encPO p = .agg [.uq (p.ids.map I), .uq (p.isr.map I), I p.leader, I p.epoch, .uq (p.add.map I), .uq (p.drop.map I)] := rfl
structure Part.Small (p : Part) : Prop where
  ids : p.ids.length ≤ 1000000
  isr : p.isr.length ≤ 1000000
  add : p.add.length ≤ 1000000
  drop : p.drop.length ≤ 1000000
structure Image.Brk (m : Image) : Prop where
  bs : srtB m.brokers
  br : ∀ b ∈ m.brokers, 1 ≤ b.id ∧ b.id ≤ 64
  bl : m.brokers.length ≤ 1000
end
end Go.Am
