/- Part of the proof of a law of moving. -/
import Derived.Test.YtmnheledelnbfaaGreatDoorQPV
import Derived.Test.YtmnheledelnbfaaGreatDoorQVB
set_option linter.all false
namespace Go.Am
open Go
noncomputable section
def fourX : List Record := [{ zR with kind := 2, broker := 3, epoch := 1, rack := bs [97] }, { zR with kind := 4, broker := 3, epoch := 1 }, { zR with kind := 2, broker := 4, epoch := 1, rack := bs [98] }, { zR with kind := 4, broker := 4, epoch := 1 }]
def fourL : List Record := firstL ++ fourX
def gm : Image := made fourL
theorem gm_inv : gm.Inv 10 := made_inv fourL (by decide)
theorem gm_part : gm.part 1 0 = some fp := by kernel_rfl
theorem gm_topics : gm.topics = [⟨1, bs [116], [fp]⟩] := by kernel_rfl
def gq : Part := ⟨[3, 2, 1], [1, 2], 1, 0, [3], [1]⟩
theorem gm_startE : gm.startE fp [3, 2] = none := by kernel_rfl
theorem gm_startP : gm.startP fp [3, 2] = gq := by kernel_rfl
theorem gm_finish : gm.finish gq = (gq, false) := by kernel_rfl
def gb : Part := ⟨[2, 1], [1, 2], 1, 0, [], []⟩
theorem gm_cancelE : gm.cancelE gq = none := by kernel_rfl
theorem gm_cancelP : gm.cancelP gq = gb := by kernel_rfl
def gq2 : Part := ⟨[3, 2, 1], [1, 2, 3], 1, 0, [3], [1]⟩
def gr : Part := ⟨[3, 2], [2, 3], 3, 1, [], []⟩
theorem gm_finish2 : gm.finish gq2 = (gr, true) := by kernel_rfl
theorem gm_start1E : gm.startE fp [1, 2] = some (.fault tgt 2 (.code 9)) := by kernel_rfl
theorem gm_start1P : gm.startP fp [1, 2] = fp := by kernel_rfl
theorem gm_cancel1E : gm.cancelE fp = some (mvs, 0, 8) := by kernel_rfl
theorem gm_cancel1P : gm.cancelP fp = fp := by kernel_rfl
def gx : Part := ⟨[4, 1, 2], [1, 2], 1, 0, [4], [1, 2]⟩
theorem gm_start4P : gm.startP fp [4] = gx := by kernel_rfl
theorem gm_due : gm.due = [] := by kernel_rfl
theorem gm_left : gm.left = 0 := by kernel_rfl
theorem gm_finishp : (gm.finish fp).1 = fp := by kernel_rfl
end
end Go.Am
