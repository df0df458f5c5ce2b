/- Part of the proof of a law of moving. -/
import Derived.Test.YtmnheledelnbfaaGreatQAA
import Derived.Test.YtmnheledelnbfaaGreatQPV
set_option linter.all false
set_option maxRecDepth 100000
set_option maxHeartbeats 0
namespace Go.Am
open Go
noncomputable section
def c43 : SC := (.seq (.reg [⟨some 0, .assign (.const (.slice none 0 0)), none, []⟩] []) (.seq (.reg [⟨some 1, .build 73 #[(0, .const (.int .i64 2)), (1, .const (.int .i64 1)), (2, .const (.int .i64 1)), (13, .const (.string ⟨#[97]⟩))], none, []⟩,
  ⟨some 2, .build 73 #[(0, .const (.int .i64 4)), (1, .const (.int .i64 1)), (2, .const (.int .i64 1))], none, []⟩,
  ⟨some 3, .build 73 #[(0, .const (.int .i64 2)), (1, .const (.int .i64 2)), (2, .const (.int .i64 1)), (13, .const (.string ⟨#[98]⟩))], none, []⟩,
  ⟨some 4, .build 73 #[(0, .const (.int .i64 4)), (1, .const (.int .i64 2)), (2, .const (.int .i64 1))], none, []⟩,
  ⟨some 5, .build 73 #[(0, .const (.int .i64 7)), (3, .const (.int .i64 1)), (10, .const (.string ⟨#[116]⟩))], none, []⟩,
  ⟨some 6, .buildSlice 23 2 #[(0, .const (.int .i64 1)), (1, .const (.int .i64 2))], none, []⟩,
  ⟨some 7, .buildSlice 23 2 #[(0, .const (.int .i64 1)), (1, .const (.int .i64 2))], none, []⟩,
  ⟨some 8, .build 73 #[(0, .const (.int .i64 8)), (3, .const (.int .i64 1)), (14, .tmp 6), (15, .tmp 7), (5, .const (.int .i64 1))], none, []⟩,
  ⟨some 9, .buildSlice 22 6 #[(0, .tmp 1), (1, .tmp 2), (2, .tmp 3), (3, .tmp 4), (4, .tmp 5), (5, .tmp 8)], none, []⟩,
  ⟨some 0, .assign (.tmp 9), none, []⟩] [0, 9]) .ret))
theorem s43 : TextK Proofs.Tryz.prog 0 43 10 [ResultVar.tmp 0] c43 := .mk' Proofs.Tryz.f43 _ (by kernel_rfl) rfl rfl rfl (by kernel_rfl) rfl (by kernel_rfl)
end
end Go.Am
