/- Part of the proof of a law of moving. -/
import Derived.Test.YtmnheledelnbfaaGreatQAA
import Derived.Test.YtmnheledelnbfaaGreatQAF
import Derived.Test.YtmnheledelnbfaaGreatQE8f
import Derived.Test.YtmnheledelnbfaaGreatQED
import Derived.Test.YtmnheledelnbfaaGreatQV9
import Derived.Test.YtmnheledelnbfaaGreatQVC
import Derived.Test.YtmnheledelnbfaaGreatQVw
set_option linter.all false
set_option maxRecDepth 100000
set_option maxHeartbeats 0
namespace Go.Am
open Go
noncomputable section
def c25 : SC := (.seq (.reg [⟨some 0, .assign (.const (.slice none 0 0)), none, []⟩] []) (.seq (.reg [⟨some 2, .call { callee := .value (.func 43), args := #[], argTypes := #[] }, none, []⟩,
  ⟨some 1, .assign (.tmp 2), none, []⟩] [1, 2]) (.seq (.reg [⟨some 3, .move (.tmp 1), none, []⟩,
  ⟨some 4, .build 73 #[(0, .const (.int .i64 2)), (1, .const (.int .i64 3)), (2, .const (.int .i64 1)), (13, .const (.string ⟨#[97]⟩))], none, []⟩,
  ⟨some 5, .build 73 #[(0, .const (.int .i64 4)), (1, .const (.int .i64 3)), (2, .const (.int .i64 1))], none, []⟩,
  ⟨some 6, .build 73 #[(0, .const (.int .i64 2)), (1, .const (.int .i64 4)), (2, .const (.int .i64 1)), (13, .const (.string ⟨#[98]⟩))], none, []⟩,
  ⟨some 7, .build 73 #[(0, .const (.int .i64 4)), (1, .const (.int .i64 4)), (2, .const (.int .i64 1))], none, []⟩,
  ⟨some 8, .buildSlice 22 4 #[(0, .tmp 4), (1, .tmp 5), (2, .tmp 6), (3, .tmp 7)], none, []⟩,
  ⟨some 9, .call { callee := .builtin .append, args := #[.tmp 3, .tmp 8], argTypes := #[22, 22] }, none, []⟩,
  ⟨some 0, .assign (.tmp 9), none, []⟩] [0, 9]) .ret)))
theorem s25 : TextK Proofs.Tryz.prog 0 25 10 [ResultVar.tmp 0] c25 := .mk' Proofs.Tryz.f25 _ (by kernel_rfl) rfl rfl rfl (by kernel_rfl) rfl (by kernel_rfl)
def c8 : SC := (.seq (.reg [⟨some 0, .assign (.const (.bool false)), none, []⟩] []) (.seq (.reg [⟨some 18, .call { callee := .value (.func 25), args := #[], argTypes := #[] }, none, []⟩,
  ⟨some 19, .call { callee := .value (.func 9), args := #[.tmp 18], argTypes := #[22] }, none, []⟩,
  ⟨some 1, .alloc 36, none, []⟩,
  ⟨none, .store 36 (.tmp 1) (.tmp 19), none, []⟩] [1]) (.seq (.reg [⟨some 21, .load 36 (.tmp 1), none, []⟩,
  ⟨some 22, .call { callee := .value (.func 15), args := #[.tmp 21, .const (.int .i64 1), .const (.int .i64 0)], argTypes := #[36, 3, 3] }, none, []⟩,
  ⟨some 20, .move (.tmp 22), none, []⟩,
  ⟨some 23, .extract (.tmp 20) 0, none, []⟩,
  ⟨some 24, .extract (.tmp 20) 1, none, []⟩,
  ⟨some 2, .alloc 52, none, []⟩,
  ⟨none, .store 52 (.tmp 2) (.tmp 23), none, []⟩,
  ⟨some 3, .assign (.tmp 24), none, []⟩] [1, 2]) (.seq (.reg [⟨some 26, .load 36 (.tmp 1), none, []⟩,
  ⟨some 27, .load 52 (.tmp 2), none, []⟩,
  ⟨some 28, .buildSlice 23 2 #[(0, .const (.int .i64 3)), (1, .const (.int .i64 2))], none, []⟩,
  ⟨some 29, .call { callee := .value (.func 22), args := #[.tmp 26, .tmp 27, .tmp 28], argTypes := #[36, 52, 23] }, none, []⟩,
  ⟨some 25, .move (.tmp 29), none, []⟩,
  ⟨some 30, .extract (.tmp 25) 0, none, []⟩,
  ⟨some 31, .extract (.tmp 25) 1, none, []⟩,
  ⟨some 4, .alloc 52, none, []⟩,
  ⟨none, .store 52 (.tmp 4) (.tmp 30), none, []⟩,
  ⟨some 5, .assign (.tmp 31), none, []⟩] [1, 2, 4, 5, 25, 29, 31]) (.seq (.reg [⟨some 33, .load 36 (.tmp 1), none, []⟩,
  ⟨some 34, .load 52 (.tmp 4), none, []⟩,
  ⟨some 35, .call { callee := .value (.func 21), args := #[.tmp 33, .tmp 34], argTypes := #[36, 52] }, none, []⟩,
  ⟨some 32, .move (.tmp 35), none, []⟩,
  ⟨some 36, .extract (.tmp 32) 0, none, []⟩,
  ⟨some 37, .extract (.tmp 32) 1, none, []⟩,
  ⟨some 6, .alloc 52, none, []⟩,
  ⟨none, .store 52 (.tmp 6) (.tmp 36), none, []⟩,
  ⟨some 7, .assign (.tmp 37), none, []⟩] [1, 2, 4, 5, 7, 25, 29, 31, 32, 35, 37]) (.seq (.reg [⟨some 39, .load 36 (.tmp 1), none, []⟩,
  ⟨some 40, .load 52 (.tmp 4), none, []⟩,
  ⟨some 41, .call { callee := .value (.func 24), args := #[.tmp 39, .tmp 40], argTypes := #[36, 52] }, none, []⟩,
  ⟨some 38, .move (.tmp 41), none, []⟩,
  ⟨some 42, .extract (.tmp 38) 0, none, []⟩,
  ⟨some 43, .extract (.tmp 38) 1, none, []⟩,
  ⟨some 8, .alloc 52, none, []⟩,
  ⟨none, .store 52 (.tmp 8) (.tmp 42), none, []⟩,
  ⟨some 9, .assign (.tmp 43), none, []⟩] [1, 2, 4, 5, 7, 8, 9, 25, 29, 31, 32, 35, 37, 38, 41, 43]) (.seq (.reg [⟨some 44, .buildSlice 23 3 #[(0, .const (.int .i64 1)), (1, .const (.int .i64 2)), (2, .const (.int .i64 3))], none, []⟩,
  ⟨some 45, .fieldAddr 52 (.tmp 4) 1, none, []⟩,
  ⟨none, .store 23 (.tmp 45) (.tmp 44), none, []⟩] [1, 2, 4, 5, 7, 8, 9, 25, 29, 31, 32, 35, 37, 38, 41, 43]) (.seq (.reg [⟨some 47, .load 36 (.tmp 1), none, []⟩,
  ⟨some 48, .load 52 (.tmp 4), none, []⟩,
  ⟨some 49, .call { callee := .value (.func 21), args := #[.tmp 47, .tmp 48], argTypes := #[36, 52] }, none, []⟩,
  ⟨some 46, .move (.tmp 49), none, []⟩,
  ⟨some 50, .extract (.tmp 46) 0, none, []⟩,
  ⟨some 51, .extract (.tmp 46) 1, none, []⟩,
  ⟨some 10, .alloc 52, none, []⟩,
  ⟨none, .store 52 (.tmp 10) (.tmp 50), none, []⟩,
  ⟨some 11, .assign (.tmp 51), none, []⟩] [1, 2, 4, 5, 7, 8, 9, 10, 11, 25, 29, 31, 32, 35, 37, 38, 41, 43, 46, 49, 51]) (.seq (.reg [⟨some 53, .load 36 (.tmp 1), none, []⟩,
  ⟨some 54, .load 52 (.tmp 2), none, []⟩,
  ⟨some 55, .buildSlice 23 2 #[(0, .const (.int .i64 1)), (1, .const (.int .i64 2))], none, []⟩,
  ⟨some 56, .call { callee := .value (.func 22), args := #[.tmp 53, .tmp 54, .tmp 55], argTypes := #[36, 52, 23] }, none, []⟩,
  ⟨some 52, .move (.tmp 56), none, []⟩,
  ⟨some 57, .extract (.tmp 52) 0, none, []⟩,
  ⟨some 58, .extract (.tmp 52) 1, none, []⟩,
  ⟨some 12, .alloc 52, none, []⟩,
  ⟨none, .store 52 (.tmp 12) (.tmp 57), none, []⟩,
  ⟨some 13, .assign (.tmp 58), none, []⟩] [1, 2, 4, 5, 7, 8, 9, 10, 11, 13, 25, 29, 31, 32, 35, 37, 38, 41, 43, 46, 49, 51, 52, 56, 58]) (.seq (.reg [⟨some 60, .load 36 (.tmp 1), none, []⟩,
  ⟨some 61, .load 52 (.tmp 2), none, []⟩,
  ⟨some 62, .call { callee := .value (.func 24), args := #[.tmp 60, .tmp 61], argTypes := #[36, 52] }, none, []⟩,
  ⟨some 59, .move (.tmp 62), none, []⟩,
  ⟨some 63, .extract (.tmp 59) 0, none, []⟩,
  ⟨some 64, .extract (.tmp 59) 1, none, []⟩,
  ⟨some 14, .alloc 52, none, []⟩,
  ⟨none, .store 52 (.tmp 14) (.tmp 63), none, []⟩,
  ⟨some 15, .assign (.tmp 64), none, []⟩] [1, 4, 5, 7, 8, 9, 10, 11, 13, 15, 25, 29, 31, 32, 35, 37, 38, 41, 43, 46, 49, 51, 52, 56, 58, 59, 62, 64]) (.seq (.reg [⟨some 66, .load 36 (.tmp 1), none, []⟩,
  ⟨some 67, .buildSlice 23 1 #[(0, .const (.int .i64 4))], none, []⟩,
  ⟨some 68, .build 27 #[(2, .const (.int .i64 5)), (3, .const (.string ⟨#[116]⟩)), (10, .tmp 67)], none, []⟩,
  ⟨some 69, .call { callee := .value (.func 10), args := #[.tmp 66, .tmp 68], argTypes := #[36, 27] }, none, []⟩,
  ⟨some 65, .move (.tmp 69), none, []⟩,
  ⟨some 70, .extract (.tmp 65) 0, none, []⟩,
  ⟨some 71, .extract (.tmp 65) 1, none, []⟩,
  ⟨some 16, .assign (.tmp 70), none, []⟩,
  ⟨some 17, .assign (.tmp 71), none, []⟩] [1, 4, 5, 7, 8, 9, 10, 11, 13, 15, 16, 17, 25, 29, 31, 32, 35, 37, 38, 41, 43, 46, 49, 51, 52, 56, 58, 59, 62, 64, 65, 69, 70, 71]) (.seq (.reg (⟨some 72, .move (.tmp 5), none, []⟩ ::
  ⟨some 73, .binOp .eql 39 (.tmp 72) (.const .nilIface) 39, none, []⟩ ::
  ⟨some 74, .move (.tmp 73), none, []⟩ ::
  ⟨some 75, .move (.tmp 7), (some (74, true)), []⟩ ::
  ⟨some 76, .unOp .not 4 (.tmp 75), (some (74, true)), []⟩ ::
  ⟨some 77, .pick (.tmp 74) (.tmp 76) (.const (.bool false)), none, []⟩ ::
  ⟨some 78, .move (.tmp 77), none, []⟩ ::
  ⟨some 79, .move (.tmp 9), (some (78, true)), []⟩ ::
  ⟨some 80, .binOp .eql 39 (.tmp 79) (.const .nilIface) 39, (some (78, true)), []⟩ ::
  ⟨some 81, .pick (.tmp 78) (.tmp 80) (.const (.bool false)), none, []⟩ ::
  ⟨some 82, .move (.tmp 81), none, []⟩ ::
  ⟨some 83, .fieldAddr 52 (.tmp 8) 0, (some (82, true)), []⟩ ::
  ⟨some 84, .load 23 (.tmp 83), (some (82, true)), []⟩ ::
  ⟨some 85, .buildSlice 23 2 #[(0, .const (.int .i64 2)), (1, .const (.int .i64 1))], (some (82, true)), []⟩ ::
  ⟨some 86, .call { callee := .value (.func 16), args := #[.tmp 84, .tmp 85], argTypes := #[23, 23] }, (some (82, true)), []⟩ ::
  ⟨some 87, .pick (.tmp 82) (.tmp 86) (.const (.bool false)), none, []⟩ ::
  ⟨some 88, .move (.tmp 87), none, []⟩ ::
  ⟨some 89, .move (.tmp 11), (some (88, true)), []⟩ ::
  ⟨some 90, .pick (.tmp 88) (.tmp 89) (.const (.bool false)), none, []⟩ ::
  ⟨some 91, .move (.tmp 90), none, []⟩ ::
  ⟨some 92, .fieldAddr 52 (.tmp 10) 0, (some (91, true)), []⟩ ::
  ⟨some 93, .load 23 (.tmp 92), (some (91, true)), []⟩ ::
  ⟨some 94, .buildSlice 23 2 #[(0, .const (.int .i64 3)), (1, .const (.int .i64 2))], (some (91, true)), []⟩ ::
  ⟨some 95, .call { callee := .value (.func 16), args := #[.tmp 93, .tmp 94], argTypes := #[23, 23] }, (some (91, true)), []⟩ ::
  ⟨some 96, .pick (.tmp 91) (.tmp 95) (.const (.bool false)), none, []⟩ ::
  ⟨some 97, .move (.tmp 96), none, []⟩ ::
  ⟨some 98, .fieldAddr 52 (.tmp 10) 2, (some (97, true)), []⟩ ::
  ⟨some 99, .load 3 (.tmp 98), (some (97, true)), []⟩ ::
  ⟨some 100, .binOp .eql 3 (.tmp 99) (.const (.int .i64 3)) 3, (some (97, true)), []⟩ ::
  ⟨some 101, .pick (.tmp 97) (.tmp 100) (.const (.bool false)), none, []⟩ ::
  ⟨some 102, .move (.tmp 101), none, []⟩ ::
  ⟨some 103, .fieldAddr 52 (.tmp 10) 3, (some (102, true)), []⟩ ::
  ⟨some 104, .load 3 (.tmp 103), (some (102, true)), []⟩ ::
  ⟨some 105, .binOp .eql 3 (.tmp 104) (.const (.int .i64 1)) 3, (some (102, true)), []⟩ ::
  ⟨some 106, .pick (.tmp 102) (.tmp 105) (.const (.bool false)), none, []⟩ ::
  ⟨some 107, .move (.tmp 106), none, []⟩ ::
  ⟨some 108, .move (.tmp 13), (some (107, true)), []⟩ ::
  ⟨some 109, .call { callee := .value (.func 26), args := #[.tmp 108, .const (.int .i64 9)], argTypes := #[39, 42] }, (some (107, true)), []⟩ ::
  ⟨some 110, .pick (.tmp 107) (.tmp 109) (.const (.bool false)), none, []⟩ ::
  ⟨some 111, .move (.tmp 110), none, []⟩ ::
  ⟨some 112, .move (.tmp 15), (some (111, true)), []⟩ ::
  ⟨some 113, .call { callee := .value (.func 26), args := #[.tmp 112, .const (.int .i64 8)], argTypes := #[39, 42] }, (some (111, true)), []⟩ ::
  ⟨some 114, .pick (.tmp 111) (.tmp 113) (.const (.bool false)), none, []⟩ ::
  ⟨some 115, .move (.tmp 114), none, []⟩ ::
  ⟨some 116, .move (.tmp 17), (some (115, true)), []⟩ ::
  ⟨some 117, .binOp .eql 39 (.tmp 116) (.const .nilIface) 39, (some (115, true)), []⟩ ::
  ⟨some 118, .pick (.tmp 115) (.tmp 117) (.const (.bool false)), none, []⟩ ::
  ⟨some 119, .move (.tmp 118), none, []⟩ ::
  ⟨some 120, .move (.tmp 16), (some (119, true)), []⟩ ::
  ⟨some 121, .call { callee := .builtin .len, args := #[.tmp 120], argTypes := #[22] }, (some (119, true)), []⟩ ::
  ⟨some 122, .binOp .eql 3 (.tmp 121) (.const (.int .i64 1)) 3, (some (119, true)), []⟩ ::
  ⟨some 123, .pick (.tmp 119) (.tmp 122) (.const (.bool false)), none, []⟩ ::
  ⟨some 124, .move (.tmp 123), none, []⟩ ::
  ⟨some 125, .load 36 (.tmp 1), (some (124, true)), []⟩ ::
  ⟨some 126, .call { callee := .value (.func 12), args := #[.tmp 125], argTypes := #[36] }, (some (124, true)), []⟩ ::
  ⟨some 127, .call { callee := .builtin .len, args := #[.tmp 126], argTypes := #[22] }, (some (124, true)), []⟩ ::
  ⟨some 128, .binOp .eql 3 (.tmp 127) (.const (.int .i64 0)) 3, (some (124, true)), []⟩ ::
  ⟨some 129, .pick (.tmp 124) (.tmp 128) (.const (.bool false)), none, []⟩ ::
  ⟨some 130, .move (.tmp 129), none, []⟩ ::
  ⟨some 131, .load 36 (.tmp 1), (some (130, true)), []⟩ ::
  ⟨some 132, .call { callee := .value (.func 13), args := #[.tmp 131], argTypes := #[36] }, (some (130, true)), []⟩ ::
  ⟨some 133, .binOp .eql 3 (.tmp 132) (.const (.int .i64 0)) 3, (some (130, true)), []⟩ ::
  ⟨some 134, .pick (.tmp 130) (.tmp 133) (.const (.bool false)), none, []⟩ ::
  ⟨some 135, .move (.tmp 134), none, []⟩ ::
  ⟨some 136, .load 52 (.tmp 4), (some (135, true)), []⟩ ::
  ⟨some 137, .call { callee := .value (.func 20), args := #[.tmp 136], argTypes := #[52] }, (some (135, true)), []⟩ ::
  ⟨some 138, .pick (.tmp 135) (.tmp 137) (.const (.bool false)), none, []⟩ ::
  ⟨some 139, .move (.tmp 138), none, []⟩ ::
  ⟨some 140, .load 52 (.tmp 4), (some (139, true)), []⟩ ::
  ⟨some 141, .call { callee := .value (.func 27), args := #[.tmp 140], argTypes := #[52] }, (some (139, true)), []⟩ ::
  ⟨some 142, .buildSlice 23 2 #[(0, .const (.int .i64 3)), (1, .const (.int .i64 2))], (some (139, true)), []⟩ ::
  ⟨some 143, .call { callee := .value (.func 16), args := #[.tmp 141, .tmp 142], argTypes := #[23, 23] }, (some (139, true)), []⟩ ::
  ⟨some 144, .pick (.tmp 139) (.tmp 143) (.const (.bool false)), none, []⟩ ::
  ⟨some 0, .assign (.tmp 144), none, []⟩ :: []) [0, 11, 46, 49, 51, 73, 74, 76, 77, 78, 80, 81, 82, 86, 87, 88, 89, 90, 91, 95, 96, 97, 100, 101, 102, 105, 106, 107, 109, 110, 111, 113, 114, 115, 117, 118, 119, 122, 123, 124, 128, 129, 130, 133, 134, 135, 137, 138, 139, 143, 144]) .ret))))))))))))
theorem s8 : TextK Proofs.Tryz.prog 0 8 145 [ResultVar.tmp 0] c8 := .mk' Proofs.Tryz.f8 _ (by kernel_rfl) rfl rfl rfl (by kernel_rfl) rfl (by kernel_rfl)
theorem first_okU : ACall pg 43 [] (.uq (firstL.map encR)) := by
  refine s43.call mo (by simp) fun hxs => ?_
  clear hxs
  unfold c43
  repeat' first | (with_reducible first | refine awRet ?_) | ((with_reducible refine awReg fun K hok hK => ?_); clear hok; (try simp (maxSteps := 10000000) (disch := first | omega | simp) []); (repeat' first | (with_reducible refine hK _ (by simp) ?_)) <;> clear hK K) | ((with_reducible refine awCond fun A B hA hB => ?_); simp (maxSteps := 10000000) (disch := first | omega | simp) []; (first | refine ⟨fun h => hA ?_, fun h => hB ?_⟩ | refine hA ?_ | refine hB ?_) <;> (clear hA hB A B; (try (exfalso; omega))))
  (refine aEnR (aRes [] fun K hK => ?_); simp (maxSteps := 10000000) (disch := first | omega | simp) [firstL, zR, bs]; refine hK _ ?_ (by simp); simp (maxSteps := 10000000) (disch := first | omega | simp) [firstL, zR, bs])
theorem four_ok : ACall pg 25 [] (.sl (fourL.map encR)) := by
  refine s25.call mo (by simp) fun hxs => ?_
  clear hxs
  unfold c25
  have f0 : firstL.length = 6 := rfl
  repeat' first | (with_reducible first | refine awRet ?_) | ((with_reducible refine awReg fun K hok hK => ?_); clear hok; (try simp (maxSteps := 10000000) (disch := first | omega | simp) [f0]); (repeat' first | (with_reducible refine hK _ (by simp) ?_) | ((with_reducible refine callF' fun K2 hK2 => ?_); (try simp (maxSteps := 10000000) (disch := first | omega | simp) [f0]); (refine hK2 _ _ _ first_okU fun _ => ?_); clear hK2 K2; (try simp (maxSteps := 10000000) (disch := first | omega | simp) [f0]))) <;> clear hK K) | ((with_reducible refine awCond fun A B hA hB => ?_); simp (maxSteps := 10000000) (disch := first | omega | simp) [f0]; (first | refine ⟨fun h => hA ?_, fun h => hB ?_⟩ | refine hA ?_ | refine hB ?_) <;> (clear hA hB A B; (try (exfalso; omega))))
  (refine aEnR (aRes [true] fun K hK => ?_); simp (maxSteps := 10000000) (disch := first | omega | simp) [fourL, fourX, firstL, zR, bs]; refine hK _ ?_ (by simp); clear hK; first | done | (simp (maxSteps := 10000000) (disch := first | omega | simp) [fourL, fourX, firstL, zR, bs, *]; done) | (simp (maxSteps := 10000000) (disch := first | omega | simp) [fourL, fourX, firstL, zR, bs, *]; omega) | (simp_all [fourL, fourX, firstL, zR, bs]; done) | (simp_all [fourL, fourX, firstL, zR, bs]; omega))
theorem mworks_ok : ACall pg 8 [] (B true) := by
  refine s8.call mo (by simp) fun hxs => ?_
  clear hxs
  have hpre := gm_inv.pre (by decide)
  have hbk : gm.Brk := ⟨gm_inv.bs, fun b hb => by have := gm_inv.br b hb; omega, by have := gm_inv.bl; omega⟩
  have hbl := gm_inv.bl
  have sp : fp.Small := ⟨by decide, by decide, by decide, by decide⟩
  have sq : gq.Small := ⟨by decide, by decide, by decide, by decide⟩
  have sq2 : gq2.Small := ⟨by decide, by decide, by decide, by decide⟩
  have sx : gx.Small := ⟨by decide, by decide, by decide, by decide⟩
  have bp : ∀ n ∈ fp.ids, big62 n := by decide
  have bq : ∀ n ∈ gq.ids, big62 n := by decide
  have bq2 : ∀ n ∈ gq2.ids, big62 n := by decide
  have ep : 0 ≤ fp.epoch ∧ fp.epoch ≤ 1000000 := by decide
  have eq : 0 ≤ gq.epoch ∧ gq.epoch ≤ 1000000 := by decide
  have eq2 : 0 ≤ gq2.epoch ∧ gq2.epoch ≤ 1000000 := by decide
  have hall : ∀ t ∈ gm.topics, ∀ p ∈ t.parts, p = fp := by rw [gm_topics]; intro t ht p hp; simp at ht; subst ht; simpa using hp
  have hsm : gm.Sml := ⟨hpre.tl, hpre.pl, fun t ht p hp => by rw [hall t ht p hp]; exact sp⟩
  have h1 := made_ok fourL (by decide)
  have h2 := part_ok gm 1 0
  rw [gm_part] at h2
  have h3 := start_walk gm fp [3, 2] (by omega) sp (by decide) (by decide)
  rw [gm_startE, gm_startP] at h3
  have h4 := finish_ok gm gq hbk sq bq eq
  rw [gm_finish] at h4
  have h5 := cancel_ok gm gq hbk sq bq eq
  rw [gm_cancelE, gm_cancelP] at h5
  have h6 := finish_ok gm gq2 hbk sq2 bq2 eq2
  rw [gm_finish2] at h6
  have h7 := start_walk gm fp [1, 2] (by omega) sp (by decide) (by decide)
  have hf : errE (some (Er.fault tgt 2 (.code 9))) = errF tgt 2 9 := (errO_E (some (tgt, 2, 9))).symm
  rw [gm_start1E, gm_start1P, hf] at h7
  have h8 := cancel_ok gm fp hbk sp bp ep
  rw [gm_cancel1E, gm_cancel1P] at h8
  have qd : Req := ⟨0, 0, 5, bs [116], bs [], bs [], false, 0, 0, 0, [4], 0, 0, bs [], 0, 0, 0, false, false⟩
  have ha : gm.at ⟨0, 0, 5, bs [116], bs [], bs [], false, 0, 0, 0, [4], 0, 0, bs [], 0, 0, 0, false, false⟩ = some (⟨1, bs [116], [fp]⟩, 0, fp) := by kernel_rfl
  have haE : gm.atE ⟨0, 0, 5, bs [116], bs [], bs [], false, 0, 0, 0, [4], 0, 0, bs [], 0, 0, 0, false, false⟩ = none := by kernel_rfl
  have haP : gm.atP ⟨0, 0, 5, bs [116], bs [], bs [], false, 0, 0, 0, [4], 0, 0, bs [], 0, 0, 0, false, false⟩ = fp := by kernel_rfl
  have hdE : gm.doE ⟨0, 0, 5, bs [116], bs [], bs [], false, 0, 0, 0, [4], 0, 0, bs [], 0, 0, 0, false, false⟩ = none := by kernel_rfl
  have hdL : gm.doL ⟨0, 0, 5, bs [116], bs [], bs [], false, 0, 0, 0, [4], 0, 0, bs [], 0, 0, 0, false, false⟩ = [change 1 0 gx] := by kernel_rfl
  have h9 := do_c gm ⟨0, 0, 5, bs [116], bs [], bs [], false, 0, 0, 0, [4], 0, 0, bs [], 0, 0, 0, false, false⟩ rfl haE (by have := hpre.tl; omega) (fun t ht => by have := hpre.pl t ht; omega) (by rw [haP]; exact start_walk gm fp [4] (by omega) sp (by decide) (by decide)) (by rw [haP]; show (gm.startP fp [4]).Small; rw [gm_start4P]; exact sx) (by decide)
  rw [hdE, hdL] at h9
  have h10 := due_ok gm hbk hsm (fun t ht p hp => by rw [hall t ht p hp]; exact bp) (fun t ht p hp => by rw [hall t ht p hp]; exact ep) (fun t ht p hp => by rw [hall t ht p hp, gm_finishp]; exact sp)
  rw [gm_due] at h10
  have h11 := left_ok gm hsm
  rw [gm_left] at h11
  have h12 := under_ok gq2
  rw [show gq2.under = true from rfl] at h12
  have h13 := mtarget_ok gq2 sq2
  rw [show minus gq2.ids gq2.drop = [3, 2] from rfl] at h13
  have hie (a : List Int) : ACall pg 16 [Li a, Li a] (B true) := by
    have := ints_ok a a
    rwa [show (a == a) = true from by simp] at this
  have h14 := hie [2, 1]
  have h15 := hie [3, 2]
  unfold c8
  clear hall hsm hpre hbl sp sq sq2 sx bp bq bq2 ep eq eq2 qd ha haE haP hdE hdL hf hie
  simp only [fp, gq, gb, gq2, gr, gx, encP_eq] at h2 h3 h4 h5 h6 h7 h8 h12 h13
  repeat' first | (with_reducible first | refine awRet ?_) | ((with_reducible refine awReg fun K hok hK => ?_); clear hok; (try simp (maxSteps := 10000000) (disch := first | omega | simp) [isConst]); (repeat' first | (with_reducible refine hK _ (by simp) ?_) | ((first | ((with_reducible refine callS' fun K2 hK2 => ?_); (try simp (maxSteps := 10000000) (disch := first | omega | simp) [isConst]); (first | refine hK2 _ _ four_ok rfl fun hk9 => ?_ | refine hK2 _ _ h1 rfl fun hk9 => ?_ | refine hK2 _ _ h2 rfl fun hk9 => ?_ | refine hK2 _ _ h3 rfl fun hk9 => ?_ | refine hK2 _ _ h4 rfl fun hk9 => ?_ | refine hK2 _ _ h5 rfl fun hk9 => ?_ | refine hK2 _ _ h6 rfl fun hk9 => ?_ | refine hK2 _ _ h7 rfl fun hk9 => ?_ | refine hK2 _ _ h8 rfl fun hk9 => ?_ | refine hK2 _ _ h9 rfl fun hk9 => ?_ | refine hK2 _ _ h10 rfl fun hk9 => ?_ | refine hK2 _ _ h11 rfl fun hk9 => ?_ | refine hK2 _ _ h12 rfl fun hk9 => ?_ | refine hK2 _ _ h13 rfl fun hk9 => ?_ | refine hK2 _ _ h14 rfl fun hk9 => ?_ | refine hK2 _ _ h15 rfl fun hk9 => ?_ | refine hK2 _ _ (isF_ok _ _ _ _) rfl fun hk9 => ?_); clear hk9; clear hK2 K2) | ((with_reducible refine callF' fun K2 hK2 => ?_); (try simp (maxSteps := 10000000) (disch := first | omega | simp) [isConst]); (first | refine hK2 _ _ _ four_ok fun _ => ?_ | refine hK2 _ _ _ h1 fun _ => ?_ | refine hK2 _ _ _ h2 fun _ => ?_ | refine hK2 _ _ _ h3 fun _ => ?_ | refine hK2 _ _ _ h4 fun _ => ?_ | refine hK2 _ _ _ h5 fun _ => ?_ | refine hK2 _ _ _ h6 fun _ => ?_ | refine hK2 _ _ _ h7 fun _ => ?_ | refine hK2 _ _ _ h8 fun _ => ?_ | refine hK2 _ _ _ h9 fun _ => ?_ | refine hK2 _ _ _ h10 fun _ => ?_ | refine hK2 _ _ _ h11 fun _ => ?_ | refine hK2 _ _ _ h12 fun _ => ?_ | refine hK2 _ _ _ h13 fun _ => ?_ | refine hK2 _ _ _ h14 fun _ => ?_ | refine hK2 _ _ _ h15 fun _ => ?_ | refine hK2 _ _ _ (isF_ok _ _ _ _) fun _ => ?_); clear hK2 K2)); (try simp (maxSteps := 10000000) (disch := first | omega | simp) [isConst]))) <;> clear hK K) | ((with_reducible refine awCond fun A B hA hB => ?_); simp (maxSteps := 10000000) (disch := first | omega | simp) [isConst]; (first | refine ⟨fun h => hA ?_, fun h => hB ?_⟩ | refine hA ?_ | refine hB ?_) <;> (clear hA hB A B; (try (exfalso; omega))))
  all_goals (refine aEnR (aRes [] fun K hK => ?_); simp (maxSteps := 10000000) (disch := first | omega | simp) []; refine hK _ ?_ (by simp); simp (maxSteps := 10000000) (disch := first | omega | simp) [])
end
end Go.Am
