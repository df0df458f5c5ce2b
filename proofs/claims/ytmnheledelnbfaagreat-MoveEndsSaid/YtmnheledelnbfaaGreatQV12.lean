/- Part of the proof of a law of moving. -/
import Derived.Test.YtmnheledelnbfaaGreatQV12a
set_option linter.all false
set_option maxRecDepth 100000
set_option maxHeartbeats 0
namespace Go.Am
open Go
noncomputable section
def c4 : SC := (.seq (.reg [⟨some 6, .assign (.const (.bool false)), none, []⟩] [0, 1, 2, 30, 43, 56, 129, 130, 131, 132, 142, 143, 144, 145, 149, 150, 153, 154, 155, 158, 159, 163, 164, 165, 166, 171, 172, 173, 174, 175]) (.seq (.reg [⟨some 22, .move (.tmp 0), none, []⟩,
  ⟨some 23, .call { callee := .value (.func 6), args := #[.tmp 22], argTypes := #[22] }, none, []⟩,
  ⟨some 24, .unOp .not 4 (.tmp 23), none, []⟩,
  ⟨some 25, .move (.tmp 24), none, []⟩,
  ⟨some 26, .move (.tmp 2), (some (25, false)), []⟩,
  ⟨some 27, .call { callee := .builtin .len, args := #[.tmp 26], argTypes := #[23] }, (some (25, false)), []⟩,
  ⟨some 28, .binOp .gtr 3 (.tmp 27) (.const (.int .i64 60)) 3, (some (25, false)), []⟩,
  ⟨some 29, .pick (.tmp 25) (.const (.bool true)) (.tmp 28), none, []⟩] [0, 1, 2, 24, 25, 28, 29, 30, 43, 56, 129, 130, 131, 132, 142, 143, 144, 145, 149, 150, 153, 154, 155, 158, 159, 163, 164, 165, 166, 171, 172, 173, 174, 175]) (.seq (.cond (.tmp 29) (.seq (.reg [⟨some 30, .call { callee := .value (.func 8), args := #[], argTypes := #[] }, none, []⟩,
  ⟨some 6, .assign (.tmp 30), none, []⟩] [6, 30, 43, 56, 129, 130, 131, 132, 142, 143, 144, 145, 149, 150, 153, 154, 155, 158, 159, 163, 164, 165, 166, 171, 172, 173, 174, 175]) .ret) .skip) (.seq (.reg [⟨some 31, .move (.tmp 0), none, []⟩,
  ⟨some 32, .call { callee := .value (.func 9), args := #[.tmp 31], argTypes := #[22] }, none, []⟩,
  ⟨some 7, .alloc 36, none, []⟩,
  ⟨none, .store 36 (.tmp 7) (.tmp 32), none, []⟩] [1, 2, 7, 30, 43, 56, 129, 130, 131, 132, 142, 143, 144, 145, 149, 150, 153, 154, 155, 158, 159, 163, 164, 165, 166, 171, 172, 173, 174, 175]) (.seq (.reg [⟨some 34, .load 36 (.tmp 7), none, []⟩,
  ⟨some 35, .move (.tmp 1), none, []⟩,
  ⟨some 36, .call { callee := .value (.func 14), args := #[.tmp 34, .tmp 35], argTypes := #[36, 3] }, none, []⟩,
  ⟨some 33, .move (.tmp 36), none, []⟩,
  ⟨some 37, .extract (.tmp 33) 0, none, []⟩,
  ⟨some 38, .extract (.tmp 33) 1, none, []⟩,
  ⟨some 39, .extract (.tmp 33) 2, none, []⟩,
  ⟨some 40, .extract (.tmp 33) 3, none, []⟩,
  ⟨some 8, .alloc 50, none, []⟩,
  ⟨some 10, .alloc 52, none, []⟩,
  ⟨none, .store 50 (.tmp 8) (.tmp 37), none, []⟩,
  ⟨some 9, .assign (.tmp 38), none, []⟩,
  ⟨none, .store 52 (.tmp 10) (.tmp 39), none, []⟩,
  ⟨some 11, .assign (.tmp 40), none, []⟩] [2, 7, 8, 9, 10, 11, 30, 33, 36, 38, 40, 43, 56, 129, 130, 131, 132, 142, 143, 144, 145, 149, 150, 153, 154, 155, 158, 159, 163, 164, 165, 166, 171, 172, 173, 174, 175]) (.seq (.reg [⟨some 41, .move (.tmp 11), none, []⟩,
  ⟨some 42, .unOp .not 4 (.tmp 41), none, []⟩] [2, 7, 8, 9, 10, 30, 33, 36, 38, 42, 43, 56, 129, 130, 131, 132, 142, 143, 144, 145, 149, 150, 153, 154, 155, 158, 159, 163, 164, 165, 166, 171, 172, 173, 174, 175]) (.seq (.cond (.tmp 42) (.seq (.reg [⟨some 43, .call { callee := .value (.func 8), args := #[], argTypes := #[] }, none, []⟩,
  ⟨some 6, .assign (.tmp 43), none, []⟩] [6, 30, 43, 56, 129, 130, 131, 132, 142, 143, 144, 145, 149, 150, 153, 154, 155, 158, 159, 163, 164, 165, 166, 171, 172, 173, 174, 175]) .ret) .skip) (.seq (.reg [⟨some 45, .load 36 (.tmp 7), none, []⟩,
  ⟨some 46, .fieldAddr 50 (.tmp 8) 1, none, []⟩,
  ⟨some 47, .load 9 (.tmp 46), none, []⟩,
  ⟨some 48, .move (.tmp 9), none, []⟩,
  ⟨some 49, .move (.tmp 2), none, []⟩,
  ⟨some 50, .build 27 #[(2, .const (.int .i64 5)), (3, .tmp 47), (9, .tmp 48), (10, .tmp 49)], none, []⟩,
  ⟨some 51, .call { callee := .value (.func 10), args := #[.tmp 45, .tmp 50], argTypes := #[36, 27] }, none, []⟩,
  ⟨some 44, .move (.tmp 51), none, []⟩,
  ⟨some 52, .extract (.tmp 44) 0, none, []⟩,
  ⟨some 53, .extract (.tmp 44) 1, none, []⟩,
  ⟨some 12, .assign (.tmp 52), none, []⟩,
  ⟨some 13, .assign (.tmp 53), none, []⟩] [2, 7, 8, 9, 10, 12, 13, 30, 33, 36, 38, 43, 44, 51, 52, 53, 56, 129, 130, 131, 132, 142, 143, 144, 145, 149, 150, 153, 154, 155, 158, 159, 163, 164, 165, 166, 171, 172, 173, 174, 175]) (.seq (.reg [⟨some 54, .move (.tmp 13), none, []⟩,
  ⟨some 55, .binOp .neq 39 (.tmp 54) (.const .nilIface) 39, none, []⟩] [2, 7, 8, 9, 10, 12, 30, 33, 36, 38, 43, 44, 51, 52, 55, 56, 129, 130, 131, 132, 142, 143, 144, 145, 149, 150, 153, 154, 155, 158, 159, 163, 164, 165, 166, 171, 172, 173, 174, 175]) (.seq (.cond (.tmp 55) (.seq (.reg [⟨some 56, .call { callee := .value (.func 8), args := #[], argTypes := #[] }, none, []⟩,
  ⟨some 6, .assign (.tmp 56), none, []⟩] [6, 30, 43, 56, 129, 130, 131, 132, 142, 143, 144, 145, 149, 150, 153, 154, 155, 158, 159, 163, 164, 165, 166, 171, 172, 173, 174, 175]) .ret) .skip) (.seq (.reg [⟨some 58, .load 36 (.tmp 7), none, []⟩,
  ⟨some 59, .move (.tmp 12), none, []⟩,
  ⟨some 60, .call { callee := .value (.func 11), args := #[.tmp 58, .tmp 59], argTypes := #[36, 22] }, none, []⟩,
  ⟨some 57, .move (.tmp 60), none, []⟩,
  ⟨some 61, .extract (.tmp 57) 0, none, []⟩,
  ⟨some 62, .extract (.tmp 57) 1, none, []⟩,
  ⟨some 14, .alloc 36, none, []⟩,
  ⟨none, .store 36 (.tmp 14) (.tmp 61), none, []⟩,
  ⟨some 15, .assign (.tmp 62), none, []⟩] [2, 8, 9, 10, 14, 15, 30, 33, 36, 38, 43, 56, 57, 60, 62, 129, 130, 131, 132, 142, 143, 144, 145, 149, 150, 153, 154, 155, 158, 159, 163, 164, 165, 166, 171, 172, 173, 174, 175]) (.seq (.reg [⟨some 64, .load 36 (.tmp 14), none, []⟩,
  ⟨some 65, .fieldAddr 50 (.tmp 8) 0, none, []⟩,
  ⟨some 66, .load 3 (.tmp 65), none, []⟩,
  ⟨some 67, .move (.tmp 9), none, []⟩,
  ⟨some 68, .call { callee := .value (.func 15), args := #[.tmp 64, .tmp 66, .tmp 67], argTypes := #[36, 3, 3] }, none, []⟩,
  ⟨some 63, .move (.tmp 68), none, []⟩,
  ⟨some 69, .extract (.tmp 63) 0, none, []⟩,
  ⟨some 70, .extract (.tmp 63) 1, none, []⟩,
  ⟨some 16, .alloc 52, none, []⟩,
  ⟨none, .store 52 (.tmp 16) (.tmp 69), none, []⟩,
  ⟨some 17, .assign (.tmp 70), none, []⟩] [2, 10, 14, 15, 16, 17, 30, 43, 56, 57, 60, 62, 63, 68, 70, 129, 130, 131, 132, 142, 143, 144, 145, 149, 150, 153, 154, 155, 158, 159, 163, 164, 165, 166, 171, 172, 173, 174, 175]) (.seq (.reg [⟨some 71, .move (.tmp 15), none, []⟩,
  ⟨some 72, .binOp .neq 42 (.tmp 71) (.const (.int .i64 0)) 42, none, []⟩,
  ⟨some 73, .move (.tmp 72), none, []⟩,
  ⟨some 74, .move (.tmp 17), (some (73, false)), []⟩,
  ⟨some 75, .unOp .not 4 (.tmp 74), (some (73, false)), []⟩,
  ⟨some 76, .pick (.tmp 73) (.const (.bool true)) (.tmp 75), none, []⟩,
  ⟨some 77, .move (.tmp 76), none, []⟩,
  ⟨some 78, .fieldAddr 52 (.tmp 16) 0, (some (77, false)), []⟩,
  ⟨some 79, .load 23 (.tmp 78), (some (77, false)), []⟩,
  ⟨some 80, .fieldAddr 52 (.tmp 16) 5, (some (77, false)), []⟩,
  ⟨some 81, .load 23 (.tmp 80), (some (77, false)), []⟩,
  ⟨some 82, .call { callee := .value (.func 17), args := #[.tmp 79, .tmp 81], argTypes := #[23, 23] }, (some (77, false)), []⟩,
  ⟨some 83, .move (.tmp 2), (some (77, false)), []⟩,
  ⟨some 84, .call { callee := .value (.func 16), args := #[.tmp 82, .tmp 83], argTypes := #[23, 23] }, (some (77, false)), []⟩,
  ⟨some 85, .unOp .not 4 (.tmp 84), (some (77, false)), []⟩,
  ⟨some 86, .pick (.tmp 77) (.const (.bool true)) (.tmp 85), none, []⟩] [2, 10, 14, 16, 30, 43, 56, 72, 73, 75, 76, 77, 85, 86, 129, 130, 131, 132, 142, 143, 144, 145, 149, 150, 153, 154, 155, 158, 159, 163, 164, 165, 166, 171, 172, 173, 174, 175]) (.seq (.cond (.tmp 86) (.seq (.reg [⟨some 6, .assign (.const (.bool false)), none, []⟩] [6, 30, 43, 56, 129, 130, 131, 132, 142, 143, 144, 145, 149, 150, 153, 154, 155, 158, 159, 163, 164, 165, 166, 171, 172, 173, 174, 175]) .ret) .skip) (.seq (.reg [⟨some 18, .assign (.const (.int .i64 0)), none, []⟩] [2, 10, 14, 16, 18, 30, 43, 56, 122, 129, 130, 131, 132, 142, 143, 144, 145, 149, 150, 153, 154, 155, 158, 159, 163, 164, 165, 166, 171, 172, 173, 174, 175]) (.seq (.reg [⟨some 87, .buildSlice 23 0 #[], none, []⟩,
  ⟨some 88, .fieldAddr 52 (.tmp 10) 1, none, []⟩,
  ⟨some 89, .load 23 (.tmp 88), none, []⟩,
  ⟨some 90, .call { callee := .builtin .append, args := #[.tmp 87, .tmp 89], argTypes := #[23, 23] }, none, []⟩,
  ⟨some 91, .fieldAddr 52 (.tmp 16) 1, none, []⟩,
  ⟨none, .store 23 (.tmp 91) (.tmp 90), none, []⟩] [2, 10, 14, 16, 18, 30, 43, 56, 122, 129, 130, 131, 132, 142, 143, 144, 145, 149, 150, 153, 154, 155, 158, 159, 163, 164, 165, 166, 171, 172, 173, 174, 175]) (.seq (.reg [⟨some 19, .assign (.const (.int .i64 0)), none, []⟩] [2, 10, 14, 16, 18, 19, 30, 43, 56, 97, 122, 129, 130, 131, 132, 142, 143, 144, 145, 149, 150, 153, 154, 155, 158, 159, 163, 164, 165, 166, 171, 172, 173, 174, 175]) (.seq (.block 0 (.seq (.loop (.seq (.reg [⟨some 92, .move (.tmp 19), none, []⟩,
  ⟨some 93, .move (.tmp 2), none, []⟩,
  ⟨some 94, .call { callee := .builtin .len, args := #[.tmp 93], argTypes := #[23] }, none, []⟩,
  ⟨some 95, .binOp .lss 3 (.tmp 92) (.tmp 94) 3, none, []⟩] [2, 10, 14, 16, 18, 19, 30, 43, 56, 95, 97, 122, 129, 130, 131, 132, 142, 143, 144, 145, 149, 150, 153, 154, 155, 158, 159, 163, 164, 165, 166, 171, 172, 173, 174, 175]) (.seq (.cond (.tmp 95) .skip (.exit 0)) (.seq (.block 1 (.seq (.reg [⟨some 98, .fieldAddr 52 (.tmp 16) 1, none, [100, 101, 102, 103]⟩,
  ⟨some 99, .load 23 (.tmp 98), none, [100, 101, 102, 103]⟩,
  ⟨some 100, .move (.tmp 2), none, [98, 99, 101]⟩,
  ⟨some 101, .move (.tmp 19), none, [98, 99, 100]⟩,
  ⟨some 102, .indexAddr 23 (.tmp 100) (.tmp 101), none, [98, 99]⟩,
  ⟨some 103, .load 3 (.tmp 102), none, [98, 99]⟩,
  ⟨some 104, .call { callee := .value (.func 18), args := #[.tmp 99, .tmp 103], argTypes := #[23, 3] }, none, []⟩,
  ⟨some 105, .unOp .not 4 (.tmp 104), none, []⟩] [2, 10, 14, 16, 18, 19, 30, 43, 56, 97, 105, 122, 129, 130, 131, 132, 142, 143, 144, 145, 149, 150, 153, 154, 155, 158, 159, 163, 164, 165, 166, 171, 172, 173, 174, 175]) (.seq (.cond (.tmp 105) (.seq (.reg [⟨some 106, .fieldAddr 52 (.tmp 16) 1, none, [108, 109, 110, 111, 112]⟩,
  ⟨some 107, .load 23 (.tmp 106), none, [108, 109, 110, 111, 112]⟩,
  ⟨some 108, .move (.tmp 2), none, [106, 107, 109]⟩,
  ⟨some 109, .move (.tmp 19), none, [106, 107, 108]⟩,
  ⟨some 110, .indexAddr 23 (.tmp 108) (.tmp 109), none, [106, 107]⟩,
  ⟨some 111, .load 3 (.tmp 110), none, [106, 107]⟩,
  ⟨some 112, .buildSlice 23 1 #[(0, .tmp 111)], none, [106, 107]⟩,
  ⟨some 113, .call { callee := .builtin .append, args := #[.tmp 107, .tmp 112], argTypes := #[23, 23] }, none, []⟩,
  ⟨some 114, .fieldAddr 52 (.tmp 16) 1, none, []⟩,
  ⟨none, .store 23 (.tmp 114) (.tmp 113), none, []⟩] [2, 10, 14, 16, 18, 19, 30, 43, 56, 97, 122, 129, 130, 131, 132, 142, 143, 144, 145, 149, 150, 153, 154, 155, 158, 159, 163, 164, 165, 166, 171, 172, 173, 174, 175]) .skip) .skip) (.seq (.reg [⟨some 115, .load 36 (.tmp 14), none, [116, 117, 118, 119]⟩,
  ⟨some 116, .move (.tmp 2), none, [115, 117]⟩,
  ⟨some 117, .move (.tmp 19), none, [115, 116]⟩,
  ⟨some 118, .indexAddr 23 (.tmp 116) (.tmp 117), none, [115]⟩,
  ⟨some 119, .load 3 (.tmp 118), none, [115]⟩,
  ⟨some 120, .call { callee := .value (.func 19), args := #[.tmp 115, .tmp 119], argTypes := #[36, 3] }, none, []⟩] [2, 10, 14, 16, 18, 19, 30, 43, 56, 97, 120, 122, 129, 130, 131, 132, 142, 143, 144, 145, 149, 150, 153, 154, 155, 158, 159, 163, 164, 165, 166, 171, 172, 173, 174, 175]) (.seq (.cond (.tmp 120) (.seq (.reg [⟨some 121, .move (.tmp 18), none, []⟩,
  ⟨some 122, .binOp .add 3 (.tmp 121) (.const (.int .i64 1)) 3, none, []⟩,
  ⟨some 18, .assign (.tmp 122), none, []⟩] [2, 10, 14, 16, 18, 19, 30, 43, 56, 97, 122, 129, 130, 131, 132, 142, 143, 144, 145, 149, 150, 153, 154, 155, 158, 159, 163, 164, 165, 166, 171, 172, 173, 174, 175]) .skip) .skip) .skip))))) (.seq (.reg [⟨some 96, .move (.tmp 19), none, []⟩,
  ⟨some 97, .binOp .add 3 (.tmp 96) (.const (.int .i64 1)) 3, none, []⟩,
  ⟨some 19, .assign (.tmp 97), none, []⟩] [2, 10, 14, 16, 18, 19, 30, 43, 56, 97, 122, 129, 130, 131, 132, 142, 143, 144, 145, 149, 150, 153, 154, 155, 158, 159, 163, 164, 165, 166, 171, 172, 173, 174, 175]) .skip))))) .skip)) (.seq (.reg [⟨some 123, .load 52 (.tmp 16), none, []⟩,
  ⟨some 124, .call { callee := .value (.func 20), args := #[.tmp 123], argTypes := #[52] }, none, []⟩,
  ⟨some 125, .unOp .not 4 (.tmp 124), none, []⟩] [2, 10, 14, 16, 18, 30, 43, 56, 122, 125, 129, 130, 131, 132, 142, 143, 144, 145, 149, 150, 153, 154, 155, 158, 159, 163, 164, 165, 166, 171, 172, 173, 174, 175]) (.seq (.cond (.tmp 125) (.seq (.reg [⟨some 126, .fieldAddr 52 (.tmp 16) 0, none, []⟩,
  ⟨some 127, .load 23 (.tmp 126), none, []⟩,
  ⟨some 128, .move (.tmp 2), none, []⟩,
  ⟨some 129, .call { callee := .value (.func 16), args := #[.tmp 127, .tmp 128], argTypes := #[23, 23] }, none, []⟩,
  ⟨some 130, .move (.tmp 129), none, []⟩,
  ⟨some 131, .call { callee := .value (.func 8), args := #[], argTypes := #[] }, (some (130, true)), []⟩,
  ⟨some 132, .pick (.tmp 130) (.tmp 131) (.const (.bool false)), none, []⟩,
  ⟨some 6, .assign (.tmp 132), none, []⟩] [6, 30, 43, 56, 129, 130, 131, 132, 142, 143, 144, 145, 149, 150, 153, 154, 155, 158, 159, 163, 164, 165, 166, 171, 172, 173, 174, 175]) .ret) .skip) (.seq (.reg [⟨some 134, .load 36 (.tmp 14), none, []⟩,
  ⟨some 135, .load 52 (.tmp 16), none, []⟩,
  ⟨some 136, .call { callee := .value (.func 21), args := #[.tmp 134, .tmp 135], argTypes := #[36, 52] }, none, []⟩,
  ⟨some 133, .move (.tmp 136), none, []⟩,
  ⟨some 137, .extract (.tmp 133) 0, none, []⟩,
  ⟨some 138, .extract (.tmp 133) 1, none, []⟩,
  ⟨some 20, .alloc 52, none, []⟩,
  ⟨none, .store 52 (.tmp 20) (.tmp 137), none, []⟩,
  ⟨some 21, .assign (.tmp 138), none, []⟩] [2, 10, 18, 20, 21, 30, 43, 56, 122, 129, 130, 131, 132, 133, 136, 138, 142, 143, 144, 145, 149, 150, 153, 154, 155, 158, 159, 163, 164, 165, 166, 171, 172, 173, 174, 175]) (.seq (.reg [⟨some 139, .move (.tmp 21), none, []⟩,
  ⟨some 140, .unOp .not 4 (.tmp 139), none, []⟩] [2, 10, 18, 20, 30, 43, 56, 122, 129, 130, 131, 132, 140, 142, 143, 144, 145, 149, 150, 153, 154, 155, 158, 159, 163, 164, 165, 166, 171, 172, 173, 174, 175]) (.seq (.cond (.tmp 140) (.seq (.reg [⟨some 141, .move (.tmp 18), none, []⟩,
  ⟨some 142, .binOp .eql 3 (.tmp 141) (.const (.int .i64 0)) 3, none, []⟩,
  ⟨some 143, .move (.tmp 142), none, []⟩,
  ⟨some 144, .call { callee := .value (.func 8), args := #[], argTypes := #[] }, (some (143, true)), []⟩,
  ⟨some 145, .pick (.tmp 143) (.tmp 144) (.const (.bool false)), none, []⟩,
  ⟨some 6, .assign (.tmp 145), none, []⟩] [6, 30, 43, 56, 129, 130, 131, 132, 142, 143, 144, 145, 149, 150, 153, 154, 155, 158, 159, 163, 164, 165, 166, 171, 172, 173, 174, 175]) .ret) .skip) (.seq (.reg [⟨some 146, .fieldAddr 52 (.tmp 20) 0, none, []⟩,
  ⟨some 147, .load 23 (.tmp 146), none, []⟩,
  ⟨some 148, .move (.tmp 2), none, []⟩,
  ⟨some 149, .call { callee := .value (.func 16), args := #[.tmp 147, .tmp 148], argTypes := #[23, 23] }, none, []⟩,
  ⟨some 150, .move (.tmp 149), none, []⟩,
  ⟨some 151, .load 52 (.tmp 20), (some (150, true)), []⟩,
  ⟨some 152, .call { callee := .value (.func 20), args := #[.tmp 151], argTypes := #[52] }, (some (150, true)), []⟩,
  ⟨some 153, .unOp .not 4 (.tmp 152), (some (150, true)), []⟩,
  ⟨some 154, .pick (.tmp 150) (.tmp 153) (.const (.bool false)), none, []⟩,
  ⟨some 155, .move (.tmp 154), none, []⟩,
  ⟨some 156, .fieldAddr 52 (.tmp 10) 2, (some (155, true)), []⟩,
  ⟨some 157, .load 3 (.tmp 156), (some (155, true)), []⟩,
  ⟨some 158, .binOp .eql 3 (.tmp 157) (.const (.int .i64 0)) 3, (some (155, true)), []⟩,
  ⟨some 159, .move (.tmp 158), (some (155, true)), []⟩,
  ⟨some 160, .move (.tmp 2), (some (159, false)), []⟩,
  ⟨some 161, .fieldAddr 52 (.tmp 20) 2, (some (159, false)), []⟩,
  ⟨some 162, .load 3 (.tmp 161), (some (159, false)), []⟩,
  ⟨some 163, .call { callee := .value (.func 18), args := #[.tmp 160, .tmp 162], argTypes := #[23, 3] }, (some (159, false)), []⟩,
  ⟨some 164, .pick (.tmp 159) (.const (.bool true)) (.tmp 163), (some (155, true)), []⟩,
  ⟨some 165, .pick (.tmp 155) (.tmp 164) (.const (.bool false)), none, []⟩,
  ⟨some 166, .move (.tmp 165), none, []⟩,
  ⟨some 167, .fieldAddr 52 (.tmp 20) 3, (some (166, true)), []⟩,
  ⟨some 168, .load 3 (.tmp 167), (some (166, true)), []⟩,
  ⟨some 169, .fieldAddr 52 (.tmp 10) 3, (some (166, true)), []⟩,
  ⟨some 170, .load 3 (.tmp 169), (some (166, true)), []⟩,
  ⟨some 171, .binOp .geq 3 (.tmp 168) (.tmp 170) 3, (some (166, true)), []⟩,
  ⟨some 172, .pick (.tmp 166) (.tmp 171) (.const (.bool false)), none, []⟩,
  ⟨some 173, .move (.tmp 172), none, []⟩,
  ⟨some 174, .call { callee := .value (.func 8), args := #[], argTypes := #[] }, (some (173, true)), []⟩,
  ⟨some 175, .pick (.tmp 173) (.tmp 174) (.const (.bool false)), none, []⟩,
  ⟨some 6, .assign (.tmp 175), none, []⟩] [6, 30, 43, 56, 129, 130, 131, 132, 142, 143, 144, 145, 149, 150, 153, 154, 155, 158, 159, 163, 164, 165, 166, 171, 172, 173, 174, 175]) .ret))))))))))))))))))))))))
theorem s4 : TextK Proofs.Tryz.prog 0 4 176 [ResultVar.tmp 6] c4 := .mk' Proofs.Tryz.f4 _ (by kernel_rfl) rfl rfl rfl (by kernel_rfl) rfl (by kernel_rfl)
theorem ends_walk (l : List Record) (n : Int) (t : List Int) : ACall pg 4 [.sl (l.map encR), I n, Li t] (B true) := by
  refine s4.call mo (by simp) fun hxs => ?_
  clear hxs
  unfold c4
  by_cases hl : l.length ≤ 80
  · by_cases ht : 60 < (t.length : Int)
    · repeat' first | (with_reducible first | refine thN ?_ | refine thE ?_ | refine inN ?_ | refine inH ?_ | refine fS ?_ | refine fR ?_ | refine fQ ?_ | refine fE ?_ | refine fT ?_ | refine awBlock ?_ | refine awExit ?_ | refine awRet ?_ | refine awSkip ?_) | ((with_reducible refine awReg fun K hok hK => ?_); clear hok; (try simp (maxSteps := 10000000) (disch := first | omega | simp) [hl, ht]); (repeat' first | (with_reducible refine hK _ (by simp) ?_) | ((first | ((with_reducible refine callS' fun K2 hK2 => ?_); (try simp (maxSteps := 10000000) (disch := first | omega | simp) [hl, ht]); (first | refine hK2 _ _ (mlight_ok l) rfl fun hk9 => ?_ | refine hK2 _ _ mworks_ok rfl fun hk9 => ?_); clear hk9; clear hK2 K2) | ((with_reducible refine callF' fun K2 hK2 => ?_); (try simp (maxSteps := 10000000) (disch := first | omega | simp) [hl, ht]); (first | refine hK2 _ _ _ (mlight_ok l) fun _ => ?_ | refine hK2 _ _ _ mworks_ok fun _ => ?_); clear hK2 K2) | ((with_reducible refine sideQ' ?_ ?_ fun K2 hK2 => ?_); exact rfl; exact rfl; (try simp (maxSteps := 10000000) (disch := first | omega | simp) [hl, ht]); with_reducible refine hK2 _ _ ?_; clear hK2 K2) | ((with_reducible refine side' ?_ fun K2 hK2 => ?_); exact rfl; (try simp (maxSteps := 10000000) (disch := first | omega | simp) [hl, ht]); refine hK2 _ _ (by simp) ?_; clear hK2 K2)); (try simp (maxSteps := 10000000) (disch := first | omega | simp) [hl, ht]))) <;> clear hK K) | ((with_reducible refine awCond fun A B hA hB => ?_); simp (maxSteps := 10000000) (disch := first | omega | simp) [hl, ht]; (first | refine ⟨fun h => hA ?_, fun h => hB ?_⟩ | refine hA ?_ | refine hB ?_) <;> (clear hA hB A B; (try (exfalso; omega))))
      all_goals (refine aEnR (aRes [] fun K hK => ?_); simp (maxSteps := 10000000) (disch := first | omega | simp) []; refine hK _ ?_ (by simp); clear hK; first | done | (simp (maxSteps := 10000000) (disch := first | omega | simp) [*]; done) | (simp (maxSteps := 10000000) (disch := first | omega | simp) [*]; omega) | (simp_all []; done) | (simp_all []; omega))
    have hinv := made_inv l (by omega)
    have hmk := made_ok l (by omega)
    have hok := madeOk hinv (by omega)
    generalize made l = m at *
    have hpt := part21_ok m n hok.pre
    cases hsel : m.sel21 n with
    | none =>
      rw [hsel] at hpt
      repeat' first | (with_reducible first | refine thN ?_ | refine thE ?_ | refine inN ?_ | refine inH ?_ | refine fS ?_ | refine fR ?_ | refine fQ ?_ | refine fE ?_ | refine fT ?_ | refine awBlock ?_ | refine awExit ?_ | refine awRet ?_ | refine awSkip ?_) | ((with_reducible refine awReg fun K hok hK => ?_); clear hok; (try simp (maxSteps := 10000000) (disch := first | omega | simp) [hl, ht]); (repeat' first | (with_reducible refine hK _ (by simp) ?_) | ((first | ((with_reducible refine callS' fun K2 hK2 => ?_); (try simp (maxSteps := 10000000) (disch := first | omega | simp) [hl, ht]); (first | refine hK2 _ _ (mlight_ok l) rfl fun hk9 => ?_ | refine hK2 _ _ mworks_ok rfl fun hk9 => ?_ | refine hK2 _ _ hmk rfl fun hk9 => ?_ | refine hK2 _ _ hpt rfl fun hk9 => ?_); clear hk9; clear hK2 K2) | ((with_reducible refine callF' fun K2 hK2 => ?_); (try simp (maxSteps := 10000000) (disch := first | omega | simp) [hl, ht]); (first | refine hK2 _ _ _ (mlight_ok l) fun _ => ?_ | refine hK2 _ _ _ mworks_ok fun _ => ?_ | refine hK2 _ _ _ hmk fun _ => ?_ | refine hK2 _ _ _ hpt fun _ => ?_); clear hK2 K2) | ((with_reducible refine sideQ' ?_ ?_ fun K2 hK2 => ?_); exact rfl; exact rfl; (try simp (maxSteps := 10000000) (disch := first | omega | simp) [hl, ht]); with_reducible refine hK2 _ _ ?_; clear hK2 K2) | ((with_reducible refine side' ?_ fun K2 hK2 => ?_); exact rfl; (try simp (maxSteps := 10000000) (disch := first | omega | simp) [hl, ht]); refine hK2 _ _ (by simp) ?_; clear hK2 K2)); (try simp (maxSteps := 10000000) (disch := first | omega | simp) [hl, ht]))) <;> clear hK K) | ((with_reducible refine awCond fun A B hA hB => ?_); simp (maxSteps := 10000000) (disch := first | omega | simp) [hl, ht]; (first | refine ⟨fun h => hA ?_, fun h => hB ?_⟩ | refine hA ?_ | refine hB ?_) <;> (clear hA hB A B; (try (exfalso; omega))))
      all_goals (refine aEnR (aRes [] fun K hK => ?_); simp (maxSteps := 10000000) (disch := first | omega | simp) []; refine hK _ ?_ (by simp); clear hK; first | done | (simp (maxSteps := 10000000) (disch := first | omega | simp) [*]; done) | (simp (maxSteps := 10000000) (disch := first | omega | simp) [*]; omega) | (simp_all []; done) | (simp_all []; omega))
    | some x =>
      obtain ⟨tp, k, p⟩ := x
      rw [hsel] at hpt
      obtain ⟨htm, hkp⟩ := sel21_spec hsel
      obtain ⟨hkl, hpm, _, _⟩ := parts_mid hkp
      have hpr := hinv.pr tp htm p hpm
      have hst := start_at hok (by omega) hpr.2 t (by omega)
      have hat := at_of hinv htm hkp t
      have haE : m.atE (mvReq tp k t) = none := by unfold Image.atE; rw [hat, show (mvReq tp k t).name = tp.name from rfl, named_of hinv.tn htm]; rfl
      have haP : m.atP (mvReq tp k t) = p := by unfold Image.atP; rw [hat]
      have haI : m.atI (mvReq tp k t) = tp.id := by unfold Image.atI; rw [hat]
      have hdE : m.doE (mvReq tp k t) = m.startE p t := by unfold Image.doE; rw [if_neg (by simp [mvReq]), haE, if_neg (by simp), if_pos (by rfl), haP]; rfl
      have hmt := hok.pre.tl
      cases hse : m.startE p t with
      | some e =>
        have hdo := do_c m (mvReq tp k t) rfl haE (by omega) (fun t ht => by have := hok.pre.pl t ht; omega) (by rw [haP]; exact hst) (by rw [haP]; show (m.startP p t).Small; rw [startP_no hse]; exact small_of hpr.2) (by simp [mvReq])
        have hdL : m.doL (mvReq tp k t) = [] := by unfold Image.doL; rw [hdE, hse]; rfl
        rw [hdE, hdL, hse] at hdo
        obtain ⟨ty, v, he⟩ := encE_if e
        simp only [errE_some, he, mvReq, encQ_eq, List.map_nil] at hdo
        clear hsel hse
        repeat' first | (with_reducible first | refine thN ?_ | refine thE ?_ | refine inN ?_ | refine inH ?_ | refine fS ?_ | refine fR ?_ | refine fQ ?_ | refine fE ?_ | refine fT ?_ | refine awBlock ?_ | refine awExit ?_ | refine awRet ?_ | refine awSkip ?_) | ((with_reducible refine awReg fun K hok hK => ?_); clear hok; (try simp (maxSteps := 10000000) (disch := first | omega | simp) [hl, ht, isConst]); (repeat' first | (with_reducible refine hK _ (by simp) ?_) | ((first | ((with_reducible refine callS' fun K2 hK2 => ?_); (try simp (maxSteps := 10000000) (disch := first | omega | simp) [hl, ht, isConst]); (first | refine hK2 _ _ (mlight_ok l) rfl fun hk9 => ?_ | refine hK2 _ _ mworks_ok rfl fun hk9 => ?_ | refine hK2 _ _ hmk rfl fun hk9 => ?_ | refine hK2 _ _ hpt rfl fun hk9 => ?_ | refine hK2 _ _ hdo rfl fun hk9 => ?_); clear hk9; clear hK2 K2) | ((with_reducible refine callF' fun K2 hK2 => ?_); (try simp (maxSteps := 10000000) (disch := first | omega | simp) [hl, ht, isConst]); (first | refine hK2 _ _ _ (mlight_ok l) fun _ => ?_ | refine hK2 _ _ _ mworks_ok fun _ => ?_ | refine hK2 _ _ _ hmk fun _ => ?_ | refine hK2 _ _ _ hpt fun _ => ?_ | refine hK2 _ _ _ hdo fun _ => ?_); clear hK2 K2) | ((with_reducible refine sideQ' ?_ ?_ fun K2 hK2 => ?_); exact rfl; exact rfl; (try simp (maxSteps := 10000000) (disch := first | omega | simp) [hl, ht, isConst]); with_reducible refine hK2 _ _ ?_; clear hK2 K2) | ((with_reducible refine side' ?_ fun K2 hK2 => ?_); exact rfl; (try simp (maxSteps := 10000000) (disch := first | omega | simp) [hl, ht, isConst]); refine hK2 _ _ (by simp) ?_; clear hK2 K2)); (try simp (maxSteps := 10000000) (disch := first | omega | simp) [hl, ht, isConst]))) <;> clear hK K) | ((with_reducible refine awCond fun A B hA hB => ?_); simp (maxSteps := 10000000) (disch := first | omega | simp) [hl, ht, isConst]; (first | refine ⟨fun h => hA ?_, fun h => hB ?_⟩ | refine hA ?_ | refine hB ?_) <;> (clear hA hB A B; (try (exfalso; omega))))
        all_goals (refine aEnR (aRes [] fun K hK => ?_); simp (maxSteps := 10000000) (disch := first | omega | simp) []; refine hK _ ?_ (by simp); clear hK; first | done | (simp (maxSteps := 10000000) (disch := first | omega | simp) [*]; done) | (simp (maxSteps := 10000000) (disch := first | omega | simp) [*]; omega) | (simp_all []; done) | (simp_all []; omega))
      | none =>
        have hs := start_ok hse
        have e2 : m.startP p t = p.sent t := by unfold Image.startP; rw [hse]; rfl
        have hnx := sent_next hinv (by omega) hpr.1 hpr.2 hs
        have hdo := do_c m (mvReq tp k t) rfl haE (by omega) (fun t ht => by have := hok.pre.pl t ht; omega) (by rw [haP]; exact hst) (by rw [haP]; show (m.startP p t).Small; rw [e2]; exact small_of hnx.rows) (by simp [mvReq])
        have hdL : m.doL (mvReq tp k t) = [change tp.id k (p.sent t)] := by unfold Image.doL; rw [hdE, hse, haI]; show [change tp.id k (m.startP (m.atP (mvReq tp k t)) t)] = _; rw [haP, e2]
        rw [hdE, hdL, hse] at hdo
        simp only [errE_none, mvReq, encQ_eq] at hdo
        obtain ⟨next, hsn⟩ := sent_ok hinv (by omega) htm hkp hnx (sent_same hs)
        have hall := all_ok m [change tp.id k (p.sent t)] l.length hinv (by simp; omega)
        rw [hsn.all] at hall
        have hpp := part_ok next tp.id k
        rw [hsn.part] at hpp
        simp only [Option.getD_some, Option.isSome_some] at hpp
        have hok2 := madeOk hsn.inv (by omega)
        have hmi := rMinus_ok (p.sent t).ids (p.sent t).drop (by have := (brokersB_get hnx.rows.ids).1; omega)
        rw [sent_target] at hmi
        have hit := ints_ok t t
        rw [show (t == t) = true by simp] at hit
        have hun := under_ok (p.sent t)
        have h7 := (brokersB_get hpr.2.isr).1
        have hgs : ((p.sent t).got p.isr t).Small := ⟨(small_of hnx.rows).ids, by have := joinL_len t p.isr; show (joinL p.isr t).length ≤ 1000000; omega, (small_of hnx.rows).add, (small_of hnx.rows).drop⟩
        have hfi := finish_ok next ((p.sent t).got p.isr t) hok2.brk hgs (fun x hx => big_of (p := p.sent t) hnx.rows x hx) (by have := hnx.rows.ep; show 0 ≤ (p.sent t).epoch ∧ (p.sent t).epoch ≤ 1000000; omega)
        have huI : (p.sent t).under = false → (p.sent t).ids = t := by
          intro hu
          have := (under_nil.1 hu).2
          have hd : minus p.ids t = [] := this
          show t ++ minus p.ids t = t
          rw [hd, List.append_nil]
        have hE1 : (next.finish ((p.sent t).got p.isr t)).2 = true → EndOk m p t (next.finish ((p.sent t).got p.isr t)).1 := by
          rw [finish_brokers hsn.br]; exact ends_ok hpr.1 hs
        have h0 : ∀ x ∈ t, x ≠ 0 := by
          intro x hx
          rcases hs.ck x hx with h1 | h1
          · have := (brokersB_get hpr.2.ids).2.1 x h1; omega
          · have := (order_reg hinv (by omega) h1).2; omega
        have hE2 : (p.sent t).under = true → (next.finish ((p.sent t).got p.isr t)).2 = false → ∀ x ∈ t, next.alive x = false := by
          intro hu hf x hx
          rw [finish_brokers hsn.br] at hf
          rw [alive_br hsn.br]
          exact ends_no hs h0 hu hf x hx
        have hql : (p.sent t).leader = p.leader := rfl
        clear hsel hse hst hat haE haP haI hdE hdL e2 hs hnx hmt
        obtain ⟨s1, s2, s3, s4⟩ := hsn
        clear s1 s2 s4
        generalize p.sent t = q at *
        generalize hfr : next.finish (q.got p.isr t) = fr at *
        obtain ⟨r, ov⟩ := fr
        simp only [Part.got, encP_eq] at hfi
        have hha0 := has_ok
        have hal0 := alive_ok next
        repeat' first | (with_reducible first | refine thN ?_ | refine thE ?_ | refine inN ?_ | refine inH ?_ | refine fS ?_ | refine fR ?_ | refine fQ ?_ | refine fE ?_ | refine fT ?_ | refine awBlock ?_ | refine awExit ?_ | refine awRet ?_ | refine awSkip ?_) | ((with_reducible refine awReg fun K hok hK => ?_); clear hok; (try simp (maxSteps := 10000000) (disch := first | omega | simp) [hl, ht, isConst]); (repeat' first | (with_reducible refine hK _ (by simp) ?_) | ((first | ((with_reducible refine callS' fun K2 hK2 => ?_); (try simp (maxSteps := 10000000) (disch := first | omega | simp) [hl, ht, isConst]); (first | refine hK2 _ _ (mlight_ok l) rfl fun hk9 => ?_ | refine hK2 _ _ mworks_ok rfl fun hk9 => ?_ | refine hK2 _ _ hmk rfl fun hk9 => ?_ | refine hK2 _ _ hpt rfl fun hk9 => ?_ | refine hK2 _ _ hdo rfl fun hk9 => ?_ | refine hK2 _ _ hall rfl fun hk9 => ?_ | refine hK2 _ _ hpp rfl fun hk9 => ?_ | refine hK2 _ _ hmi rfl fun hk9 => ?_ | refine hK2 _ _ hit rfl fun hk9 => ?_); clear hk9; clear hK2 K2) | ((with_reducible refine callF' fun K2 hK2 => ?_); (try simp (maxSteps := 10000000) (disch := first | omega | simp) [hl, ht, isConst]); (first | refine hK2 _ _ _ (mlight_ok l) fun _ => ?_ | refine hK2 _ _ _ mworks_ok fun _ => ?_ | refine hK2 _ _ _ hmk fun _ => ?_ | refine hK2 _ _ _ hpt fun _ => ?_ | refine hK2 _ _ _ hdo fun _ => ?_ | refine hK2 _ _ _ hall fun _ => ?_ | refine hK2 _ _ _ hpp fun _ => ?_ | refine hK2 _ _ _ hmi fun _ => ?_ | refine hK2 _ _ _ hit fun _ => ?_); clear hK2 K2) | ((with_reducible refine sideQ' ?_ ?_ fun K2 hK2 => ?_); exact rfl; exact rfl; (try simp (maxSteps := 10000000) (disch := first | omega | simp) [hl, ht, isConst]); with_reducible refine hK2 _ _ ?_; clear hK2 K2) | ((with_reducible refine side' ?_ fun K2 hK2 => ?_); exact rfl; (try simp (maxSteps := 10000000) (disch := first | omega | simp) [hl, ht, isConst]); refine hK2 _ _ (by simp) ?_; clear hK2 K2)); (try simp (maxSteps := 10000000) (disch := first | omega | simp) [hl, ht, isConst]))) <;> clear hK K) | ((with_reducible refine awCond fun A B hA hB => ?_); simp (maxSteps := 10000000) (disch := first | omega | simp) [hl, ht, isConst]; (first | refine ⟨fun h => hA ?_, fun h => hB ?_⟩ | refine hA ?_ | refine hB ?_) <;> (clear hA hB A B; (try (exfalso; omega))))
        refine awFor t.length (fun i (s : List Int × Nat) => joinL s.1 (t.drop i) = joinL p.isr t ∧ s.1.length ≤ 7 + i ∧ s.2 ≤ i ∧ ((∀ x ∈ t, next.alive x = false) → s.2 = 0))
          (fun i s => [(19, .p (I i)), (18, .p (I s.2)), (16, .p (.own [Li q.ids, .uq (s.1.map I), I q.leader, I q.epoch, Li q.add, Li q.drop])), (14, .p (.own (encM next).cells)), (10, .p (.own (encP p).cells)), (2, .p (Li t))])
          (p.isr, 0) (Wk.ofA (by simp)) ⟨by simp, by omega, by simp, fun _ => rfl⟩ fun i s hi hs => ?_
        obtain ⟨i1, i2, i3, i4⟩ := hs
        by_cases hlt : i < t.length
        · rw [drop_cons hlt] at i1
          simp only [joinL] at i1
          have hha := has_ok s.1 t[i]
          have hal := alive_ok next t[i]
          cases hx : s.1.contains t[i] <;> cases hy : next.alive t[i] <;> rw [hx] at hha i1 <;> rw [hy] at hal
          · rw [if_neg (by simp)] at i1
            repeat' first | (with_reducible first | refine thN ?_ | refine thE ?_ | refine inN ?_ | refine inH ?_ | refine fS ?_ | refine fR ?_ | refine fQ ?_ | refine fE ?_ | refine fT ?_ | refine awBlock ?_ | refine awExit ?_ | refine awRet ?_ | refine awSkip ?_) | ((with_reducible refine awReg fun K hok hK => ?_); clear hok; (try simp (maxSteps := 10000000) (disch := first | omega | simp) [hlt]); (repeat' first | (with_reducible refine hK _ (by simp) ?_) | ((first | ((with_reducible refine callS' fun K2 hK2 => ?_); (try simp (maxSteps := 10000000) (disch := first | omega | simp) [hlt]); (first | refine hK2 _ _ hha rfl fun hk9 => ?_ | refine hK2 _ _ hal rfl fun hk9 => ?_); clear hk9; clear hK2 K2) | ((with_reducible refine callF' fun K2 hK2 => ?_); (try simp (maxSteps := 10000000) (disch := first | omega | simp) [hlt]); (first | refine hK2 _ _ _ hha fun _ => ?_ | refine hK2 _ _ _ hal fun _ => ?_); clear hK2 K2) | ((with_reducible refine sideQ' ?_ ?_ fun K2 hK2 => ?_); exact rfl; exact rfl; (try simp (maxSteps := 10000000) (disch := first | omega | simp) [hlt]); with_reducible refine hK2 _ _ ?_; clear hK2 K2) | ((with_reducible refine side' ?_ fun K2 hK2 => ?_); exact rfl; (try simp (maxSteps := 10000000) (disch := first | omega | simp) [hlt]); refine hK2 _ _ (by simp) ?_; clear hK2 K2)); (try simp (maxSteps := 10000000) (disch := first | omega | simp) [hlt]))) <;> clear hK K) | ((with_reducible refine awCond fun A B hA hB => ?_); simp (maxSteps := 10000000) (disch := first | omega | simp) [hlt]; (first | refine ⟨fun h => hA ?_, fun h => hB ?_⟩ | refine hA ?_ | refine hB ?_) <;> (clear hA hB A B; (try (exfalso; omega))))
            (refine ⟨?_, (s.1 ++ [t[i]], s.2), ?_, Wk.ofA ?_⟩; assumption; rotate_left; focus (simp []; done))
            exact ⟨i1, by simp; omega, by simp only; omega, i4⟩
          · rw [if_neg (by simp)] at i1
            repeat' first | (with_reducible first | refine thN ?_ | refine thE ?_ | refine inN ?_ | refine inH ?_ | refine fS ?_ | refine fR ?_ | refine fQ ?_ | refine fE ?_ | refine fT ?_ | refine awBlock ?_ | refine awExit ?_ | refine awRet ?_ | refine awSkip ?_) | ((with_reducible refine awReg fun K hok hK => ?_); clear hok; (try simp (maxSteps := 10000000) (disch := first | omega | simp) [hlt]); (repeat' first | (with_reducible refine hK _ (by simp) ?_) | ((first | ((with_reducible refine callS' fun K2 hK2 => ?_); (try simp (maxSteps := 10000000) (disch := first | omega | simp) [hlt]); (first | refine hK2 _ _ hha rfl fun hk9 => ?_ | refine hK2 _ _ hal rfl fun hk9 => ?_); clear hk9; clear hK2 K2) | ((with_reducible refine callF' fun K2 hK2 => ?_); (try simp (maxSteps := 10000000) (disch := first | omega | simp) [hlt]); (first | refine hK2 _ _ _ hha fun _ => ?_ | refine hK2 _ _ _ hal fun _ => ?_); clear hK2 K2) | ((with_reducible refine sideQ' ?_ ?_ fun K2 hK2 => ?_); exact rfl; exact rfl; (try simp (maxSteps := 10000000) (disch := first | omega | simp) [hlt]); with_reducible refine hK2 _ _ ?_; clear hK2 K2) | ((with_reducible refine side' ?_ fun K2 hK2 => ?_); exact rfl; (try simp (maxSteps := 10000000) (disch := first | omega | simp) [hlt]); refine hK2 _ _ (by simp) ?_; clear hK2 K2)); (try simp (maxSteps := 10000000) (disch := first | omega | simp) [hlt]))) <;> clear hK K) | ((with_reducible refine awCond fun A B hA hB => ?_); simp (maxSteps := 10000000) (disch := first | omega | simp) [hlt]; (first | refine ⟨fun h => hA ?_, fun h => hB ?_⟩ | refine hA ?_ | refine hB ?_) <;> (clear hA hB A B; (try (exfalso; omega))))
            (refine ⟨?_, (s.1 ++ [t[i]], s.2 + 1), ?_, Wk.ofA ?_⟩; assumption; rotate_left; focus (simp []; done))
            exact ⟨i1, by simp; omega, by simp only; omega, fun h => by have := h _ (List.getElem_mem hlt); rw [hy] at this; cases this⟩
          · rw [if_pos (by simp)] at i1
            repeat' first | (with_reducible first | refine thN ?_ | refine thE ?_ | refine inN ?_ | refine inH ?_ | refine fS ?_ | refine fR ?_ | refine fQ ?_ | refine fE ?_ | refine fT ?_ | refine awBlock ?_ | refine awExit ?_ | refine awRet ?_ | refine awSkip ?_) | ((with_reducible refine awReg fun K hok hK => ?_); clear hok; (try simp (maxSteps := 10000000) (disch := first | omega | simp) [hlt]); (repeat' first | (with_reducible refine hK _ (by simp) ?_) | ((first | ((with_reducible refine callS' fun K2 hK2 => ?_); (try simp (maxSteps := 10000000) (disch := first | omega | simp) [hlt]); (first | refine hK2 _ _ hha rfl fun hk9 => ?_ | refine hK2 _ _ hal rfl fun hk9 => ?_); clear hk9; clear hK2 K2) | ((with_reducible refine callF' fun K2 hK2 => ?_); (try simp (maxSteps := 10000000) (disch := first | omega | simp) [hlt]); (first | refine hK2 _ _ _ hha fun _ => ?_ | refine hK2 _ _ _ hal fun _ => ?_); clear hK2 K2) | ((with_reducible refine sideQ' ?_ ?_ fun K2 hK2 => ?_); exact rfl; exact rfl; (try simp (maxSteps := 10000000) (disch := first | omega | simp) [hlt]); with_reducible refine hK2 _ _ ?_; clear hK2 K2) | ((with_reducible refine side' ?_ fun K2 hK2 => ?_); exact rfl; (try simp (maxSteps := 10000000) (disch := first | omega | simp) [hlt]); refine hK2 _ _ (by simp) ?_; clear hK2 K2)); (try simp (maxSteps := 10000000) (disch := first | omega | simp) [hlt]))) <;> clear hK K) | ((with_reducible refine awCond fun A B hA hB => ?_); simp (maxSteps := 10000000) (disch := first | omega | simp) [hlt]; (first | refine ⟨fun h => hA ?_, fun h => hB ?_⟩ | refine hA ?_ | refine hB ?_) <;> (clear hA hB A B; (try (exfalso; omega))))
            (refine ⟨?_, (s.1, s.2), ?_, Wk.ofA ?_⟩; assumption; rotate_left; focus (simp []; done))
            exact ⟨i1, by simp only; omega, by simp only; omega, i4⟩
          · rw [if_pos (by simp)] at i1
            repeat' first | (with_reducible first | refine thN ?_ | refine thE ?_ | refine inN ?_ | refine inH ?_ | refine fS ?_ | refine fR ?_ | refine fQ ?_ | refine fE ?_ | refine fT ?_ | refine awBlock ?_ | refine awExit ?_ | refine awRet ?_ | refine awSkip ?_) | ((with_reducible refine awReg fun K hok hK => ?_); clear hok; (try simp (maxSteps := 10000000) (disch := first | omega | simp) [hlt]); (repeat' first | (with_reducible refine hK _ (by simp) ?_) | ((first | ((with_reducible refine callS' fun K2 hK2 => ?_); (try simp (maxSteps := 10000000) (disch := first | omega | simp) [hlt]); (first | refine hK2 _ _ hha rfl fun hk9 => ?_ | refine hK2 _ _ hal rfl fun hk9 => ?_); clear hk9; clear hK2 K2) | ((with_reducible refine callF' fun K2 hK2 => ?_); (try simp (maxSteps := 10000000) (disch := first | omega | simp) [hlt]); (first | refine hK2 _ _ _ hha fun _ => ?_ | refine hK2 _ _ _ hal fun _ => ?_); clear hK2 K2) | ((with_reducible refine sideQ' ?_ ?_ fun K2 hK2 => ?_); exact rfl; exact rfl; (try simp (maxSteps := 10000000) (disch := first | omega | simp) [hlt]); with_reducible refine hK2 _ _ ?_; clear hK2 K2) | ((with_reducible refine side' ?_ fun K2 hK2 => ?_); exact rfl; (try simp (maxSteps := 10000000) (disch := first | omega | simp) [hlt]); refine hK2 _ _ (by simp) ?_; clear hK2 K2)); (try simp (maxSteps := 10000000) (disch := first | omega | simp) [hlt]))) <;> clear hK K) | ((with_reducible refine awCond fun A B hA hB => ?_); simp (maxSteps := 10000000) (disch := first | omega | simp) [hlt]; (first | refine ⟨fun h => hA ?_, fun h => hB ?_⟩ | refine hA ?_ | refine hB ?_) <;> (clear hA hB A B; (try (exfalso; omega))))
            (refine ⟨?_, (s.1, s.2 + 1), ?_, Wk.ofA ?_⟩; assumption; rotate_left; focus (simp []; done))
            exact ⟨i1, by simp only; omega, by simp only; omega, fun h => by have := h _ (List.getElem_mem hlt); rw [hy] at this; cases this⟩
        · rw [drop_nil (by omega)] at i1
          simp only [joinL] at i1
          obtain ⟨s1, a⟩ := s
          simp only at i1 i4
          subst i1
          have hun2 : ACall pg 20 [.agg [Li q.ids, Li (joinL p.isr t), I q.leader, I q.epoch, Li q.add, Li q.drop]] (B q.under) := under_ok (q.got p.isr t)
          have hin2 := ints_ok q.ids t
          cases hu : q.under with
          | false =>
            rw [hu] at hun2
            rw [show (q.ids == t) = true by simpa using huI hu] at hin2
            repeat' first | (with_reducible first | refine thN ?_ | refine thE ?_ | refine inN ?_ | refine inH ?_ | refine fS ?_ | refine fR ?_ | refine fQ ?_ | refine fE ?_ | refine fT ?_ | refine awBlock ?_ | refine awExit ?_ | refine awRet ?_ | refine awSkip ?_) | ((with_reducible refine awReg fun K hok hK => ?_); clear hok; (try simp (maxSteps := 10000000) (disch := first | omega | simp) [hlt]); (repeat' first | (with_reducible refine hK _ (by simp) ?_) | ((first | ((with_reducible refine callS' fun K2 hK2 => ?_); (try simp (maxSteps := 10000000) (disch := first | omega | simp) [hlt]); (first | refine hK2 _ _ hun2 rfl fun hk9 => ?_ | refine hK2 _ _ hin2 rfl fun hk9 => ?_ | refine hK2 _ _ mworks_ok rfl fun hk9 => ?_); clear hk9; clear hK2 K2) | ((with_reducible refine callF' fun K2 hK2 => ?_); (try simp (maxSteps := 10000000) (disch := first | omega | simp) [hlt]); (first | refine hK2 _ _ _ hun2 fun _ => ?_ | refine hK2 _ _ _ hin2 fun _ => ?_ | refine hK2 _ _ _ mworks_ok fun _ => ?_); clear hK2 K2) | ((with_reducible refine sideQ' ?_ ?_ fun K2 hK2 => ?_); exact rfl; exact rfl; (try simp (maxSteps := 10000000) (disch := first | omega | simp) [hlt]); with_reducible refine hK2 _ _ ?_; clear hK2 K2) | ((with_reducible refine side' ?_ fun K2 hK2 => ?_); exact rfl; (try simp (maxSteps := 10000000) (disch := first | omega | simp) [hlt]); refine hK2 _ _ (by simp) ?_; clear hK2 K2)); (try simp (maxSteps := 10000000) (disch := first | omega | simp) [hlt]))) <;> clear hK K) | ((with_reducible refine awCond fun A B hA hB => ?_); simp (maxSteps := 10000000) (disch := first | omega | simp) [hlt]; (first | refine ⟨fun h => hA ?_, fun h => hB ?_⟩ | refine hA ?_ | refine hB ?_) <;> (clear hA hB A B; (try (exfalso; omega))))
            all_goals (refine aEnR (aRes [] fun K hK => ?_); simp (maxSteps := 10000000) (disch := first | omega | simp) []; refine hK _ ?_ (by simp); clear hK; first | done | (simp (maxSteps := 10000000) (disch := first | omega | simp) [*]; done) | (simp (maxSteps := 10000000) (disch := first | omega | simp) [*]; omega) | (simp_all []; done) | (simp_all []; omega))
          | true =>
            rw [hu] at hun2
            cases ov with
            | false =>
              have ha := i4 (hE2 hu rfl)
              subst ha
              repeat' first | (with_reducible first | refine thN ?_ | refine thE ?_ | refine inN ?_ | refine inH ?_ | refine fS ?_ | refine fR ?_ | refine fQ ?_ | refine fE ?_ | refine fT ?_ | refine awBlock ?_ | refine awExit ?_ | refine awRet ?_ | refine awSkip ?_) | ((with_reducible refine awReg fun K hok hK => ?_); clear hok; (try simp (maxSteps := 10000000) (disch := first | omega | simp) [hlt]); (repeat' first | (with_reducible refine hK _ (by simp) ?_) | ((first | ((with_reducible refine callS' fun K2 hK2 => ?_); (try simp (maxSteps := 10000000) (disch := first | omega | simp) [hlt]); (first | refine hK2 _ _ hun2 rfl fun hk9 => ?_ | refine hK2 _ _ hfi rfl fun hk9 => ?_ | refine hK2 _ _ mworks_ok rfl fun hk9 => ?_); clear hk9; clear hK2 K2) | ((with_reducible refine callF' fun K2 hK2 => ?_); (try simp (maxSteps := 10000000) (disch := first | omega | simp) [hlt]); (first | refine hK2 _ _ _ hun2 fun _ => ?_ | refine hK2 _ _ _ hfi fun _ => ?_ | refine hK2 _ _ _ mworks_ok fun _ => ?_); clear hK2 K2) | ((with_reducible refine sideQ' ?_ ?_ fun K2 hK2 => ?_); exact rfl; exact rfl; (try simp (maxSteps := 10000000) (disch := first | omega | simp) [hlt]); with_reducible refine hK2 _ _ ?_; clear hK2 K2) | ((with_reducible refine side' ?_ fun K2 hK2 => ?_); exact rfl; (try simp (maxSteps := 10000000) (disch := first | omega | simp) [hlt]); refine hK2 _ _ (by simp) ?_; clear hK2 K2)); (try simp (maxSteps := 10000000) (disch := first | omega | simp) [hlt]))) <;> clear hK K) | ((with_reducible refine awCond fun A B hA hB => ?_); simp (maxSteps := 10000000) (disch := first | omega | simp) [hlt]; (first | refine ⟨fun h => hA ?_, fun h => hB ?_⟩ | refine hA ?_ | refine hB ?_) <;> (clear hA hB A B; (try (exfalso; omega))))
              all_goals (refine aEnR (aRes [] fun K hK => ?_); simp (maxSteps := 10000000) (disch := first | omega | simp) []; refine hK _ ?_ (by simp); clear hK; first | done | (simp (maxSteps := 10000000) (disch := first | omega | simp) [*]; done) | (simp (maxSteps := 10000000) (disch := first | omega | simp) [*]; omega) | (simp_all []; done) | (simp_all []; omega))
            | true =>
              obtain ⟨e1, e2, e3, e4⟩ := hE1 rfl
              simp only at e1 e2 e3 e4
              have hin3 := ints_ok r.ids t
              rw [show (r.ids == t) = true by simpa using e1] at hin3
              have hun3 := under_ok r
              rw [e2] at hun3
              by_cases hp0 : p.leader = 0
              · have q1 : (p.leader == 0) = true := by simpa using hp0
                repeat' first | (with_reducible first | refine thN ?_ | refine thE ?_ | refine inN ?_ | refine inH ?_ | refine fS ?_ | refine fR ?_ | refine fQ ?_ | refine fE ?_ | refine fT ?_ | refine awBlock ?_ | refine awExit ?_ | refine awRet ?_ | refine awSkip ?_) | ((with_reducible refine awReg fun K hok hK => ?_); clear hok; (try simp (maxSteps := 10000000) (disch := first | omega | simp) [hlt, q1, e4]); (repeat' first | (with_reducible refine hK _ (by simp) ?_) | ((first | ((with_reducible refine callS' fun K2 hK2 => ?_); (try simp (maxSteps := 10000000) (disch := first | omega | simp) [hlt, q1, e4]); (first | refine hK2 _ _ hun2 rfl fun hk9 => ?_ | refine hK2 _ _ hfi rfl fun hk9 => ?_ | refine hK2 _ _ hin3 rfl fun hk9 => ?_ | refine hK2 _ _ hun3 rfl fun hk9 => ?_ | refine hK2 _ _ mworks_ok rfl fun hk9 => ?_); clear hk9; clear hK2 K2) | ((with_reducible refine callF' fun K2 hK2 => ?_); (try simp (maxSteps := 10000000) (disch := first | omega | simp) [hlt, q1, e4]); (first | refine hK2 _ _ _ hun2 fun _ => ?_ | refine hK2 _ _ _ hfi fun _ => ?_ | refine hK2 _ _ _ hin3 fun _ => ?_ | refine hK2 _ _ _ hun3 fun _ => ?_ | refine hK2 _ _ _ mworks_ok fun _ => ?_); clear hK2 K2) | ((with_reducible refine sideQ' ?_ ?_ fun K2 hK2 => ?_); exact rfl; exact rfl; (try simp (maxSteps := 10000000) (disch := first | omega | simp) [hlt, q1, e4]); with_reducible refine hK2 _ _ ?_; clear hK2 K2) | ((with_reducible refine side' ?_ fun K2 hK2 => ?_); exact rfl; (try simp (maxSteps := 10000000) (disch := first | omega | simp) [hlt, q1, e4]); refine hK2 _ _ (by simp) ?_; clear hK2 K2)); (try simp (maxSteps := 10000000) (disch := first | omega | simp) [hlt, q1, e4]))) <;> clear hK K) | ((with_reducible refine awCond fun A B hA hB => ?_); simp (maxSteps := 10000000) (disch := first | omega | simp) [hlt, q1, e4]; (first | refine ⟨fun h => hA ?_, fun h => hB ?_⟩ | refine hA ?_ | refine hB ?_) <;> (clear hA hB A B; (try (exfalso; omega))))
                all_goals (refine aEnR (aRes [] fun K hK => ?_); simp (maxSteps := 10000000) (disch := first | omega | simp) []; refine hK _ ?_ (by simp); clear hK; first | done | (simp (maxSteps := 10000000) (disch := first | omega | simp) [*]; done) | (simp (maxSteps := 10000000) (disch := first | omega | simp) [*]; omega) | (simp_all []; done) | (simp_all []; omega))
              · have q1 : (p.leader == 0) = false := by simpa using hp0
                have hhl := has_ok t r.leader
                rw [show t.contains r.leader = true by simpa using e3.resolve_left hp0] at hhl
                repeat' first | (with_reducible first | refine thN ?_ | refine thE ?_ | refine inN ?_ | refine inH ?_ | refine fS ?_ | refine fR ?_ | refine fQ ?_ | refine fE ?_ | refine fT ?_ | refine awBlock ?_ | refine awExit ?_ | refine awRet ?_ | refine awSkip ?_) | ((with_reducible refine awReg fun K hok hK => ?_); clear hok; (try simp (maxSteps := 10000000) (disch := first | omega | simp) [hlt, q1, e4]); (repeat' first | (with_reducible refine hK _ (by simp) ?_) | ((first | ((with_reducible refine callS' fun K2 hK2 => ?_); (try simp (maxSteps := 10000000) (disch := first | omega | simp) [hlt, q1, e4]); (first | refine hK2 _ _ hun2 rfl fun hk9 => ?_ | refine hK2 _ _ hfi rfl fun hk9 => ?_ | refine hK2 _ _ hin3 rfl fun hk9 => ?_ | refine hK2 _ _ hun3 rfl fun hk9 => ?_ | refine hK2 _ _ hhl rfl fun hk9 => ?_ | refine hK2 _ _ mworks_ok rfl fun hk9 => ?_); clear hk9; clear hK2 K2) | ((with_reducible refine callF' fun K2 hK2 => ?_); (try simp (maxSteps := 10000000) (disch := first | omega | simp) [hlt, q1, e4]); (first | refine hK2 _ _ _ hun2 fun _ => ?_ | refine hK2 _ _ _ hfi fun _ => ?_ | refine hK2 _ _ _ hin3 fun _ => ?_ | refine hK2 _ _ _ hun3 fun _ => ?_ | refine hK2 _ _ _ hhl fun _ => ?_ | refine hK2 _ _ _ mworks_ok fun _ => ?_); clear hK2 K2) | ((with_reducible refine sideQ' ?_ ?_ fun K2 hK2 => ?_); exact rfl; exact rfl; (try simp (maxSteps := 10000000) (disch := first | omega | simp) [hlt, q1, e4]); with_reducible refine hK2 _ _ ?_; clear hK2 K2) | ((with_reducible refine side' ?_ fun K2 hK2 => ?_); exact rfl; (try simp (maxSteps := 10000000) (disch := first | omega | simp) [hlt, q1, e4]); refine hK2 _ _ (by simp) ?_; clear hK2 K2)); (try simp (maxSteps := 10000000) (disch := first | omega | simp) [hlt, q1, e4]))) <;> clear hK K) | ((with_reducible refine awCond fun A B hA hB => ?_); simp (maxSteps := 10000000) (disch := first | omega | simp) [hlt, q1, e4]; (first | refine ⟨fun h => hA ?_, fun h => hB ?_⟩ | refine hA ?_ | refine hB ?_) <;> (clear hA hB A B; (try (exfalso; omega))))
                all_goals (refine aEnR (aRes [] fun K hK => ?_); simp (maxSteps := 10000000) (disch := first | omega | simp) []; refine hK _ ?_ (by simp); clear hK; first | done | (simp (maxSteps := 10000000) (disch := first | omega | simp) [*]; done) | (simp (maxSteps := 10000000) (disch := first | omega | simp) [*]; omega) | (simp_all []; done) | (simp_all []; omega))
  · repeat' first | (with_reducible first | refine thN ?_ | refine thE ?_ | refine inN ?_ | refine inH ?_ | refine fS ?_ | refine fR ?_ | refine fQ ?_ | refine fE ?_ | refine fT ?_ | refine awBlock ?_ | refine awExit ?_ | refine awRet ?_ | refine awSkip ?_) | ((with_reducible refine awReg fun K hok hK => ?_); clear hok; (try simp (maxSteps := 10000000) (disch := first | omega | simp) [hl]); (repeat' first | (with_reducible refine hK _ (by simp) ?_) | ((first | ((with_reducible refine callS' fun K2 hK2 => ?_); (try simp (maxSteps := 10000000) (disch := first | omega | simp) [hl]); (first | refine hK2 _ _ (mlight_ok l) rfl fun hk9 => ?_ | refine hK2 _ _ mworks_ok rfl fun hk9 => ?_); clear hk9; clear hK2 K2) | ((with_reducible refine callF' fun K2 hK2 => ?_); (try simp (maxSteps := 10000000) (disch := first | omega | simp) [hl]); (first | refine hK2 _ _ _ (mlight_ok l) fun _ => ?_ | refine hK2 _ _ _ mworks_ok fun _ => ?_); clear hK2 K2) | ((with_reducible refine sideQ' ?_ ?_ fun K2 hK2 => ?_); exact rfl; exact rfl; (try simp (maxSteps := 10000000) (disch := first | omega | simp) [hl]); with_reducible refine hK2 _ _ ?_; clear hK2 K2) | ((with_reducible refine side' ?_ fun K2 hK2 => ?_); exact rfl; (try simp (maxSteps := 10000000) (disch := first | omega | simp) [hl]); refine hK2 _ _ (by simp) ?_; clear hK2 K2)); (try simp (maxSteps := 10000000) (disch := first | omega | simp) [hl]))) <;> clear hK K) | ((with_reducible refine awCond fun A B hA hB => ?_); simp (maxSteps := 10000000) (disch := first | omega | simp) [hl]; (first | refine ⟨fun h => hA ?_, fun h => hB ?_⟩ | refine hA ?_ | refine hB ?_) <;> (clear hA hB A B; (try (exfalso; omega))))
    all_goals (refine aEnR (aRes [] fun K hK => ?_); simp (maxSteps := 10000000) (disch := first | omega | simp) []; refine hK _ ?_ (by simp); clear hK; first | done | (simp (maxSteps := 10000000) (disch := first | omega | simp) [*]; done) | (simp (maxSteps := 10000000) (disch := first | omega | simp) [*]; omega) | (simp_all []; done) | (simp_all []; omega))
end
end Go.Am
