/- Part of the proof of ElectLeaves. -/
import Derived.Test.YteijffflinnccaaZAA
set_option linter.all false
set_option maxRecDepth 100000
set_option maxHeartbeats 0
namespace Go.Am
open Go
noncomputable section
def c119 : SC := (.seq (.reg [⟨some 4, .assign (.const (.bool false)), none, []⟩] [0, 1]) (.seq (.reg [⟨some 5, .assign (.const (.string ⟨#[]⟩)), none, []⟩] [0, 1, 5]) (.seq (.reg [⟨some 7, .move (.tmp 0), none, []⟩] [0, 1, 5, 7]) (.seq (.block 0 (.seq (.reg [⟨some 9, .binOp .eql 3 (.tmp 7) (.const (.int .i64 2)) 3, none, []⟩,
  ⟨some 8, .assign (.tmp 9), none, []⟩] [0, 1, 5, 7, 8, 9]) (.seq (.cond (.tmp 8) (.seq (.reg [⟨some 5, .assign (.const (.string ⟨#[98, 101, 114]⟩)), none, []⟩] [1, 5]) .skip) (.seq (.reg [⟨some 11, .binOp .eql 3 (.tmp 7) (.const (.int .i64 3)) 3, none, []⟩,
  ⟨some 10, .assign (.tmp 11), none, []⟩] [0, 1, 5, 7, 10, 11, 12, 13, 14]) (.seq (.cond (.tmp 10) .skip (.seq (.reg [⟨some 12, .binOp .eql 3 (.tmp 7) (.const (.int .i64 4)) 3, none, []⟩,
  ⟨some 10, .assign (.tmp 12), none, []⟩] [0, 1, 5, 7, 10, 11, 12, 13, 14]) (.seq (.cond (.tmp 10) .skip (.seq (.reg [⟨some 13, .binOp .eql 3 (.tmp 7) (.const (.int .i64 5)) 3, none, []⟩,
  ⟨some 10, .assign (.tmp 13), none, []⟩] [0, 1, 5, 7, 10, 11, 12, 13, 14]) (.seq (.cond (.tmp 10) .skip (.seq (.reg [⟨some 14, .binOp .eql 3 (.tmp 7) (.const (.int .i64 6)) 3, none, []⟩,
  ⟨some 10, .assign (.tmp 14), none, []⟩] [0, 1, 5, 7, 10, 11, 12, 13, 14]) .skip)) .skip))) .skip))) (.seq (.cond (.tmp 10) (.seq (.reg [⟨some 5, .assign (.const (.string ⟨#[98, 101]⟩)), none, []⟩] [1, 5]) .skip) (.seq (.reg [⟨some 16, .binOp .eql 3 (.tmp 7) (.const (.int .i64 7)) 3, none, []⟩,
  ⟨some 15, .assign (.tmp 16), none, []⟩] [0, 1, 5, 7, 15, 16]) (.seq (.cond (.tmp 15) (.seq (.reg [⟨some 5, .assign (.const (.string ⟨#[116, 110]⟩)), none, []⟩] [1, 5]) .skip) (.seq (.reg [⟨some 18, .binOp .eql 3 (.tmp 7) (.const (.int .i64 8)) 3, none, []⟩,
  ⟨some 17, .assign (.tmp 18), none, []⟩] [0, 1, 5, 7, 17, 18]) (.seq (.cond (.tmp 17) (.seq (.reg [⟨some 5, .assign (.const (.string ⟨#[116, 112, 108, 105, 109]⟩)), none, []⟩] [1, 5]) .skip) (.seq (.reg [⟨some 20, .binOp .eql 3 (.tmp 7) (.const (.int .i64 9)) 3, none, []⟩,
  ⟨some 19, .assign (.tmp 20), none, []⟩] [0, 1, 5, 7, 19, 20]) (.seq (.cond (.tmp 19) (.seq (.reg [⟨some 5, .assign (.const (.string ⟨#[116, 101, 112, 108, 105, 109, 120]⟩)), none, []⟩] [1, 5]) .skip) (.seq (.reg [⟨some 22, .binOp .eql 3 (.tmp 7) (.const (.int .i64 10)) 3, none, []⟩,
  ⟨some 21, .assign (.tmp 22), none, []⟩] [0, 1, 5, 7, 21, 22]) (.seq (.cond (.tmp 21) (.seq (.reg [⟨some 5, .assign (.const (.string ⟨#[116, 107, 118, 102]⟩)), none, []⟩] [1, 5]) .skip) (.seq (.reg [⟨some 24, .binOp .eql 3 (.tmp 7) (.const (.int .i64 11)) 3, none, []⟩,
  ⟨some 23, .assign (.tmp 24), none, []⟩] [0, 1, 5, 7, 23, 24]) (.seq (.cond (.tmp 23) (.seq (.reg [⟨some 5, .assign (.const (.string ⟨#[116]⟩)), none, []⟩] [1, 5]) .skip) (.seq (.reg [⟨some 26, .binOp .eql 3 (.tmp 7) (.const (.int .i64 12)) 3, none, []⟩,
  ⟨some 25, .assign (.tmp 26), none, []⟩] [1, 5, 25, 26]) (.seq (.cond (.tmp 25) (.seq (.reg [⟨some 5, .assign (.const (.string ⟨#[97]⟩)), none, []⟩] [1, 5]) .skip) .skip) .skip))) .skip))) .skip))) .skip))) .skip))) .skip))) .skip)))) .skip))) (.seq (.reg [⟨some 6, .assign (.const (.int .i64 0)), none, []⟩] [1, 5, 6, 32]) (.seq (.block 1 (.seq (.loop (.seq (.reg [⟨some 27, .move (.tmp 6), none, []⟩,
  ⟨some 28, .move (.tmp 5), none, []⟩,
  ⟨some 29, .call { callee := .builtin .len, args := #[.tmp 28], argTypes := #[9] }, none, []⟩,
  ⟨some 30, .binOp .lss 3 (.tmp 27) (.tmp 29) 3, none, []⟩] [1, 5, 6, 30, 32]) (.seq (.cond (.tmp 30) .skip (.exit 1)) (.seq (.block 2 (.seq (.reg [⟨some 33, .move (.tmp 5), none, []⟩,
  ⟨some 34, .move (.tmp 6), none, []⟩,
  ⟨some 35, .index 9 (.tmp 33) (.tmp 34), none, []⟩,
  ⟨some 36, .move (.tmp 1), none, []⟩,
  ⟨some 37, .binOp .eql 5 (.tmp 35) (.tmp 36) 5, none, []⟩] [1, 5, 6, 32, 37]) (.seq (.cond (.tmp 37) (.seq (.reg [⟨some 4, .assign (.const (.bool true)), none, []⟩] [4]) .ret) .skip) .skip))) (.seq (.reg [⟨some 31, .move (.tmp 6), none, []⟩,
  ⟨some 32, .binOp .add 3 (.tmp 31) (.const (.int .i64 1)) 3, none, []⟩,
  ⟨some 6, .assign (.tmp 32), none, []⟩] [1, 5, 6, 32]) .skip))))) .skip)) (.seq (.reg [⟨some 4, .assign (.const (.bool false)), none, []⟩] [4]) .ret)))))))
theorem s119 : TextK Proofs.Try.prog 0 119 38 [ResultVar.tmp 4] c119 := .mk' Proofs.Try.f119 _ (by kernel_rfl) rfl rfl rfl (by kernel_rfl) rfl (by kernel_rfl)
def c147 : SC := (.seq (.reg [⟨some 8, .assign (.const (.bool false)), none, []⟩] [0, 1, 2, 3, 12, 13, 16, 17, 19]) (.seq (.reg [⟨some 9, .move (.tmp 1), none, []⟩] [0, 1, 2, 3, 9, 12, 13, 16, 17, 19]) (.seq (.cond (.tmp 9) (.seq (.reg [⟨some 10, .move (.tmp 0), none, []⟩,
  ⟨some 11, .move (.tmp 2), none, []⟩,
  ⟨some 12, .binOp .geq 3 (.tmp 10) (.tmp 11) 3, none, []⟩,
  ⟨some 13, .move (.tmp 12), none, []⟩,
  ⟨some 14, .move (.tmp 0), (some (13, true)), []⟩,
  ⟨some 15, .move (.tmp 3), (some (13, true)), []⟩,
  ⟨some 16, .binOp .leq 3 (.tmp 14) (.tmp 15) 3, (some (13, true)), []⟩,
  ⟨some 17, .pick (.tmp 13) (.tmp 16) (.const (.bool false)), none, []⟩,
  ⟨some 8, .assign (.tmp 17), none, []⟩] [8, 12, 13, 16, 17, 19]) .ret) .skip) (.seq (.reg [⟨some 18, .move (.tmp 0), none, []⟩,
  ⟨some 19, .binOp .eql 3 (.tmp 18) (.const (.int .i64 0)) 3, none, []⟩,
  ⟨some 8, .assign (.tmp 19), none, []⟩] [8, 12, 13, 16, 17, 19]) .ret))))
theorem s147 : TextK Proofs.Try.prog 0 147 20 [ResultVar.tmp 8] c147 := .mk' Proofs.Try.f147 _ (by kernel_rfl) rfl rfl rfl (by kernel_rfl) rfl (by kernel_rfl)
def c120 : SC := (.seq (.reg [⟨some 4, .assign (.const (.bool false)), none, []⟩] [0, 1, 7, 9]) (.seq (.reg [⟨some 5, .move (.tmp 1), none, []⟩] [0, 1, 5, 7, 9]) (.seq (.cond (.tmp 5) (.seq (.reg [⟨some 6, .move (.tmp 0), none, []⟩,
  ⟨some 7, .call { callee := .value (.func 148), args := #[.tmp 6], argTypes := #[9] }, none, []⟩,
  ⟨some 4, .assign (.tmp 7), none, []⟩] [4, 7, 9]) .ret) .skip) (.seq (.reg [⟨some 8, .move (.tmp 0), none, []⟩,
  ⟨some 9, .binOp .eql 9 (.tmp 8) (.const (.string ⟨#[]⟩)) 9, none, []⟩,
  ⟨some 4, .assign (.tmp 9), none, []⟩] [4, 7, 9]) .ret))))
theorem s120 : TextK Proofs.Try.prog 0 120 10 [ResultVar.tmp 4] c120 := .mk' Proofs.Try.f120 _ (by kernel_rfl) rfl rfl rfl (by kernel_rfl) rfl (by kernel_rfl)
def c121 : SC := (.seq (.reg [⟨some 4, .assign (.const (.bool false)), none, []⟩] [0, 1, 7, 10]) (.seq (.reg [⟨some 5, .move (.tmp 1), none, []⟩] [0, 1, 5, 7, 10]) (.seq (.cond (.tmp 5) (.seq (.reg [⟨some 6, .move (.tmp 0), none, []⟩,
  ⟨some 7, .call { callee := .value (.func 149), args := #[.tmp 6], argTypes := #[41] }, none, []⟩,
  ⟨some 4, .assign (.tmp 7), none, []⟩] [4, 7, 10]) .ret) .skip) (.seq (.reg [⟨some 8, .move (.tmp 0), none, []⟩,
  ⟨some 9, .call { callee := .builtin .len, args := #[.tmp 8], argTypes := #[41] }, none, []⟩,
  ⟨some 10, .binOp .eql 3 (.tmp 9) (.const (.int .i64 0)) 3, none, []⟩,
  ⟨some 4, .assign (.tmp 10), none, []⟩] [4, 7, 10]) .ret))))
theorem s121 : TextK Proofs.Try.prog 0 121 11 [ResultVar.tmp 4] c121 := .mk' Proofs.Try.f121 _ (by kernel_rfl) rfl rfl rfl (by kernel_rfl) rfl (by kernel_rfl)
def c148 : SC := (.seq (.reg [⟨some 2, .assign (.const (.bool false)), none, []⟩] [0]) (.seq (.reg [⟨some 6, .move (.tmp 0), none, []⟩,
  ⟨some 7, .call { callee := .builtin .len, args := #[.tmp 6], argTypes := #[9] }, none, []⟩,
  ⟨some 8, .binOp .lss 3 (.tmp 7) (.const (.int .i64 1)) 3, none, []⟩,
  ⟨some 9, .move (.tmp 8), none, []⟩,
  ⟨some 10, .move (.tmp 0), (some (9, false)), []⟩,
  ⟨some 11, .call { callee := .builtin .len, args := #[.tmp 10], argTypes := #[9] }, (some (9, false)), []⟩,
  ⟨some 12, .binOp .gtr 3 (.tmp 11) (.const (.int .i64 40)) 3, (some (9, false)), []⟩,
  ⟨some 13, .pick (.tmp 9) (.const (.bool true)) (.tmp 12), none, []⟩,
  ⟨some 14, .move (.tmp 13), none, []⟩,
  ⟨some 15, .move (.tmp 0), (some (14, false)), []⟩,
  ⟨some 16, .binOp .eql 9 (.tmp 15) (.const (.string ⟨#[46]⟩)) 9, (some (14, false)), []⟩,
  ⟨some 17, .pick (.tmp 14) (.const (.bool true)) (.tmp 16), none, []⟩,
  ⟨some 18, .move (.tmp 17), none, []⟩,
  ⟨some 19, .move (.tmp 0), (some (18, false)), []⟩,
  ⟨some 20, .binOp .eql 9 (.tmp 19) (.const (.string ⟨#[46, 46]⟩)) 9, (some (18, false)), []⟩,
  ⟨some 21, .pick (.tmp 18) (.const (.bool true)) (.tmp 20), none, []⟩] [0, 8, 9, 12, 13, 14, 16, 17, 18, 20, 21]) (.seq (.cond (.tmp 21) (.seq (.reg [⟨some 2, .assign (.const (.bool false)), none, []⟩] [2]) .ret) .skip) (.seq (.reg [⟨some 3, .assign (.const (.int .i64 0)), none, []⟩] [0, 3, 27]) (.seq (.block 0 (.seq (.loop (.seq (.reg [⟨some 22, .move (.tmp 3), none, []⟩,
  ⟨some 23, .move (.tmp 0), none, []⟩,
  ⟨some 24, .call { callee := .builtin .len, args := #[.tmp 23], argTypes := #[9] }, none, []⟩,
  ⟨some 25, .binOp .lss 3 (.tmp 22) (.tmp 24) 3, none, []⟩] [0, 3, 25, 27]) (.seq (.cond (.tmp 25) .skip (.exit 0)) (.seq (.block 1 (.seq (.reg [⟨some 28, .move (.tmp 0), none, []⟩,
  ⟨some 29, .move (.tmp 3), none, []⟩,
  ⟨some 30, .index 9 (.tmp 28) (.tmp 29), none, []⟩,
  ⟨some 4, .assign (.tmp 30), none, []⟩] [0, 3, 4, 27, 30]) (.seq (.reg [⟨some 31, .move (.tmp 4), none, []⟩,
  ⟨some 32, .binOp .geq 5 (.tmp 31) (.const (.int .u8 97)) 5, none, []⟩,
  ⟨some 33, .move (.tmp 32), none, []⟩,
  ⟨some 34, .move (.tmp 4), (some (33, true)), []⟩,
  ⟨some 35, .binOp .leq 5 (.tmp 34) (.const (.int .u8 122)) 5, (some (33, true)), []⟩,
  ⟨some 36, .pick (.tmp 33) (.tmp 35) (.const (.bool false)), none, []⟩,
  ⟨some 37, .move (.tmp 36), none, []⟩,
  ⟨some 38, .move (.tmp 4), (some (37, false)), []⟩,
  ⟨some 39, .binOp .geq 5 (.tmp 38) (.const (.int .u8 48)) 5, (some (37, false)), []⟩,
  ⟨some 40, .move (.tmp 39), (some (37, false)), []⟩,
  ⟨some 41, .move (.tmp 4), (some (40, true)), []⟩,
  ⟨some 42, .binOp .leq 5 (.tmp 41) (.const (.int .u8 57)) 5, (some (40, true)), []⟩,
  ⟨some 43, .pick (.tmp 40) (.tmp 42) (.const (.bool false)), (some (37, false)), []⟩,
  ⟨some 44, .pick (.tmp 37) (.const (.bool true)) (.tmp 43), none, []⟩,
  ⟨some 45, .move (.tmp 44), none, []⟩,
  ⟨some 46, .move (.tmp 4), (some (45, false)), []⟩,
  ⟨some 47, .binOp .eql 5 (.tmp 46) (.const (.int .u8 46)) 5, (some (45, false)), []⟩,
  ⟨some 48, .pick (.tmp 45) (.const (.bool true)) (.tmp 47), none, []⟩,
  ⟨some 49, .move (.tmp 48), none, []⟩,
  ⟨some 50, .move (.tmp 4), (some (49, false)), []⟩,
  ⟨some 51, .binOp .eql 5 (.tmp 50) (.const (.int .u8 45)) 5, (some (49, false)), []⟩,
  ⟨some 52, .pick (.tmp 49) (.const (.bool true)) (.tmp 51), none, []⟩,
  ⟨some 5, .assign (.tmp 52), none, []⟩] [0, 3, 5, 27, 32, 33, 35, 36, 37, 39, 40, 42, 43, 44, 45, 47, 48, 49, 51, 52]) (.seq (.reg [⟨some 53, .move (.tmp 5), none, []⟩,
  ⟨some 54, .unOp .not 4 (.tmp 53), none, []⟩] [0, 3, 27, 54]) (.seq (.cond (.tmp 54) (.seq (.reg [⟨some 2, .assign (.const (.bool false)), none, []⟩] [2]) .ret) .skip) .skip))))) (.seq (.reg [⟨some 26, .move (.tmp 3), none, []⟩,
  ⟨some 27, .binOp .add 3 (.tmp 26) (.const (.int .i64 1)) 3, none, []⟩,
  ⟨some 3, .assign (.tmp 27), none, []⟩] [0, 3, 27]) .skip))))) .skip)) (.seq (.reg [⟨some 2, .assign (.const (.bool true)), none, []⟩] [2]) .ret))))))
theorem s148 : TextK Proofs.Try.prog 0 148 55 [ResultVar.tmp 2] c148 := .mk' Proofs.Try.f148 _ (by kernel_rfl) rfl rfl rfl (by kernel_rfl) rfl (by kernel_rfl)
def c149 : SC := (.seq (.reg [⟨some 2, .assign (.const (.bool false)), none, []⟩] [0]) (.seq (.reg [⟨some 5, .move (.tmp 0), none, []⟩,
  ⟨some 6, .call { callee := .builtin .len, args := #[.tmp 5], argTypes := #[41] }, none, []⟩,
  ⟨some 7, .binOp .gtr 3 (.tmp 6) (.const (.int .i64 7)) 3, none, []⟩] [0, 7]) (.seq (.cond (.tmp 7) (.seq (.reg [⟨some 2, .assign (.const (.bool false)), none, []⟩] [2]) .ret) .skip) (.seq (.reg [⟨some 3, .assign (.const (.int .i64 0)), none, []⟩] [0, 3, 13]) (.seq (.block 0 (.seq (.loop (.seq (.reg [⟨some 8, .move (.tmp 3), none, []⟩,
  ⟨some 9, .move (.tmp 0), none, []⟩,
  ⟨some 10, .call { callee := .builtin .len, args := #[.tmp 9], argTypes := #[41] }, none, []⟩,
  ⟨some 11, .binOp .lss 3 (.tmp 8) (.tmp 10) 3, none, []⟩] [0, 3, 11, 13]) (.seq (.cond (.tmp 11) .skip (.exit 0)) (.seq (.block 1 (.seq (.reg [⟨some 14, .move (.tmp 0), none, []⟩,
  ⟨some 15, .move (.tmp 3), none, []⟩,
  ⟨some 16, .indexAddr 41 (.tmp 14) (.tmp 15), none, []⟩,
  ⟨some 17, .load 3 (.tmp 16), none, []⟩,
  ⟨some 18, .binOp .lss 3 (.tmp 17) (.const (.int .i64 1)) 3, none, []⟩,
  ⟨some 19, .move (.tmp 18), none, []⟩,
  ⟨some 20, .move (.tmp 0), (some (19, false)), []⟩,
  ⟨some 21, .move (.tmp 3), (some (19, false)), []⟩,
  ⟨some 22, .indexAddr 41 (.tmp 20) (.tmp 21), (some (19, false)), []⟩,
  ⟨some 23, .load 3 (.tmp 22), (some (19, false)), []⟩,
  ⟨some 24, .binOp .gtr 3 (.tmp 23) (.const (.int .i64 64)) 3, (some (19, false)), []⟩,
  ⟨some 25, .pick (.tmp 19) (.const (.bool true)) (.tmp 24), none, []⟩] [0, 3, 13, 18, 19, 24, 25]) (.seq (.cond (.tmp 25) (.seq (.reg [⟨some 2, .assign (.const (.bool false)), none, []⟩] [2]) .ret) .skip) (.seq (.reg [⟨some 4, .assign (.const (.int .i64 0)), none, []⟩] [0, 3, 4, 13, 30]) (.seq (.block 2 (.seq (.loop (.seq (.reg [⟨some 26, .move (.tmp 4), none, []⟩,
  ⟨some 27, .move (.tmp 3), none, []⟩,
  ⟨some 28, .binOp .lss 3 (.tmp 26) (.tmp 27) 3, none, []⟩] [0, 3, 4, 13, 28, 30]) (.seq (.cond (.tmp 28) .skip (.exit 2)) (.seq (.block 3 (.seq (.reg [⟨some 31, .move (.tmp 0), none, [32, 35, 36, 37, 38]⟩,
  ⟨some 32, .move (.tmp 4), none, [31, 35, 36, 37, 38]⟩,
  ⟨some 33, .indexAddr 41 (.tmp 31) (.tmp 32), none, [35, 36, 37, 38]⟩,
  ⟨some 34, .load 3 (.tmp 33), none, [35, 36, 37, 38]⟩,
  ⟨some 35, .move (.tmp 0), none, [31, 32, 33, 34, 36]⟩,
  ⟨some 36, .move (.tmp 3), none, [31, 32, 33, 34, 35]⟩,
  ⟨some 37, .indexAddr 41 (.tmp 35) (.tmp 36), none, [31, 32, 33, 34]⟩,
  ⟨some 38, .load 3 (.tmp 37), none, [31, 32, 33, 34]⟩,
  ⟨some 39, .binOp .eql 3 (.tmp 34) (.tmp 38) 3, none, []⟩] [0, 3, 4, 13, 30, 39]) (.seq (.cond (.tmp 39) (.seq (.reg [⟨some 2, .assign (.const (.bool false)), none, []⟩] [2]) .ret) .skip) .skip))) (.seq (.reg [⟨some 29, .move (.tmp 4), none, []⟩,
  ⟨some 30, .binOp .add 3 (.tmp 29) (.const (.int .i64 1)) 3, none, []⟩,
  ⟨some 4, .assign (.tmp 30), none, []⟩] [0, 3, 4, 13, 30]) .skip))))) .skip)) .skip))))) (.seq (.reg [⟨some 12, .move (.tmp 3), none, []⟩,
  ⟨some 13, .binOp .add 3 (.tmp 12) (.const (.int .i64 1)) 3, none, []⟩,
  ⟨some 3, .assign (.tmp 13), none, []⟩] [0, 3, 13]) .skip))))) .skip)) (.seq (.reg [⟨some 2, .assign (.const (.bool true)), none, []⟩] [2]) .ret))))))
theorem s149 : TextK Proofs.Try.prog 0 149 40 [ResultVar.tmp 2] c149 := .mk' Proofs.Try.f149 _ (by kernel_rfl) rfl rfl rfl (by kernel_rfl) rfl (by kernel_rfl)
abbrev U8 (n : Int) : V := .c (.int .u8 n)
@[simp] theorem ba_size (l : List UInt8) : (⟨⟨l⟩⟩ : ByteArray).size = l.length := rfl
theorem ref05_has_ok (k c : Int) : ACall pg 119 [I k, U8 c] (B (hasB k c)) := by
  refine s119.call mo (by simp) fun hxs => ?_
  clear hxs
  have hl := abouts_len k
  unfold c119
  repeat' first
      | (with_reducible first | refine thN ?_ | refine thR ?_ | refine thE ?_ | refine inN ?_ | refine inR ?_ | refine inH ?_ | refine fF ?_ | refine fS ?_ | refine fR ?_ | refine fQ ?_ | refine fC ?_ | refine fB ?_ | refine fL ?_ | refine fE ?_ | refine fT ?_ | refine awExit ?_ | refine awRet ?_ | refine awSkip ?_ | refine inM (by decide) ?_)
      | ((with_reducible refine awReg fun K hok hK => ?_); clear hok; (try simp (maxSteps := 10000000) (disch := first | omega | simp) []); (repeat' first
          | (with_reducible refine hK _ (by simp) ?_)
          | ((with_reducible refine gdT (fun h => ?_) (fun h => ?_)) <;> (simp (maxSteps := 10000000) (disch := first | omega | simp) [h]; (try simp at h); (try (exfalso; omega))))
          | ((with_reducible refine gdF (fun h => ?_) (fun h => ?_)) <;> (simp (maxSteps := 10000000) (disch := first | omega | simp) [h]; (try simp at h); (try (exfalso; omega))))
          | ((with_reducible refine sideSt' fun K2 hK2 => ?_); (try simp (maxSteps := 10000000) (disch := first | omega | simp) []); refine hK2 _ ?_; clear hK2 K2; (try simp (maxSteps := 10000000) (disch := first | omega | simp) []))
          | ((with_reducible refine gdU ?_); (try simp (maxSteps := 10000000) (disch := first | omega | simp) []))
          | ((with_reducible refine sideQ' ?_ ?_ fun K2 hK2 => ?_); exact rfl; exact rfl; (try simp (maxSteps := 10000000) (disch := first | omega | simp) []); with_reducible refine hK2 _ _ ?_; clear hK2 K2; (try simp (maxSteps := 10000000) (disch := first | omega | simp) []))
          | ((with_reducible refine side' ?_ fun K2 hK2 => ?_); exact rfl; (try simp (maxSteps := 10000000) (disch := first | omega | simp) []); refine hK2 _ _ (by simp) ?_; clear hK2 K2; (try simp (maxSteps := 10000000) (disch := first | omega | simp) []))) <;> clear hK K)
      | ((with_reducible refine awCond fun A B hA hB => ?_); simp (maxSteps := 10000000) (disch := first | omega | simp) []; (first | refine ⟨fun h => hA ?_, fun h => hB ?_⟩ | refine hA ?_ | refine hB ?_) <;> (clear hA hB A B; (try (exfalso; omega))))
  refine awBlockW (fun m => m = [(1, .p (U8 c)), (5, .p (St ⟨⟨abouts k⟩⟩))]) ?_ ?_
  · repeat' first
        | (with_reducible first | refine thN ?_ | refine thR ?_ | refine thE ?_ | refine inN ?_ | refine inR ?_ | refine inH ?_ | refine fF ?_ | refine fS ?_ | refine fR ?_ | refine fQ ?_ | refine fC ?_ | refine fB ?_ | refine fL ?_ | refine fE ?_ | refine fT ?_ | refine awBlock ?_ | refine awExit ?_ | refine awRet ?_ | refine awSkip ?_ | refine inM (by decide) ?_)
        | ((with_reducible refine awReg fun K hok hK => ?_); clear hok; (try simp (maxSteps := 10000000) (disch := first | omega | simp) []); (repeat' first
            | (with_reducible refine hK _ (by simp) ?_)
            | ((with_reducible refine gdT (fun h => ?_) (fun h => ?_)) <;> (simp (maxSteps := 10000000) (disch := first | omega | simp) [h]; (try simp at h); (try (exfalso; omega))))
            | ((with_reducible refine gdF (fun h => ?_) (fun h => ?_)) <;> (simp (maxSteps := 10000000) (disch := first | omega | simp) [h]; (try simp at h); (try (exfalso; omega))))
            | ((with_reducible refine sideSt' fun K2 hK2 => ?_); (try simp (maxSteps := 10000000) (disch := first | omega | simp) []); refine hK2 _ ?_; clear hK2 K2; (try simp (maxSteps := 10000000) (disch := first | omega | simp) []))
            | ((with_reducible refine gdU ?_); (try simp (maxSteps := 10000000) (disch := first | omega | simp) []))
            | ((with_reducible refine sideQ' ?_ ?_ fun K2 hK2 => ?_); exact rfl; exact rfl; (try simp (maxSteps := 10000000) (disch := first | omega | simp) []); with_reducible refine hK2 _ _ ?_; clear hK2 K2; (try simp (maxSteps := 10000000) (disch := first | omega | simp) []))
            | ((with_reducible refine side' ?_ fun K2 hK2 => ?_); exact rfl; (try simp (maxSteps := 10000000) (disch := first | omega | simp) []); refine hK2 _ _ (by simp) ?_; clear hK2 K2; (try simp (maxSteps := 10000000) (disch := first | omega | simp) []))) <;> clear hK K)
        | ((with_reducible refine awCond fun A B hA hB => ?_); simp (maxSteps := 10000000) (disch := first | omega | simp) [*]; (first | refine ⟨fun h => hA ?_, fun h => hB ?_⟩ | refine hA ?_ | refine hB ?_) <;> (clear hA hB A B; (try (exfalso; omega))))
    all_goals (refine ⟨_, Wk.ofA ?_, rfl⟩; simp [abouts, *])
  · rintro _ rfl
    repeat' first
        | (with_reducible first | refine thN ?_ | refine thR ?_ | refine thE ?_ | refine inN ?_ | refine inR ?_ | refine inH ?_ | refine fF ?_ | refine fS ?_ | refine fR ?_ | refine fQ ?_ | refine fC ?_ | refine fB ?_ | refine fL ?_ | refine fE ?_ | refine fT ?_ | refine awBlock ?_ | refine awExit ?_ | refine awRet ?_ | refine awSkip ?_ | refine inM (by decide) ?_)
        | ((with_reducible refine awReg fun K hok hK => ?_); clear hok; (try simp (maxSteps := 10000000) (disch := first | omega | simp) []); (repeat' first
            | (with_reducible refine hK _ (by simp) ?_)
            | ((with_reducible refine gdT (fun h => ?_) (fun h => ?_)) <;> (simp (maxSteps := 10000000) (disch := first | omega | simp) [h]; (try simp at h); (try (exfalso; omega))))
            | ((with_reducible refine gdF (fun h => ?_) (fun h => ?_)) <;> (simp (maxSteps := 10000000) (disch := first | omega | simp) [h]; (try simp at h); (try (exfalso; omega))))
            | ((with_reducible refine sideSt' fun K2 hK2 => ?_); (try simp (maxSteps := 10000000) (disch := first | omega | simp) []); refine hK2 _ ?_; clear hK2 K2; (try simp (maxSteps := 10000000) (disch := first | omega | simp) []))
            | ((with_reducible refine gdU ?_); (try simp (maxSteps := 10000000) (disch := first | omega | simp) []))
            | ((with_reducible refine sideQ' ?_ ?_ fun K2 hK2 => ?_); exact rfl; exact rfl; (try simp (maxSteps := 10000000) (disch := first | omega | simp) []); with_reducible refine hK2 _ _ ?_; clear hK2 K2; (try simp (maxSteps := 10000000) (disch := first | omega | simp) []))
            | ((with_reducible refine side' ?_ fun K2 hK2 => ?_); exact rfl; (try simp (maxSteps := 10000000) (disch := first | omega | simp) []); refine hK2 _ _ (by simp) ?_; clear hK2 K2; (try simp (maxSteps := 10000000) (disch := first | omega | simp) []))) <;> clear hK K)
        | ((with_reducible refine awCond fun A B hA hB => ?_); simp (maxSteps := 10000000) (disch := first | omega | simp) []; (first | refine ⟨fun h => hA ?_, fun h => hB ?_⟩ | refine hA ?_ | refine hB ?_) <;> (clear hA hB A B; (try (exfalso; omega))))
    refine awFor (abouts k).length (fun i (_ : Unit) => ∀ b ∈ (abouts k).take i, ((b.toNat : Int) == c) = false) (fun i _ => [(6, .p (I i)), (1, .p (U8 c)), (5, .p (St ⟨⟨abouts k⟩⟩))]) () (Wk.ofA ?_) (by simp) fun i _ hi hni => ?_
    · simp
    repeat' first
        | (with_reducible first | refine thN ?_ | refine thR ?_ | refine thE ?_ | refine inN ?_ | refine inR ?_ | refine inH ?_ | refine fF ?_ | refine fS ?_ | refine fR ?_ | refine fQ ?_ | refine fC ?_ | refine fB ?_ | refine fL ?_ | refine fE ?_ | refine fT ?_ | refine awBlock ?_ | refine awExit ?_ | refine awRet ?_ | refine awSkip ?_ | refine inM (by decide) ?_)
        | ((with_reducible refine awReg fun K hok hK => ?_); clear hok; (try simp (maxSteps := 10000000) (disch := first | omega | simp) []); (repeat' first
            | (with_reducible refine hK _ (by simp) ?_)
            | ((with_reducible refine gdT (fun h => ?_) (fun h => ?_)) <;> (simp (maxSteps := 10000000) (disch := first | omega | simp) [h]; (try simp at h); (try (exfalso; omega))))
            | ((with_reducible refine gdF (fun h => ?_) (fun h => ?_)) <;> (simp (maxSteps := 10000000) (disch := first | omega | simp) [h]; (try simp at h); (try (exfalso; omega))))
            | ((with_reducible refine sideSt' fun K2 hK2 => ?_); (try simp (maxSteps := 10000000) (disch := first | omega | simp) []); refine hK2 _ ?_; clear hK2 K2; (try simp (maxSteps := 10000000) (disch := first | omega | simp) []))
            | ((with_reducible refine gdU ?_); (try simp (maxSteps := 10000000) (disch := first | omega | simp) []))
            | ((with_reducible refine sideQ' ?_ ?_ fun K2 hK2 => ?_); exact rfl; exact rfl; (try simp (maxSteps := 10000000) (disch := first | omega | simp) []); with_reducible refine hK2 _ _ ?_; clear hK2 K2; (try simp (maxSteps := 10000000) (disch := first | omega | simp) []))
            | ((with_reducible refine side' ?_ fun K2 hK2 => ?_); exact rfl; (try simp (maxSteps := 10000000) (disch := first | omega | simp) []); refine hK2 _ _ (by simp) ?_; clear hK2 K2; (try simp (maxSteps := 10000000) (disch := first | omega | simp) []))) <;> clear hK K)
        | ((with_reducible refine awCond fun A B hA hB => ?_); simp (maxSteps := 10000000) (disch := first | omega | simp) []; (first | refine ⟨fun h => hA ?_, fun h => hB ?_⟩ | refine hA ?_ | refine hB ?_) <;> (clear hA hB A B; (try (exfalso; omega))))
    · have e : hasB k c = true := any_at (by assumption) (by simpa using h)
      (refine aEnR (aRes [] fun K hK => ?_); simp (maxSteps := 10000000) (disch := first | omega | simp) [e]; refine hK _ ?_ (by simp); clear hK; first | done | (simp (maxSteps := 10000000) (disch := first | omega | simp) [e, *]; done) | (simp (maxSteps := 10000000) (disch := first | omega | simp) [e, *]; omega) | (simp_all [e]; done) | (simp_all [e]; omega))
    · exact ⟨by omega, (), all_take (by assumption) hni (by simpa using h), Wk.ofA (by simp)⟩
    · have e : hasB k c = false := any_no h hni
      (refine aEnR (aRes [] fun K hK => ?_); simp (maxSteps := 10000000) (disch := first | omega | simp) [e]; refine hK _ ?_ (by simp); clear hK; first | done | (simp (maxSteps := 10000000) (disch := first | omega | simp) [e, *]; done) | (simp (maxSteps := 10000000) (disch := first | omega | simp) [e, *]; omega) | (simp_all [e]; done) | (simp_all [e]; omega))
theorem ref05_num_ok (n : Int) (a : Bool) (lo hi : Int) : ACall pg 147 [I n, B a, I lo, I hi] (B (numB n a lo hi)) := by
  refine s147.call mo (by simp) fun hxs => ?_
  clear hxs
  unfold c147
  repeat' first
      | (with_reducible first | refine thN ?_ | refine thR ?_ | refine thE ?_ | refine inN ?_ | refine inR ?_ | refine inH ?_ | refine fF ?_ | refine fS ?_ | refine fR ?_ | refine fQ ?_ | refine fC ?_ | refine fB ?_ | refine fL ?_ | refine fE ?_ | refine fT ?_ | refine awBlock ?_ | refine awExit ?_ | refine awRet ?_ | refine awSkip ?_ | refine inM (by decide) ?_)
      | ((with_reducible refine awReg fun K hok hK => ?_); clear hok; (try simp (maxSteps := 10000000) (disch := first | omega | simp) []); (repeat' first
          | (with_reducible refine hK _ (by simp) ?_)
          | ((with_reducible refine gdT (fun h => ?_) (fun h => ?_)) <;> (simp (maxSteps := 10000000) (disch := first | omega | simp) [h]; (try simp at h); (try (exfalso; omega))))
          | ((with_reducible refine gdF (fun h => ?_) (fun h => ?_)) <;> (simp (maxSteps := 10000000) (disch := first | omega | simp) [h]; (try simp at h); (try (exfalso; omega))))
          | ((with_reducible refine sideSt' fun K2 hK2 => ?_); (try simp (maxSteps := 10000000) (disch := first | omega | simp) []); refine hK2 _ ?_; clear hK2 K2; (try simp (maxSteps := 10000000) (disch := first | omega | simp) []))
          | ((with_reducible refine gdU ?_); (try simp (maxSteps := 10000000) (disch := first | omega | simp) []))
          | ((with_reducible refine sideQ' ?_ ?_ fun K2 hK2 => ?_); exact rfl; exact rfl; (try simp (maxSteps := 10000000) (disch := first | omega | simp) []); with_reducible refine hK2 _ _ ?_; clear hK2 K2; (try simp (maxSteps := 10000000) (disch := first | omega | simp) []))
          | ((with_reducible refine side' ?_ fun K2 hK2 => ?_); exact rfl; (try simp (maxSteps := 10000000) (disch := first | omega | simp) []); refine hK2 _ _ (by simp) ?_; clear hK2 K2; (try simp (maxSteps := 10000000) (disch := first | omega | simp) []))) <;> clear hK K)
      | ((with_reducible refine awCond fun A B hA hB => ?_); simp (maxSteps := 10000000) (disch := first | omega | simp) []; (first | refine ⟨fun h => hA ?_, fun h => hB ?_⟩ | refine hA ?_ | refine hB ?_) <;> (clear hA hB A B; (try (exfalso; omega))))
  all_goals (refine aEnR (aRes [] fun K hK => ?_); simp (maxSteps := 10000000) (disch := first | omega | simp) [numB]; refine hK _ ?_ (by simp); clear hK; first | done | (simp (maxSteps := 10000000) (disch := first | omega | simp) [numB, *]; done) | (simp (maxSteps := 10000000) (disch := first | omega | simp) [numB, *]; omega) | (simp_all [numB]; done) | (simp_all [numB]; omega))
theorem ref05_Name_ok (s : ByteArray) : ACall pg 148 [St s] (B (nameB s)) := by
  refine s148.call mo (by simp) fun hxs => ?_
  clear hxs
  obtain ⟨⟨l⟩⟩ := s
  unfold c148
  repeat' first
      | (with_reducible first | refine thN ?_ | refine thR ?_ | refine thE ?_ | refine inN ?_ | refine inR ?_ | refine inH ?_ | refine fF ?_ | refine fS ?_ | refine fR ?_ | refine fQ ?_ | refine fC ?_ | refine fB ?_ | refine fL ?_ | refine fE ?_ | refine fT ?_ | refine awBlock ?_ | refine awExit ?_ | refine awRet ?_ | refine awSkip ?_ | refine inM (by decide) ?_)
      | ((with_reducible refine awReg fun K hok hK => ?_); clear hok; (try simp (maxSteps := 10000000) (disch := first | omega | simp) []); (repeat' first
          | (with_reducible refine hK _ (by simp) ?_)
          | ((with_reducible refine gdT (fun h => ?_) (fun h => ?_)) <;> (simp (maxSteps := 10000000) (disch := first | omega | simp) [h]; (try simp at h); (try (exfalso; omega))))
          | ((with_reducible refine gdF (fun h => ?_) (fun h => ?_)) <;> (simp (maxSteps := 10000000) (disch := first | omega | simp) [h]; (try simp at h); (try (exfalso; omega))))
          | ((with_reducible refine sideSt' fun K2 hK2 => ?_); (try simp (maxSteps := 10000000) (disch := first | omega | simp) []); refine hK2 _ ?_; clear hK2 K2; (try simp (maxSteps := 10000000) (disch := first | omega | simp) []))
          | ((with_reducible refine gdU ?_); (try simp (maxSteps := 10000000) (disch := first | omega | simp) []))
          | ((with_reducible refine sideQ' ?_ ?_ fun K2 hK2 => ?_); exact rfl; exact rfl; (try simp (maxSteps := 10000000) (disch := first | omega | simp) []); with_reducible refine hK2 _ _ ?_; clear hK2 K2; (try simp (maxSteps := 10000000) (disch := first | omega | simp) []))
          | ((with_reducible refine side' ?_ fun K2 hK2 => ?_); exact rfl; (try simp (maxSteps := 10000000) (disch := first | omega | simp) []); refine hK2 _ _ (by simp) ?_; clear hK2 K2; (try simp (maxSteps := 10000000) (disch := first | omega | simp) []))) <;> clear hK K)
      | ((with_reducible refine awCond fun A B hA hB => ?_); simp (maxSteps := 10000000) (disch := first | omega | simp) []; (first | refine ⟨fun h => hA ?_, fun h => hB ?_⟩ | refine hA ?_ | refine hB ?_) <;> (clear hA hB A B; (try (exfalso; omega))))
  rotate_left
  · refine awFor l.length (fun i (_ : Unit) => ∀ b ∈ l.take i, okCh b = true) (fun i _ => [(3, .p (I i)), (0, .p (St ⟨⟨l⟩⟩))]) () (Wk.ofA ?_) (by simp) fun i _ hi hni => ?_
    · simp
    repeat' first
        | (with_reducible first | refine thN ?_ | refine thR ?_ | refine thE ?_ | refine inN ?_ | refine inR ?_ | refine inH ?_ | refine fF ?_ | refine fS ?_ | refine fR ?_ | refine fQ ?_ | refine fC ?_ | refine fB ?_ | refine fL ?_ | refine fE ?_ | refine fT ?_ | refine awBlock ?_ | refine awExit ?_ | refine awRet ?_ | refine awSkip ?_ | refine inM (by decide) ?_)
        | ((with_reducible refine awReg fun K hok hK => ?_); clear hok; (try simp (maxSteps := 10000000) (disch := first | omega | simp) []); (repeat' first
            | (with_reducible refine hK _ (by simp) ?_)
            | ((with_reducible refine gdT (fun h => ?_) (fun h => ?_)) <;> (simp (maxSteps := 10000000) (disch := first | omega | simp) [h]; (try simp at h); (try (exfalso; omega))))
            | ((with_reducible refine gdF (fun h => ?_) (fun h => ?_)) <;> (simp (maxSteps := 10000000) (disch := first | omega | simp) [h]; (try simp at h); (try (exfalso; omega))))
            | ((with_reducible refine sideSt' fun K2 hK2 => ?_); (try simp (maxSteps := 10000000) (disch := first | omega | simp) []); refine hK2 _ ?_; clear hK2 K2; (try simp (maxSteps := 10000000) (disch := first | omega | simp) []))
            | ((with_reducible refine gdU ?_); (try simp (maxSteps := 10000000) (disch := first | omega | simp) []))
            | ((with_reducible refine sideQ' ?_ ?_ fun K2 hK2 => ?_); exact rfl; exact rfl; (try simp (maxSteps := 10000000) (disch := first | omega | simp) []); with_reducible refine hK2 _ _ ?_; clear hK2 K2; (try simp (maxSteps := 10000000) (disch := first | omega | simp) []))
            | ((with_reducible refine side' ?_ fun K2 hK2 => ?_); exact rfl; (try simp (maxSteps := 10000000) (disch := first | omega | simp) []); refine hK2 _ _ (by simp) ?_; clear hK2 K2; (try simp (maxSteps := 10000000) (disch := first | omega | simp) []))) <;> clear hK K)
        | ((with_reducible refine awCond fun A B hA hB => ?_); simp (maxSteps := 10000000) (disch := first | omega | simp) []; (first | refine ⟨fun h => hA ?_, fun h => hB ?_⟩ | refine hA ?_ | refine hB ?_) <;> (clear hA hB A B; (try (exfalso; omega))))
    all_goals first
      | (refine ⟨by omega, (), take_all (by assumption) hni ?_, Wk.ofA (by simp)⟩; simp [okCh, *]; done)
      | (refine ⟨by omega, (), take_all (by assumption) hni ?_, Wk.ofA (by simp)⟩; simp [okCh]; omega)
      | (have e : l.all okCh = true := all_no (by assumption) hni
         (refine aEnR (aRes [] fun K hK => ?_); simp (maxSteps := 10000000) (disch := first | omega | simp) [nameB, e]; refine hK _ ?_ (by simp); clear hK; first | done | (simp (maxSteps := 10000000) (disch := first | omega | simp) [nameB, e, *]; done) | (simp (maxSteps := 10000000) (disch := first | omega | simp) [nameB, e, *]; omega) | (simp_all [nameB, e]; done) | (simp_all [nameB, e]; omega)))
      | (have e : l.all okCh = false := all_at (by assumption) (by simp [okCh]; omega)
         (refine aEnR (aRes [] fun K hK => ?_); simp (maxSteps := 10000000) (disch := first | omega | simp) [nameB, e]; refine hK _ ?_ (by simp); clear hK; first | done | (simp (maxSteps := 10000000) (disch := first | omega | simp) [nameB, e, *]; done) | (simp (maxSteps := 10000000) (disch := first | omega | simp) [nameB, e, *]; omega) | (simp_all [nameB, e]; done) | (simp_all [nameB, e]; omega)))
  all_goals (refine aEnR (aRes [] fun K hK => ?_); simp (maxSteps := 10000000) (disch := first | omega | simp) [nameB]; refine hK _ ?_ (by simp); clear hK; first | done | (simp (maxSteps := 10000000) (disch := first | omega | simp) [nameB, *]; done) | (simp (maxSteps := 10000000) (disch := first | omega | simp) [nameB, *]; omega) | (simp_all [nameB]; done) | (simp_all [nameB]; omega))
theorem ref05_Brokers_ok (l : List Int) : ACall pg 149 [Li l] (B (brokersB l)) := by
  refine s149.call mo (by simp) fun hxs => ?_
  have hlen := okLenI hxs.1
  clear hxs
  unfold c149
  repeat' first
      | (with_reducible first | refine thN ?_ | refine thR ?_ | refine thE ?_ | refine inN ?_ | refine inR ?_ | refine inH ?_ | refine fF ?_ | refine fS ?_ | refine fR ?_ | refine fQ ?_ | refine fC ?_ | refine fB ?_ | refine fL ?_ | refine fE ?_ | refine fT ?_ | refine awBlock ?_ | refine awExit ?_ | refine awRet ?_ | refine awSkip ?_ | refine inM (by decide) ?_)
      | ((with_reducible refine awReg fun K hok hK => ?_); clear hok; (try simp (maxSteps := 10000000) (disch := first | omega | simp) []); (repeat' first
          | (with_reducible refine hK _ (by simp) ?_)
          | ((with_reducible refine gdT (fun h => ?_) (fun h => ?_)) <;> (simp (maxSteps := 10000000) (disch := first | omega | simp) [h]; (try simp at h); (try (exfalso; omega))))
          | ((with_reducible refine gdF (fun h => ?_) (fun h => ?_)) <;> (simp (maxSteps := 10000000) (disch := first | omega | simp) [h]; (try simp at h); (try (exfalso; omega))))
          | ((with_reducible refine sideSt' fun K2 hK2 => ?_); (try simp (maxSteps := 10000000) (disch := first | omega | simp) []); refine hK2 _ ?_; clear hK2 K2; (try simp (maxSteps := 10000000) (disch := first | omega | simp) []))
          | ((with_reducible refine gdU ?_); (try simp (maxSteps := 10000000) (disch := first | omega | simp) []))
          | ((with_reducible refine sideQ' ?_ ?_ fun K2 hK2 => ?_); exact rfl; exact rfl; (try simp (maxSteps := 10000000) (disch := first | omega | simp) []); with_reducible refine hK2 _ _ ?_; clear hK2 K2; (try simp (maxSteps := 10000000) (disch := first | omega | simp) []))
          | ((with_reducible refine side' ?_ fun K2 hK2 => ?_); exact rfl; (try simp (maxSteps := 10000000) (disch := first | omega | simp) []); refine hK2 _ _ (by simp) ?_; clear hK2 K2; (try simp (maxSteps := 10000000) (disch := first | omega | simp) []))) <;> clear hK K)
      | ((with_reducible refine awCond fun A B hA hB => ?_); simp (maxSteps := 10000000) (disch := first | omega | simp) []; (first | refine ⟨fun h => hA ?_, fun h => hB ?_⟩ | refine hA ?_ | refine hB ?_) <;> (clear hA hB A B; (try (exfalso; omega))))
  · (refine aEnR (aRes [] fun K hK => ?_); simp (maxSteps := 10000000) (disch := first | omega | simp) [brokersB]; refine hK _ ?_ (by simp); clear hK; first | done | (simp (maxSteps := 10000000) (disch := first | omega | simp) [brokersB, *]; done) | (simp (maxSteps := 10000000) (disch := first | omega | simp) [brokersB, *]; omega) | (simp_all [brokersB]; done) | (simp_all [brokersB]; omega))
  refine awFor l.length (fun i (_ : Unit) => (∀ n ∈ l.take i, 1 ≤ n ∧ n ≤ 64) ∧ (l.take i).Nodup) (fun i _ => [(3, .p (I i)), (0, .p (Li l))]) () (Wk.ofA ?_) (by simp) fun i _ hi hni => ?_
  · simp
  repeat' first
      | (with_reducible first | refine thN ?_ | refine thR ?_ | refine thE ?_ | refine inN ?_ | refine inR ?_ | refine inH ?_ | refine fF ?_ | refine fS ?_ | refine fR ?_ | refine fQ ?_ | refine fC ?_ | refine fB ?_ | refine fL ?_ | refine fE ?_ | refine fT ?_ | refine awBlock ?_ | refine awExit ?_ | refine awRet ?_ | refine awSkip ?_ | refine inM (by decide) ?_)
      | ((with_reducible refine awReg fun K hok hK => ?_); clear hok; (try simp (maxSteps := 10000000) (disch := first | omega | simp) []); (repeat' first
          | (with_reducible refine hK _ (by simp) ?_)
          | ((with_reducible refine gdT (fun h => ?_) (fun h => ?_)) <;> (simp (maxSteps := 10000000) (disch := first | omega | simp) [h]; (try simp at h); (try (exfalso; omega))))
          | ((with_reducible refine gdF (fun h => ?_) (fun h => ?_)) <;> (simp (maxSteps := 10000000) (disch := first | omega | simp) [h]; (try simp at h); (try (exfalso; omega))))
          | ((with_reducible refine sideSt' fun K2 hK2 => ?_); (try simp (maxSteps := 10000000) (disch := first | omega | simp) []); refine hK2 _ ?_; clear hK2 K2; (try simp (maxSteps := 10000000) (disch := first | omega | simp) []))
          | ((with_reducible refine gdU ?_); (try simp (maxSteps := 10000000) (disch := first | omega | simp) []))
          | ((with_reducible refine sideQ' ?_ ?_ fun K2 hK2 => ?_); exact rfl; exact rfl; (try simp (maxSteps := 10000000) (disch := first | omega | simp) []); with_reducible refine hK2 _ _ ?_; clear hK2 K2; (try simp (maxSteps := 10000000) (disch := first | omega | simp) []))
          | ((with_reducible refine side' ?_ fun K2 hK2 => ?_); exact rfl; (try simp (maxSteps := 10000000) (disch := first | omega | simp) []); refine hK2 _ _ (by simp) ?_; clear hK2 K2; (try simp (maxSteps := 10000000) (disch := first | omega | simp) []))) <;> clear hK K)
      | ((with_reducible refine awCond fun A B hA hB => ?_); simp (maxSteps := 10000000) (disch := first | omega | simp) []; (first | refine ⟨fun h => hA ?_, fun h => hB ?_⟩ | refine hA ?_ | refine hB ?_) <;> (clear hA hB A B; (try (exfalso; omega))))
  rotate_left 1
  · have hi2 : i < l.length := by assumption
    have hm := List.getElem_mem hi2
    refine awFor i (fun k (_ : Unit) => ∀ x ∈ (l.take i).take k, (x == l[i]) = false) (fun k _ => [(4, .p (I k)), (3, .p (I i)), (0, .p (Li l))]) () (Wk.ofA ?_) (by simp) fun k _ hk hnk => ?_
    · simp
    repeat' first
        | (with_reducible first | refine thN ?_ | refine thR ?_ | refine thE ?_ | refine inN ?_ | refine inR ?_ | refine inH ?_ | refine fF ?_ | refine fS ?_ | refine fR ?_ | refine fQ ?_ | refine fC ?_ | refine fB ?_ | refine fL ?_ | refine fE ?_ | refine fT ?_ | refine awBlock ?_ | refine awExit ?_ | refine awRet ?_ | refine awSkip ?_ | refine inM (by decide) ?_)
        | ((with_reducible refine awReg fun K hok hK => ?_); clear hok; (try simp (maxSteps := 10000000) (disch := first | omega | simp) []); (repeat' first
            | (with_reducible refine hK _ (by simp) ?_)
            | ((with_reducible refine gdT (fun h => ?_) (fun h => ?_)) <;> (simp (maxSteps := 10000000) (disch := first | omega | simp) [h]; (try simp at h); (try (exfalso; omega))))
            | ((with_reducible refine gdF (fun h => ?_) (fun h => ?_)) <;> (simp (maxSteps := 10000000) (disch := first | omega | simp) [h]; (try simp at h); (try (exfalso; omega))))
            | ((with_reducible refine sideSt' fun K2 hK2 => ?_); (try simp (maxSteps := 10000000) (disch := first | omega | simp) []); refine hK2 _ ?_; clear hK2 K2; (try simp (maxSteps := 10000000) (disch := first | omega | simp) []))
            | ((with_reducible refine gdU ?_); (try simp (maxSteps := 10000000) (disch := first | omega | simp) []))
            | ((with_reducible refine sideQ' ?_ ?_ fun K2 hK2 => ?_); exact rfl; exact rfl; (try simp (maxSteps := 10000000) (disch := first | omega | simp) []); with_reducible refine hK2 _ _ ?_; clear hK2 K2; (try simp (maxSteps := 10000000) (disch := first | omega | simp) []))
            | ((with_reducible refine side' ?_ fun K2 hK2 => ?_); exact rfl; (try simp (maxSteps := 10000000) (disch := first | omega | simp) []); refine hK2 _ _ (by simp) ?_; clear hK2 K2; (try simp (maxSteps := 10000000) (disch := first | omega | simp) []))) <;> clear hK K)
        | ((with_reducible refine awCond fun A B hA hB => ?_); simp (maxSteps := 10000000) (disch := first | omega | simp) []; (first | refine ⟨fun h => hA ?_, fun h => hB ?_⟩ | refine hA ?_ | refine hB ?_) <;> (clear hA hB A B; (try (exfalso; omega))))
    · have e : brokersB l = false := by
        simp only [brokersB, decide_eq_false_iff_not]
        rintro ⟨_, _, hn⟩
        exact (List.pairwise_iff_getElem.1 hn) k i (by omega) hi2 (by assumption) (by assumption)
      (refine aEnR (aRes [] fun K hK => ?_); simp (maxSteps := 10000000) (disch := first | omega | simp) [e]; refine hK _ ?_ (by simp); clear hK; first | done | (simp (maxSteps := 10000000) (disch := first | omega | simp) [e, *]; done) | (simp (maxSteps := 10000000) (disch := first | omega | simp) [e, *]; omega) | (simp_all [e]; done) | (simp_all [e]; omega))
    · refine ⟨by assumption, (), all_take (by simp; omega) hnk (by simpa using h), Wk.ofA (by simp)⟩
    · have e : (l.take i).take k = l.take i := by rw [List.take_of_length_le]; simp; omega
      rw [e] at hnk
      refine ⟨by assumption, (), ⟨take_all hi2 hni.1 ⟨by assumption, by assumption⟩, ?_⟩, Wk.ofA (by simp)⟩
      rw [List.take_add_one, List.getElem?_eq_getElem hi2, List.nodup_append]
      refine ⟨hni.2, by simp, ?_⟩
      intro x hx y hy
      simp at hy; subst hy
      simpa using hnk x hx
  rotate_left 1
  · have e : brokersB l = true := by
      simp only [brokersB, decide_eq_true_eq]
      rw [List.take_of_length_le (by assumption)] at hni
      exact ⟨by omega, hni.1, hni.2⟩
    (refine aEnR (aRes [] fun K hK => ?_); simp (maxSteps := 10000000) (disch := first | omega | simp) [e]; refine hK _ ?_ (by simp); clear hK; first | done | (simp (maxSteps := 10000000) (disch := first | omega | simp) [e, *]; done) | (simp (maxSteps := 10000000) (disch := first | omega | simp) [e, *]; omega) | (simp_all [e]; done) | (simp_all [e]; omega))
  all_goals
    have hm := List.getElem_mem (show i < l.length by assumption)
    have e : brokersB l = false := by
      simp only [brokersB, decide_eq_false_iff_not]
      rintro ⟨_, h2, _⟩
      have := h2 _ hm
      omega
    (refine aEnR (aRes [] fun K hK => ?_); simp (maxSteps := 10000000) (disch := first | omega | simp) [e]; refine hK _ ?_ (by simp); clear hK; first | done | (simp (maxSteps := 10000000) (disch := first | omega | simp) [e, *]; done) | (simp (maxSteps := 10000000) (disch := first | omega | simp) [e, *]; omega) | (simp_all [e]; done) | (simp_all [e]; omega))
def encW (w : Wrong) : V := .agg [St w.op, I w.at', I w.code]
@[simp] theorem encW_eq (w : Wrong) : encW w = .agg [St w.op, I w.at', I w.code] := rfl
end
end Go.Am
