/- Part of the proof of a law of moving. -/
import Derived.Test.YtmnheledelnbfaaGreatQAA
set_option linter.all false
section
set_option maxRecDepth 100000
set_option maxHeartbeats 0
namespace Go.Am
open Go
noncomputable section
def c62 : SC := (.seq (.reg [⟨some 4, .assign (.const (.bool false)), none, []⟩] [0, 1]) (.seq (.reg [⟨some 5, .assign (.const (.string ⟨#[]⟩)), none, []⟩] [0, 1, 5]) (.seq (.reg [⟨some 7, .move (.tmp 0), none, []⟩] [0, 1, 5, 7]) (.seq (.block 0 (.seq (.reg [⟨some 9, .binOp .eql 3 (.tmp 7) (.const (.int .i64 2)) 3, none, []⟩,
  ⟨some 8, .assign (.tmp 9), none, []⟩] [0, 1, 5, 7, 8, 9]) (.seq (.cond (.tmp 8) (.seq (.reg [⟨some 5, .assign (.const (.string ⟨#[98, 101, 114]⟩)), none, []⟩] [1, 5]) .skip) (.seq (.reg [⟨some 11, .binOp .eql 3 (.tmp 7) (.const (.int .i64 3)) 3, none, []⟩,
  ⟨some 10, .assign (.tmp 11), none, []⟩] [0, 1, 5, 7, 10, 11, 12, 13, 14]) (.seq (.cond (.tmp 10) .skip (.seq (.reg [⟨some 12, .binOp .eql 3 (.tmp 7) (.const (.int .i64 4)) 3, none, []⟩,
  ⟨some 10, .assign (.tmp 12), none, []⟩] [0, 1, 5, 7, 10, 11, 12, 13, 14]) (.seq (.cond (.tmp 10) .skip (.seq (.reg [⟨some 13, .binOp .eql 3 (.tmp 7) (.const (.int .i64 5)) 3, none, []⟩,
  ⟨some 10, .assign (.tmp 13), none, []⟩] [0, 1, 5, 7, 10, 11, 12, 13, 14]) (.seq (.cond (.tmp 10) .skip (.seq (.reg [⟨some 14, .binOp .eql 3 (.tmp 7) (.const (.int .i64 6)) 3, none, []⟩,
  ⟨some 10, .assign (.tmp 14), none, []⟩] [0, 1, 5, 7, 10, 11, 12, 13, 14]) .skip)) .skip))) .skip))) (.seq (.cond (.tmp 10) (.seq (.reg [⟨some 5, .assign (.const (.string ⟨#[98, 101]⟩)), none, []⟩] [1, 5]) .skip) (.seq (.reg [⟨some 16, .binOp .eql 3 (.tmp 7) (.const (.int .i64 7)) 3, none, []⟩,
  ⟨some 15, .assign (.tmp 16), none, []⟩] [0, 1, 5, 7, 15, 16]) (.seq (.cond (.tmp 15) (.seq (.reg [⟨some 5, .assign (.const (.string ⟨#[116, 110]⟩)), none, []⟩] [1, 5]) .skip) (.seq (.reg [⟨some 18, .binOp .eql 3 (.tmp 7) (.const (.int .i64 8)) 3, none, []⟩,
  ⟨some 17, .assign (.tmp 18), none, []⟩] [0, 1, 5, 7, 17, 18]) (.seq (.cond (.tmp 17) (.seq (.reg [⟨some 5, .assign (.const (.string ⟨#[116, 112, 108, 105, 109]⟩)), none, []⟩] [1, 5]) .skip) (.seq (.reg [⟨some 20, .binOp .eql 3 (.tmp 7) (.const (.int .i64 9)) 3, none, []⟩,
  ⟨some 19, .assign (.tmp 20), none, []⟩] [0, 1, 5, 7, 19, 20]) (.seq (.cond (.tmp 19) (.seq (.reg [⟨some 5, .assign (.const (.string ⟨#[116, 101, 112, 108, 105, 109, 120]⟩)), none, []⟩] [1, 5]) .skip) (.seq (.reg [⟨some 22, .binOp .eql 3 (.tmp 7) (.const (.int .i64 10)) 3, none, []⟩,
  ⟨some 21, .assign (.tmp 22), none, []⟩] [0, 1, 5, 7, 21, 22]) (.seq (.cond (.tmp 21) (.seq (.reg [⟨some 5, .assign (.const (.string ⟨#[116, 107, 118, 102]⟩)), none, []⟩] [1, 5]) .skip) (.seq (.reg [⟨some 24, .binOp .eql 3 (.tmp 7) (.const (.int .i64 11)) 3, none, []⟩,
  ⟨some 23, .assign (.tmp 24), none, []⟩] [0, 1, 5, 7, 23, 24]) (.seq (.cond (.tmp 23) (.seq (.reg [⟨some 5, .assign (.const (.string ⟨#[116]⟩)), none, []⟩] [1, 5]) .skip) (.seq (.reg [⟨some 26, .binOp .eql 3 (.tmp 7) (.const (.int .i64 12)) 3, none, []⟩,
  ⟨some 25, .assign (.tmp 26), none, []⟩] [1, 5, 25, 26]) (.seq (.cond (.tmp 25) (.seq (.reg [⟨some 5, .assign (.const (.string ⟨#[97]⟩)), none, []⟩] [1, 5]) .skip) .skip) .skip))) .skip))) .skip))) .skip))) .skip))) .skip))) .skip)))) .skip))) (.seq (.reg [⟨some 6, .assign (.const (.int .i64 0)), none, []⟩] [1, 5, 6, 32]) (.seq (.block 1 (.seq (.loop (.seq (.reg [⟨some 27, .move (.tmp 6), none, []⟩,
  ⟨some 28, .move (.tmp 5), none, []⟩,
  ⟨some 29, .call { callee := .builtin .len, args := #[.tmp 28], argTypes := #[9] }, none, []⟩,
  ⟨some 30, .binOp .lss 3 (.tmp 27) (.tmp 29) 3, none, []⟩] [1, 5, 6, 30, 32]) (.seq (.cond (.tmp 30) .skip (.exit 1)) (.seq (.block 2 (.seq (.reg [⟨some 33, .move (.tmp 5), none, []⟩,
  ⟨some 34, .move (.tmp 6), none, []⟩,
  ⟨some 35, .index 9 (.tmp 33) (.tmp 34), none, []⟩,
  ⟨some 36, .move (.tmp 1), none, []⟩,
  ⟨some 37, .binOp .eql 5 (.tmp 35) (.tmp 36) 5, none, []⟩] [1, 5, 6, 32, 37]) (.seq (.cond (.tmp 37) (.seq (.reg [⟨some 4, .assign (.const (.bool true)), none, []⟩] [4]) .ret) .skip) .skip))) (.seq (.reg [⟨some 31, .move (.tmp 6), none, []⟩,
  ⟨some 32, .binOp .add 3 (.tmp 31) (.const (.int .i64 1)) 3, none, []⟩,
  ⟨some 6, .assign (.tmp 32), none, []⟩] [1, 5, 6, 32]) .skip))))) .skip)) (.seq (.reg [⟨some 4, .assign (.const (.bool false)), none, []⟩] [4]) .ret)))))))
theorem s62 : TextK Proofs.Tryz.prog 0 62 38 [ResultVar.tmp 4] c62 := .mk' Proofs.Tryz.f62 _ (by kernel_rfl) rfl rfl rfl (by kernel_rfl) rfl (by kernel_rfl)
def c77 : SC := (.seq (.reg [⟨some 8, .assign (.const (.bool false)), none, []⟩] [0, 1, 2, 3, 12, 13, 16, 17, 19]) (.seq (.reg [⟨some 9, .move (.tmp 1), none, []⟩] [0, 1, 2, 3, 9, 12, 13, 16, 17, 19]) (.seq (.cond (.tmp 9) (.seq (.reg [⟨some 10, .move (.tmp 0), none, []⟩,
  ⟨some 11, .move (.tmp 2), none, []⟩,
  ⟨some 12, .binOp .geq 3 (.tmp 10) (.tmp 11) 3, none, []⟩,
  ⟨some 13, .move (.tmp 12), none, []⟩,
  ⟨some 14, .move (.tmp 0), (some (13, true)), []⟩,
  ⟨some 15, .move (.tmp 3), (some (13, true)), []⟩,
  ⟨some 16, .binOp .leq 3 (.tmp 14) (.tmp 15) 3, (some (13, true)), []⟩,
  ⟨some 17, .pick (.tmp 13) (.tmp 16) (.const (.bool false)), none, []⟩,
  ⟨some 8, .assign (.tmp 17), none, []⟩] [8, 12, 13, 16, 17, 19]) .ret) .skip) (.seq (.reg [⟨some 18, .move (.tmp 0), none, []⟩,
  ⟨some 19, .binOp .eql 3 (.tmp 18) (.const (.int .i64 0)) 3, none, []⟩,
  ⟨some 8, .assign (.tmp 19), none, []⟩] [8, 12, 13, 16, 17, 19]) .ret))))
theorem s77 : TextK Proofs.Tryz.prog 0 77 20 [ResultVar.tmp 8] c77 := .mk' Proofs.Tryz.f77 _ (by kernel_rfl) rfl rfl rfl (by kernel_rfl) rfl (by kernel_rfl)
def c63 : SC := (.seq (.reg [⟨some 4, .assign (.const (.bool false)), none, []⟩] [0, 1, 7, 9]) (.seq (.reg [⟨some 5, .move (.tmp 1), none, []⟩] [0, 1, 5, 7, 9]) (.seq (.cond (.tmp 5) (.seq (.reg [⟨some 6, .move (.tmp 0), none, []⟩,
  ⟨some 7, .call { callee := .value (.func 78), args := #[.tmp 6], argTypes := #[9] }, none, []⟩,
  ⟨some 4, .assign (.tmp 7), none, []⟩] [4, 7, 9]) .ret) .skip) (.seq (.reg [⟨some 8, .move (.tmp 0), none, []⟩,
  ⟨some 9, .binOp .eql 9 (.tmp 8) (.const (.string ⟨#[]⟩)) 9, none, []⟩,
  ⟨some 4, .assign (.tmp 9), none, []⟩] [4, 7, 9]) .ret))))
theorem s63 : TextK Proofs.Tryz.prog 0 63 10 [ResultVar.tmp 4] c63 := .mk' Proofs.Tryz.f63 _ (by kernel_rfl) rfl rfl rfl (by kernel_rfl) rfl (by kernel_rfl)
def c64 : SC := (.seq (.reg [⟨some 4, .assign (.const (.bool false)), none, []⟩] [0, 1, 7, 10]) (.seq (.reg [⟨some 5, .move (.tmp 1), none, []⟩] [0, 1, 5, 7, 10]) (.seq (.cond (.tmp 5) (.seq (.reg [⟨some 6, .move (.tmp 0), none, []⟩,
  ⟨some 7, .call { callee := .value (.func 79), args := #[.tmp 6], argTypes := #[23] }, none, []⟩,
  ⟨some 4, .assign (.tmp 7), none, []⟩] [4, 7, 10]) .ret) .skip) (.seq (.reg [⟨some 8, .move (.tmp 0), none, []⟩,
  ⟨some 9, .call { callee := .builtin .len, args := #[.tmp 8], argTypes := #[23] }, none, []⟩,
  ⟨some 10, .binOp .eql 3 (.tmp 9) (.const (.int .i64 0)) 3, none, []⟩,
  ⟨some 4, .assign (.tmp 10), none, []⟩] [4, 7, 10]) .ret))))
theorem s64 : TextK Proofs.Tryz.prog 0 64 11 [ResultVar.tmp 4] c64 := .mk' Proofs.Tryz.f64 _ (by kernel_rfl) rfl rfl rfl (by kernel_rfl) rfl (by kernel_rfl)
def c78 : SC := (.seq (.reg [⟨some 2, .assign (.const (.bool false)), none, []⟩] [0]) (.seq (.reg [⟨some 6, .move (.tmp 0), none, []⟩,
  ⟨some 7, .call { callee := .builtin .len, args := #[.tmp 6], argTypes := #[9] }, none, []⟩,
  ⟨some 8, .binOp .lss 3 (.tmp 7) (.const (.int .i64 1)) 3, none, []⟩,
  ⟨some 9, .move (.tmp 8), none, []⟩,
  ⟨some 10, .move (.tmp 0), (some (9, false)), []⟩,
  ⟨some 11, .call { callee := .builtin .len, args := #[.tmp 10], argTypes := #[9] }, (some (9, false)), []⟩,
  ⟨some 12, .binOp .gtr 3 (.tmp 11) (.const (.int .i64 40)) 3, (some (9, false)), []⟩,
  ⟨some 13, .pick (.tmp 9) (.const (.bool true)) (.tmp 12), none, []⟩,
  ⟨some 14, .move (.tmp 13), none, []⟩,
  ⟨some 15, .move (.tmp 0), (some (14, false)), []⟩,
  ⟨some 16, .binOp .eql 9 (.tmp 15) (.const (.string ⟨#[46]⟩)) 9, (some (14, false)), []⟩,
  ⟨some 17, .pick (.tmp 14) (.const (.bool true)) (.tmp 16), none, []⟩,
  ⟨some 18, .move (.tmp 17), none, []⟩,
  ⟨some 19, .move (.tmp 0), (some (18, false)), []⟩,
  ⟨some 20, .binOp .eql 9 (.tmp 19) (.const (.string ⟨#[46, 46]⟩)) 9, (some (18, false)), []⟩,
  ⟨some 21, .pick (.tmp 18) (.const (.bool true)) (.tmp 20), none, []⟩] [0, 8, 9, 12, 13, 14, 16, 17, 18, 20, 21]) (.seq (.cond (.tmp 21) (.seq (.reg [⟨some 2, .assign (.const (.bool false)), none, []⟩] [2]) .ret) .skip) (.seq (.reg [⟨some 3, .assign (.const (.int .i64 0)), none, []⟩] [0, 3, 27]) (.seq (.block 0 (.seq (.loop (.seq (.reg [⟨some 22, .move (.tmp 3), none, []⟩,
  ⟨some 23, .move (.tmp 0), none, []⟩,
  ⟨some 24, .call { callee := .builtin .len, args := #[.tmp 23], argTypes := #[9] }, none, []⟩,
  ⟨some 25, .binOp .lss 3 (.tmp 22) (.tmp 24) 3, none, []⟩] [0, 3, 25, 27]) (.seq (.cond (.tmp 25) .skip (.exit 0)) (.seq (.block 1 (.seq (.reg [⟨some 28, .move (.tmp 0), none, []⟩,
  ⟨some 29, .move (.tmp 3), none, []⟩,
  ⟨some 30, .index 9 (.tmp 28) (.tmp 29), none, []⟩,
  ⟨some 4, .assign (.tmp 30), none, []⟩] [0, 3, 4, 27, 30]) (.seq (.reg [⟨some 31, .move (.tmp 4), none, []⟩,
  ⟨some 32, .binOp .geq 5 (.tmp 31) (.const (.int .u8 97)) 5, none, []⟩,
  ⟨some 33, .move (.tmp 32), none, []⟩,
  ⟨some 34, .move (.tmp 4), (some (33, true)), []⟩,
  ⟨some 35, .binOp .leq 5 (.tmp 34) (.const (.int .u8 122)) 5, (some (33, true)), []⟩,
  ⟨some 36, .pick (.tmp 33) (.tmp 35) (.const (.bool false)), none, []⟩,
  ⟨some 37, .move (.tmp 36), none, []⟩,
  ⟨some 38, .move (.tmp 4), (some (37, false)), []⟩,
  ⟨some 39, .binOp .geq 5 (.tmp 38) (.const (.int .u8 48)) 5, (some (37, false)), []⟩,
  ⟨some 40, .move (.tmp 39), (some (37, false)), []⟩,
  ⟨some 41, .move (.tmp 4), (some (40, true)), []⟩,
  ⟨some 42, .binOp .leq 5 (.tmp 41) (.const (.int .u8 57)) 5, (some (40, true)), []⟩,
  ⟨some 43, .pick (.tmp 40) (.tmp 42) (.const (.bool false)), (some (37, false)), []⟩,
  ⟨some 44, .pick (.tmp 37) (.const (.bool true)) (.tmp 43), none, []⟩,
  ⟨some 45, .move (.tmp 44), none, []⟩,
  ⟨some 46, .move (.tmp 4), (some (45, false)), []⟩,
  ⟨some 47, .binOp .eql 5 (.tmp 46) (.const (.int .u8 46)) 5, (some (45, false)), []⟩,
  ⟨some 48, .pick (.tmp 45) (.const (.bool true)) (.tmp 47), none, []⟩,
  ⟨some 49, .move (.tmp 48), none, []⟩,
  ⟨some 50, .move (.tmp 4), (some (49, false)), []⟩,
  ⟨some 51, .binOp .eql 5 (.tmp 50) (.const (.int .u8 45)) 5, (some (49, false)), []⟩,
  ⟨some 52, .pick (.tmp 49) (.const (.bool true)) (.tmp 51), none, []⟩,
  ⟨some 5, .assign (.tmp 52), none, []⟩] [0, 3, 5, 27, 32, 33, 35, 36, 37, 39, 40, 42, 43, 44, 45, 47, 48, 49, 51, 52]) (.seq (.reg [⟨some 53, .move (.tmp 5), none, []⟩,
  ⟨some 54, .unOp .not 4 (.tmp 53), none, []⟩] [0, 3, 27, 54]) (.seq (.cond (.tmp 54) (.seq (.reg [⟨some 2, .assign (.const (.bool false)), none, []⟩] [2]) .ret) .skip) .skip))))) (.seq (.reg [⟨some 26, .move (.tmp 3), none, []⟩,
  ⟨some 27, .binOp .add 3 (.tmp 26) (.const (.int .i64 1)) 3, none, []⟩,
  ⟨some 3, .assign (.tmp 27), none, []⟩] [0, 3, 27]) .skip))))) .skip)) (.seq (.reg [⟨some 2, .assign (.const (.bool true)), none, []⟩] [2]) .ret))))))
theorem s78 : TextK Proofs.Tryz.prog 0 78 55 [ResultVar.tmp 2] c78 := .mk' Proofs.Tryz.f78 _ (by kernel_rfl) rfl rfl rfl (by kernel_rfl) rfl (by kernel_rfl)
def c79 : SC := (.seq (.reg [⟨some 2, .assign (.const (.bool false)), none, []⟩] [0]) (.seq (.reg [⟨some 5, .move (.tmp 0), none, []⟩,
  ⟨some 6, .call { callee := .builtin .len, args := #[.tmp 5], argTypes := #[23] }, none, []⟩,
  ⟨some 7, .binOp .gtr 3 (.tmp 6) (.const (.int .i64 7)) 3, none, []⟩] [0, 7]) (.seq (.cond (.tmp 7) (.seq (.reg [⟨some 2, .assign (.const (.bool false)), none, []⟩] [2]) .ret) .skip) (.seq (.reg [⟨some 3, .assign (.const (.int .i64 0)), none, []⟩] [0, 3, 13]) (.seq (.block 0 (.seq (.loop (.seq (.reg [⟨some 8, .move (.tmp 3), none, []⟩,
  ⟨some 9, .move (.tmp 0), none, []⟩,
  ⟨some 10, .call { callee := .builtin .len, args := #[.tmp 9], argTypes := #[23] }, none, []⟩,
  ⟨some 11, .binOp .lss 3 (.tmp 8) (.tmp 10) 3, none, []⟩] [0, 3, 11, 13]) (.seq (.cond (.tmp 11) .skip (.exit 0)) (.seq (.block 1 (.seq (.reg [⟨some 14, .move (.tmp 0), none, []⟩,
  ⟨some 15, .move (.tmp 3), none, []⟩,
  ⟨some 16, .indexAddr 23 (.tmp 14) (.tmp 15), none, []⟩,
  ⟨some 17, .load 3 (.tmp 16), none, []⟩,
  ⟨some 18, .binOp .lss 3 (.tmp 17) (.const (.int .i64 1)) 3, none, []⟩,
  ⟨some 19, .move (.tmp 18), none, []⟩,
  ⟨some 20, .move (.tmp 0), (some (19, false)), []⟩,
  ⟨some 21, .move (.tmp 3), (some (19, false)), []⟩,
  ⟨some 22, .indexAddr 23 (.tmp 20) (.tmp 21), (some (19, false)), []⟩,
  ⟨some 23, .load 3 (.tmp 22), (some (19, false)), []⟩,
  ⟨some 24, .binOp .gtr 3 (.tmp 23) (.const (.int .i64 64)) 3, (some (19, false)), []⟩,
  ⟨some 25, .pick (.tmp 19) (.const (.bool true)) (.tmp 24), none, []⟩] [0, 3, 13, 18, 19, 24, 25]) (.seq (.cond (.tmp 25) (.seq (.reg [⟨some 2, .assign (.const (.bool false)), none, []⟩] [2]) .ret) .skip) (.seq (.reg [⟨some 4, .assign (.const (.int .i64 0)), none, []⟩] [0, 3, 4, 13, 30]) (.seq (.block 2 (.seq (.loop (.seq (.reg [⟨some 26, .move (.tmp 4), none, []⟩,
  ⟨some 27, .move (.tmp 3), none, []⟩,
  ⟨some 28, .binOp .lss 3 (.tmp 26) (.tmp 27) 3, none, []⟩] [0, 3, 4, 13, 28, 30]) (.seq (.cond (.tmp 28) .skip (.exit 2)) (.seq (.block 3 (.seq (.reg [⟨some 31, .move (.tmp 0), none, [32, 35, 36, 37, 38]⟩,
  ⟨some 32, .move (.tmp 4), none, [31, 35, 36, 37, 38]⟩,
  ⟨some 33, .indexAddr 23 (.tmp 31) (.tmp 32), none, [35, 36, 37, 38]⟩,
  ⟨some 34, .load 3 (.tmp 33), none, [35, 36, 37, 38]⟩,
  ⟨some 35, .move (.tmp 0), none, [31, 32, 33, 34, 36]⟩,
  ⟨some 36, .move (.tmp 3), none, [31, 32, 33, 34, 35]⟩,
  ⟨some 37, .indexAddr 23 (.tmp 35) (.tmp 36), none, [31, 32, 33, 34]⟩,
  ⟨some 38, .load 3 (.tmp 37), none, [31, 32, 33, 34]⟩,
  ⟨some 39, .binOp .eql 3 (.tmp 34) (.tmp 38) 3, none, []⟩] [0, 3, 4, 13, 30, 39]) (.seq (.cond (.tmp 39) (.seq (.reg [⟨some 2, .assign (.const (.bool false)), none, []⟩] [2]) .ret) .skip) .skip))) (.seq (.reg [⟨some 29, .move (.tmp 4), none, []⟩,
  ⟨some 30, .binOp .add 3 (.tmp 29) (.const (.int .i64 1)) 3, none, []⟩,
  ⟨some 4, .assign (.tmp 30), none, []⟩] [0, 3, 4, 13, 30]) .skip))))) .skip)) .skip))))) (.seq (.reg [⟨some 12, .move (.tmp 3), none, []⟩,
  ⟨some 13, .binOp .add 3 (.tmp 12) (.const (.int .i64 1)) 3, none, []⟩,
  ⟨some 3, .assign (.tmp 13), none, []⟩] [0, 3, 13]) .skip))))) .skip)) (.seq (.reg [⟨some 2, .assign (.const (.bool true)), none, []⟩] [2]) .ret))))))
theorem s79 : TextK Proofs.Tryz.prog 0 79 40 [ResultVar.tmp 2] c79 := .mk' Proofs.Tryz.f79 _ (by kernel_rfl) rfl rfl rfl (by kernel_rfl) rfl (by kernel_rfl)
abbrev U8 (n : Int) : V := .c (.int .u8 n)
@[simp] theorem ba_size (l : List UInt8) : (⟨⟨l⟩⟩ : ByteArray).size = l.length := rfl
theorem ref05_has_ok (k c : Int) : ACall pg 62 [I k, U8 c] (B (hasB k c)) := by
  refine s62.call mo (by simp) fun hxs => ?_
  clear hxs
  have hl := abouts_len k
  unfold c62
  repeat' first | (with_reducible first | refine thN ?_ | refine thR ?_ | refine thE ?_ | refine inN ?_ | refine inR ?_ | refine inH ?_ | refine fF ?_ | refine fS ?_ | refine fR ?_ | refine fQ ?_ | refine fC ?_ | refine fE ?_ | refine fT ?_ | refine awExit ?_ | refine awRet ?_ | refine awSkip ?_) | ((with_reducible refine awReg fun K hok hK => ?_); clear hok; (try simp (maxSteps := 10000000) (disch := first | omega | simp) []); (repeat' first | (with_reducible refine hK _ (by simp) ?_)) <;> clear hK K) | ((with_reducible refine awCond fun A B hA hB => ?_); simp (maxSteps := 10000000) (disch := first | omega | simp) []; (first | refine ⟨fun h => hA ?_, fun h => hB ?_⟩ | refine hA ?_ | refine hB ?_) <;> (clear hA hB A B; (try (exfalso; omega))))
  refine awBlockW (fun m => m = [(1, .p (U8 c)), (5, .p (St ⟨⟨abouts k⟩⟩))]) ?_ ?_
  · repeat' first | (with_reducible first | refine thN ?_ | refine thR ?_ | refine thE ?_ | refine inN ?_ | refine inR ?_ | refine inH ?_ | refine fF ?_ | refine fS ?_ | refine fR ?_ | refine fQ ?_ | refine fC ?_ | refine fE ?_ | refine fT ?_ | refine awBlock ?_ | refine awExit ?_ | refine awRet ?_ | refine awSkip ?_) | ((with_reducible refine awReg fun K hok hK => ?_); clear hok; (try simp (maxSteps := 10000000) (disch := first | omega | simp) []); (repeat' first | (with_reducible refine hK _ (by simp) ?_)) <;> clear hK K) | ((with_reducible refine awCond fun A B hA hB => ?_); simp (maxSteps := 10000000) (disch := first | omega | simp) [*]; (first | refine ⟨fun h => hA ?_, fun h => hB ?_⟩ | refine hA ?_ | refine hB ?_) <;> (clear hA hB A B; (try (exfalso; omega))))
    all_goals (refine ⟨_, Wk.ofA ?_, rfl⟩; simp [abouts, *])
  · rintro _ rfl
    repeat' first | (with_reducible first | refine thN ?_ | refine thR ?_ | refine thE ?_ | refine inN ?_ | refine inR ?_ | refine inH ?_ | refine fF ?_ | refine fS ?_ | refine fR ?_ | refine fQ ?_ | refine fC ?_ | refine fE ?_ | refine fT ?_ | refine awBlock ?_ | refine awExit ?_ | refine awRet ?_ | refine awSkip ?_) | ((with_reducible refine awReg fun K hok hK => ?_); clear hok; (try simp (maxSteps := 10000000) (disch := first | omega | simp) []); (repeat' first | (with_reducible refine hK _ (by simp) ?_)) <;> clear hK K) | ((with_reducible refine awCond fun A B hA hB => ?_); simp (maxSteps := 10000000) (disch := first | omega | simp) []; (first | refine ⟨fun h => hA ?_, fun h => hB ?_⟩ | refine hA ?_ | refine hB ?_) <;> (clear hA hB A B; (try (exfalso; omega))))
    refine awFor (abouts k).length (fun i (_ : Unit) => ∀ b ∈ (abouts k).take i, ((b.toNat : Int) == c) = false) (fun i _ => [(6, .p (I i)), (1, .p (U8 c)), (5, .p (St ⟨⟨abouts k⟩⟩))]) () (Wk.ofA ?_) (by simp) fun i _ hi hni => ?_
    · simp
    repeat' first | (with_reducible first | refine thN ?_ | refine thR ?_ | refine thE ?_ | refine inN ?_ | refine inR ?_ | refine inH ?_ | refine fF ?_ | refine fS ?_ | refine fR ?_ | refine fQ ?_ | refine fC ?_ | refine fE ?_ | refine fT ?_ | refine awBlock ?_ | refine awExit ?_ | refine awRet ?_ | refine awSkip ?_) | ((with_reducible refine awReg fun K hok hK => ?_); clear hok; (try simp (maxSteps := 10000000) (disch := first | omega | simp) []); (repeat' first | (with_reducible refine hK _ (by simp) ?_)) <;> clear hK K) | ((with_reducible refine awCond fun A B hA hB => ?_); simp (maxSteps := 10000000) (disch := first | omega | simp) []; (first | refine ⟨fun h => hA ?_, fun h => hB ?_⟩ | refine hA ?_ | refine hB ?_) <;> (clear hA hB A B; (try (exfalso; omega))))
    · have e : hasB k c = true := any_at (by assumption) (by simpa using h)
      (refine aEnR (aRes [] fun K hK => ?_); simp (maxSteps := 10000000) (disch := first | omega | simp) [e]; refine hK _ ?_ (by simp); clear hK; first | done | (simp (maxSteps := 10000000) (disch := first | omega | simp) [e, *]; done) | (simp (maxSteps := 10000000) (disch := first | omega | simp) [e, *]; omega) | (simp_all [e]; done) | (simp_all [e]; omega))
    · exact ⟨by omega, (), all_take (by assumption) hni (by simpa using h), Wk.ofA (by simp)⟩
    · have e : hasB k c = false := any_no h hni
      (refine aEnR (aRes [] fun K hK => ?_); simp (maxSteps := 10000000) (disch := first | omega | simp) [e]; refine hK _ ?_ (by simp); clear hK; first | done | (simp (maxSteps := 10000000) (disch := first | omega | simp) [e, *]; done) | (simp (maxSteps := 10000000) (disch := first | omega | simp) [e, *]; omega) | (simp_all [e]; done) | (simp_all [e]; omega))
theorem ref05_num_ok (n : Int) (a : Bool) (lo hi : Int) : ACall pg 77 [I n, B a, I lo, I hi] (B (numB n a lo hi)) := by
  refine s77.call mo (by simp) fun hxs => ?_
  clear hxs
  unfold c77
  repeat' first | (with_reducible first | refine fS ?_ | refine fR ?_ | refine fQ ?_ | refine fT ?_ | refine awRet ?_) | ((with_reducible refine awReg fun K hok hK => ?_); clear hok; (try simp (maxSteps := 10000000) (disch := first | omega | simp) []); (repeat' first | (with_reducible refine hK _ (by simp) ?_) | ((with_reducible refine gdT (fun h => ?_) (fun h => ?_)) <;> (simp (maxSteps := 10000000) (disch := first | omega | simp) [h]; (try simp at h); (try (exfalso; omega))))) <;> clear hK K) | ((with_reducible refine awCond fun A B hA hB => ?_); simp (maxSteps := 10000000) (disch := first | omega | simp) []; (first | refine ⟨fun h => hA ?_, fun h => hB ?_⟩ | refine hA ?_ | refine hB ?_) <;> (clear hA hB A B; (try (exfalso; omega))))
  all_goals (refine aEnR (aRes [] fun K hK => ?_); simp (maxSteps := 10000000) (disch := first | omega | simp) [numB]; refine hK _ ?_ (by simp); clear hK; first | done | (simp (maxSteps := 10000000) (disch := first | omega | simp) [numB, *]; done) | (simp (maxSteps := 10000000) (disch := first | omega | simp) [numB, *]; omega) | (simp_all [numB]; done) | (simp_all [numB]; omega))
theorem ref05_Name_ok (s : ByteArray) : ACall pg 78 [St s] (B (nameB s)) := by
  refine s78.call mo (by simp) fun hxs => ?_
  clear hxs
  obtain ⟨⟨l⟩⟩ := s
  unfold c78
  repeat' first | (with_reducible first | refine thN ?_ | refine thR ?_ | refine thE ?_ | refine inN ?_ | refine inR ?_ | refine inH ?_ | refine fS ?_ | refine fR ?_ | refine fQ ?_ | refine fE ?_ | refine fT ?_ | refine awBlock ?_ | refine awExit ?_ | refine awRet ?_ | refine awSkip ?_) | ((with_reducible refine awReg fun K hok hK => ?_); clear hok; (try simp (maxSteps := 10000000) (disch := first | omega | simp) []); (repeat' first | (with_reducible refine hK _ (by simp) ?_) | ((with_reducible refine gdT (fun h => ?_) (fun h => ?_)) <;> (simp (maxSteps := 10000000) (disch := first | omega | simp) [h]; (try simp at h); (try (exfalso; omega)))) | ((with_reducible refine gdF (fun h => ?_) (fun h => ?_)) <;> (simp (maxSteps := 10000000) (disch := first | omega | simp) [h]; (try simp at h); (try (exfalso; omega))))) <;> clear hK K) | ((with_reducible refine awCond fun A B hA hB => ?_); simp (maxSteps := 10000000) (disch := first | omega | simp) []; (first | refine ⟨fun h => hA ?_, fun h => hB ?_⟩ | refine hA ?_ | refine hB ?_) <;> (clear hA hB A B; (try (exfalso; omega))))
  rotate_left
  · refine awFor l.length (fun i (_ : Unit) => ∀ b ∈ l.take i, okCh b = true) (fun i _ => [(3, .p (I i)), (0, .p (St ⟨⟨l⟩⟩))]) () (Wk.ofA ?_) (by simp) fun i _ hi hni => ?_
    · simp
    repeat' first | (with_reducible first | refine thN ?_ | refine thR ?_ | refine thE ?_ | refine inN ?_ | refine inR ?_ | refine inH ?_ | refine fS ?_ | refine fR ?_ | refine fQ ?_ | refine fE ?_ | refine fT ?_ | refine awBlock ?_ | refine awExit ?_ | refine awRet ?_ | refine awSkip ?_) | ((with_reducible refine awReg fun K hok hK => ?_); clear hok; (try simp (maxSteps := 10000000) (disch := first | omega | simp) []); (repeat' first | (with_reducible refine hK _ (by simp) ?_) | ((with_reducible refine gdT (fun h => ?_) (fun h => ?_)) <;> (simp (maxSteps := 10000000) (disch := first | omega | simp) [h]; (try simp at h); (try (exfalso; omega)))) | ((with_reducible refine gdF (fun h => ?_) (fun h => ?_)) <;> (simp (maxSteps := 10000000) (disch := first | omega | simp) [h]; (try simp at h); (try (exfalso; omega))))) <;> clear hK K) | ((with_reducible refine awCond fun A B hA hB => ?_); simp (maxSteps := 10000000) (disch := first | omega | simp) []; (first | refine ⟨fun h => hA ?_, fun h => hB ?_⟩ | refine hA ?_ | refine hB ?_) <;> (clear hA hB A B; (try (exfalso; omega))))
    all_goals first
      | (refine ⟨by omega, (), take_all (by assumption) hni ?_, Wk.ofA (by simp)⟩; simp [okCh, *]; done)
      | (refine ⟨by omega, (), take_all (by assumption) hni ?_, Wk.ofA (by simp)⟩; simp [okCh]; omega)
      | (have e : l.all okCh = true := all_no (by assumption) hni
         (refine aEnR (aRes [] fun K hK => ?_); simp (maxSteps := 10000000) (disch := first | omega | simp) [nameB, e]; refine hK _ ?_ (by simp); clear hK; first | done | (simp (maxSteps := 10000000) (disch := first | omega | simp) [nameB, e, *]; done) | (simp (maxSteps := 10000000) (disch := first | omega | simp) [nameB, e, *]; omega) | (simp_all [nameB, e]; done) | (simp_all [nameB, e]; omega)))
      | (have e : l.all okCh = false := all_at (by assumption) (by simp [okCh]; omega)
         (refine aEnR (aRes [] fun K hK => ?_); simp (maxSteps := 10000000) (disch := first | omega | simp) [nameB, e]; refine hK _ ?_ (by simp); clear hK; first | done | (simp (maxSteps := 10000000) (disch := first | omega | simp) [nameB, e, *]; done) | (simp (maxSteps := 10000000) (disch := first | omega | simp) [nameB, e, *]; omega) | (simp_all [nameB, e]; done) | (simp_all [nameB, e]; omega)))
  all_goals (refine aEnR (aRes [] fun K hK => ?_); simp (maxSteps := 10000000) (disch := first | omega | simp) [nameB]; refine hK _ ?_ (by simp); clear hK; first | done | (simp (maxSteps := 10000000) (disch := first | omega | simp) [nameB, *]; done) | (simp (maxSteps := 10000000) (disch := first | omega | simp) [nameB, *]; omega) | (simp_all [nameB]; done) | (simp_all [nameB]; omega))
theorem ref05_Brokers_ok (l : List Int) : ACall pg 79 [Li l] (B (brokersB l)) := by
  refine s79.call mo (by simp) fun hxs => ?_
  have hlen := okLenI hxs.1
  clear hxs
  unfold c79
  repeat' first | (with_reducible first | refine thN ?_ | refine thR ?_ | refine thE ?_ | refine inN ?_ | refine inR ?_ | refine inH ?_ | refine fS ?_ | refine fR ?_ | refine fQ ?_ | refine fE ?_ | refine fT ?_ | refine awBlock ?_ | refine awExit ?_ | refine awRet ?_ | refine awSkip ?_) | ((with_reducible refine awReg fun K hok hK => ?_); clear hok; (try simp (maxSteps := 10000000) (disch := first | omega | simp) []); (repeat' first | (with_reducible refine hK _ (by simp) ?_) | ((with_reducible refine gdF (fun h => ?_) (fun h => ?_)) <;> (simp (maxSteps := 10000000) (disch := first | omega | simp) [h]; (try simp at h); (try (exfalso; omega)))) | ((with_reducible refine sideQ' ?_ ?_ fun K2 hK2 => ?_); exact rfl; exact rfl; (try simp (maxSteps := 10000000) (disch := first | omega | simp) []); with_reducible refine hK2 _ _ ?_; clear hK2 K2; (try simp (maxSteps := 10000000) (disch := first | omega | simp) []))) <;> clear hK K) | ((with_reducible refine awCond fun A B hA hB => ?_); simp (maxSteps := 10000000) (disch := first | omega | simp) []; (first | refine ⟨fun h => hA ?_, fun h => hB ?_⟩ | refine hA ?_ | refine hB ?_) <;> (clear hA hB A B; (try (exfalso; omega))))
  · (refine aEnR (aRes [] fun K hK => ?_); simp (maxSteps := 10000000) (disch := first | omega | simp) [brokersB]; refine hK _ ?_ (by simp); clear hK; first | done | (simp (maxSteps := 10000000) (disch := first | omega | simp) [brokersB, *]; done) | (simp (maxSteps := 10000000) (disch := first | omega | simp) [brokersB, *]; omega) | (simp_all [brokersB]; done) | (simp_all [brokersB]; omega))
  refine awFor l.length (fun i (_ : Unit) => (∀ n ∈ l.take i, 1 ≤ n ∧ n ≤ 64) ∧ (l.take i).Nodup) (fun i _ => [(3, .p (I i)), (0, .p (Li l))]) () (Wk.ofA ?_) (by simp) fun i _ hi hni => ?_
  · simp
  repeat' first | (with_reducible first | refine thN ?_ | refine thR ?_ | refine thE ?_ | refine inN ?_ | refine inR ?_ | refine inH ?_ | refine fS ?_ | refine fR ?_ | refine fQ ?_ | refine fE ?_ | refine fT ?_ | refine awBlock ?_ | refine awExit ?_ | refine awRet ?_ | refine awSkip ?_) | ((with_reducible refine awReg fun K hok hK => ?_); clear hok; (try simp (maxSteps := 10000000) (disch := first | omega | simp) []); (repeat' first | (with_reducible refine hK _ (by simp) ?_) | ((with_reducible refine gdF (fun h => ?_) (fun h => ?_)) <;> (simp (maxSteps := 10000000) (disch := first | omega | simp) [h]; (try simp at h); (try (exfalso; omega)))) | ((with_reducible refine sideQ' ?_ ?_ fun K2 hK2 => ?_); exact rfl; exact rfl; (try simp (maxSteps := 10000000) (disch := first | omega | simp) []); with_reducible refine hK2 _ _ ?_; clear hK2 K2; (try simp (maxSteps := 10000000) (disch := first | omega | simp) []))) <;> clear hK K) | ((with_reducible refine awCond fun A B hA hB => ?_); simp (maxSteps := 10000000) (disch := first | omega | simp) []; (first | refine ⟨fun h => hA ?_, fun h => hB ?_⟩ | refine hA ?_ | refine hB ?_) <;> (clear hA hB A B; (try (exfalso; omega))))
  rotate_left 1
  · have hi2 : i < l.length := by assumption
    have hm := List.getElem_mem hi2
    refine awFor i (fun k (_ : Unit) => ∀ x ∈ (l.take i).take k, (x == l[i]) = false) (fun k _ => [(4, .p (I k)), (3, .p (I i)), (0, .p (Li l))]) () (Wk.ofA ?_) (by simp) fun k _ hk hnk => ?_
    · simp
    repeat' first | (with_reducible first | refine thN ?_ | refine thR ?_ | refine thE ?_ | refine inN ?_ | refine inR ?_ | refine inH ?_ | refine fS ?_ | refine fR ?_ | refine fQ ?_ | refine fE ?_ | refine fT ?_ | refine awBlock ?_ | refine awExit ?_ | refine awRet ?_ | refine awSkip ?_) | ((with_reducible refine awReg fun K hok hK => ?_); clear hok; (try simp (maxSteps := 10000000) (disch := first | omega | simp) []); (repeat' first | (with_reducible refine hK _ (by simp) ?_) | ((with_reducible refine gdF (fun h => ?_) (fun h => ?_)) <;> (simp (maxSteps := 10000000) (disch := first | omega | simp) [h]; (try simp at h); (try (exfalso; omega)))) | ((with_reducible refine sideQ' ?_ ?_ fun K2 hK2 => ?_); exact rfl; exact rfl; (try simp (maxSteps := 10000000) (disch := first | omega | simp) []); with_reducible refine hK2 _ _ ?_; clear hK2 K2; (try simp (maxSteps := 10000000) (disch := first | omega | simp) []))) <;> clear hK K) | ((with_reducible refine awCond fun A B hA hB => ?_); simp (maxSteps := 10000000) (disch := first | omega | simp) []; (first | refine ⟨fun h => hA ?_, fun h => hB ?_⟩ | refine hA ?_ | refine hB ?_) <;> (clear hA hB A B; (try (exfalso; omega))))
    · have e : brokersB l = false := by
        simp only [brokersB, decide_eq_false_iff_not]
        rintro ⟨_, _, hn⟩
        exact (List.pairwise_iff_getElem.1 hn) k i (by omega) hi2 (by assumption) (by assumption)
      (refine aEnR (aRes [] fun K hK => ?_); simp (maxSteps := 10000000) (disch := first | omega | simp) [e]; refine hK _ ?_ (by simp); clear hK; first | done | (simp (maxSteps := 10000000) (disch := first | omega | simp) [e, *]; done) | (simp (maxSteps := 10000000) (disch := first | omega | simp) [e, *]; omega) | (simp_all [e]; done) | (simp_all [e]; omega))
    · refine ⟨by assumption, (), all_take (by simp; omega) hnk (by simpa using h), Wk.ofA (by simp)⟩
    · have e : (l.take i).take k = l.take i := by rw [List.take_of_length_le]; simp; omega
      rw [e] at hnk
      refine ⟨by assumption, (), ⟨take_all hi2 hni.1 ⟨by assumption, by assumption⟩, ?_⟩, Wk.ofA (by simp)⟩
      rw [List.take_add_one, List.getElem?_eq_getElem hi2, List.nodup_append]
      refine ⟨hni.2, by simp, ?_⟩
      intro x hx y hy
      simp at hy; subst hy
      simpa using hnk x hx
  rotate_left 1
  · have e : brokersB l = true := by
      simp only [brokersB, decide_eq_true_eq]
      rw [List.take_of_length_le (by assumption)] at hni
      exact ⟨by omega, hni.1, hni.2⟩
    (refine aEnR (aRes [] fun K hK => ?_); simp (maxSteps := 10000000) (disch := first | omega | simp) [e]; refine hK _ ?_ (by simp); clear hK; first | done | (simp (maxSteps := 10000000) (disch := first | omega | simp) [e, *]; done) | (simp (maxSteps := 10000000) (disch := first | omega | simp) [e, *]; omega) | (simp_all [e]; done) | (simp_all [e]; omega))
  all_goals
    have hm := List.getElem_mem (show i < l.length by assumption)
    have e : brokersB l = false := by
      simp only [brokersB, decide_eq_false_iff_not]
      rintro ⟨_, h2, _⟩
      have := h2 _ hm
      omega
    (refine aEnR (aRes [] fun K hK => ?_); simp (maxSteps := 10000000) (disch := first | omega | simp) [e]; refine hK _ ?_ (by simp); clear hK; first | done | (simp (maxSteps := 10000000) (disch := first | omega | simp) [e, *]; done) | (simp (maxSteps := 10000000) (disch := first | omega | simp) [e, *]; omega) | (simp_all [e]; done) | (simp_all [e]; omega))
def encW (w : Wrong) : V := .agg [St w.op, I w.at', I w.code]
@[simp] theorem encW_eq (w : Wrong) : encW w = .agg [St w.op, I w.at', I w.code] := rfl
end
end Go.Am
end
section
set_option maxRecDepth 100000
set_option maxHeartbeats 0
namespace Go.Am
open Go
noncomputable section
def c61 : SC := (.seq (.reg [⟨some 1, .box 73 (.tmp 0), none, []⟩,
  ⟨some 2, .alloc 93, none, []⟩] [1, 2]) (.seq (.reg [⟨some 6, .fieldAddr 73 (.tmp 1) 0, none, []⟩,
  ⟨some 7, .load 3 (.tmp 6), none, []⟩,
  ⟨some 3, .assign (.tmp 7), none, []⟩] [1, 2, 3, 6, 7]) (.seq (.reg [⟨some 4, .assign (.const (.int .i64 1073741824)), none, []⟩] [1, 2, 3, 4, 6, 7]) (.seq (.reg [⟨some 5, .assign (.const (.int .i64 1)), none, []⟩] [1, 2, 3, 4, 5, 6, 7]) (.seq (.reg [⟨some 8, .move (.tmp 3), none, []⟩,
  ⟨some 9, .binOp .eql 3 (.tmp 8) (.const (.int .i64 10)) 3, none, []⟩] [1, 2, 3, 4, 5, 6, 7, 9]) (.seq (.cond (.tmp 9) (.seq (.reg [⟨some 5, .assign (.const (.int .i64 0)), none, []⟩] [1, 2, 3, 4, 5, 6, 7]) .skip) .skip) (.seq (.reg [⟨some 10, .fieldAddr 73 (.tmp 1) 1, none, [12, 13]⟩,
  ⟨some 11, .load 3 (.tmp 10), none, [12, 13]⟩,
  ⟨some 12, .move (.tmp 3), none, [10, 11]⟩,
  ⟨some 13, .call { callee := .value (.func 62), args := #[.tmp 12, .const (.int .u8 98)], argTypes := #[3, 5] }, none, [10, 11]⟩,
  ⟨some 14, .call { callee := .value (.func 77), args := #[.tmp 11, .tmp 13, .const (.int .i64 1), .const (.int .i64 64)], argTypes := #[3, 4, 3, 3] }, none, []⟩,
  ⟨some 15, .unOp .not 4 (.tmp 14), none, []⟩] [1, 2, 3, 4, 5, 6, 7, 15]) (.seq (.cond (.tmp 15) (.seq (.reg [⟨some 16, .fieldAddr 73 (.tmp 1) 1, none, []⟩,
  ⟨some 17, .load 3 (.tmp 16), none, []⟩,
  ⟨some 18, .build 93 #[(0, .const (.string ⟨#[98, 114, 111, 107, 101, 114]⟩)), (1, .tmp 17), (2, .const (.int .i64 2))], none, []⟩,
  ⟨none, .store 93 (.tmp 2) (.tmp 18), none, []⟩] [2]) .ret) .skip) (.seq (.reg [⟨some 19, .fieldAddr 73 (.tmp 1) 2, none, [21, 22, 23]⟩,
  ⟨some 20, .load 3 (.tmp 19), none, [21, 22, 23]⟩,
  ⟨some 21, .move (.tmp 3), none, [19, 20, 23]⟩,
  ⟨some 22, .call { callee := .value (.func 62), args := #[.tmp 21, .const (.int .u8 101)], argTypes := #[3, 5] }, none, [19, 20, 23]⟩,
  ⟨some 23, .move (.tmp 4), none, [19, 20, 21, 22]⟩,
  ⟨some 24, .call { callee := .value (.func 77), args := #[.tmp 20, .tmp 22, .const (.int .i64 0), .tmp 23], argTypes := #[3, 4, 3, 3] }, none, []⟩,
  ⟨some 25, .unOp .not 4 (.tmp 24), none, []⟩] [1, 2, 3, 4, 5, 6, 7, 25]) (.seq (.cond (.tmp 25) (.seq (.reg [⟨some 26, .fieldAddr 73 (.tmp 1) 2, none, []⟩,
  ⟨some 27, .load 3 (.tmp 26), none, []⟩,
  ⟨some 28, .build 93 #[(0, .const (.string ⟨#[101, 112, 111, 99, 104]⟩)), (1, .tmp 27), (2, .const (.int .i64 2))], none, []⟩,
  ⟨none, .store 93 (.tmp 2) (.tmp 28), none, []⟩] [2]) .ret) .skip) (.seq (.reg [⟨some 29, .fieldAddr 73 (.tmp 1) 3, none, [31, 32, 33, 34]⟩,
  ⟨some 30, .load 3 (.tmp 29), none, [31, 32, 33, 34]⟩,
  ⟨some 31, .move (.tmp 3), none, [29, 30, 33, 34]⟩,
  ⟨some 32, .call { callee := .value (.func 62), args := #[.tmp 31, .const (.int .u8 116)], argTypes := #[3, 5] }, none, [29, 30, 33, 34]⟩,
  ⟨some 33, .move (.tmp 5), none, [29, 30, 31, 32, 34]⟩,
  ⟨some 34, .move (.tmp 4), none, [29, 30, 31, 32, 33]⟩,
  ⟨some 35, .call { callee := .value (.func 77), args := #[.tmp 30, .tmp 32, .tmp 33, .tmp 34], argTypes := #[3, 4, 3, 3] }, none, []⟩,
  ⟨some 36, .unOp .not 4 (.tmp 35), none, []⟩] [1, 2, 3, 4, 6, 7, 36]) (.seq (.cond (.tmp 36) (.seq (.reg [⟨some 37, .fieldAddr 73 (.tmp 1) 3, none, []⟩,
  ⟨some 38, .load 3 (.tmp 37), none, []⟩,
  ⟨some 39, .build 93 #[(0, .const (.string ⟨#[116, 111, 112, 105, 99]⟩)), (1, .tmp 38), (2, .const (.int .i64 2))], none, []⟩,
  ⟨none, .store 93 (.tmp 2) (.tmp 39), none, []⟩] [2]) .ret) .skip) (.seq (.reg [⟨some 40, .fieldAddr 73 (.tmp 1) 4, none, [42, 43]⟩,
  ⟨some 41, .load 3 (.tmp 40), none, [42, 43]⟩,
  ⟨some 42, .move (.tmp 3), none, [40, 41]⟩,
  ⟨some 43, .call { callee := .value (.func 62), args := #[.tmp 42, .const (.int .u8 112)], argTypes := #[3, 5] }, none, [40, 41]⟩,
  ⟨some 44, .call { callee := .value (.func 77), args := #[.tmp 41, .tmp 43, .const (.int .i64 0), .const (.int .i64 255)], argTypes := #[3, 4, 3, 3] }, none, []⟩,
  ⟨some 45, .unOp .not 4 (.tmp 44), none, []⟩] [1, 2, 3, 4, 6, 7, 45]) (.seq (.cond (.tmp 45) (.seq (.reg [⟨some 46, .fieldAddr 73 (.tmp 1) 4, none, []⟩,
  ⟨some 47, .load 3 (.tmp 46), none, []⟩,
  ⟨some 48, .build 93 #[(0, .const (.string ⟨#[112, 97, 114, 116]⟩)), (1, .tmp 47), (2, .const (.int .i64 2))], none, []⟩,
  ⟨none, .store 93 (.tmp 2) (.tmp 48), none, []⟩] [2]) .ret) .skip) (.seq (.reg [⟨some 49, .fieldAddr 73 (.tmp 1) 5, none, [51, 52]⟩,
  ⟨some 50, .load 3 (.tmp 49), none, [51, 52]⟩,
  ⟨some 51, .move (.tmp 3), none, [49, 50]⟩,
  ⟨some 52, .call { callee := .value (.func 62), args := #[.tmp 51, .const (.int .u8 108)], argTypes := #[3, 5] }, none, [49, 50]⟩,
  ⟨some 53, .call { callee := .value (.func 77), args := #[.tmp 50, .tmp 52, .const (.int .i64 0), .const (.int .i64 64)], argTypes := #[3, 4, 3, 3] }, none, []⟩,
  ⟨some 54, .unOp .not 4 (.tmp 53), none, []⟩] [1, 2, 3, 4, 6, 7, 54]) (.seq (.cond (.tmp 54) (.seq (.reg [⟨some 55, .fieldAddr 73 (.tmp 1) 5, none, []⟩,
  ⟨some 56, .load 3 (.tmp 55), none, []⟩,
  ⟨some 57, .build 93 #[(0, .const (.string ⟨#[108, 101, 97, 100, 101, 114]⟩)), (1, .tmp 56), (2, .const (.int .i64 2))], none, []⟩,
  ⟨none, .store 93 (.tmp 2) (.tmp 57), none, []⟩] [2]) .ret) .skip) (.seq (.reg [⟨some 58, .fieldAddr 73 (.tmp 1) 6, none, [60, 61, 62]⟩,
  ⟨some 59, .load 3 (.tmp 58), none, [60, 61, 62]⟩,
  ⟨some 60, .move (.tmp 3), none, [58, 59, 62]⟩,
  ⟨some 61, .call { callee := .value (.func 62), args := #[.tmp 60, .const (.int .u8 97)], argTypes := #[3, 5] }, none, [58, 59, 62]⟩,
  ⟨some 62, .move (.tmp 4), none, [58, 59, 60, 61]⟩,
  ⟨some 63, .call { callee := .value (.func 77), args := #[.tmp 59, .tmp 61, .const (.int .i64 1), .tmp 62], argTypes := #[3, 4, 3, 3] }, none, []⟩,
  ⟨some 64, .unOp .not 4 (.tmp 63), none, []⟩,
  ⟨some 65, .move (.tmp 64), none, []⟩,
  ⟨some 66, .fieldAddr 73 (.tmp 1) 7, (some (65, false)), [68, 69, 70]⟩,
  ⟨some 67, .load 3 (.tmp 66), (some (65, false)), [68, 69, 70]⟩,
  ⟨some 68, .move (.tmp 3), (some (65, false)), [66, 67, 70]⟩,
  ⟨some 69, .call { callee := .value (.func 62), args := #[.tmp 68, .const (.int .u8 97)], argTypes := #[3, 5] }, (some (65, false)), [66, 67, 70]⟩,
  ⟨some 70, .move (.tmp 4), (some (65, false)), [66, 67, 68, 69]⟩,
  ⟨some 71, .call { callee := .value (.func 77), args := #[.tmp 67, .tmp 69, .const (.int .i64 1), .tmp 70], argTypes := #[3, 4, 3, 3] }, (some (65, false)), []⟩,
  ⟨some 72, .unOp .not 4 (.tmp 71), (some (65, false)), []⟩,
  ⟨some 73, .pick (.tmp 65) (.const (.bool true)) (.tmp 72), none, []⟩,
  ⟨some 74, .move (.tmp 73), none, []⟩,
  ⟨some 75, .fieldAddr 73 (.tmp 1) 8, (some (74, false)), [77, 78]⟩,
  ⟨some 76, .load 3 (.tmp 75), (some (74, false)), [77, 78]⟩,
  ⟨some 77, .move (.tmp 3), (some (74, false)), [75, 76]⟩,
  ⟨some 78, .call { callee := .value (.func 62), args := #[.tmp 77, .const (.int .u8 97)], argTypes := #[3, 5] }, (some (74, false)), [75, 76]⟩,
  ⟨some 79, .call { callee := .value (.func 77), args := #[.tmp 76, .tmp 78, .const (.int .i64 0), .const (.int .i64 21)], argTypes := #[3, 4, 3, 3] }, (some (74, false)), []⟩,
  ⟨some 80, .unOp .not 4 (.tmp 79), (some (74, false)), []⟩,
  ⟨some 81, .pick (.tmp 74) (.const (.bool true)) (.tmp 80), none, []⟩] [1, 2, 64, 65, 72, 73, 74, 80, 81]) (.seq (.cond (.tmp 81) (.seq (.reg [⟨some 82, .fieldAddr 73 (.tmp 1) 6, none, []⟩,
  ⟨some 83, .load 3 (.tmp 82), none, []⟩,
  ⟨some 84, .build 93 #[(0, .const (.string ⟨#[97, 115, 107, 101, 114]⟩)), (1, .tmp 83), (2, .const (.int .i64 2))], none, []⟩,
  ⟨none, .store 93 (.tmp 2) (.tmp 84), none, []⟩] [2]) .ret) .skip) (.seq (.reg [⟨some 85, .build 93 #[], none, []⟩,
  ⟨none, .store 93 (.tmp 2) (.tmp 85), none, []⟩] [2]) .ret)))))))))))))))))))
theorem s61 : TextK Proofs.Tryz.prog 0 61 86 [ResultVar.cell 2 93] c61 := .mk' Proofs.Tryz.f61 _ (by kernel_rfl) rfl rfl rfl (by kernel_rfl) rfl (by kernel_rfl)
theorem ref05_numbers_ok (r : Record) : ACall pg 61 [encR r] (encW (numsW r)) := by
  refine s61.call mo (by simp) fun hxs => ?_
  clear hxs
  unfold c61
  by_cases hk : r.kind = 10
  · have hlow : lowT r.kind = 0 := by simp [lowT, hk]
    repeat' first | (with_reducible first | refine fS ?_ | refine fR ?_ | refine fQ ?_ | refine fT ?_ | refine awRet ?_) | ((with_reducible refine awReg fun K hok hK => ?_); clear hok; (try simp (maxSteps := 10000000) (disch := first | omega | simp) []); (repeat' first | (with_reducible refine hK _ (by simp) ?_) | ((with_reducible refine gdF (fun h => ?_) (fun h => ?_)) <;> (simp (maxSteps := 10000000) (disch := first | omega | simp) [h]; (try simp at h); (try (exfalso; omega)))) | ((first | ((with_reducible refine callS' fun K2 hK2 => ?_); (try simp (maxSteps := 10000000) (disch := first | omega | simp) []); (first | refine hK2 _ _ (ref05_has_ok _ _) rfl fun hk9 => ?_ | refine hK2 _ _ (ref05_num_ok _ _ _ _) rfl fun hk9 => ?_); clear hk9; clear hK2 K2) | ((with_reducible refine sideS' fun K2 hK2 => ?_); (try simp (maxSteps := 10000000) (disch := first | omega | simp) []); (first | refine hK2 _ _ (ref05_has_ok _ _) rfl ?_ | refine hK2 _ _ (ref05_num_ok _ _ _ _) rfl ?_); clear hK2 K2) | ((with_reducible refine gdU ?_)) | ((with_reducible refine sideQ' ?_ ?_ fun K2 hK2 => ?_); exact rfl; exact rfl; (try simp (maxSteps := 10000000) (disch := first | omega | simp) []); with_reducible refine hK2 _ _ ?_; clear hK2 K2)); (try simp (maxSteps := 10000000) (disch := first | omega | simp) []))) <;> clear hK K) | ((with_reducible refine awCond fun A B hA hB => ?_); simp (maxSteps := 10000000) (disch := first | omega | simp) [*]; (first | refine ⟨fun h => hA ?_, fun h => hB ?_⟩ | refine hA ?_ | refine hB ?_) <;> (clear hA hB A B; (try (exfalso; omega))))
    all_goals (refine aEnR (aRes [] fun K hK => ?_); simp (maxSteps := 10000000) (disch := first | omega | simp) [numsW, lowT]; refine hK _ ?_ (by simp); clear hK; first | done | (simp (maxSteps := 10000000) (disch := first | omega | simp) [numsW, lowT, *]; done) | (simp (maxSteps := 10000000) (disch := first | omega | simp) [numsW, lowT, *]; omega) | (simp_all [numsW, lowT]; done) | (simp_all [numsW, lowT]; omega))
  · have hlow : lowT r.kind = 1 := by simp [lowT, hk]
    repeat' first | (with_reducible first | refine fS ?_ | refine fR ?_ | refine fQ ?_ | refine fT ?_ | refine awRet ?_) | ((with_reducible refine awReg fun K hok hK => ?_); clear hok; (try simp (maxSteps := 10000000) (disch := first | omega | simp) []); (repeat' first | (with_reducible refine hK _ (by simp) ?_) | ((with_reducible refine gdF (fun h => ?_) (fun h => ?_)) <;> (simp (maxSteps := 10000000) (disch := first | omega | simp) [h]; (try simp at h); (try (exfalso; omega)))) | ((first | ((with_reducible refine callS' fun K2 hK2 => ?_); (try simp (maxSteps := 10000000) (disch := first | omega | simp) []); (first | refine hK2 _ _ (ref05_has_ok _ _) rfl fun hk9 => ?_ | refine hK2 _ _ (ref05_num_ok _ _ _ _) rfl fun hk9 => ?_); clear hk9; clear hK2 K2) | ((with_reducible refine sideS' fun K2 hK2 => ?_); (try simp (maxSteps := 10000000) (disch := first | omega | simp) []); (first | refine hK2 _ _ (ref05_has_ok _ _) rfl ?_ | refine hK2 _ _ (ref05_num_ok _ _ _ _) rfl ?_); clear hK2 K2) | ((with_reducible refine gdU ?_)) | ((with_reducible refine sideQ' ?_ ?_ fun K2 hK2 => ?_); exact rfl; exact rfl; (try simp (maxSteps := 10000000) (disch := first | omega | simp) []); with_reducible refine hK2 _ _ ?_; clear hK2 K2)); (try simp (maxSteps := 10000000) (disch := first | omega | simp) []))) <;> clear hK K) | ((with_reducible refine awCond fun A B hA hB => ?_); simp (maxSteps := 10000000) (disch := first | omega | simp) [*]; (first | refine ⟨fun h => hA ?_, fun h => hB ?_⟩ | refine hA ?_ | refine hB ?_) <;> (clear hA hB A B; (try (exfalso; omega))))
    all_goals (refine aEnR (aRes [] fun K hK => ?_); simp (maxSteps := 10000000) (disch := first | omega | simp) [numsW, lowT]; refine hK _ ?_ (by simp); clear hK; first | done | (simp (maxSteps := 10000000) (disch := first | omega | simp) [numsW, lowT, *]; done) | (simp (maxSteps := 10000000) (disch := first | omega | simp) [numsW, lowT, *]; omega) | (simp_all [numsW, lowT]; done) | (simp_all [numsW, lowT]; omega))
theorem ref05_name_ok (s : ByteArray) (a : Bool) : ACall pg 63 [St s, B a] (B (if a then nameB s else s.toList == [])) := by
  refine s63.call mo (by simp) fun hxs => ?_
  clear hxs
  unfold c63
  repeat' first | (with_reducible first | refine fS ?_ | refine fR ?_ | refine fQ ?_ | refine fT ?_ | refine awRet ?_) | ((with_reducible refine awReg fun K hok hK => ?_); clear hok; (try simp (maxSteps := 10000000) (disch := first | omega | simp) []); (repeat' first | (with_reducible refine hK _ (by simp) ?_) | ((with_reducible refine callS' fun K2 hK2 => ?_); (try simp (maxSteps := 10000000) (disch := first | omega | simp) []); (refine hK2 _ _ (ref05_Name_ok s) rfl fun hk9 => ?_); clear hk9; clear hK2 K2; (try simp (maxSteps := 10000000) (disch := first | omega | simp) []))) <;> clear hK K) | ((with_reducible refine awCond fun A B hA hB => ?_); simp (maxSteps := 10000000) (disch := first | omega | simp) [*]; (first | refine ⟨fun h => hA ?_, fun h => hB ?_⟩ | refine hA ?_ | refine hB ?_) <;> (clear hA hB A B; (try (exfalso; omega))))
  all_goals (refine aEnR (aRes [] fun K hK => ?_); simp (maxSteps := 10000000) (disch := first | omega | simp) []; refine hK _ ?_ (by simp); clear hK; first | done | (simp (maxSteps := 10000000) (disch := first | omega | simp) [*]; done) | (simp (maxSteps := 10000000) (disch := first | omega | simp) [*]; omega) | (simp_all []; done) | (simp_all []; omega))
theorem ref05_row_ok (l : List Int) (a : Bool) : ACall pg 64 [Li l, B a] (B (if a then brokersB l else l.length == 0)) := by
  refine s64.call mo (by simp) fun hxs => ?_
  clear hxs
  unfold c64
  repeat' first | (with_reducible first | refine fS ?_ | refine fR ?_ | refine fQ ?_ | refine fT ?_ | refine awRet ?_) | ((with_reducible refine awReg fun K hok hK => ?_); clear hok; (try simp (maxSteps := 10000000) (disch := first | omega | simp) []); (repeat' first | (with_reducible refine hK _ (by simp) ?_) | ((with_reducible refine callS' fun K2 hK2 => ?_); (try simp (maxSteps := 10000000) (disch := first | omega | simp) []); (refine hK2 _ _ (ref05_Brokers_ok l) rfl fun hk9 => ?_); clear hk9; clear hK2 K2; (try simp (maxSteps := 10000000) (disch := first | omega | simp) []))) <;> clear hK K) | ((with_reducible refine awCond fun A B hA hB => ?_); simp (maxSteps := 10000000) (disch := first | omega | simp) [*]; (first | refine ⟨fun h => hA ?_, fun h => hB ?_⟩ | refine hA ?_ | refine hB ?_) <;> (clear hA hB A B; (try (exfalso; omega))))
  all_goals (cases l <;> (refine aEnR (aRes [] fun K hK => ?_); simp (maxSteps := 10000000) (disch := first | omega | simp) []; refine hK _ ?_ (by simp); clear hK; first | done | (simp (maxSteps := 10000000) (disch := first | omega | simp) [*]; done) | (simp (maxSteps := 10000000) (disch := first | omega | simp) [*]; omega) | (simp_all []; done) | (simp_all []; omega)))
theorem ref05_name_ok' (s : ByteArray) (a : Bool) : ACall pg 63 [St s, B a] (B (nmB s a)) := ref05_name_ok s a
theorem ref05_row_ok' (l : List Int) (a : Bool) : ACall pg 64 [Li l, B a] (B (rwB l a)) := ref05_row_ok l a
end
end Go.Am
end
section
set_option maxRecDepth 100000
set_option maxHeartbeats 0
namespace Go.Am
open Go
noncomputable section
def c45 : SC := (.seq (.reg [⟨some 1, .box 73 (.tmp 0), none, []⟩,
  ⟨some 2, .alloc 93, none, []⟩] [1, 2]) (.seq (.reg [⟨some 5, .fieldAddr 73 (.tmp 1) 0, none, []⟩,
  ⟨some 6, .load 3 (.tmp 5), none, []⟩,
  ⟨some 3, .assign (.tmp 6), none, []⟩] [1, 2, 3, 5, 6]) (.seq (.reg [⟨some 7, .move (.tmp 3), none, []⟩,
  ⟨some 8, .binOp .lss 3 (.tmp 7) (.const (.int .i64 1)) 3, none, []⟩,
  ⟨some 9, .move (.tmp 8), none, []⟩,
  ⟨some 10, .move (.tmp 3), (some (9, false)), []⟩,
  ⟨some 11, .binOp .gtr 3 (.tmp 10) (.const (.int .i64 12)) 3, (some (9, false)), []⟩,
  ⟨some 12, .pick (.tmp 9) (.const (.bool true)) (.tmp 11), none, []⟩] [1, 2, 3, 5, 6, 8, 9, 11, 12]) (.seq (.cond (.tmp 12) (.seq (.reg [⟨some 13, .move (.tmp 3), none, []⟩,
  ⟨some 14, .build 93 #[(0, .const (.string ⟨#[107, 105, 110, 100]⟩)), (1, .tmp 13), (2, .const (.int .i64 5))], none, []⟩,
  ⟨none, .store 93 (.tmp 2) (.tmp 14), none, []⟩] [2]) .ret) .skip) (.seq (.reg [⟨some 15, .load 73 (.tmp 1), none, []⟩,
  ⟨some 16, .call { callee := .value (.func 61), args := #[.tmp 15], argTypes := #[73] }, none, []⟩,
  ⟨some 4, .alloc 93, none, []⟩,
  ⟨none, .store 93 (.tmp 4) (.tmp 16), none, []⟩] [1, 2, 3, 4, 5, 6]) (.seq (.reg [⟨some 17, .fieldAddr 93 (.tmp 4) 2, none, []⟩,
  ⟨some 18, .load 42 (.tmp 17), none, []⟩,
  ⟨some 19, .binOp .neq 42 (.tmp 18) (.const (.int .i64 0)) 42, none, []⟩] [1, 2, 3, 4, 5, 6, 19]) (.seq (.cond (.tmp 19) (.seq (.reg [⟨some 20, .load 93 (.tmp 4), none, []⟩,
  ⟨none, .store 93 (.tmp 2) (.tmp 20), none, []⟩] [2]) .ret) .skip) (.seq (.reg [⟨some 21, .fieldAddr 73 (.tmp 1) 9, none, []⟩,
  ⟨some 22, .load 4 (.tmp 21), none, []⟩,
  ⟨some 23, .move (.tmp 22), none, []⟩,
  ⟨some 24, .move (.tmp 3), (some (23, true)), []⟩,
  ⟨some 25, .call { callee := .value (.func 62), args := #[.tmp 24, .const (.int .u8 102)], argTypes := #[3, 5] }, (some (23, true)), []⟩,
  ⟨some 26, .unOp .not 4 (.tmp 25), (some (23, true)), []⟩,
  ⟨some 27, .pick (.tmp 23) (.tmp 26) (.const (.bool false)), none, []⟩] [1, 2, 3, 5, 6, 21, 22, 23, 26, 27]) (.seq (.cond (.tmp 27) (.seq (.reg [⟨some 28, .build 93 #[(0, .const (.string ⟨#[102, 108, 97, 103]⟩)), (1, .const (.int .i64 1)), (2, .const (.int .i64 1))], none, []⟩,
  ⟨none, .store 93 (.tmp 2) (.tmp 28), none, []⟩] [2]) .ret) .skip) (.seq (.reg [⟨some 29, .fieldAddr 73 (.tmp 1) 10, none, [31, 32]⟩,
  ⟨some 30, .load 9 (.tmp 29), none, [31, 32]⟩,
  ⟨some 31, .move (.tmp 3), none, [29, 30]⟩,
  ⟨some 32, .call { callee := .value (.func 62), args := #[.tmp 31, .const (.int .u8 110)], argTypes := #[3, 5] }, none, [29, 30]⟩,
  ⟨some 33, .call { callee := .value (.func 63), args := #[.tmp 30, .tmp 32], argTypes := #[9, 4] }, none, []⟩,
  ⟨some 34, .unOp .not 4 (.tmp 33), none, []⟩,
  ⟨some 35, .move (.tmp 34), none, []⟩,
  ⟨some 36, .fieldAddr 73 (.tmp 1) 11, (some (35, false)), [38, 39]⟩,
  ⟨some 37, .load 9 (.tmp 36), (some (35, false)), [38, 39]⟩,
  ⟨some 38, .move (.tmp 3), (some (35, false)), [36, 37]⟩,
  ⟨some 39, .call { callee := .value (.func 62), args := #[.tmp 38, .const (.int .u8 107)], argTypes := #[3, 5] }, (some (35, false)), [36, 37]⟩,
  ⟨some 40, .call { callee := .value (.func 63), args := #[.tmp 37, .tmp 39], argTypes := #[9, 4] }, (some (35, false)), []⟩,
  ⟨some 41, .unOp .not 4 (.tmp 40), (some (35, false)), []⟩,
  ⟨some 42, .pick (.tmp 35) (.const (.bool true)) (.tmp 41), none, []⟩,
  ⟨some 43, .move (.tmp 42), none, []⟩,
  ⟨some 44, .fieldAddr 73 (.tmp 1) 13, (some (43, false)), [46, 47]⟩,
  ⟨some 45, .load 9 (.tmp 44), (some (43, false)), [46, 47]⟩,
  ⟨some 46, .move (.tmp 3), (some (43, false)), [44, 45]⟩,
  ⟨some 47, .call { callee := .value (.func 62), args := #[.tmp 46, .const (.int .u8 114)], argTypes := #[3, 5] }, (some (43, false)), [44, 45]⟩,
  ⟨some 48, .call { callee := .value (.func 63), args := #[.tmp 45, .tmp 47], argTypes := #[9, 4] }, (some (43, false)), []⟩,
  ⟨some 49, .unOp .not 4 (.tmp 48), (some (43, false)), []⟩,
  ⟨some 50, .pick (.tmp 43) (.const (.bool true)) (.tmp 49), none, []⟩] [1, 2, 3, 5, 6, 34, 35, 41, 42, 43, 49, 50]) (.seq (.cond (.tmp 50) (.seq (.reg [⟨some 51, .fieldAddr 73 (.tmp 1) 10, none, []⟩,
  ⟨some 52, .load 9 (.tmp 51), none, []⟩,
  ⟨some 53, .call { callee := .builtin .len, args := #[.tmp 52], argTypes := #[9] }, none, []⟩,
  ⟨some 54, .build 93 #[(0, .const (.string ⟨#[110, 97, 109, 101]⟩)), (1, .tmp 53), (2, .const (.int .i64 1))], none, []⟩,
  ⟨none, .store 93 (.tmp 2) (.tmp 54), none, []⟩] [2]) .ret) .skip) (.seq (.reg [⟨some 55, .fieldAddr 73 (.tmp 1) 12, none, []⟩,
  ⟨some 56, .load 9 (.tmp 55), none, []⟩,
  ⟨some 57, .call { callee := .builtin .len, args := #[.tmp 56], argTypes := #[9] }, none, []⟩,
  ⟨some 58, .binOp .gtr 3 (.tmp 57) (.const (.int .i64 256)) 3, none, []⟩,
  ⟨some 59, .move (.tmp 58), none, []⟩,
  ⟨some 60, .fieldAddr 73 (.tmp 1) 12, (some (59, false)), []⟩,
  ⟨some 61, .load 9 (.tmp 60), (some (59, false)), []⟩,
  ⟨some 62, .binOp .neq 9 (.tmp 61) (.const (.string ⟨#[]⟩)) 9, (some (59, false)), []⟩,
  ⟨some 63, .move (.tmp 62), (some (59, false)), []⟩,
  ⟨some 64, .fieldAddr 73 (.tmp 1) 9, (some (63, true)), []⟩,
  ⟨some 65, .load 4 (.tmp 64), (some (63, true)), []⟩,
  ⟨some 66, .move (.tmp 65), (some (63, true)), []⟩,
  ⟨some 67, .move (.tmp 3), (some (66, false)), []⟩,
  ⟨some 68, .call { callee := .value (.func 62), args := #[.tmp 67, .const (.int .u8 118)], argTypes := #[3, 5] }, (some (66, false)), []⟩,
  ⟨some 69, .unOp .not 4 (.tmp 68), (some (66, false)), []⟩,
  ⟨some 70, .pick (.tmp 66) (.const (.bool true)) (.tmp 69), (some (63, true)), []⟩,
  ⟨some 71, .pick (.tmp 63) (.tmp 70) (.const (.bool false)), (some (59, false)), []⟩,
  ⟨some 72, .pick (.tmp 59) (.const (.bool true)) (.tmp 71), none, []⟩] [1, 2, 3, 5, 6, 58, 59, 62, 63, 64, 65, 66, 69, 70, 71, 72]) (.seq (.cond (.tmp 72) (.seq (.reg [⟨some 73, .fieldAddr 73 (.tmp 1) 12, none, []⟩,
  ⟨some 74, .load 9 (.tmp 73), none, []⟩,
  ⟨some 75, .call { callee := .builtin .len, args := #[.tmp 74], argTypes := #[9] }, none, []⟩,
  ⟨some 76, .build 93 #[(0, .const (.string ⟨#[118, 97, 108, 117, 101]⟩)), (1, .tmp 75), (2, .const (.int .i64 6))], none, []⟩,
  ⟨none, .store 93 (.tmp 2) (.tmp 76), none, []⟩] [2]) .ret) .skip) (.seq (.reg [⟨some 77, .fieldAddr 73 (.tmp 1) 14, none, [79, 80]⟩,
  ⟨some 78, .load 23 (.tmp 77), none, [79, 80]⟩,
  ⟨some 79, .move (.tmp 3), none, [77, 78]⟩,
  ⟨some 80, .call { callee := .value (.func 62), args := #[.tmp 79, .const (.int .u8 105)], argTypes := #[3, 5] }, none, [77, 78]⟩,
  ⟨some 81, .call { callee := .value (.func 64), args := #[.tmp 78, .tmp 80], argTypes := #[23, 4] }, none, []⟩,
  ⟨some 82, .unOp .not 4 (.tmp 81), none, []⟩,
  ⟨some 83, .move (.tmp 82), none, []⟩,
  ⟨some 84, .fieldAddr 73 (.tmp 1) 15, (some (83, false)), [86, 87]⟩,
  ⟨some 85, .load 23 (.tmp 84), (some (83, false)), [86, 87]⟩,
  ⟨some 86, .move (.tmp 3), (some (83, false)), [84, 85]⟩,
  ⟨some 87, .call { callee := .value (.func 62), args := #[.tmp 86, .const (.int .u8 109)], argTypes := #[3, 5] }, (some (83, false)), [84, 85]⟩,
  ⟨some 88, .call { callee := .value (.func 64), args := #[.tmp 85, .tmp 87], argTypes := #[23, 4] }, (some (83, false)), []⟩,
  ⟨some 89, .unOp .not 4 (.tmp 88), (some (83, false)), []⟩,
  ⟨some 90, .pick (.tmp 83) (.const (.bool true)) (.tmp 89), none, []⟩,
  ⟨some 91, .move (.tmp 90), none, []⟩,
  ⟨some 92, .fieldAddr 73 (.tmp 1) 16, (some (91, false)), [94, 95]⟩,
  ⟨some 93, .load 23 (.tmp 92), (some (91, false)), [94, 95]⟩,
  ⟨some 94, .move (.tmp 3), (some (91, false)), [92, 93]⟩,
  ⟨some 95, .call { callee := .value (.func 62), args := #[.tmp 94, .const (.int .u8 120)], argTypes := #[3, 5] }, (some (91, false)), [92, 93]⟩,
  ⟨some 96, .call { callee := .value (.func 64), args := #[.tmp 93, .tmp 95], argTypes := #[23, 4] }, (some (91, false)), []⟩,
  ⟨some 97, .unOp .not 4 (.tmp 96), (some (91, false)), []⟩,
  ⟨some 98, .pick (.tmp 91) (.const (.bool true)) (.tmp 97), none, []⟩,
  ⟨some 99, .move (.tmp 98), none, []⟩,
  ⟨some 100, .fieldAddr 73 (.tmp 1) 17, (some (99, false)), [102, 103]⟩,
  ⟨some 101, .load 23 (.tmp 100), (some (99, false)), [102, 103]⟩,
  ⟨some 102, .move (.tmp 3), (some (99, false)), [100, 101]⟩,
  ⟨some 103, .call { callee := .value (.func 62), args := #[.tmp 102, .const (.int .u8 120)], argTypes := #[3, 5] }, (some (99, false)), [100, 101]⟩,
  ⟨some 104, .call { callee := .value (.func 64), args := #[.tmp 101, .tmp 103], argTypes := #[23, 4] }, (some (99, false)), []⟩,
  ⟨some 105, .unOp .not 4 (.tmp 104), (some (99, false)), []⟩,
  ⟨some 106, .pick (.tmp 99) (.const (.bool true)) (.tmp 105), none, []⟩] [1, 2, 82, 83, 89, 90, 91, 97, 98, 99, 105, 106]) (.seq (.cond (.tmp 106) (.seq (.reg [⟨some 107, .fieldAddr 73 (.tmp 1) 14, none, []⟩,
  ⟨some 108, .load 23 (.tmp 107), none, []⟩,
  ⟨some 109, .call { callee := .builtin .len, args := #[.tmp 108], argTypes := #[23] }, none, []⟩,
  ⟨some 110, .build 93 #[(0, .const (.string ⟨#[114, 111, 119]⟩)), (1, .tmp 109), (2, .const (.int .i64 18))], none, []⟩,
  ⟨none, .store 93 (.tmp 2) (.tmp 110), none, []⟩] [2]) .ret) .skip) (.seq (.reg [⟨some 111, .build 93 #[], none, []⟩,
  ⟨none, .store 93 (.tmp 2) (.tmp 111), none, []⟩] [2]) .ret))))))))))))))))
theorem s45 : TextK Proofs.Tryz.prog 0 45 112 [ResultVar.cell 2 93] c45 := .mk' Proofs.Tryz.f45 _ (by kernel_rfl) rfl rfl rfl (by kernel_rfl) rfl (by kernel_rfl)
theorem ref05_Check_ok (r : Record) : ACall pg 45 [encR r] (encW (checkW r)) := by
  refine s45.call mo (by simp) fun hxs => ?_
  have hid := okLenI (l := r.ids) (by simpa using hxs.1.2.2.2.2.2.2.2.2.2.2.2.2.2.2.1)
  clear hxs
  unfold c45
  repeat' first | (with_reducible first | refine fS ?_ | refine fR ?_ | refine fQ ?_ | refine fT ?_ | refine awRet ?_) | ((with_reducible refine awReg fun K hok hK => ?_); clear hok; (try simp (maxSteps := 10000000) (disch := first | omega | simp) []); (repeat' first | (with_reducible refine hK _ (by simp) ?_) | ((with_reducible refine gdT (fun h => ?_) (fun h => ?_)) <;> (simp (maxSteps := 10000000) (disch := first | omega | simp) [h]; (try simp at h); (try (exfalso; omega)))) | ((with_reducible refine gdF (fun h => ?_) (fun h => ?_)) <;> (simp (maxSteps := 10000000) (disch := first | omega | simp) [h]; (try simp at h); (try (exfalso; omega)))) | ((first | ((with_reducible refine callS' fun K2 hK2 => ?_); (try simp (maxSteps := 10000000) (disch := first | omega | simp) []); (first | refine hK2 _ _ (ref05_numbers_ok r) rfl fun hk9 => ?_ | refine hK2 _ _ (ref05_has_ok _ _) rfl fun hk9 => ?_ | refine hK2 _ _ (ref05_name_ok' _ _) rfl fun hk9 => ?_ | refine hK2 _ _ (ref05_row_ok' _ _) rfl fun hk9 => ?_); clear hk9; clear hK2 K2) | ((with_reducible refine sideS' fun K2 hK2 => ?_); (try simp (maxSteps := 10000000) (disch := first | omega | simp) []); (first | refine hK2 _ _ (ref05_numbers_ok r) rfl ?_ | refine hK2 _ _ (ref05_has_ok _ _) rfl ?_ | refine hK2 _ _ (ref05_name_ok' _ _) rfl ?_ | refine hK2 _ _ (ref05_row_ok' _ _) rfl ?_); clear hK2 K2) | ((with_reducible refine gdU ?_)) | ((with_reducible refine sideQ' ?_ ?_ fun K2 hK2 => ?_); exact rfl; exact rfl; (try simp (maxSteps := 10000000) (disch := first | omega | simp) []); with_reducible refine hK2 _ _ ?_; clear hK2 K2)); (try simp (maxSteps := 10000000) (disch := first | omega | simp) []))) <;> clear hK K) | ((with_reducible refine awCond fun A B hA hB => ?_); simp (maxSteps := 10000000) (disch := first | omega | simp) [*]; (first | refine ⟨fun h => hA ?_, fun h => hB ?_⟩ | refine hA ?_ | refine hB ?_) <;> (clear hA hB A B; (try (exfalso; omega))))
  all_goals (refine aEnR (aRes [] fun K hK => ?_); simp (maxSteps := 10000000) (disch := first | omega | simp) []; refine hK _ ?_ (by simp); clear hK; (try unfold checkW); ((repeat' split) <;> first | rfl | (exfalso; omega) | (exfalso; simp only [*, Bool.false_eq_true, Bool.true_eq_false, not_true, not_false_iff] at *; done) | (simp_all; done) | (exfalso; simp_all; omega)))
end
end Go.Am
end
