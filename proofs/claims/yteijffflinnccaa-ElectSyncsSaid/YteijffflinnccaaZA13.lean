/- Part of the proof of ElectLeaves. -/
import Derived.Test.YteijffflinnccaaZA12
set_option linter.all false
set_option maxRecDepth 100000
set_option maxHeartbeats 0
namespace Go.Am
open Go
noncomputable section
def c58 : SC := (.seq (.reg [⟨some 1, .box 43 (.tmp 0), none, []⟩,
  ⟨some 2, .alloc 99, none, []⟩] [1, 2]) (.seq (.reg [⟨some 5, .fieldAddr 43 (.tmp 1) 0, none, []⟩,
  ⟨some 6, .load 3 (.tmp 5), none, []⟩,
  ⟨some 3, .assign (.tmp 6), none, []⟩] [1, 2, 3, 5, 6]) (.seq (.reg [⟨some 7, .move (.tmp 3), none, []⟩,
  ⟨some 8, .binOp .lss 3 (.tmp 7) (.const (.int .i64 1)) 3, none, []⟩,
  ⟨some 9, .move (.tmp 8), none, []⟩,
  ⟨some 10, .move (.tmp 3), (some (9, false)), []⟩,
  ⟨some 11, .binOp .gtr 3 (.tmp 10) (.const (.int .i64 12)) 3, (some (9, false)), []⟩,
  ⟨some 12, .pick (.tmp 9) (.const (.bool true)) (.tmp 11), none, []⟩] [1, 2, 3, 5, 6, 8, 9, 11, 12]) (.seq (.cond (.tmp 12) (.seq (.reg [⟨some 13, .move (.tmp 3), none, []⟩,
  ⟨some 14, .build 99 #[(0, .const (.string ⟨#[107, 105, 110, 100]⟩)), (1, .tmp 13), (2, .const (.int .i64 5))], none, []⟩,
  ⟨none, .store 99 (.tmp 2) (.tmp 14), none, []⟩] [2]) .ret) .skip) (.seq (.reg [⟨some 15, .load 43 (.tmp 1), none, []⟩,
  ⟨some 16, .call { callee := .value (.func 118), args := #[.tmp 15], argTypes := #[43] }, none, []⟩,
  ⟨some 4, .alloc 99, none, []⟩,
  ⟨none, .store 99 (.tmp 4) (.tmp 16), none, []⟩] [1, 2, 3, 4, 5, 6]) (.seq (.reg [⟨some 17, .fieldAddr 99 (.tmp 4) 2, none, []⟩,
  ⟨some 18, .load 35 (.tmp 17), none, []⟩,
  ⟨some 19, .binOp .neq 35 (.tmp 18) (.const (.int .i64 0)) 35, none, []⟩] [1, 2, 3, 4, 5, 6, 19]) (.seq (.cond (.tmp 19) (.seq (.reg [⟨some 20, .load 99 (.tmp 4), none, []⟩,
  ⟨none, .store 99 (.tmp 2) (.tmp 20), none, []⟩] [2]) .ret) .skip) (.seq (.reg [⟨some 21, .fieldAddr 43 (.tmp 1) 9, none, []⟩,
  ⟨some 22, .load 4 (.tmp 21), none, []⟩,
  ⟨some 23, .move (.tmp 22), none, []⟩,
  ⟨some 24, .move (.tmp 3), (some (23, true)), []⟩,
  ⟨some 25, .call { callee := .value (.func 119), args := #[.tmp 24, .const (.int .u8 102)], argTypes := #[3, 5] }, (some (23, true)), []⟩,
  ⟨some 26, .unOp .not 4 (.tmp 25), (some (23, true)), []⟩,
  ⟨some 27, .pick (.tmp 23) (.tmp 26) (.const (.bool false)), none, []⟩] [1, 2, 3, 5, 6, 21, 22, 23, 26, 27]) (.seq (.cond (.tmp 27) (.seq (.reg [⟨some 28, .build 99 #[(0, .const (.string ⟨#[102, 108, 97, 103]⟩)), (1, .const (.int .i64 1)), (2, .const (.int .i64 1))], none, []⟩,
  ⟨none, .store 99 (.tmp 2) (.tmp 28), none, []⟩] [2]) .ret) .skip) (.seq (.reg [⟨some 29, .fieldAddr 43 (.tmp 1) 10, none, [31, 32]⟩,
  ⟨some 30, .load 9 (.tmp 29), none, [31, 32]⟩,
  ⟨some 31, .move (.tmp 3), none, [29, 30]⟩,
  ⟨some 32, .call { callee := .value (.func 119), args := #[.tmp 31, .const (.int .u8 110)], argTypes := #[3, 5] }, none, [29, 30]⟩,
  ⟨some 33, .call { callee := .value (.func 120), args := #[.tmp 30, .tmp 32], argTypes := #[9, 4] }, none, []⟩,
  ⟨some 34, .unOp .not 4 (.tmp 33), none, []⟩,
  ⟨some 35, .move (.tmp 34), none, []⟩,
  ⟨some 36, .fieldAddr 43 (.tmp 1) 11, (some (35, false)), [38, 39]⟩,
  ⟨some 37, .load 9 (.tmp 36), (some (35, false)), [38, 39]⟩,
  ⟨some 38, .move (.tmp 3), (some (35, false)), [36, 37]⟩,
  ⟨some 39, .call { callee := .value (.func 119), args := #[.tmp 38, .const (.int .u8 107)], argTypes := #[3, 5] }, (some (35, false)), [36, 37]⟩,
  ⟨some 40, .call { callee := .value (.func 120), args := #[.tmp 37, .tmp 39], argTypes := #[9, 4] }, (some (35, false)), []⟩,
  ⟨some 41, .unOp .not 4 (.tmp 40), (some (35, false)), []⟩,
  ⟨some 42, .pick (.tmp 35) (.const (.bool true)) (.tmp 41), none, []⟩,
  ⟨some 43, .move (.tmp 42), none, []⟩,
  ⟨some 44, .fieldAddr 43 (.tmp 1) 13, (some (43, false)), [46, 47]⟩,
  ⟨some 45, .load 9 (.tmp 44), (some (43, false)), [46, 47]⟩,
  ⟨some 46, .move (.tmp 3), (some (43, false)), [44, 45]⟩,
  ⟨some 47, .call { callee := .value (.func 119), args := #[.tmp 46, .const (.int .u8 114)], argTypes := #[3, 5] }, (some (43, false)), [44, 45]⟩,
  ⟨some 48, .call { callee := .value (.func 120), args := #[.tmp 45, .tmp 47], argTypes := #[9, 4] }, (some (43, false)), []⟩,
  ⟨some 49, .unOp .not 4 (.tmp 48), (some (43, false)), []⟩,
  ⟨some 50, .pick (.tmp 43) (.const (.bool true)) (.tmp 49), none, []⟩] [1, 2, 3, 5, 6, 34, 35, 41, 42, 43, 49, 50]) (.seq (.cond (.tmp 50) (.seq (.reg [⟨some 51, .fieldAddr 43 (.tmp 1) 10, none, []⟩,
  ⟨some 52, .load 9 (.tmp 51), none, []⟩,
  ⟨some 53, .call { callee := .builtin .len, args := #[.tmp 52], argTypes := #[9] }, none, []⟩,
  ⟨some 54, .build 99 #[(0, .const (.string ⟨#[110, 97, 109, 101]⟩)), (1, .tmp 53), (2, .const (.int .i64 1))], none, []⟩,
  ⟨none, .store 99 (.tmp 2) (.tmp 54), none, []⟩] [2]) .ret) .skip) (.seq (.reg [⟨some 55, .fieldAddr 43 (.tmp 1) 12, none, []⟩,
  ⟨some 56, .load 9 (.tmp 55), none, []⟩,
  ⟨some 57, .call { callee := .builtin .len, args := #[.tmp 56], argTypes := #[9] }, none, []⟩,
  ⟨some 58, .binOp .gtr 3 (.tmp 57) (.const (.int .i64 256)) 3, none, []⟩,
  ⟨some 59, .move (.tmp 58), none, []⟩,
  ⟨some 60, .fieldAddr 43 (.tmp 1) 12, (some (59, false)), []⟩,
  ⟨some 61, .load 9 (.tmp 60), (some (59, false)), []⟩,
  ⟨some 62, .binOp .neq 9 (.tmp 61) (.const (.string ⟨#[]⟩)) 9, (some (59, false)), []⟩,
  ⟨some 63, .move (.tmp 62), (some (59, false)), []⟩,
  ⟨some 64, .fieldAddr 43 (.tmp 1) 9, (some (63, true)), []⟩,
  ⟨some 65, .load 4 (.tmp 64), (some (63, true)), []⟩,
  ⟨some 66, .move (.tmp 65), (some (63, true)), []⟩,
  ⟨some 67, .move (.tmp 3), (some (66, false)), []⟩,
  ⟨some 68, .call { callee := .value (.func 119), args := #[.tmp 67, .const (.int .u8 118)], argTypes := #[3, 5] }, (some (66, false)), []⟩,
  ⟨some 69, .unOp .not 4 (.tmp 68), (some (66, false)), []⟩,
  ⟨some 70, .pick (.tmp 66) (.const (.bool true)) (.tmp 69), (some (63, true)), []⟩,
  ⟨some 71, .pick (.tmp 63) (.tmp 70) (.const (.bool false)), (some (59, false)), []⟩,
  ⟨some 72, .pick (.tmp 59) (.const (.bool true)) (.tmp 71), none, []⟩] [1, 2, 3, 5, 6, 58, 59, 62, 63, 64, 65, 66, 69, 70, 71, 72]) (.seq (.cond (.tmp 72) (.seq (.reg [⟨some 73, .fieldAddr 43 (.tmp 1) 12, none, []⟩,
  ⟨some 74, .load 9 (.tmp 73), none, []⟩,
  ⟨some 75, .call { callee := .builtin .len, args := #[.tmp 74], argTypes := #[9] }, none, []⟩,
  ⟨some 76, .build 99 #[(0, .const (.string ⟨#[118, 97, 108, 117, 101]⟩)), (1, .tmp 75), (2, .const (.int .i64 6))], none, []⟩,
  ⟨none, .store 99 (.tmp 2) (.tmp 76), none, []⟩] [2]) .ret) .skip) (.seq (.reg [⟨some 77, .fieldAddr 43 (.tmp 1) 14, none, [79, 80]⟩,
  ⟨some 78, .load 41 (.tmp 77), none, [79, 80]⟩,
  ⟨some 79, .move (.tmp 3), none, [77, 78]⟩,
  ⟨some 80, .call { callee := .value (.func 119), args := #[.tmp 79, .const (.int .u8 105)], argTypes := #[3, 5] }, none, [77, 78]⟩,
  ⟨some 81, .call { callee := .value (.func 121), args := #[.tmp 78, .tmp 80], argTypes := #[41, 4] }, none, []⟩,
  ⟨some 82, .unOp .not 4 (.tmp 81), none, []⟩,
  ⟨some 83, .move (.tmp 82), none, []⟩,
  ⟨some 84, .fieldAddr 43 (.tmp 1) 15, (some (83, false)), [86, 87]⟩,
  ⟨some 85, .load 41 (.tmp 84), (some (83, false)), [86, 87]⟩,
  ⟨some 86, .move (.tmp 3), (some (83, false)), [84, 85]⟩,
  ⟨some 87, .call { callee := .value (.func 119), args := #[.tmp 86, .const (.int .u8 109)], argTypes := #[3, 5] }, (some (83, false)), [84, 85]⟩,
  ⟨some 88, .call { callee := .value (.func 121), args := #[.tmp 85, .tmp 87], argTypes := #[41, 4] }, (some (83, false)), []⟩,
  ⟨some 89, .unOp .not 4 (.tmp 88), (some (83, false)), []⟩,
  ⟨some 90, .pick (.tmp 83) (.const (.bool true)) (.tmp 89), none, []⟩,
  ⟨some 91, .move (.tmp 90), none, []⟩,
  ⟨some 92, .fieldAddr 43 (.tmp 1) 16, (some (91, false)), [94, 95]⟩,
  ⟨some 93, .load 41 (.tmp 92), (some (91, false)), [94, 95]⟩,
  ⟨some 94, .move (.tmp 3), (some (91, false)), [92, 93]⟩,
  ⟨some 95, .call { callee := .value (.func 119), args := #[.tmp 94, .const (.int .u8 120)], argTypes := #[3, 5] }, (some (91, false)), [92, 93]⟩,
  ⟨some 96, .call { callee := .value (.func 121), args := #[.tmp 93, .tmp 95], argTypes := #[41, 4] }, (some (91, false)), []⟩,
  ⟨some 97, .unOp .not 4 (.tmp 96), (some (91, false)), []⟩,
  ⟨some 98, .pick (.tmp 91) (.const (.bool true)) (.tmp 97), none, []⟩,
  ⟨some 99, .move (.tmp 98), none, []⟩,
  ⟨some 100, .fieldAddr 43 (.tmp 1) 17, (some (99, false)), [102, 103]⟩,
  ⟨some 101, .load 41 (.tmp 100), (some (99, false)), [102, 103]⟩,
  ⟨some 102, .move (.tmp 3), (some (99, false)), [100, 101]⟩,
  ⟨some 103, .call { callee := .value (.func 119), args := #[.tmp 102, .const (.int .u8 120)], argTypes := #[3, 5] }, (some (99, false)), [100, 101]⟩,
  ⟨some 104, .call { callee := .value (.func 121), args := #[.tmp 101, .tmp 103], argTypes := #[41, 4] }, (some (99, false)), []⟩,
  ⟨some 105, .unOp .not 4 (.tmp 104), (some (99, false)), []⟩,
  ⟨some 106, .pick (.tmp 99) (.const (.bool true)) (.tmp 105), none, []⟩] [1, 2, 82, 83, 89, 90, 91, 97, 98, 99, 105, 106]) (.seq (.cond (.tmp 106) (.seq (.reg [⟨some 107, .fieldAddr 43 (.tmp 1) 14, none, []⟩,
  ⟨some 108, .load 41 (.tmp 107), none, []⟩,
  ⟨some 109, .call { callee := .builtin .len, args := #[.tmp 108], argTypes := #[41] }, none, []⟩,
  ⟨some 110, .build 99 #[(0, .const (.string ⟨#[114, 111, 119]⟩)), (1, .tmp 109), (2, .const (.int .i64 18))], none, []⟩,
  ⟨none, .store 99 (.tmp 2) (.tmp 110), none, []⟩] [2]) .ret) .skip) (.seq (.reg [⟨some 111, .build 99 #[], none, []⟩,
  ⟨none, .store 99 (.tmp 2) (.tmp 111), none, []⟩] [2]) .ret))))))))))))))))
theorem s58 : TextK Proofs.Try.prog 0 58 112 [ResultVar.cell 2 99] c58 := .mk' Proofs.Try.f58 _ (by kernel_rfl) rfl rfl rfl (by kernel_rfl) rfl (by kernel_rfl)
theorem ref05_Check_ok (r : Record) : ACall pg 58 [encR r] (encW (checkW r)) := by
  refine s58.call mo (by simp) fun hxs => ?_
  have hid := okLenI (l := r.ids) (by simpa using hxs.1.2.2.2.2.2.2.2.2.2.2.2.2.2.2.1)
  clear hxs
  unfold c58
  repeat' first
      | (with_reducible first | refine thN ?_ | refine thR ?_ | refine thE ?_ | refine inN ?_ | refine inR ?_ | refine inH ?_ | refine fF ?_ | refine fS ?_ | refine fR ?_ | refine fQ ?_ | refine fC ?_ | refine fB ?_ | refine fL ?_ | refine fE ?_ | refine fT ?_ | refine awBlock ?_ | refine awExit ?_ | refine awRet ?_ | refine awSkip ?_ | refine inM (by decide) ?_)
      | ((with_reducible refine awReg fun K hok hK => ?_); clear hok; (try simp (maxSteps := 10000000) (disch := first | omega | simp) []); (repeat' first
          | (with_reducible refine hK _ (by simp) ?_)
          | ((with_reducible refine gdT (fun h => ?_) (fun h => ?_)) <;> (simp (maxSteps := 10000000) (disch := first | omega | simp) [h]; (try simp at h); (try (exfalso; omega))))
          | ((with_reducible refine gdF (fun h => ?_) (fun h => ?_)) <;> (simp (maxSteps := 10000000) (disch := first | omega | simp) [h]; (try simp at h); (try (exfalso; omega))))
          | ((with_reducible refine callS' fun K2 hK2 => ?_); (try simp (maxSteps := 10000000) (disch := first | omega | simp) []); (first | (refine hK2 _ _ (ref05_numbers_ok r) rfl fun hk9 => ?_; clear hk9) | (refine hK2 _ _ (ref05_has_ok _ _) rfl fun hk9 => ?_; clear hk9) | (refine hK2 _ _ (ref05_name_ok' _ _) rfl fun hk9 => ?_; clear hk9) | (refine hK2 _ _ (ref05_row_ok' _ _) rfl fun hk9 => ?_; clear hk9)); clear hK2 K2; (try simp (maxSteps := 10000000) (disch := first | omega | simp) []))
          | ((with_reducible refine callF' fun K2 hK2 => ?_); (try simp (maxSteps := 10000000) (disch := first | omega | simp) []); (first | refine hK2 _ _ _ (ref05_numbers_ok r) fun _ => ?_ | refine hK2 _ _ _ (ref05_has_ok _ _) fun _ => ?_ | refine hK2 _ _ _ (ref05_name_ok' _ _) fun _ => ?_ | refine hK2 _ _ _ (ref05_row_ok' _ _) fun _ => ?_); clear hK2 K2; (try simp (maxSteps := 10000000) (disch := first | omega | simp) []))
          | ((with_reducible refine sideS' fun K2 hK2 => ?_); (try simp (maxSteps := 10000000) (disch := first | omega | simp) []); (first | refine hK2 _ _ (ref05_numbers_ok r) rfl ?_ | refine hK2 _ _ (ref05_has_ok _ _) rfl ?_ | refine hK2 _ _ (ref05_name_ok' _ _) rfl ?_ | refine hK2 _ _ (ref05_row_ok' _ _) rfl ?_); clear hK2 K2; (try simp (maxSteps := 10000000) (disch := first | omega | simp) []))
          | ((with_reducible refine sideF' fun K2 hK2 => ?_); (try simp (maxSteps := 10000000) (disch := first | omega | simp) []); (first | refine hK2 _ _ _ (ref05_numbers_ok r) (by simp) ?_ | refine hK2 _ _ _ (ref05_has_ok _ _) (by simp) ?_ | refine hK2 _ _ _ (ref05_name_ok' _ _) (by simp) ?_ | refine hK2 _ _ _ (ref05_row_ok' _ _) (by simp) ?_); clear hK2 K2; (try simp (maxSteps := 10000000) (disch := first | omega | simp) []))
          | ((with_reducible refine sideSt' fun K2 hK2 => ?_); (try simp (maxSteps := 10000000) (disch := first | omega | simp) []); refine hK2 _ ?_; clear hK2 K2; (try simp (maxSteps := 10000000) (disch := first | omega | simp) []))
          | ((with_reducible refine gdU ?_); (try simp (maxSteps := 10000000) (disch := first | omega | simp) []))
          | ((with_reducible refine sideQ' ?_ ?_ fun K2 hK2 => ?_); exact rfl; exact rfl; (try simp (maxSteps := 10000000) (disch := first | omega | simp) []); with_reducible refine hK2 _ _ ?_; clear hK2 K2; (try simp (maxSteps := 10000000) (disch := first | omega | simp) []))
          | ((with_reducible refine side' ?_ fun K2 hK2 => ?_); exact rfl; (try simp (maxSteps := 10000000) (disch := first | omega | simp) []); refine hK2 _ _ (by simp) ?_; clear hK2 K2; (try simp (maxSteps := 10000000) (disch := first | omega | simp) []))) <;> clear hK K)
      | ((with_reducible refine awCond fun A B hA hB => ?_); simp (maxSteps := 10000000) (disch := first | omega | simp) [*]; (first | refine ⟨fun h => hA ?_, fun h => hB ?_⟩ | refine hA ?_ | refine hB ?_) <;> (clear hA hB A B; (try (exfalso; omega))))
  all_goals (refine aEnR (aRes [] fun K hK => ?_); simp (maxSteps := 10000000) (disch := first | omega | simp) []; refine hK _ ?_ (by simp); clear hK; (try unfold checkW); ((repeat' split) <;> first | rfl | (exfalso; omega) | (exfalso; simp only [*, Bool.false_eq_true, Bool.true_eq_false, not_true, not_false_iff] at *; done) | (simp_all; done) | (exfalso; simp_all; omega)))
end
end Go.Am
