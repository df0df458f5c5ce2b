/- Part of the proof of ElectLeaves. -/
import Derived.Test.YteijffflinnccaaZA11
set_option linter.all false
set_option maxRecDepth 100000
set_option maxHeartbeats 0
namespace Go.Am
open Go
noncomputable section
def c118 : SC := (.seq (.reg [⟨some 1, .box 43 (.tmp 0), none, []⟩,
  ⟨some 2, .alloc 99, none, []⟩] [1, 2]) (.seq (.reg [⟨some 6, .fieldAddr 43 (.tmp 1) 0, none, []⟩,
  ⟨some 7, .load 3 (.tmp 6), none, []⟩,
  ⟨some 3, .assign (.tmp 7), none, []⟩] [1, 2, 3, 6, 7]) (.seq (.reg [⟨some 4, .assign (.const (.int .i64 1073741824)), none, []⟩] [1, 2, 3, 4, 6, 7]) (.seq (.reg [⟨some 5, .assign (.const (.int .i64 1)), none, []⟩] [1, 2, 3, 4, 5, 6, 7]) (.seq (.reg [⟨some 8, .move (.tmp 3), none, []⟩,
  ⟨some 9, .binOp .eql 3 (.tmp 8) (.const (.int .i64 10)) 3, none, []⟩] [1, 2, 3, 4, 5, 6, 7, 9]) (.seq (.cond (.tmp 9) (.seq (.reg [⟨some 5, .assign (.const (.int .i64 0)), none, []⟩] [1, 2, 3, 4, 5, 6, 7]) .skip) .skip) (.seq (.reg [⟨some 10, .fieldAddr 43 (.tmp 1) 1, none, [12, 13]⟩,
  ⟨some 11, .load 3 (.tmp 10), none, [12, 13]⟩,
  ⟨some 12, .move (.tmp 3), none, [10, 11]⟩,
  ⟨some 13, .call { callee := .value (.func 119), args := #[.tmp 12, .const (.int .u8 98)], argTypes := #[3, 5] }, none, [10, 11]⟩,
  ⟨some 14, .call { callee := .value (.func 147), args := #[.tmp 11, .tmp 13, .const (.int .i64 1), .const (.int .i64 64)], argTypes := #[3, 4, 3, 3] }, none, []⟩,
  ⟨some 15, .unOp .not 4 (.tmp 14), none, []⟩] [1, 2, 3, 4, 5, 6, 7, 15]) (.seq (.cond (.tmp 15) (.seq (.reg [⟨some 16, .fieldAddr 43 (.tmp 1) 1, none, []⟩,
  ⟨some 17, .load 3 (.tmp 16), none, []⟩,
  ⟨some 18, .build 99 #[(0, .const (.string ⟨#[98, 114, 111, 107, 101, 114]⟩)), (1, .tmp 17), (2, .const (.int .i64 2))], none, []⟩,
  ⟨none, .store 99 (.tmp 2) (.tmp 18), none, []⟩] [2]) .ret) .skip) (.seq (.reg [⟨some 19, .fieldAddr 43 (.tmp 1) 2, none, [21, 22, 23]⟩,
  ⟨some 20, .load 3 (.tmp 19), none, [21, 22, 23]⟩,
  ⟨some 21, .move (.tmp 3), none, [19, 20, 23]⟩,
  ⟨some 22, .call { callee := .value (.func 119), args := #[.tmp 21, .const (.int .u8 101)], argTypes := #[3, 5] }, none, [19, 20, 23]⟩,
  ⟨some 23, .move (.tmp 4), none, [19, 20, 21, 22]⟩,
  ⟨some 24, .call { callee := .value (.func 147), args := #[.tmp 20, .tmp 22, .const (.int .i64 0), .tmp 23], argTypes := #[3, 4, 3, 3] }, none, []⟩,
  ⟨some 25, .unOp .not 4 (.tmp 24), none, []⟩] [1, 2, 3, 4, 5, 6, 7, 25]) (.seq (.cond (.tmp 25) (.seq (.reg [⟨some 26, .fieldAddr 43 (.tmp 1) 2, none, []⟩,
  ⟨some 27, .load 3 (.tmp 26), none, []⟩,
  ⟨some 28, .build 99 #[(0, .const (.string ⟨#[101, 112, 111, 99, 104]⟩)), (1, .tmp 27), (2, .const (.int .i64 2))], none, []⟩,
  ⟨none, .store 99 (.tmp 2) (.tmp 28), none, []⟩] [2]) .ret) .skip) (.seq (.reg [⟨some 29, .fieldAddr 43 (.tmp 1) 3, none, [31, 32, 33, 34]⟩,
  ⟨some 30, .load 3 (.tmp 29), none, [31, 32, 33, 34]⟩,
  ⟨some 31, .move (.tmp 3), none, [29, 30, 33, 34]⟩,
  ⟨some 32, .call { callee := .value (.func 119), args := #[.tmp 31, .const (.int .u8 116)], argTypes := #[3, 5] }, none, [29, 30, 33, 34]⟩,
  ⟨some 33, .move (.tmp 5), none, [29, 30, 31, 32, 34]⟩,
  ⟨some 34, .move (.tmp 4), none, [29, 30, 31, 32, 33]⟩,
  ⟨some 35, .call { callee := .value (.func 147), args := #[.tmp 30, .tmp 32, .tmp 33, .tmp 34], argTypes := #[3, 4, 3, 3] }, none, []⟩,
  ⟨some 36, .unOp .not 4 (.tmp 35), none, []⟩] [1, 2, 3, 4, 6, 7, 36]) (.seq (.cond (.tmp 36) (.seq (.reg [⟨some 37, .fieldAddr 43 (.tmp 1) 3, none, []⟩,
  ⟨some 38, .load 3 (.tmp 37), none, []⟩,
  ⟨some 39, .build 99 #[(0, .const (.string ⟨#[116, 111, 112, 105, 99]⟩)), (1, .tmp 38), (2, .const (.int .i64 2))], none, []⟩,
  ⟨none, .store 99 (.tmp 2) (.tmp 39), none, []⟩] [2]) .ret) .skip) (.seq (.reg [⟨some 40, .fieldAddr 43 (.tmp 1) 4, none, [42, 43]⟩,
  ⟨some 41, .load 3 (.tmp 40), none, [42, 43]⟩,
  ⟨some 42, .move (.tmp 3), none, [40, 41]⟩,
  ⟨some 43, .call { callee := .value (.func 119), args := #[.tmp 42, .const (.int .u8 112)], argTypes := #[3, 5] }, none, [40, 41]⟩,
  ⟨some 44, .call { callee := .value (.func 147), args := #[.tmp 41, .tmp 43, .const (.int .i64 0), .const (.int .i64 255)], argTypes := #[3, 4, 3, 3] }, none, []⟩,
  ⟨some 45, .unOp .not 4 (.tmp 44), none, []⟩] [1, 2, 3, 4, 6, 7, 45]) (.seq (.cond (.tmp 45) (.seq (.reg [⟨some 46, .fieldAddr 43 (.tmp 1) 4, none, []⟩,
  ⟨some 47, .load 3 (.tmp 46), none, []⟩,
  ⟨some 48, .build 99 #[(0, .const (.string ⟨#[112, 97, 114, 116]⟩)), (1, .tmp 47), (2, .const (.int .i64 2))], none, []⟩,
  ⟨none, .store 99 (.tmp 2) (.tmp 48), none, []⟩] [2]) .ret) .skip) (.seq (.reg [⟨some 49, .fieldAddr 43 (.tmp 1) 5, none, [51, 52]⟩,
  ⟨some 50, .load 3 (.tmp 49), none, [51, 52]⟩,
  ⟨some 51, .move (.tmp 3), none, [49, 50]⟩,
  ⟨some 52, .call { callee := .value (.func 119), args := #[.tmp 51, .const (.int .u8 108)], argTypes := #[3, 5] }, none, [49, 50]⟩,
  ⟨some 53, .call { callee := .value (.func 147), args := #[.tmp 50, .tmp 52, .const (.int .i64 0), .const (.int .i64 64)], argTypes := #[3, 4, 3, 3] }, none, []⟩,
  ⟨some 54, .unOp .not 4 (.tmp 53), none, []⟩] [1, 2, 3, 4, 6, 7, 54]) (.seq (.cond (.tmp 54) (.seq (.reg [⟨some 55, .fieldAddr 43 (.tmp 1) 5, none, []⟩,
  ⟨some 56, .load 3 (.tmp 55), none, []⟩,
  ⟨some 57, .build 99 #[(0, .const (.string ⟨#[108, 101, 97, 100, 101, 114]⟩)), (1, .tmp 56), (2, .const (.int .i64 2))], none, []⟩,
  ⟨none, .store 99 (.tmp 2) (.tmp 57), none, []⟩] [2]) .ret) .skip) (.seq (.reg [⟨some 58, .fieldAddr 43 (.tmp 1) 6, none, [60, 61, 62]⟩,
  ⟨some 59, .load 3 (.tmp 58), none, [60, 61, 62]⟩,
  ⟨some 60, .move (.tmp 3), none, [58, 59, 62]⟩,
  ⟨some 61, .call { callee := .value (.func 119), args := #[.tmp 60, .const (.int .u8 97)], argTypes := #[3, 5] }, none, [58, 59, 62]⟩,
  ⟨some 62, .move (.tmp 4), none, [58, 59, 60, 61]⟩,
  ⟨some 63, .call { callee := .value (.func 147), args := #[.tmp 59, .tmp 61, .const (.int .i64 1), .tmp 62], argTypes := #[3, 4, 3, 3] }, none, []⟩,
  ⟨some 64, .unOp .not 4 (.tmp 63), none, []⟩,
  ⟨some 65, .move (.tmp 64), none, []⟩,
  ⟨some 66, .fieldAddr 43 (.tmp 1) 7, (some (65, false)), [68, 69, 70]⟩,
  ⟨some 67, .load 3 (.tmp 66), (some (65, false)), [68, 69, 70]⟩,
  ⟨some 68, .move (.tmp 3), (some (65, false)), [66, 67, 70]⟩,
  ⟨some 69, .call { callee := .value (.func 119), args := #[.tmp 68, .const (.int .u8 97)], argTypes := #[3, 5] }, (some (65, false)), [66, 67, 70]⟩,
  ⟨some 70, .move (.tmp 4), (some (65, false)), [66, 67, 68, 69]⟩,
  ⟨some 71, .call { callee := .value (.func 147), args := #[.tmp 67, .tmp 69, .const (.int .i64 1), .tmp 70], argTypes := #[3, 4, 3, 3] }, (some (65, false)), []⟩,
  ⟨some 72, .unOp .not 4 (.tmp 71), (some (65, false)), []⟩,
  ⟨some 73, .pick (.tmp 65) (.const (.bool true)) (.tmp 72), none, []⟩,
  ⟨some 74, .move (.tmp 73), none, []⟩,
  ⟨some 75, .fieldAddr 43 (.tmp 1) 8, (some (74, false)), [77, 78]⟩,
  ⟨some 76, .load 3 (.tmp 75), (some (74, false)), [77, 78]⟩,
  ⟨some 77, .move (.tmp 3), (some (74, false)), [75, 76]⟩,
  ⟨some 78, .call { callee := .value (.func 119), args := #[.tmp 77, .const (.int .u8 97)], argTypes := #[3, 5] }, (some (74, false)), [75, 76]⟩,
  ⟨some 79, .call { callee := .value (.func 147), args := #[.tmp 76, .tmp 78, .const (.int .i64 0), .const (.int .i64 21)], argTypes := #[3, 4, 3, 3] }, (some (74, false)), []⟩,
  ⟨some 80, .unOp .not 4 (.tmp 79), (some (74, false)), []⟩,
  ⟨some 81, .pick (.tmp 74) (.const (.bool true)) (.tmp 80), none, []⟩] [1, 2, 64, 65, 72, 73, 74, 80, 81]) (.seq (.cond (.tmp 81) (.seq (.reg [⟨some 82, .fieldAddr 43 (.tmp 1) 6, none, []⟩,
  ⟨some 83, .load 3 (.tmp 82), none, []⟩,
  ⟨some 84, .build 99 #[(0, .const (.string ⟨#[97, 115, 107, 101, 114]⟩)), (1, .tmp 83), (2, .const (.int .i64 2))], none, []⟩,
  ⟨none, .store 99 (.tmp 2) (.tmp 84), none, []⟩] [2]) .ret) .skip) (.seq (.reg [⟨some 85, .build 99 #[], none, []⟩,
  ⟨none, .store 99 (.tmp 2) (.tmp 85), none, []⟩] [2]) .ret)))))))))))))))))))
theorem s118 : TextK Proofs.Try.prog 0 118 86 [ResultVar.cell 2 99] c118 := .mk' Proofs.Try.f118 _ (by kernel_rfl) rfl rfl rfl (by kernel_rfl) rfl (by kernel_rfl)
theorem ref05_numbers_ok (r : Record) : ACall pg 118 [encR r] (encW (numsW r)) := by
  refine s118.call mo (by simp) fun hxs => ?_
  clear hxs
  unfold c118
  by_cases hk : r.kind = 10
  · have hlow : lowT r.kind = 0 := by simp [lowT, hk]
    repeat' first
        | (with_reducible first | refine thN ?_ | refine thR ?_ | refine thE ?_ | refine inN ?_ | refine inR ?_ | refine inH ?_ | refine fF ?_ | refine fS ?_ | refine fR ?_ | refine fQ ?_ | refine fC ?_ | refine fB ?_ | refine fL ?_ | refine fE ?_ | refine fT ?_ | refine awBlock ?_ | refine awExit ?_ | refine awRet ?_ | refine awSkip ?_ | refine inM (by decide) ?_)
        | ((with_reducible refine awReg fun K hok hK => ?_); clear hok; (try simp (maxSteps := 10000000) (disch := first | omega | simp) []); (repeat' first
            | (with_reducible refine hK _ (by simp) ?_)
            | ((with_reducible refine gdT (fun h => ?_) (fun h => ?_)) <;> (simp (maxSteps := 10000000) (disch := first | omega | simp) [h]; (try simp at h); (try (exfalso; omega))))
            | ((with_reducible refine gdF (fun h => ?_) (fun h => ?_)) <;> (simp (maxSteps := 10000000) (disch := first | omega | simp) [h]; (try simp at h); (try (exfalso; omega))))
            | ((with_reducible refine callS' fun K2 hK2 => ?_); (try simp (maxSteps := 10000000) (disch := first | omega | simp) []); (first | (refine hK2 _ _ (ref05_has_ok _ _) rfl fun hk9 => ?_; clear hk9) | (refine hK2 _ _ (ref05_num_ok _ _ _ _) rfl fun hk9 => ?_; clear hk9)); clear hK2 K2; (try simp (maxSteps := 10000000) (disch := first | omega | simp) []))
            | ((with_reducible refine callF' fun K2 hK2 => ?_); (try simp (maxSteps := 10000000) (disch := first | omega | simp) []); (first | refine hK2 _ _ _ (ref05_has_ok _ _) fun _ => ?_ | refine hK2 _ _ _ (ref05_num_ok _ _ _ _) fun _ => ?_); clear hK2 K2; (try simp (maxSteps := 10000000) (disch := first | omega | simp) []))
            | ((with_reducible refine sideS' fun K2 hK2 => ?_); (try simp (maxSteps := 10000000) (disch := first | omega | simp) []); (first | refine hK2 _ _ (ref05_has_ok _ _) rfl ?_ | refine hK2 _ _ (ref05_num_ok _ _ _ _) rfl ?_); clear hK2 K2; (try simp (maxSteps := 10000000) (disch := first | omega | simp) []))
            | ((with_reducible refine sideF' fun K2 hK2 => ?_); (try simp (maxSteps := 10000000) (disch := first | omega | simp) []); (first | refine hK2 _ _ _ (ref05_has_ok _ _) (by simp) ?_ | refine hK2 _ _ _ (ref05_num_ok _ _ _ _) (by simp) ?_); clear hK2 K2; (try simp (maxSteps := 10000000) (disch := first | omega | simp) []))
            | ((with_reducible refine callCS' fun K2 hK2 => ?_); (try simp (maxSteps := 10000000) (disch := first | omega | simp) []); (first | (refine hK2 _ _ _ _ (ref05_has_ok _ _) rfl fun hk9 => ?_; clear hk9) | (refine hK2 _ _ _ _ (ref05_num_ok _ _ _ _) rfl fun hk9 => ?_; clear hk9)); clear hK2 K2; (try simp (maxSteps := 10000000) (disch := first | omega | simp) []))
            | ((with_reducible refine callC' fun K2 hK2 => ?_); (try simp (maxSteps := 10000000) (disch := first | omega | simp) []); (first | refine hK2 _ _ _ _ _ (ref05_has_ok _ _) fun _ => ?_ | refine hK2 _ _ _ _ _ (ref05_num_ok _ _ _ _) fun _ => ?_); clear hK2 K2; (try simp (maxSteps := 10000000) (disch := first | omega | simp) []))
            | ((with_reducible refine sideCS' fun K2 hK2 => ?_); (try simp (maxSteps := 10000000) (disch := first | omega | simp) []); (first | refine hK2 _ _ _ _ (ref05_has_ok _ _) rfl ?_ | refine hK2 _ _ _ _ (ref05_num_ok _ _ _ _) rfl ?_); clear hK2 K2; (try simp (maxSteps := 10000000) (disch := first | omega | simp) []))
            | ((with_reducible refine sideSt' fun K2 hK2 => ?_); (try simp (maxSteps := 10000000) (disch := first | omega | simp) []); refine hK2 _ ?_; clear hK2 K2; (try simp (maxSteps := 10000000) (disch := first | omega | simp) []))
            | ((with_reducible refine gdU ?_); (try simp (maxSteps := 10000000) (disch := first | omega | simp) []))
            | ((with_reducible refine sideQ' ?_ ?_ fun K2 hK2 => ?_); exact rfl; exact rfl; (try simp (maxSteps := 10000000) (disch := first | omega | simp) []); with_reducible refine hK2 _ _ ?_; clear hK2 K2; (try simp (maxSteps := 10000000) (disch := first | omega | simp) []))
            | ((with_reducible refine side' ?_ fun K2 hK2 => ?_); exact rfl; (try simp (maxSteps := 10000000) (disch := first | omega | simp) []); refine hK2 _ _ (by simp) ?_; clear hK2 K2; (try simp (maxSteps := 10000000) (disch := first | omega | simp) []))) <;> clear hK K)
        | ((with_reducible refine awCond fun A B hA hB => ?_); simp (maxSteps := 10000000) (disch := first | omega | simp) [*]; (first | refine ⟨fun h => hA ?_, fun h => hB ?_⟩ | refine hA ?_ | refine hB ?_) <;> (clear hA hB A B; (try (exfalso; omega))))
    all_goals (refine aEnR (aRes [] fun K hK => ?_); simp (maxSteps := 10000000) (disch := first | omega | simp) [numsW, lowT]; refine hK _ ?_ (by simp); clear hK; first | done | (simp (maxSteps := 10000000) (disch := first | omega | simp) [numsW, lowT, *]; done) | (simp (maxSteps := 10000000) (disch := first | omega | simp) [numsW, lowT, *]; omega) | (simp_all [numsW, lowT]; done) | (simp_all [numsW, lowT]; omega))
  · have hlow : lowT r.kind = 1 := by simp [lowT, hk]
    repeat' first
        | (with_reducible first | refine thN ?_ | refine thR ?_ | refine thE ?_ | refine inN ?_ | refine inR ?_ | refine inH ?_ | refine fF ?_ | refine fS ?_ | refine fR ?_ | refine fQ ?_ | refine fC ?_ | refine fB ?_ | refine fL ?_ | refine fE ?_ | refine fT ?_ | refine awBlock ?_ | refine awExit ?_ | refine awRet ?_ | refine awSkip ?_ | refine inM (by decide) ?_)
        | ((with_reducible refine awReg fun K hok hK => ?_); clear hok; (try simp (maxSteps := 10000000) (disch := first | omega | simp) []); (repeat' first
            | (with_reducible refine hK _ (by simp) ?_)
            | ((with_reducible refine gdT (fun h => ?_) (fun h => ?_)) <;> (simp (maxSteps := 10000000) (disch := first | omega | simp) [h]; (try simp at h); (try (exfalso; omega))))
            | ((with_reducible refine gdF (fun h => ?_) (fun h => ?_)) <;> (simp (maxSteps := 10000000) (disch := first | omega | simp) [h]; (try simp at h); (try (exfalso; omega))))
            | ((with_reducible refine callS' fun K2 hK2 => ?_); (try simp (maxSteps := 10000000) (disch := first | omega | simp) []); (first | (refine hK2 _ _ (ref05_has_ok _ _) rfl fun hk9 => ?_; clear hk9) | (refine hK2 _ _ (ref05_num_ok _ _ _ _) rfl fun hk9 => ?_; clear hk9)); clear hK2 K2; (try simp (maxSteps := 10000000) (disch := first | omega | simp) []))
            | ((with_reducible refine callF' fun K2 hK2 => ?_); (try simp (maxSteps := 10000000) (disch := first | omega | simp) []); (first | refine hK2 _ _ _ (ref05_has_ok _ _) fun _ => ?_ | refine hK2 _ _ _ (ref05_num_ok _ _ _ _) fun _ => ?_); clear hK2 K2; (try simp (maxSteps := 10000000) (disch := first | omega | simp) []))
            | ((with_reducible refine sideS' fun K2 hK2 => ?_); (try simp (maxSteps := 10000000) (disch := first | omega | simp) []); (first | refine hK2 _ _ (ref05_has_ok _ _) rfl ?_ | refine hK2 _ _ (ref05_num_ok _ _ _ _) rfl ?_); clear hK2 K2; (try simp (maxSteps := 10000000) (disch := first | omega | simp) []))
            | ((with_reducible refine sideF' fun K2 hK2 => ?_); (try simp (maxSteps := 10000000) (disch := first | omega | simp) []); (first | refine hK2 _ _ _ (ref05_has_ok _ _) (by simp) ?_ | refine hK2 _ _ _ (ref05_num_ok _ _ _ _) (by simp) ?_); clear hK2 K2; (try simp (maxSteps := 10000000) (disch := first | omega | simp) []))
            | ((with_reducible refine callCS' fun K2 hK2 => ?_); (try simp (maxSteps := 10000000) (disch := first | omega | simp) []); (first | (refine hK2 _ _ _ _ (ref05_has_ok _ _) rfl fun hk9 => ?_; clear hk9) | (refine hK2 _ _ _ _ (ref05_num_ok _ _ _ _) rfl fun hk9 => ?_; clear hk9)); clear hK2 K2; (try simp (maxSteps := 10000000) (disch := first | omega | simp) []))
            | ((with_reducible refine callC' fun K2 hK2 => ?_); (try simp (maxSteps := 10000000) (disch := first | omega | simp) []); (first | refine hK2 _ _ _ _ _ (ref05_has_ok _ _) fun _ => ?_ | refine hK2 _ _ _ _ _ (ref05_num_ok _ _ _ _) fun _ => ?_); clear hK2 K2; (try simp (maxSteps := 10000000) (disch := first | omega | simp) []))
            | ((with_reducible refine sideCS' fun K2 hK2 => ?_); (try simp (maxSteps := 10000000) (disch := first | omega | simp) []); (first | refine hK2 _ _ _ _ (ref05_has_ok _ _) rfl ?_ | refine hK2 _ _ _ _ (ref05_num_ok _ _ _ _) rfl ?_); clear hK2 K2; (try simp (maxSteps := 10000000) (disch := first | omega | simp) []))
            | ((with_reducible refine sideSt' fun K2 hK2 => ?_); (try simp (maxSteps := 10000000) (disch := first | omega | simp) []); refine hK2 _ ?_; clear hK2 K2; (try simp (maxSteps := 10000000) (disch := first | omega | simp) []))
            | ((with_reducible refine gdU ?_); (try simp (maxSteps := 10000000) (disch := first | omega | simp) []))
            | ((with_reducible refine sideQ' ?_ ?_ fun K2 hK2 => ?_); exact rfl; exact rfl; (try simp (maxSteps := 10000000) (disch := first | omega | simp) []); with_reducible refine hK2 _ _ ?_; clear hK2 K2; (try simp (maxSteps := 10000000) (disch := first | omega | simp) []))
            | ((with_reducible refine side' ?_ fun K2 hK2 => ?_); exact rfl; (try simp (maxSteps := 10000000) (disch := first | omega | simp) []); refine hK2 _ _ (by simp) ?_; clear hK2 K2; (try simp (maxSteps := 10000000) (disch := first | omega | simp) []))) <;> clear hK K)
        | ((with_reducible refine awCond fun A B hA hB => ?_); simp (maxSteps := 10000000) (disch := first | omega | simp) [*]; (first | refine ⟨fun h => hA ?_, fun h => hB ?_⟩ | refine hA ?_ | refine hB ?_) <;> (clear hA hB A B; (try (exfalso; omega))))
    all_goals (refine aEnR (aRes [] fun K hK => ?_); simp (maxSteps := 10000000) (disch := first | omega | simp) [numsW, lowT]; refine hK _ ?_ (by simp); clear hK; first | done | (simp (maxSteps := 10000000) (disch := first | omega | simp) [numsW, lowT, *]; done) | (simp (maxSteps := 10000000) (disch := first | omega | simp) [numsW, lowT, *]; omega) | (simp_all [numsW, lowT]; done) | (simp_all [numsW, lowT]; omega))
theorem ref05_name_ok (s : ByteArray) (a : Bool) : ACall pg 120 [St s, B a] (B (if a then nameB s else s.toList == [])) := by
  refine s120.call mo (by simp) fun hxs => ?_
  clear hxs
  unfold c120
  repeat' first
      | (with_reducible first | refine thN ?_ | refine thR ?_ | refine thE ?_ | refine inN ?_ | refine inR ?_ | refine inH ?_ | refine fF ?_ | refine fS ?_ | refine fR ?_ | refine fQ ?_ | refine fC ?_ | refine fB ?_ | refine fL ?_ | refine fE ?_ | refine fT ?_ | refine awBlock ?_ | refine awExit ?_ | refine awRet ?_ | refine awSkip ?_ | refine inM (by decide) ?_)
      | ((with_reducible refine awReg fun K hok hK => ?_); clear hok; (try simp (maxSteps := 10000000) (disch := first | omega | simp) []); (repeat' first
          | (with_reducible refine hK _ (by simp) ?_)
          | ((with_reducible refine gdT (fun h => ?_) (fun h => ?_)) <;> (simp (maxSteps := 10000000) (disch := first | omega | simp) [h]; (try simp at h); (try (exfalso; omega))))
          | ((with_reducible refine gdF (fun h => ?_) (fun h => ?_)) <;> (simp (maxSteps := 10000000) (disch := first | omega | simp) [h]; (try simp at h); (try (exfalso; omega))))
          | ((with_reducible refine callS' fun K2 hK2 => ?_); (try simp (maxSteps := 10000000) (disch := first | omega | simp) []); (first | (refine hK2 _ _ (ref05_Name_ok s) rfl fun hk9 => ?_; clear hk9)); clear hK2 K2; (try simp (maxSteps := 10000000) (disch := first | omega | simp) []))
          | ((with_reducible refine callF' fun K2 hK2 => ?_); (try simp (maxSteps := 10000000) (disch := first | omega | simp) []); (first | refine hK2 _ _ _ (ref05_Name_ok s) fun _ => ?_); clear hK2 K2; (try simp (maxSteps := 10000000) (disch := first | omega | simp) []))
          | ((with_reducible refine sideS' fun K2 hK2 => ?_); (try simp (maxSteps := 10000000) (disch := first | omega | simp) []); (first | refine hK2 _ _ (ref05_Name_ok s) rfl ?_); clear hK2 K2; (try simp (maxSteps := 10000000) (disch := first | omega | simp) []))
          | ((with_reducible refine sideF' fun K2 hK2 => ?_); (try simp (maxSteps := 10000000) (disch := first | omega | simp) []); (first | refine hK2 _ _ _ (ref05_Name_ok s) (by simp) ?_); clear hK2 K2; (try simp (maxSteps := 10000000) (disch := first | omega | simp) []))
          | ((with_reducible refine callCS' fun K2 hK2 => ?_); (try simp (maxSteps := 10000000) (disch := first | omega | simp) []); (first | (refine hK2 _ _ _ _ (ref05_Name_ok s) rfl fun hk9 => ?_; clear hk9)); clear hK2 K2; (try simp (maxSteps := 10000000) (disch := first | omega | simp) []))
          | ((with_reducible refine callC' fun K2 hK2 => ?_); (try simp (maxSteps := 10000000) (disch := first | omega | simp) []); (first | refine hK2 _ _ _ _ _ (ref05_Name_ok s) fun _ => ?_); clear hK2 K2; (try simp (maxSteps := 10000000) (disch := first | omega | simp) []))
          | ((with_reducible refine sideCS' fun K2 hK2 => ?_); (try simp (maxSteps := 10000000) (disch := first | omega | simp) []); (first | refine hK2 _ _ _ _ (ref05_Name_ok s) rfl ?_); clear hK2 K2; (try simp (maxSteps := 10000000) (disch := first | omega | simp) []))
          | ((with_reducible refine sideSt' fun K2 hK2 => ?_); (try simp (maxSteps := 10000000) (disch := first | omega | simp) []); refine hK2 _ ?_; clear hK2 K2; (try simp (maxSteps := 10000000) (disch := first | omega | simp) []))
          | ((with_reducible refine gdU ?_); (try simp (maxSteps := 10000000) (disch := first | omega | simp) []))
          | ((with_reducible refine sideQ' ?_ ?_ fun K2 hK2 => ?_); exact rfl; exact rfl; (try simp (maxSteps := 10000000) (disch := first | omega | simp) []); with_reducible refine hK2 _ _ ?_; clear hK2 K2; (try simp (maxSteps := 10000000) (disch := first | omega | simp) []))
          | ((with_reducible refine side' ?_ fun K2 hK2 => ?_); exact rfl; (try simp (maxSteps := 10000000) (disch := first | omega | simp) []); refine hK2 _ _ (by simp) ?_; clear hK2 K2; (try simp (maxSteps := 10000000) (disch := first | omega | simp) []))) <;> clear hK K)
      | ((with_reducible refine awCond fun A B hA hB => ?_); simp (maxSteps := 10000000) (disch := first | omega | simp) [*]; (first | refine ⟨fun h => hA ?_, fun h => hB ?_⟩ | refine hA ?_ | refine hB ?_) <;> (clear hA hB A B; (try (exfalso; omega))))
  all_goals (refine aEnR (aRes [] fun K hK => ?_); simp (maxSteps := 10000000) (disch := first | omega | simp) []; refine hK _ ?_ (by simp); clear hK; first | done | (simp (maxSteps := 10000000) (disch := first | omega | simp) [*]; done) | (simp (maxSteps := 10000000) (disch := first | omega | simp) [*]; omega) | (simp_all []; done) | (simp_all []; omega))
theorem ref05_row_ok (l : List Int) (a : Bool) : ACall pg 121 [Li l, B a] (B (if a then brokersB l else l.length == 0)) := by
  refine s121.call mo (by simp) fun hxs => ?_
  clear hxs
  unfold c121
  repeat' first
      | (with_reducible first | refine thN ?_ | refine thR ?_ | refine thE ?_ | refine inN ?_ | refine inR ?_ | refine inH ?_ | refine fF ?_ | refine fS ?_ | refine fR ?_ | refine fQ ?_ | refine fC ?_ | refine fB ?_ | refine fL ?_ | refine fE ?_ | refine fT ?_ | refine awBlock ?_ | refine awExit ?_ | refine awRet ?_ | refine awSkip ?_ | refine inM (by decide) ?_)
      | ((with_reducible refine awReg fun K hok hK => ?_); clear hok; (try simp (maxSteps := 10000000) (disch := first | omega | simp) []); (repeat' first
          | (with_reducible refine hK _ (by simp) ?_)
          | ((with_reducible refine gdT (fun h => ?_) (fun h => ?_)) <;> (simp (maxSteps := 10000000) (disch := first | omega | simp) [h]; (try simp at h); (try (exfalso; omega))))
          | ((with_reducible refine gdF (fun h => ?_) (fun h => ?_)) <;> (simp (maxSteps := 10000000) (disch := first | omega | simp) [h]; (try simp at h); (try (exfalso; omega))))
          | ((with_reducible refine callS' fun K2 hK2 => ?_); (try simp (maxSteps := 10000000) (disch := first | omega | simp) []); (first | (refine hK2 _ _ (ref05_Brokers_ok l) rfl fun hk9 => ?_; clear hk9)); clear hK2 K2; (try simp (maxSteps := 10000000) (disch := first | omega | simp) []))
          | ((with_reducible refine callF' fun K2 hK2 => ?_); (try simp (maxSteps := 10000000) (disch := first | omega | simp) []); (first | refine hK2 _ _ _ (ref05_Brokers_ok l) fun _ => ?_); clear hK2 K2; (try simp (maxSteps := 10000000) (disch := first | omega | simp) []))
          | ((with_reducible refine sideS' fun K2 hK2 => ?_); (try simp (maxSteps := 10000000) (disch := first | omega | simp) []); (first | refine hK2 _ _ (ref05_Brokers_ok l) rfl ?_); clear hK2 K2; (try simp (maxSteps := 10000000) (disch := first | omega | simp) []))
          | ((with_reducible refine sideF' fun K2 hK2 => ?_); (try simp (maxSteps := 10000000) (disch := first | omega | simp) []); (first | refine hK2 _ _ _ (ref05_Brokers_ok l) (by simp) ?_); clear hK2 K2; (try simp (maxSteps := 10000000) (disch := first | omega | simp) []))
          | ((with_reducible refine callCS' fun K2 hK2 => ?_); (try simp (maxSteps := 10000000) (disch := first | omega | simp) []); (first | (refine hK2 _ _ _ _ (ref05_Brokers_ok l) rfl fun hk9 => ?_; clear hk9)); clear hK2 K2; (try simp (maxSteps := 10000000) (disch := first | omega | simp) []))
          | ((with_reducible refine callC' fun K2 hK2 => ?_); (try simp (maxSteps := 10000000) (disch := first | omega | simp) []); (first | refine hK2 _ _ _ _ _ (ref05_Brokers_ok l) fun _ => ?_); clear hK2 K2; (try simp (maxSteps := 10000000) (disch := first | omega | simp) []))
          | ((with_reducible refine sideCS' fun K2 hK2 => ?_); (try simp (maxSteps := 10000000) (disch := first | omega | simp) []); (first | refine hK2 _ _ _ _ (ref05_Brokers_ok l) rfl ?_); clear hK2 K2; (try simp (maxSteps := 10000000) (disch := first | omega | simp) []))
          | ((with_reducible refine sideSt' fun K2 hK2 => ?_); (try simp (maxSteps := 10000000) (disch := first | omega | simp) []); refine hK2 _ ?_; clear hK2 K2; (try simp (maxSteps := 10000000) (disch := first | omega | simp) []))
          | ((with_reducible refine gdU ?_); (try simp (maxSteps := 10000000) (disch := first | omega | simp) []))
          | ((with_reducible refine sideQ' ?_ ?_ fun K2 hK2 => ?_); exact rfl; exact rfl; (try simp (maxSteps := 10000000) (disch := first | omega | simp) []); with_reducible refine hK2 _ _ ?_; clear hK2 K2; (try simp (maxSteps := 10000000) (disch := first | omega | simp) []))
          | ((with_reducible refine side' ?_ fun K2 hK2 => ?_); exact rfl; (try simp (maxSteps := 10000000) (disch := first | omega | simp) []); refine hK2 _ _ (by simp) ?_; clear hK2 K2; (try simp (maxSteps := 10000000) (disch := first | omega | simp) []))) <;> clear hK K)
      | ((with_reducible refine awCond fun A B hA hB => ?_); simp (maxSteps := 10000000) (disch := first | omega | simp) [*]; (first | refine ⟨fun h => hA ?_, fun h => hB ?_⟩ | refine hA ?_ | refine hB ?_) <;> (clear hA hB A B; (try (exfalso; omega))))
  all_goals (cases l <;> (refine aEnR (aRes [] fun K hK => ?_); simp (maxSteps := 10000000) (disch := first | omega | simp) []; refine hK _ ?_ (by simp); clear hK; first | done | (simp (maxSteps := 10000000) (disch := first | omega | simp) [*]; done) | (simp (maxSteps := 10000000) (disch := first | omega | simp) [*]; omega) | (simp_all []; done) | (simp_all []; omega)))
theorem ref05_name_ok' (s : ByteArray) (a : Bool) : ACall pg 120 [St s, B a] (B (nmB s a)) := ref05_name_ok s a
theorem ref05_row_ok' (l : List Int) (a : Bool) : ACall pg 121 [Li l, B a] (B (rwB l a)) := ref05_row_ok l a
end
end Go.Am
