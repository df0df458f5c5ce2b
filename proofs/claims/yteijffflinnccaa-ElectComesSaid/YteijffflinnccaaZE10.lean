/- Part of the proof of ElectLeaves. -/
import Derived.Test.YteijffflinnccaaZE5c
import Derived.Test.YteijffflinnccaaZE9
import Derived.Test.YteijffflinnccaaZPu14
set_option linter.all false
set_option maxRecDepth 100000
set_option maxHeartbeats 0
namespace Go.Am
open Go
noncomputable section
def c4 : SC := (.seq (.reg [⟨some 4, .assign (.const (.bool false)), none, []⟩] [0, 1, 18, 25, 41, 130]) (.seq (.reg [⟨some 15, .move (.tmp 0), none, []⟩,
  ⟨some 16, .call { callee := .value (.func 14), args := #[.tmp 15], argTypes := #[22] }, none, []⟩,
  ⟨some 17, .unOp .not 4 (.tmp 16), none, []⟩] [0, 1, 17, 18, 25, 41, 130]) (.seq (.cond (.tmp 17) (.seq (.reg [⟨some 18, .call { callee := .value (.func 15), args := #[], argTypes := #[] }, none, []⟩,
  ⟨some 4, .assign (.tmp 18), none, []⟩] [4, 18, 25, 41, 130]) .ret) .skip) (.seq (.reg [⟨some 19, .move (.tmp 0), none, []⟩,
  ⟨some 20, .call { callee := .value (.func 16), args := #[.tmp 19], argTypes := #[22] }, none, []⟩,
  ⟨some 5, .alloc 30, none, []⟩,
  ⟨none, .store 30 (.tmp 5) (.tmp 20), none, []⟩] [1, 5, 18, 25, 41, 130]) (.seq (.reg [⟨some 21, .fieldAddr 30 (.tmp 5) 0, none, []⟩,
  ⟨some 22, .load 25 (.tmp 21), none, []⟩,
  ⟨some 23, .call { callee := .builtin .len, args := #[.tmp 22], argTypes := #[25] }, none, []⟩,
  ⟨some 24, .binOp .eql 3 (.tmp 23) (.const (.int .i64 0)) 3, none, []⟩] [1, 5, 18, 24, 25, 41, 130]) (.seq (.cond (.tmp 24) (.seq (.reg [⟨some 25, .call { callee := .value (.func 15), args := #[], argTypes := #[] }, none, []⟩,
  ⟨some 4, .assign (.tmp 25), none, []⟩] [4, 18, 25, 41, 130]) .ret) .skip) (.seq (.reg [⟨some 26, .fieldAddr 30 (.tmp 5) 0, none, [28, 29, 30, 31, 32, 33, 34, 35, 6]⟩,
  ⟨some 27, .load 25 (.tmp 26), none, [28, 29, 30, 31, 32, 33, 34, 35, 6]⟩,
  ⟨some 28, .move (.tmp 1), none, [26, 27, 30, 31, 32, 33, 6]⟩,
  ⟨some 29, .convert 3 34 (.tmp 28), none, [26, 27, 30, 31, 32, 33, 6]⟩,
  ⟨some 30, .fieldAddr 30 (.tmp 5) 0, none, [26, 27, 28, 29, 6]⟩,
  ⟨some 31, .load 25 (.tmp 30), none, [26, 27, 28, 29, 6]⟩,
  ⟨some 32, .call { callee := .builtin .len, args := #[.tmp 31], argTypes := #[25] }, none, [26, 27, 28, 29, 6]⟩,
  ⟨some 33, .convert 3 34 (.tmp 32), none, [26, 27, 28, 29, 6]⟩,
  ⟨some 34, .binOp .rem 34 (.tmp 29) (.tmp 33) 34, none, [26, 27, 6]⟩,
  ⟨some 35, .convert 34 3 (.tmp 34), none, [26, 27, 6]⟩,
  ⟨some 36, .indexAddr 25 (.tmp 27) (.tmp 35), none, [6]⟩,
  ⟨some 37, .load 33 (.tmp 36), none, [6]⟩,
  ⟨some 6, .alloc 33, none, [26, 27, 28, 29, 30, 31, 32, 33, 34, 35, 36, 37]⟩,
  ⟨none, .store 33 (.tmp 6) (.tmp 37), none, []⟩] [5, 6, 18, 25, 41, 130]) (.seq (.reg [⟨some 38, .fieldAddr 33 (.tmp 6) 3, none, []⟩,
  ⟨some 39, .load 4 (.tmp 38), none, []⟩,
  ⟨some 40, .unOp .not 4 (.tmp 39), none, []⟩] [5, 6, 18, 25, 40, 41, 130]) (.seq (.cond (.tmp 40) (.seq (.reg [⟨some 41, .call { callee := .value (.func 15), args := #[], argTypes := #[] }, none, []⟩,
  ⟨some 4, .assign (.tmp 41), none, []⟩] [4, 18, 25, 41, 130]) .ret) .skip) (.seq (.reg [⟨some 43, .load 30 (.tmp 5), none, []⟩,
  ⟨some 44, .fieldAddr 33 (.tmp 6) 0, none, []⟩,
  ⟨some 45, .load 3 (.tmp 44), none, []⟩,
  ⟨some 46, .fieldAddr 33 (.tmp 6) 1, none, []⟩,
  ⟨some 47, .load 3 (.tmp 46), none, []⟩,
  ⟨some 48, .build 43 #[(0, .const (.int .i64 4)), (1, .tmp 45), (2, .tmp 47)], none, []⟩,
  ⟨some 49, .call { callee := .value (.func 20), args := #[.tmp 43, .tmp 48], argTypes := #[30, 43] }, none, []⟩,
  ⟨some 42, .move (.tmp 49), none, []⟩,
  ⟨some 50, .extract (.tmp 42) 0, none, []⟩,
  ⟨some 51, .extract (.tmp 42) 1, none, []⟩,
  ⟨some 7, .alloc 30, none, []⟩,
  ⟨none, .store 30 (.tmp 7) (.tmp 50), none, []⟩,
  ⟨some 8, .assign (.tmp 51), none, []⟩] [5, 6, 7, 8, 18, 25, 41, 42, 49, 51, 130]) (.seq (.reg [⟨some 53, .load 30 (.tmp 7), none, [54, 55, 56, 57, 9]⟩,
  ⟨some 54, .load 30 (.tmp 5), none, [53, 55, 56, 9]⟩,
  ⟨some 55, .fieldAddr 33 (.tmp 6) 0, none, [53, 54, 9]⟩,
  ⟨some 56, .load 3 (.tmp 55), none, [53, 54, 9]⟩,
  ⟨some 57, .call { callee := .value (.func 22), args := #[.tmp 54, .tmp 56], argTypes := #[30, 3] }, none, [53, 9]⟩,
  ⟨some 58, .call { callee := .value (.func 17), args := #[.tmp 53, .tmp 57], argTypes := #[30, 22] }, none, [9]⟩,
  ⟨some 52, .move (.tmp 58), none, [9]⟩,
  ⟨some 59, .extract (.tmp 52) 0, none, [60, 9]⟩,
  ⟨some 60, .extract (.tmp 52) 1, none, [59, 9, 9]⟩,
  ⟨some 9, .alloc 30, none, [53, 54, 55, 56, 57, 58, 52, 59, 60]⟩,
  ⟨none, .store 30 (.tmp 9) (.tmp 59), none, [60]⟩,
  ⟨some 10, .assign (.tmp 60), none, []⟩] [5, 6, 8, 9, 10, 18, 25, 41, 42, 49, 51, 52, 58, 60, 130]) (.seq (.reg [⟨some 61, .move (.tmp 8), none, []⟩,
  ⟨some 62, .binOp .neq 35 (.tmp 61) (.const (.int .i64 0)) 35, none, []⟩,
  ⟨some 63, .move (.tmp 62), none, []⟩,
  ⟨some 64, .move (.tmp 10), (some (63, false)), []⟩,
  ⟨some 65, .binOp .neq 35 (.tmp 64) (.const (.int .i64 0)) 35, (some (63, false)), []⟩,
  ⟨some 66, .pick (.tmp 63) (.const (.bool true)) (.tmp 65), none, []⟩] [5, 6, 9, 18, 25, 41, 62, 63, 65, 66, 130]) (.seq (.cond (.tmp 66) (.seq (.reg [⟨some 4, .assign (.const (.bool false)), none, []⟩] [4, 18, 25, 41, 130]) .ret) .skip) (.seq (.reg [⟨some 11, .assign (.const (.int .i64 0)), none, []⟩] [5, 6, 9, 11, 18, 25, 41, 73, 130]) (.seq (.block 0 (.seq (.loop (.seq (.reg [⟨some 67, .move (.tmp 11), none, []⟩,
  ⟨some 68, .fieldAddr 30 (.tmp 5) 1, none, []⟩,
  ⟨some 69, .load 26 (.tmp 68), none, []⟩,
  ⟨some 70, .call { callee := .builtin .len, args := #[.tmp 69], argTypes := #[26] }, none, []⟩,
  ⟨some 71, .binOp .lss 3 (.tmp 67) (.tmp 70) 3, none, []⟩] [5, 6, 9, 11, 18, 25, 41, 71, 73, 130]) (.seq (.cond (.tmp 71) .skip (.exit 0)) (.seq (.block 1 (.seq (.reg [⟨some 12, .assign (.const (.int .i64 0)), none, []⟩] [5, 6, 9, 11, 12, 18, 25, 41, 73, 84, 130]) (.seq (.block 2 (.seq (.loop (.seq (.reg [⟨some 74, .move (.tmp 12), none, []⟩,
  ⟨some 75, .fieldAddr 30 (.tmp 5) 1, none, []⟩,
  ⟨some 76, .load 26 (.tmp 75), none, []⟩,
  ⟨some 77, .move (.tmp 11), none, []⟩,
  ⟨some 78, .indexAddr 26 (.tmp 76) (.tmp 77), none, []⟩,
  ⟨some 79, .fieldAddr 46 (.tmp 78) 2, none, []⟩,
  ⟨some 80, .load 44 (.tmp 79), none, []⟩,
  ⟨some 81, .call { callee := .builtin .len, args := #[.tmp 80], argTypes := #[44] }, none, []⟩,
  ⟨some 82, .binOp .lss 3 (.tmp 74) (.tmp 81) 3, none, []⟩] [5, 6, 9, 11, 12, 18, 25, 41, 73, 82, 84, 130]) (.seq (.cond (.tmp 82) .skip (.exit 2)) (.seq (.block 3 (.seq (.reg [⟨some 85, .fieldAddr 30 (.tmp 5) 1, none, [87, 91, 94, 95, 96, 97, 98, 99, 100, 101, 102, 13, 14]⟩,
  ⟨some 86, .load 26 (.tmp 85), none, [87, 91, 94, 95, 96, 97, 98, 99, 100, 101, 102, 13, 14]⟩,
  ⟨some 87, .move (.tmp 11), none, [85, 86, 91, 94, 95, 96, 97, 98, 99, 100, 101, 102, 13, 14]⟩,
  ⟨some 88, .indexAddr 26 (.tmp 86) (.tmp 87), none, [91, 94, 95, 96, 97, 98, 99, 100, 101, 102, 13, 14]⟩,
  ⟨some 89, .fieldAddr 46 (.tmp 88) 2, none, [91, 94, 95, 96, 97, 98, 99, 100, 101, 102, 13, 14]⟩,
  ⟨some 90, .load 44 (.tmp 89), none, [91, 94, 95, 96, 97, 98, 99, 100, 101, 102, 13, 14]⟩,
  ⟨some 91, .move (.tmp 12), none, [85, 86, 87, 88, 89, 90, 94, 95, 96, 97, 98, 99, 100, 101, 102, 13, 14]⟩,
  ⟨some 92, .indexAddr 44 (.tmp 90) (.tmp 91), none, [94, 95, 96, 97, 98, 99, 100, 101, 102, 13, 14]⟩,
  ⟨some 93, .load 48 (.tmp 92), none, [94, 95, 96, 97, 98, 99, 100, 101, 102, 13, 14]⟩,
  ⟨some 94, .fieldAddr 30 (.tmp 9) 1, none, [85, 86, 87, 88, 89, 90, 91, 92, 93, 96, 100, 13, 14, 13]⟩,
  ⟨some 95, .load 26 (.tmp 94), none, [85, 86, 87, 88, 89, 90, 91, 92, 93, 96, 100, 13, 14, 13]⟩,
  ⟨some 96, .move (.tmp 11), none, [85, 86, 87, 88, 89, 90, 91, 92, 93, 94, 95, 100, 13, 14, 13]⟩,
  ⟨some 97, .indexAddr 26 (.tmp 95) (.tmp 96), none, [85, 86, 87, 88, 89, 90, 91, 92, 93, 100, 13, 14, 13]⟩,
  ⟨some 98, .fieldAddr 46 (.tmp 97) 2, none, [85, 86, 87, 88, 89, 90, 91, 92, 93, 100, 13, 14, 13]⟩,
  ⟨some 99, .load 44 (.tmp 98), none, [85, 86, 87, 88, 89, 90, 91, 92, 93, 100, 13, 14, 13]⟩,
  ⟨some 100, .move (.tmp 12), none, [85, 86, 87, 88, 89, 90, 91, 92, 93, 94, 95, 96, 97, 98, 99, 13, 14, 13]⟩,
  ⟨some 101, .indexAddr 44 (.tmp 99) (.tmp 100), none, [85, 86, 87, 88, 89, 90, 91, 92, 93, 13, 14, 13]⟩,
  ⟨some 102, .load 48 (.tmp 101), none, [85, 86, 87, 88, 89, 90, 91, 92, 93, 13, 14, 13]⟩,
  ⟨some 13, .alloc 48, none, [85, 86, 87, 88, 89, 90, 91, 92, 93, 94, 95, 96, 97, 98, 99, 100, 101, 102, 14]⟩,
  ⟨some 14, .alloc 48, none, [85, 86, 87, 88, 89, 90, 91, 92, 93, 94, 95, 96, 97, 98, 99, 100, 101, 102, 13]⟩,
  ⟨none, .store 48 (.tmp 13) (.tmp 93), none, [94, 95, 96, 97, 98, 99, 100, 101, 102]⟩,
  ⟨none, .store 48 (.tmp 14) (.tmp 102), none, []⟩] [5, 6, 9, 11, 12, 13, 14, 18, 25, 41, 73, 84, 130]) (.seq (.reg [⟨some 103, .fieldAddr 48 (.tmp 13) 2, none, []⟩,
  ⟨some 104, .load 3 (.tmp 103), none, []⟩,
  ⟨some 105, .binOp .neq 3 (.tmp 104) (.const (.int .i64 0)) 3, none, []⟩,
  ⟨some 106, .move (.tmp 105), none, []⟩,
  ⟨some 107, .fieldAddr 48 (.tmp 14) 2, (some (106, true)), []⟩,
  ⟨some 108, .load 3 (.tmp 107), (some (106, true)), []⟩,
  ⟨some 109, .fieldAddr 48 (.tmp 13) 2, (some (106, true)), []⟩,
  ⟨some 110, .load 3 (.tmp 109), (some (106, true)), []⟩,
  ⟨some 111, .binOp .neq 3 (.tmp 108) (.tmp 110) 3, (some (106, true)), []⟩,
  ⟨some 112, .pick (.tmp 106) (.tmp 111) (.const (.bool false)), none, []⟩,
  ⟨some 113, .move (.tmp 112), none, []⟩,
  ⟨some 114, .fieldAddr 48 (.tmp 13) 2, (some (113, false)), []⟩,
  ⟨some 115, .load 3 (.tmp 114), (some (113, false)), []⟩,
  ⟨some 116, .binOp .eql 3 (.tmp 115) (.const (.int .i64 0)) 3, (some (113, false)), []⟩,
  ⟨some 117, .move (.tmp 116), (some (113, false)), []⟩,
  ⟨some 118, .fieldAddr 48 (.tmp 14) 2, (some (117, true)), []⟩,
  ⟨some 119, .load 3 (.tmp 118), (some (117, true)), []⟩,
  ⟨some 120, .binOp .eql 3 (.tmp 119) (.const (.int .i64 0)) 3, (some (117, true)), []⟩,
  ⟨some 121, .pick (.tmp 117) (.tmp 120) (.const (.bool false)), (some (113, false)), []⟩,
  ⟨some 122, .move (.tmp 121), (some (113, false)), []⟩,
  ⟨some 123, .fieldAddr 48 (.tmp 13) 1, (some (122, true)), []⟩,
  ⟨some 124, .load 41 (.tmp 123), (some (122, true)), []⟩,
  ⟨some 125, .fieldAddr 33 (.tmp 6) 0, (some (122, true)), []⟩,
  ⟨some 126, .load 3 (.tmp 125), (some (122, true)), []⟩,
  ⟨some 127, .call { callee := .value (.func 23), args := #[.tmp 124, .tmp 126], argTypes := #[41, 3] }, (some (122, true)), []⟩,
  ⟨some 128, .pick (.tmp 122) (.tmp 127) (.const (.bool false)), (some (113, false)), []⟩,
  ⟨some 129, .pick (.tmp 113) (.const (.bool true)) (.tmp 128), none, []⟩] [5, 6, 9, 11, 12, 18, 25, 41, 73, 84, 105, 106, 111, 112, 113, 116, 117, 120, 121, 122, 127, 128, 129, 130]) (.seq (.cond (.tmp 129) (.seq (.reg [⟨some 4, .assign (.const (.bool false)), none, []⟩] [4, 18, 25, 41, 130]) .ret) .skip) .skip)))) (.seq (.reg [⟨some 83, .move (.tmp 12), none, []⟩,
  ⟨some 84, .binOp .add 3 (.tmp 83) (.const (.int .i64 1)) 3, none, []⟩,
  ⟨some 12, .assign (.tmp 84), none, []⟩] [5, 6, 9, 11, 12, 18, 25, 41, 73, 84, 130]) .skip))))) .skip)) .skip))) (.seq (.reg [⟨some 72, .move (.tmp 11), none, []⟩,
  ⟨some 73, .binOp .add 3 (.tmp 72) (.const (.int .i64 1)) 3, none, []⟩,
  ⟨some 11, .assign (.tmp 73), none, []⟩] [5, 6, 9, 11, 18, 25, 41, 73, 130]) .skip))))) .skip)) (.seq (.reg [⟨some 130, .call { callee := .value (.func 15), args := #[], argTypes := #[] }, none, []⟩,
  ⟨some 4, .assign (.tmp 130), none, []⟩] [4, 18, 25, 41, 130]) .ret))))))))))))))))
theorem s4 : TextK Proofs.Try.prog 0 4 131 [ResultVar.tmp 4] c4 := .mk' Proofs.Try.f4 _ (by kernel_rfl) rfl rfl rfl (by kernel_rfl) rfl (by kernel_rfl)
theorem comes_walk (l : List Record) (n : Int) : ACall pg 4 [.sl (l.map encR), I n] (B true) := by
  refine s4.call mo (by simp) fun hxs => ?_
  clear hxs
  unfold c4
  by_cases hl : l.length ≤ 80
  · have hinv := made_inv l (by omega)
    have hpre := hinv.pre (by omega)
    by_cases hb0 : (made l).brokers.length = 0
    · repeat' first
          | (with_reducible first | refine thN ?_ | refine thR ?_ | refine thE ?_ | refine inN ?_ | refine inR ?_ | refine inH ?_ | refine fF ?_ | refine fS ?_ | refine fR ?_ | refine fQ ?_ | refine fC ?_ | refine fB ?_ | refine fL ?_ | refine fE ?_ | refine fT ?_ | refine awBlock ?_ | refine awExit ?_ | refine awRet ?_ | refine awSkip ?_ | refine inM (by decide) ?_)
          | ((with_reducible refine awReg fun K hok hK => ?_); clear hok; (try simp (maxSteps := 10000000) (disch := first | omega | simp) [hl, hb0]); (repeat' first
              | (with_reducible refine hK _ (by simp) ?_)
              | ((with_reducible refine gdT (fun h => ?_) (fun h => ?_)) <;> (simp (maxSteps := 10000000) (disch := first | omega | simp) [h, hl, hb0]; (try simp at h); (try (exfalso; omega))))
              | ((with_reducible refine gdF (fun h => ?_) (fun h => ?_)) <;> (simp (maxSteps := 10000000) (disch := first | omega | simp) [h, hl, hb0]; (try simp at h); (try (exfalso; omega))))
              | ((with_reducible refine callS' fun K2 hK2 => ?_); (try simp (maxSteps := 10000000) (disch := first | omega | simp) [hl, hb0]); (first | (refine hK2 _ _ (light_ok l) rfl fun hk9 => ?_; clear hk9) | (refine hK2 _ _ (works_ok) rfl fun hk9 => ?_; clear hk9) | (refine hK2 _ _ (made_ok l (by omega)) rfl fun hk9 => ?_; clear hk9)); clear hK2 K2; (try simp (maxSteps := 10000000) (disch := first | omega | simp) [hl, hb0]))
              | ((with_reducible refine callF' fun K2 hK2 => ?_); (try simp (maxSteps := 10000000) (disch := first | omega | simp) [hl, hb0]); (first | refine hK2 _ _ _ (light_ok l) fun _ => ?_ | refine hK2 _ _ _ (works_ok) fun _ => ?_ | refine hK2 _ _ _ (made_ok l (by omega)) fun _ => ?_); clear hK2 K2; (try simp (maxSteps := 10000000) (disch := first | omega | simp) [hl, hb0]))
              | ((with_reducible refine sideS' fun K2 hK2 => ?_); (try simp (maxSteps := 10000000) (disch := first | omega | simp) [hl, hb0]); (first | refine hK2 _ _ (light_ok l) rfl ?_ | refine hK2 _ _ (works_ok) rfl ?_ | refine hK2 _ _ (made_ok l (by omega)) rfl ?_); clear hK2 K2; (try simp (maxSteps := 10000000) (disch := first | omega | simp) [hl, hb0]))
              | ((with_reducible refine sideF' fun K2 hK2 => ?_); (try simp (maxSteps := 10000000) (disch := first | omega | simp) [hl, hb0]); (first | refine hK2 _ _ _ (light_ok l) (by simp) ?_ | refine hK2 _ _ _ (works_ok) (by simp) ?_ | refine hK2 _ _ _ (made_ok l (by omega)) (by simp) ?_); clear hK2 K2; (try simp (maxSteps := 10000000) (disch := first | omega | simp) [hl, hb0]))
              | ((with_reducible refine sideSt' fun K2 hK2 => ?_); (try simp (maxSteps := 10000000) (disch := first | omega | simp) [hl, hb0]); refine hK2 _ ?_; clear hK2 K2; (try simp (maxSteps := 10000000) (disch := first | omega | simp) [hl, hb0]))
              | ((with_reducible refine gdU ?_); (try simp (maxSteps := 10000000) (disch := first | omega | simp) [hl, hb0]))
              | ((with_reducible refine sideQ' ?_ ?_ fun K2 hK2 => ?_); exact rfl; exact rfl; (try simp (maxSteps := 10000000) (disch := first | omega | simp) [hl, hb0]); with_reducible refine hK2 _ _ ?_; clear hK2 K2; (try simp (maxSteps := 10000000) (disch := first | omega | simp) [hl, hb0]))
              | ((with_reducible refine side' ?_ fun K2 hK2 => ?_); exact rfl; (try simp (maxSteps := 10000000) (disch := first | omega | simp) [hl, hb0]); refine hK2 _ _ (by simp) ?_; clear hK2 K2; (try simp (maxSteps := 10000000) (disch := first | omega | simp) [hl, hb0]))) <;> clear hK K)
          | ((with_reducible refine awCond fun A B hA hB => ?_); simp (maxSteps := 10000000) (disch := first | omega | simp) [hl, hb0]; (first | refine ⟨fun h => hA ?_, fun h => hB ?_⟩ | refine hA ?_ | refine hB ?_) <;> (clear hA hB A B; (try (exfalso; omega))))
      all_goals (refine aEnR (aRes [] fun K hK => ?_); simp (maxSteps := 10000000) (disch := first | omega | simp) []; refine hK _ ?_ (by simp); clear hK; first | done | (simp (maxSteps := 10000000) (disch := first | omega | simp) [*]; done) | (simp (maxSteps := 10000000) (disch := first | omega | simp) [*]; omega) | (simp_all []; done) | (simp_all []; omega))
    · obtain ⟨j, hj, hje⟩ := at_mod n (made l).brokers.length (by omega) (by have := hpre.bl; omega)
      have hu : IntKind.u64.wrap ((made l).brokers.length : Int) = (made l).brokers.length := by have := hpre.bl; simp [IntKind.wrap, IntKind.signed, IntKind.bits]; omega
      have hne : (made l).brokers ≠ [] := by intro e; rw [e] at hb0; simp at hb0
      generalize hm : made l = m at *
      have hbm : m.brokers[j] ∈ m.brokers := List.getElem_mem hj
      generalize hbb : m.brokers[j] = b at hbm
      have hbr := hinv.br b hbm
      have hmk : ACall pg 16 [.sl (l.map encR)] (encM m) := by rw [← hm]; exact made_ok l (by omega)
      by_cases hfn : b.fenced = true
      · have hop := open_ok hinv.bs hbm (by omega) hfn
        have hinvo : (m.opened b.id).Inv (l.length + 1) := by have := hinv.apply (by omega) (openR b); rw [hop] at this; exact this
        have hob := opened_broker hinv.bs hbm
        have hpro := hinvo.pre (by omega)
        have hbk : (m.opened b.id).Brk := ⟨hinvo.bs, fun b hb => by have := hinvo.br b hb; omega, by have := hinvo.bl; omega⟩
        have hsm : m.Sml := ⟨hpre.tl, hpre.pl, fun t ht p hp => small_of (hinv.pr t ht p hp).2⟩
        have hpr : ∀ t ∈ m.topics, ∀ p ∈ t.parts, (m.opened b.id).Right p ∧ p.Rows (l.length + 1) := hinvo.pr
        have hnx : ∀ t ∈ m.topics, ∀ p ∈ t.parts, (m.opened b.id).Next p ((m.opened b.id).gain p) := fun t ht p hp => gain_next (by omega) (hpr t ht p hp).1 (hpr t ht p hp).2
        have hco := come_ok m b.id hpre hsm hbk (fun t ht p hp => big_of (hpr t ht p hp).2) (fun t ht p hp => by have := (hpr t ht p hp).2.ep; omega) (fun t ht p hp => small_of (hnx t ht p hp).rows)
        have hap := apply_ok m (openR b) hpre
        rw [hop] at hap
        have hall := all_ok2 (m.opened b.id) (m.come b.id) Image.Pre hpro (fun s h => h) (fun s r hr hs => changes_pre (fun t ht p hp => by have := (hnx t ht p hp).rows.ep; omega) s r hr hs) (changes_len hinv (by omega) _)
        have hac : (m.opened b.id).all (m.changes fun p => (m.opened b.id).gain p) = ((m.opened b.id).mapParts fun p => (m.opened b.id).gain p, 0) := all_changes hinvo (by omega) (fun p => (m.opened b.id).gain p) (fun t ht p hp _ => hnx t ht p hp)
        rw [show m.come b.id = m.changes (fun p => (m.opened b.id).gain p) from rfl] at hall hco
        rw [hac] at hall
        generalize hnxt : (m.opened b.id).mapParts (fun p => (m.opened b.id).gain p) = nx at hall
        simp only at hap hall
        generalize hopn : m.opened b.id = op at *
        repeat' first
            | (with_reducible first | refine thN ?_ | refine thR ?_ | refine thE ?_ | refine inN ?_ | refine inR ?_ | refine inH ?_ | refine fF ?_ | refine fS ?_ | refine fR ?_ | refine fQ ?_ | refine fC ?_ | refine fB ?_ | refine fL ?_ | refine fE ?_ | refine fT ?_ | refine awBlock ?_ | refine awExit ?_ | refine awRet ?_ | refine awSkip ?_ | refine inM (by decide) ?_)
            | ((with_reducible refine awReg fun K hok hK => ?_); clear hok; (try simp (maxSteps := 10000000) (disch := first | omega | simp) [hl, hu, hje, hne, hbb, hfn]); (repeat' first
                | (with_reducible refine hK _ (by simp) ?_)
                | ((with_reducible refine gdT (fun h => ?_) (fun h => ?_)) <;> (simp (maxSteps := 10000000) (disch := first | omega | simp) [h, hl, hu, hje, hne, hbb, hfn]; (try simp at h); (try (exfalso; omega))))
                | ((with_reducible refine gdF (fun h => ?_) (fun h => ?_)) <;> (simp (maxSteps := 10000000) (disch := first | omega | simp) [h, hl, hu, hje, hne, hbb, hfn]; (try simp at h); (try (exfalso; omega))))
                | ((with_reducible refine callS' fun K2 hK2 => ?_); (try simp (maxSteps := 10000000) (disch := first | omega | simp) [hl, hu, hje, hne, hbb, hfn]); (first | (refine hK2 _ _ (light_ok l) rfl fun hk9 => ?_; clear hk9) | (refine hK2 _ _ (works_ok) rfl fun hk9 => ?_; clear hk9) | (refine hK2 _ _ (hmk) rfl fun hk9 => ?_; clear hk9) | (refine hK2 _ _ (hco) rfl fun hk9 => ?_; clear hk9) | (refine hK2 _ _ (hall) rfl fun hk9 => ?_; clear hk9) | (refine hK2 _ _ (hap) rfl fun hk9 => ?_; clear hk9)); clear hK2 K2; (try simp (maxSteps := 10000000) (disch := first | omega | simp) [hl, hu, hje, hne, hbb, hfn]))
                | ((with_reducible refine callF' fun K2 hK2 => ?_); (try simp (maxSteps := 10000000) (disch := first | omega | simp) [hl, hu, hje, hne, hbb, hfn]); (first | refine hK2 _ _ _ (light_ok l) fun _ => ?_ | refine hK2 _ _ _ (works_ok) fun _ => ?_ | refine hK2 _ _ _ (hmk) fun _ => ?_ | refine hK2 _ _ _ (hco) fun _ => ?_ | refine hK2 _ _ _ (hall) fun _ => ?_ | refine hK2 _ _ _ (hap) fun _ => ?_); clear hK2 K2; (try simp (maxSteps := 10000000) (disch := first | omega | simp) [hl, hu, hje, hne, hbb, hfn]))
                | ((with_reducible refine sideS' fun K2 hK2 => ?_); (try simp (maxSteps := 10000000) (disch := first | omega | simp) [hl, hu, hje, hne, hbb, hfn]); (first | refine hK2 _ _ (light_ok l) rfl ?_ | refine hK2 _ _ (works_ok) rfl ?_ | refine hK2 _ _ (hmk) rfl ?_ | refine hK2 _ _ (hco) rfl ?_ | refine hK2 _ _ (hall) rfl ?_ | refine hK2 _ _ (hap) rfl ?_); clear hK2 K2; (try simp (maxSteps := 10000000) (disch := first | omega | simp) [hl, hu, hje, hne, hbb, hfn]))
                | ((with_reducible refine sideF' fun K2 hK2 => ?_); (try simp (maxSteps := 10000000) (disch := first | omega | simp) [hl, hu, hje, hne, hbb, hfn]); (first | refine hK2 _ _ _ (light_ok l) (by simp) ?_ | refine hK2 _ _ _ (works_ok) (by simp) ?_ | refine hK2 _ _ _ (hmk) (by simp) ?_ | refine hK2 _ _ _ (hco) (by simp) ?_ | refine hK2 _ _ _ (hall) (by simp) ?_ | refine hK2 _ _ _ (hap) (by simp) ?_); clear hK2 K2; (try simp (maxSteps := 10000000) (disch := first | omega | simp) [hl, hu, hje, hne, hbb, hfn]))
                | ((with_reducible refine callT' rfl fun K2 hK2 => ?_); (try simp (maxSteps := 10000000) (disch := first | omega | simp) [hl, hu, hje, hne, hbb, hfn]); (first | refine hK2 _ _ _ _ _ (hmk) fun _ => ?_ | refine hK2 _ _ _ _ _ (hco) fun _ => ?_ | refine hK2 _ _ _ _ _ (hall) fun _ => ?_ | refine hK2 _ _ _ _ _ (hap) fun _ => ?_); clear hK2 K2; (try simp (maxSteps := 10000000) (disch := first | omega | simp) [hl, hu, hje, hne, hbb, hfn]))
                | ((with_reducible refine callM' rfl fun K2 hK2 => ?_); (try simp (maxSteps := 10000000) (disch := first | omega | simp) [hl, hu, hje, hne, hbb, hfn]); (first | refine hK2 _ _ _ _ _ _ _ (hmk) rfl fun _ _ => ?_ | refine hK2 _ _ _ _ _ _ _ (hco) rfl fun _ _ => ?_ | refine hK2 _ _ _ _ _ _ _ (hall) rfl fun _ _ => ?_ | refine hK2 _ _ _ _ _ _ _ (hap) rfl fun _ _ => ?_); clear hK2 K2; (try simp (maxSteps := 10000000) (disch := first | omega | simp) [hl, hu, hje, hne, hbb, hfn]))
                | ((with_reducible refine sideSt' fun K2 hK2 => ?_); (try simp (maxSteps := 10000000) (disch := first | omega | simp) [hl, hu, hje, hne, hbb, hfn]); refine hK2 _ ?_; clear hK2 K2; (try simp (maxSteps := 10000000) (disch := first | omega | simp) [hl, hu, hje, hne, hbb, hfn]))
                | ((with_reducible refine gdU ?_); (try simp (maxSteps := 10000000) (disch := first | omega | simp) [hl, hu, hje, hne, hbb, hfn]))
                | ((with_reducible refine sideQ' ?_ ?_ fun K2 hK2 => ?_); exact rfl; exact rfl; (try simp (maxSteps := 10000000) (disch := first | omega | simp) [hl, hu, hje, hne, hbb, hfn]); with_reducible refine hK2 _ _ ?_; clear hK2 K2; (try simp (maxSteps := 10000000) (disch := first | omega | simp) [hl, hu, hje, hne, hbb, hfn]))
                | ((with_reducible refine side' ?_ fun K2 hK2 => ?_); exact rfl; (try simp (maxSteps := 10000000) (disch := first | omega | simp) [hl, hu, hje, hne, hbb, hfn]); refine hK2 _ _ (by simp) ?_; clear hK2 K2; (try simp (maxSteps := 10000000) (disch := first | omega | simp) [hl, hu, hje, hne, hbb, hfn]))) <;> clear hK K)
            | ((with_reducible refine awCond fun A B hA hB => ?_); simp (maxSteps := 10000000) (disch := first | omega | simp) [hl, hu, hje, hne, hbb, hfn]; (first | refine ⟨fun h => hA ?_, fun h => hB ?_⟩ | refine hA ?_ | refine hB ?_) <;> (clear hA hB A B; (try (exfalso; omega))))
        refine awFor m.topics.length (fun i (_ : Unit) => True) (fun i _ => [(11, .p (I i)), (9, .p (.own (encM nx).cells)), (6, .p (.own (encB b).cells)), (5, .p (.own (encM m).cells))]) () (Wk.ofA (by simp [*])) trivial fun i _ hi _ => ?_
        by_cases hlt : i < m.topics.length
        · have htm := List.getElem_mem hlt
          have hpl := hpre.pl _ htm
          have htl := hpre.tl
          have hti : nx.topics[i]? = some ⟨m.topics[i].id, m.topics[i].name, m.topics[i].parts.map fun p => op.gain p⟩ := by rw [← hnxt]; subst hopn; simp [Image.mapParts, Image.opened, hlt]
          repeat' first
              | (with_reducible first | refine thN ?_ | refine thR ?_ | refine thE ?_ | refine inN ?_ | refine inR ?_ | refine inH ?_ | refine fF ?_ | refine fS ?_ | refine fR ?_ | refine fQ ?_ | refine fC ?_ | refine fB ?_ | refine fL ?_ | refine fE ?_ | refine fT ?_ | refine awBlock ?_ | refine awExit ?_ | refine awRet ?_ | refine awSkip ?_ | refine inM (by decide) ?_)
              | ((with_reducible refine awReg fun K hok hK => ?_); clear hok; (try simp (maxSteps := 10000000) (disch := first | omega | simp) []); (repeat' first
                  | (with_reducible refine hK _ (by simp) ?_)
                  | ((with_reducible refine gdT (fun h => ?_) (fun h => ?_)) <;> (simp (maxSteps := 10000000) (disch := first | omega | simp) [h]; (try simp at h); (try (exfalso; omega))))
                  | ((with_reducible refine gdF (fun h => ?_) (fun h => ?_)) <;> (simp (maxSteps := 10000000) (disch := first | omega | simp) [h]; (try simp at h); (try (exfalso; omega))))
                  | ((with_reducible refine sideSt' fun K2 hK2 => ?_); (try simp (maxSteps := 10000000) (disch := first | omega | simp) []); refine hK2 _ ?_; clear hK2 K2; (try simp (maxSteps := 10000000) (disch := first | omega | simp) []))
                  | ((with_reducible refine gdU ?_); (try simp (maxSteps := 10000000) (disch := first | omega | simp) []))
                  | ((with_reducible refine sideQ' ?_ ?_ fun K2 hK2 => ?_); exact rfl; exact rfl; (try simp (maxSteps := 10000000) (disch := first | omega | simp) []); with_reducible refine hK2 _ _ ?_; clear hK2 K2; (try simp (maxSteps := 10000000) (disch := first | omega | simp) []))
                  | ((with_reducible refine side' ?_ fun K2 hK2 => ?_); exact rfl; (try simp (maxSteps := 10000000) (disch := first | omega | simp) []); refine hK2 _ _ (by simp) ?_; clear hK2 K2; (try simp (maxSteps := 10000000) (disch := first | omega | simp) []))) <;> clear hK K)
              | ((with_reducible refine awCond fun A B hA hB => ?_); simp (maxSteps := 10000000) (disch := first | omega | simp) []; (first | refine ⟨fun h => hA ?_, fun h => hB ?_⟩ | refine hA ?_ | refine hB ?_) <;> (clear hA hB A B; (try (exfalso; omega))))
          refine awFor m.topics[i].parts.length (fun k (_ : Unit) => True) (fun k _ => [(12, .p (I k)), (11, .p (I i)), (9, .p (.own (encM nx).cells)), (6, .p (.own (encB b).cells)), (5, .p (.own (encM m).cells))]) () (Wk.ofA (by simp)) trivial fun k _ hk _ => ?_
          by_cases hkt : k < m.topics[i].parts.length
          · have hpm := List.getElem_mem hkt
            have hrw := (hpr _ htm _ hpm)
            have hne0 : ∀ x ∈ m.topics[i].parts[k].ids, x ≠ 0 := fun x hx => by have := hrw.2.ids; simp only [brokersB, decide_eq_true_eq] at this; have := this.2.1 x hx; omega
            have hgl := gain_leader op m.topics[i].parts[k]
            have hgc := gain_come (p := m.topics[i].parts[k]) hob (by omega) hrw.1 hne0
            have hha := has_ok m.topics[i].parts[k].isr b.id
            repeat' first
                | (with_reducible first | refine thN ?_ | refine thR ?_ | refine thE ?_ | refine inN ?_ | refine inR ?_ | refine inH ?_ | refine fF ?_ | refine fS ?_ | refine fR ?_ | refine fQ ?_ | refine fC ?_ | refine fB ?_ | refine fL ?_ | refine fE ?_ | refine fT ?_ | refine awBlock ?_ | refine awExit ?_ | refine awRet ?_ | refine awSkip ?_ | refine inM (by decide) ?_)
                | ((with_reducible refine awReg fun K hok hK => ?_); clear hok; (try simp (maxSteps := 10000000) (disch := first | omega | simp) [hti]); (repeat' first
                    | (with_reducible refine hK _ (by simp) ?_)
                    | ((with_reducible refine gdT (fun h => ?_) (fun h => ?_)) <;> (simp (maxSteps := 10000000) (disch := first | omega | simp) [h, hti]; (try simp at h); (try (exfalso; omega))))
                    | ((with_reducible refine gdF (fun h => ?_) (fun h => ?_)) <;> (simp (maxSteps := 10000000) (disch := first | omega | simp) [h, hti]; (try simp at h); (try (exfalso; omega))))
                    | ((with_reducible refine callS' fun K2 hK2 => ?_); (try simp (maxSteps := 10000000) (disch := first | omega | simp) [hti]); (first | (refine hK2 _ _ (hha) rfl fun hk9 => ?_; clear hk9)); clear hK2 K2; (try simp (maxSteps := 10000000) (disch := first | omega | simp) [hti]))
                    | ((with_reducible refine callF' fun K2 hK2 => ?_); (try simp (maxSteps := 10000000) (disch := first | omega | simp) [hti]); (first | refine hK2 _ _ _ (hha) fun _ => ?_); clear hK2 K2; (try simp (maxSteps := 10000000) (disch := first | omega | simp) [hti]))
                    | ((with_reducible refine sideS' fun K2 hK2 => ?_); (try simp (maxSteps := 10000000) (disch := first | omega | simp) [hti]); (first | refine hK2 _ _ (hha) rfl ?_); clear hK2 K2; (try simp (maxSteps := 10000000) (disch := first | omega | simp) [hti]))
                    | ((with_reducible refine sideF' fun K2 hK2 => ?_); (try simp (maxSteps := 10000000) (disch := first | omega | simp) [hti]); (first | refine hK2 _ _ _ (hha) (by simp) ?_); clear hK2 K2; (try simp (maxSteps := 10000000) (disch := first | omega | simp) [hti]))
                    | ((with_reducible refine callT' rfl fun K2 hK2 => ?_); (try simp (maxSteps := 10000000) (disch := first | omega | simp) [hti]); (first | refine hK2 _ _ _ _ _ (hha) fun _ => ?_); clear hK2 K2; (try simp (maxSteps := 10000000) (disch := first | omega | simp) [hti]))
                    | ((with_reducible refine callM' rfl fun K2 hK2 => ?_); (try simp (maxSteps := 10000000) (disch := first | omega | simp) [hti]); (first | refine hK2 _ _ _ _ _ _ _ (hha) rfl fun _ _ => ?_); clear hK2 K2; (try simp (maxSteps := 10000000) (disch := first | omega | simp) [hti]))
                    | ((with_reducible refine sideSt' fun K2 hK2 => ?_); (try simp (maxSteps := 10000000) (disch := first | omega | simp) [hti]); refine hK2 _ ?_; clear hK2 K2; (try simp (maxSteps := 10000000) (disch := first | omega | simp) [hti]))
                    | ((with_reducible refine gdU ?_); (try simp (maxSteps := 10000000) (disch := first | omega | simp) [hti]))
                    | ((with_reducible refine sideQ' ?_ ?_ fun K2 hK2 => ?_); exact rfl; exact rfl; (try simp (maxSteps := 10000000) (disch := first | omega | simp) [hti]); with_reducible refine hK2 _ _ ?_; clear hK2 K2; (try simp (maxSteps := 10000000) (disch := first | omega | simp) [hti]))
                    | ((with_reducible refine side' ?_ fun K2 hK2 => ?_); exact rfl; (try simp (maxSteps := 10000000) (disch := first | omega | simp) [hti]); refine hK2 _ _ (by simp) ?_; clear hK2 K2; (try simp (maxSteps := 10000000) (disch := first | omega | simp) [hti]))) <;> clear hK K)
                | ((with_reducible refine awCond fun A B hA hB => ?_); simp (maxSteps := 10000000) (disch := first | omega | simp) [hti]; (first | refine ⟨fun h => hA ?_, fun h => hB ?_⟩ | refine hA ?_ | refine hB ?_) <;> (clear hA hB A B; (try (exfalso; omega))))
            all_goals first
              | ((refine ⟨?_, (), ?_, Wk.ofA ?_⟩; assumption; rotate_left; focus (simp []; done))
                 trivial)
              | (exfalso
                 split at hgl <;> simp_all)
          · repeat' first
                | (with_reducible first | refine thN ?_ | refine thR ?_ | refine thE ?_ | refine inN ?_ | refine inR ?_ | refine inH ?_ | refine fF ?_ | refine fS ?_ | refine fR ?_ | refine fQ ?_ | refine fC ?_ | refine fB ?_ | refine fL ?_ | refine fE ?_ | refine fT ?_ | refine awBlock ?_ | refine awExit ?_ | refine awRet ?_ | refine awSkip ?_ | refine inM (by decide) ?_)
                | ((with_reducible refine awReg fun K hok hK => ?_); clear hok; (try simp (maxSteps := 10000000) (disch := first | omega | simp) []); (repeat' first
                    | (with_reducible refine hK _ (by simp) ?_)
                    | ((with_reducible refine gdT (fun h => ?_) (fun h => ?_)) <;> (simp (maxSteps := 10000000) (disch := first | omega | simp) [h]; (try simp at h); (try (exfalso; omega))))
                    | ((with_reducible refine gdF (fun h => ?_) (fun h => ?_)) <;> (simp (maxSteps := 10000000) (disch := first | omega | simp) [h]; (try simp at h); (try (exfalso; omega))))
                    | ((with_reducible refine sideSt' fun K2 hK2 => ?_); (try simp (maxSteps := 10000000) (disch := first | omega | simp) []); refine hK2 _ ?_; clear hK2 K2; (try simp (maxSteps := 10000000) (disch := first | omega | simp) []))
                    | ((with_reducible refine gdU ?_); (try simp (maxSteps := 10000000) (disch := first | omega | simp) []))
                    | ((with_reducible refine sideQ' ?_ ?_ fun K2 hK2 => ?_); exact rfl; exact rfl; (try simp (maxSteps := 10000000) (disch := first | omega | simp) []); with_reducible refine hK2 _ _ ?_; clear hK2 K2; (try simp (maxSteps := 10000000) (disch := first | omega | simp) []))
                    | ((with_reducible refine side' ?_ fun K2 hK2 => ?_); exact rfl; (try simp (maxSteps := 10000000) (disch := first | omega | simp) []); refine hK2 _ _ (by simp) ?_; clear hK2 K2; (try simp (maxSteps := 10000000) (disch := first | omega | simp) []))) <;> clear hK K)
                | ((with_reducible refine awCond fun A B hA hB => ?_); simp (maxSteps := 10000000) (disch := first | omega | simp) []; (first | refine ⟨fun h => hA ?_, fun h => hB ?_⟩ | refine hA ?_ | refine hB ?_) <;> (clear hA hB A B; (try (exfalso; omega))))
            (refine ⟨?_, (), ?_, Wk.ofA ?_⟩; assumption; rotate_left; focus (simp []; done))
            trivial
        · repeat' first
              | (with_reducible first | refine thN ?_ | refine thR ?_ | refine thE ?_ | refine inN ?_ | refine inR ?_ | refine inH ?_ | refine fF ?_ | refine fS ?_ | refine fR ?_ | refine fQ ?_ | refine fC ?_ | refine fB ?_ | refine fL ?_ | refine fE ?_ | refine fT ?_ | refine awBlock ?_ | refine awExit ?_ | refine awRet ?_ | refine awSkip ?_ | refine inM (by decide) ?_)
              | ((with_reducible refine awReg fun K hok hK => ?_); clear hok; (try simp (maxSteps := 10000000) (disch := first | omega | simp) []); (repeat' first
                  | (with_reducible refine hK _ (by simp) ?_)
                  | ((with_reducible refine gdT (fun h => ?_) (fun h => ?_)) <;> (simp (maxSteps := 10000000) (disch := first | omega | simp) [h]; (try simp at h); (try (exfalso; omega))))
                  | ((with_reducible refine gdF (fun h => ?_) (fun h => ?_)) <;> (simp (maxSteps := 10000000) (disch := first | omega | simp) [h]; (try simp at h); (try (exfalso; omega))))
                  | ((with_reducible refine callS' fun K2 hK2 => ?_); (try simp (maxSteps := 10000000) (disch := first | omega | simp) []); (first | (refine hK2 _ _ (works_ok) rfl fun hk9 => ?_; clear hk9)); clear hK2 K2; (try simp (maxSteps := 10000000) (disch := first | omega | simp) []))
                  | ((with_reducible refine callF' fun K2 hK2 => ?_); (try simp (maxSteps := 10000000) (disch := first | omega | simp) []); (first | refine hK2 _ _ _ (works_ok) fun _ => ?_); clear hK2 K2; (try simp (maxSteps := 10000000) (disch := first | omega | simp) []))
                  | ((with_reducible refine sideS' fun K2 hK2 => ?_); (try simp (maxSteps := 10000000) (disch := first | omega | simp) []); (first | refine hK2 _ _ (works_ok) rfl ?_); clear hK2 K2; (try simp (maxSteps := 10000000) (disch := first | omega | simp) []))
                  | ((with_reducible refine sideF' fun K2 hK2 => ?_); (try simp (maxSteps := 10000000) (disch := first | omega | simp) []); (first | refine hK2 _ _ _ (works_ok) (by simp) ?_); clear hK2 K2; (try simp (maxSteps := 10000000) (disch := first | omega | simp) []))
                  | ((with_reducible refine sideSt' fun K2 hK2 => ?_); (try simp (maxSteps := 10000000) (disch := first | omega | simp) []); refine hK2 _ ?_; clear hK2 K2; (try simp (maxSteps := 10000000) (disch := first | omega | simp) []))
                  | ((with_reducible refine gdU ?_); (try simp (maxSteps := 10000000) (disch := first | omega | simp) []))
                  | ((with_reducible refine sideQ' ?_ ?_ fun K2 hK2 => ?_); exact rfl; exact rfl; (try simp (maxSteps := 10000000) (disch := first | omega | simp) []); with_reducible refine hK2 _ _ ?_; clear hK2 K2; (try simp (maxSteps := 10000000) (disch := first | omega | simp) []))
                  | ((with_reducible refine side' ?_ fun K2 hK2 => ?_); exact rfl; (try simp (maxSteps := 10000000) (disch := first | omega | simp) []); refine hK2 _ _ (by simp) ?_; clear hK2 K2; (try simp (maxSteps := 10000000) (disch := first | omega | simp) []))) <;> clear hK K)
              | ((with_reducible refine awCond fun A B hA hB => ?_); simp (maxSteps := 10000000) (disch := first | omega | simp) []; (first | refine ⟨fun h => hA ?_, fun h => hB ?_⟩ | refine hA ?_ | refine hB ?_) <;> (clear hA hB A B; (try (exfalso; omega))))
          (refine aEnR (aRes [] fun K hK => ?_); simp (maxSteps := 10000000) (disch := first | omega | simp) []; refine hK _ ?_ (by simp); clear hK; first | done | (simp (maxSteps := 10000000) (disch := first | omega | simp) [*]; done) | (simp (maxSteps := 10000000) (disch := first | omega | simp) [*]; omega) | (simp_all []; done) | (simp_all []; omega))
      · have hfn : b.fenced = false := by simpa using hfn
        repeat' first
            | (with_reducible first | refine thN ?_ | refine thR ?_ | refine thE ?_ | refine inN ?_ | refine inR ?_ | refine inH ?_ | refine fF ?_ | refine fS ?_ | refine fR ?_ | refine fQ ?_ | refine fC ?_ | refine fB ?_ | refine fL ?_ | refine fE ?_ | refine fT ?_ | refine awBlock ?_ | refine awExit ?_ | refine awRet ?_ | refine awSkip ?_ | refine inM (by decide) ?_)
            | ((with_reducible refine awReg fun K hok hK => ?_); clear hok; (try simp (maxSteps := 10000000) (disch := first | omega | simp) [hl, hu, hje, hne, hbb, hfn]); (repeat' first
                | (with_reducible refine hK _ (by simp) ?_)
                | ((with_reducible refine gdT (fun h => ?_) (fun h => ?_)) <;> (simp (maxSteps := 10000000) (disch := first | omega | simp) [h, hl, hu, hje, hne, hbb, hfn]; (try simp at h); (try (exfalso; omega))))
                | ((with_reducible refine gdF (fun h => ?_) (fun h => ?_)) <;> (simp (maxSteps := 10000000) (disch := first | omega | simp) [h, hl, hu, hje, hne, hbb, hfn]; (try simp at h); (try (exfalso; omega))))
                | ((with_reducible refine callS' fun K2 hK2 => ?_); (try simp (maxSteps := 10000000) (disch := first | omega | simp) [hl, hu, hje, hne, hbb, hfn]); (first | (refine hK2 _ _ (light_ok l) rfl fun hk9 => ?_; clear hk9) | (refine hK2 _ _ (works_ok) rfl fun hk9 => ?_; clear hk9) | (refine hK2 _ _ (hmk) rfl fun hk9 => ?_; clear hk9)); clear hK2 K2; (try simp (maxSteps := 10000000) (disch := first | omega | simp) [hl, hu, hje, hne, hbb, hfn]))
                | ((with_reducible refine callF' fun K2 hK2 => ?_); (try simp (maxSteps := 10000000) (disch := first | omega | simp) [hl, hu, hje, hne, hbb, hfn]); (first | refine hK2 _ _ _ (light_ok l) fun _ => ?_ | refine hK2 _ _ _ (works_ok) fun _ => ?_ | refine hK2 _ _ _ (hmk) fun _ => ?_); clear hK2 K2; (try simp (maxSteps := 10000000) (disch := first | omega | simp) [hl, hu, hje, hne, hbb, hfn]))
                | ((with_reducible refine sideS' fun K2 hK2 => ?_); (try simp (maxSteps := 10000000) (disch := first | omega | simp) [hl, hu, hje, hne, hbb, hfn]); (first | refine hK2 _ _ (light_ok l) rfl ?_ | refine hK2 _ _ (works_ok) rfl ?_ | refine hK2 _ _ (hmk) rfl ?_); clear hK2 K2; (try simp (maxSteps := 10000000) (disch := first | omega | simp) [hl, hu, hje, hne, hbb, hfn]))
                | ((with_reducible refine sideF' fun K2 hK2 => ?_); (try simp (maxSteps := 10000000) (disch := first | omega | simp) [hl, hu, hje, hne, hbb, hfn]); (first | refine hK2 _ _ _ (light_ok l) (by simp) ?_ | refine hK2 _ _ _ (works_ok) (by simp) ?_ | refine hK2 _ _ _ (hmk) (by simp) ?_); clear hK2 K2; (try simp (maxSteps := 10000000) (disch := first | omega | simp) [hl, hu, hje, hne, hbb, hfn]))
                | ((with_reducible refine callT' rfl fun K2 hK2 => ?_); (try simp (maxSteps := 10000000) (disch := first | omega | simp) [hl, hu, hje, hne, hbb, hfn]); (first | refine hK2 _ _ _ _ _ (hmk) fun _ => ?_); clear hK2 K2; (try simp (maxSteps := 10000000) (disch := first | omega | simp) [hl, hu, hje, hne, hbb, hfn]))
                | ((with_reducible refine callM' rfl fun K2 hK2 => ?_); (try simp (maxSteps := 10000000) (disch := first | omega | simp) [hl, hu, hje, hne, hbb, hfn]); (first | refine hK2 _ _ _ _ _ _ _ (hmk) rfl fun _ _ => ?_); clear hK2 K2; (try simp (maxSteps := 10000000) (disch := first | omega | simp) [hl, hu, hje, hne, hbb, hfn]))
                | ((with_reducible refine sideSt' fun K2 hK2 => ?_); (try simp (maxSteps := 10000000) (disch := first | omega | simp) [hl, hu, hje, hne, hbb, hfn]); refine hK2 _ ?_; clear hK2 K2; (try simp (maxSteps := 10000000) (disch := first | omega | simp) [hl, hu, hje, hne, hbb, hfn]))
                | ((with_reducible refine gdU ?_); (try simp (maxSteps := 10000000) (disch := first | omega | simp) [hl, hu, hje, hne, hbb, hfn]))
                | ((with_reducible refine sideQ' ?_ ?_ fun K2 hK2 => ?_); exact rfl; exact rfl; (try simp (maxSteps := 10000000) (disch := first | omega | simp) [hl, hu, hje, hne, hbb, hfn]); with_reducible refine hK2 _ _ ?_; clear hK2 K2; (try simp (maxSteps := 10000000) (disch := first | omega | simp) [hl, hu, hje, hne, hbb, hfn]))
                | ((with_reducible refine side' ?_ fun K2 hK2 => ?_); exact rfl; (try simp (maxSteps := 10000000) (disch := first | omega | simp) [hl, hu, hje, hne, hbb, hfn]); refine hK2 _ _ (by simp) ?_; clear hK2 K2; (try simp (maxSteps := 10000000) (disch := first | omega | simp) [hl, hu, hje, hne, hbb, hfn]))) <;> clear hK K)
            | ((with_reducible refine awCond fun A B hA hB => ?_); simp (maxSteps := 10000000) (disch := first | omega | simp) [hl, hu, hje, hne, hbb, hfn]; (first | refine ⟨fun h => hA ?_, fun h => hB ?_⟩ | refine hA ?_ | refine hB ?_) <;> (clear hA hB A B; (try (exfalso; omega))))
        all_goals (refine aEnR (aRes [] fun K hK => ?_); simp (maxSteps := 10000000) (disch := first | omega | simp) []; refine hK _ ?_ (by simp); clear hK; first | done | (simp (maxSteps := 10000000) (disch := first | omega | simp) [*]; done) | (simp (maxSteps := 10000000) (disch := first | omega | simp) [*]; omega) | (simp_all []; done) | (simp_all []; omega))
  · repeat' first
        | (with_reducible first | refine thN ?_ | refine thR ?_ | refine thE ?_ | refine inN ?_ | refine inR ?_ | refine inH ?_ | refine fF ?_ | refine fS ?_ | refine fR ?_ | refine fQ ?_ | refine fC ?_ | refine fB ?_ | refine fL ?_ | refine fE ?_ | refine fT ?_ | refine awBlock ?_ | refine awExit ?_ | refine awRet ?_ | refine awSkip ?_ | refine inM (by decide) ?_)
        | ((with_reducible refine awReg fun K hok hK => ?_); clear hok; (try simp (maxSteps := 10000000) (disch := first | omega | simp) [hl]); (repeat' first
            | (with_reducible refine hK _ (by simp) ?_)
            | ((with_reducible refine gdT (fun h => ?_) (fun h => ?_)) <;> (simp (maxSteps := 10000000) (disch := first | omega | simp) [h, hl]; (try simp at h); (try (exfalso; omega))))
            | ((with_reducible refine gdF (fun h => ?_) (fun h => ?_)) <;> (simp (maxSteps := 10000000) (disch := first | omega | simp) [h, hl]; (try simp at h); (try (exfalso; omega))))
            | ((with_reducible refine callS' fun K2 hK2 => ?_); (try simp (maxSteps := 10000000) (disch := first | omega | simp) [hl]); (first | (refine hK2 _ _ (light_ok l) rfl fun hk9 => ?_; clear hk9) | (refine hK2 _ _ (works_ok) rfl fun hk9 => ?_; clear hk9)); clear hK2 K2; (try simp (maxSteps := 10000000) (disch := first | omega | simp) [hl]))
            | ((with_reducible refine callF' fun K2 hK2 => ?_); (try simp (maxSteps := 10000000) (disch := first | omega | simp) [hl]); (first | refine hK2 _ _ _ (light_ok l) fun _ => ?_ | refine hK2 _ _ _ (works_ok) fun _ => ?_); clear hK2 K2; (try simp (maxSteps := 10000000) (disch := first | omega | simp) [hl]))
            | ((with_reducible refine sideS' fun K2 hK2 => ?_); (try simp (maxSteps := 10000000) (disch := first | omega | simp) [hl]); (first | refine hK2 _ _ (light_ok l) rfl ?_ | refine hK2 _ _ (works_ok) rfl ?_); clear hK2 K2; (try simp (maxSteps := 10000000) (disch := first | omega | simp) [hl]))
            | ((with_reducible refine sideF' fun K2 hK2 => ?_); (try simp (maxSteps := 10000000) (disch := first | omega | simp) [hl]); (first | refine hK2 _ _ _ (light_ok l) (by simp) ?_ | refine hK2 _ _ _ (works_ok) (by simp) ?_); clear hK2 K2; (try simp (maxSteps := 10000000) (disch := first | omega | simp) [hl]))
            | ((with_reducible refine sideSt' fun K2 hK2 => ?_); (try simp (maxSteps := 10000000) (disch := first | omega | simp) [hl]); refine hK2 _ ?_; clear hK2 K2; (try simp (maxSteps := 10000000) (disch := first | omega | simp) [hl]))
            | ((with_reducible refine gdU ?_); (try simp (maxSteps := 10000000) (disch := first | omega | simp) [hl]))
            | ((with_reducible refine sideQ' ?_ ?_ fun K2 hK2 => ?_); exact rfl; exact rfl; (try simp (maxSteps := 10000000) (disch := first | omega | simp) [hl]); with_reducible refine hK2 _ _ ?_; clear hK2 K2; (try simp (maxSteps := 10000000) (disch := first | omega | simp) [hl]))
            | ((with_reducible refine side' ?_ fun K2 hK2 => ?_); exact rfl; (try simp (maxSteps := 10000000) (disch := first | omega | simp) [hl]); refine hK2 _ _ (by simp) ?_; clear hK2 K2; (try simp (maxSteps := 10000000) (disch := first | omega | simp) [hl]))) <;> clear hK K)
        | ((with_reducible refine awCond fun A B hA hB => ?_); simp (maxSteps := 10000000) (disch := first | omega | simp) [hl]; (first | refine ⟨fun h => hA ?_, fun h => hB ?_⟩ | refine hA ?_ | refine hB ?_) <;> (clear hA hB A B; (try (exfalso; omega))))
    all_goals (refine aEnR (aRes [] fun K hK => ?_); simp (maxSteps := 10000000) (disch := first | omega | simp) []; refine hK _ ?_ (by simp); clear hK; first | done | (simp (maxSteps := 10000000) (disch := first | omega | simp) [*]; done) | (simp (maxSteps := 10000000) (disch := first | omega | simp) [*]; omega) | (simp_all []; done) | (simp_all []; omega))
end
end Go.Am
