/- Part of the proof of ElectLeaves. -/
import Derived.Test.YteijffflinnccaaZAA
import Derived.Test.YteijffflinnccaaZE3r
import Derived.Test.YteijffflinnccaaZE8
import Derived.Test.YteijffflinnccaaZE9a
import Derived.Test.YteijffflinnccaaZPU
set_option linter.all false
set_option maxRecDepth 100000
set_option maxHeartbeats 0
namespace Go.Am
open Go
noncomputable section
def c14 : SC := (.seq (.reg [⟨some 2, .assign (.const (.bool false)), none, []⟩] [0]) (.seq (.reg [⟨some 3, .move (.tmp 0), none, []⟩,
  ⟨some 4, .call { callee := .builtin .len, args := #[.tmp 3], argTypes := #[22] }, none, []⟩,
  ⟨some 5, .binOp .leq 3 (.tmp 4) (.const (.int .i64 80)) 3, none, []⟩,
  ⟨some 2, .assign (.tmp 5), none, []⟩] [2, 5]) .ret))
theorem s14 : TextK Proofs.Try.prog 0 14 6 [ResultVar.tmp 2] c14 := .mk' Proofs.Try.f14 _ (by kernel_rfl) rfl rfl rfl (by kernel_rfl) rfl (by kernel_rfl)
def c3 : SC := (.seq (.reg [⟨some 4, .assign (.const (.bool false)), none, []⟩] [0, 1, 18, 25, 129]) (.seq (.reg [⟨some 15, .move (.tmp 0), none, []⟩,
  ⟨some 16, .call { callee := .value (.func 14), args := #[.tmp 15], argTypes := #[22] }, none, []⟩,
  ⟨some 17, .unOp .not 4 (.tmp 16), none, []⟩] [0, 1, 17, 18, 25, 129]) (.seq (.cond (.tmp 17) (.seq (.reg [⟨some 18, .call { callee := .value (.func 15), args := #[], argTypes := #[] }, none, []⟩,
  ⟨some 4, .assign (.tmp 18), none, []⟩] [4, 18, 25, 129]) .ret) .skip) (.seq (.reg [⟨some 19, .move (.tmp 0), none, []⟩,
  ⟨some 20, .call { callee := .value (.func 16), args := #[.tmp 19], argTypes := #[22] }, none, []⟩,
  ⟨some 5, .alloc 30, none, []⟩,
  ⟨none, .store 30 (.tmp 5) (.tmp 20), none, []⟩] [1, 5, 18, 25, 129]) (.seq (.reg [⟨some 21, .fieldAddr 30 (.tmp 5) 0, none, []⟩,
  ⟨some 22, .load 25 (.tmp 21), none, []⟩,
  ⟨some 23, .call { callee := .builtin .len, args := #[.tmp 22], argTypes := #[25] }, none, []⟩,
  ⟨some 24, .binOp .eql 3 (.tmp 23) (.const (.int .i64 0)) 3, none, []⟩] [1, 5, 18, 24, 25, 129]) (.seq (.cond (.tmp 24) (.seq (.reg [⟨some 25, .call { callee := .value (.func 15), args := #[], argTypes := #[] }, none, []⟩,
  ⟨some 4, .assign (.tmp 25), none, []⟩] [4, 18, 25, 129]) .ret) .skip) (.seq (.reg [⟨some 26, .fieldAddr 30 (.tmp 5) 0, none, [28, 29, 30, 31, 32, 33, 34, 35, 6]⟩,
  ⟨some 27, .load 25 (.tmp 26), none, [28, 29, 30, 31, 32, 33, 34, 35, 6]⟩,
  ⟨some 28, .move (.tmp 1), none, [26, 27, 30, 31, 32, 33, 6]⟩,
  ⟨some 29, .convert 3 34 (.tmp 28), none, [26, 27, 30, 31, 32, 33, 6]⟩,
  ⟨some 30, .fieldAddr 30 (.tmp 5) 0, none, [26, 27, 28, 29, 6]⟩,
  ⟨some 31, .load 25 (.tmp 30), none, [26, 27, 28, 29, 6]⟩,
  ⟨some 32, .call { callee := .builtin .len, args := #[.tmp 31], argTypes := #[25] }, none, [26, 27, 28, 29, 6]⟩,
  ⟨some 33, .convert 3 34 (.tmp 32), none, [26, 27, 28, 29, 6]⟩,
  ⟨some 34, .binOp .rem 34 (.tmp 29) (.tmp 33) 34, none, [26, 27, 6]⟩,
  ⟨some 35, .convert 34 3 (.tmp 34), none, [26, 27, 6]⟩,
  ⟨some 36, .indexAddr 25 (.tmp 27) (.tmp 35), none, [6]⟩,
  ⟨some 37, .load 33 (.tmp 36), none, [6]⟩,
  ⟨some 6, .alloc 33, none, [26, 27, 28, 29, 30, 31, 32, 33, 34, 35, 36, 37]⟩,
  ⟨none, .store 33 (.tmp 6) (.tmp 37), none, []⟩] [5, 6, 18, 25, 129]) (.seq (.reg [⟨some 39, .load 30 (.tmp 5), none, [40, 41, 42, 43, 7]⟩,
  ⟨some 40, .load 30 (.tmp 5), none, [39, 41, 42, 7]⟩,
  ⟨some 41, .fieldAddr 33 (.tmp 6) 0, none, [39, 40, 7]⟩,
  ⟨some 42, .load 3 (.tmp 41), none, [39, 40, 7]⟩,
  ⟨some 43, .call { callee := .value (.func 18), args := #[.tmp 40, .tmp 42], argTypes := #[30, 3] }, none, [39, 7]⟩,
  ⟨some 44, .call { callee := .value (.func 17), args := #[.tmp 39, .tmp 43], argTypes := #[30, 22] }, none, [7]⟩,
  ⟨some 38, .move (.tmp 44), none, [7]⟩,
  ⟨some 45, .extract (.tmp 38) 0, none, [46, 7]⟩,
  ⟨some 46, .extract (.tmp 38) 1, none, [45, 7, 7]⟩,
  ⟨some 7, .alloc 30, none, [39, 40, 41, 42, 43, 44, 38, 45, 46]⟩,
  ⟨none, .store 30 (.tmp 7) (.tmp 45), none, [46]⟩,
  ⟨some 8, .assign (.tmp 46), none, []⟩] [5, 6, 7, 8, 18, 25, 38, 44, 46, 129]) (.seq (.reg [⟨some 47, .move (.tmp 8), none, []⟩,
  ⟨some 48, .binOp .neq 35 (.tmp 47) (.const (.int .i64 0)) 35, none, []⟩,
  ⟨some 49, .move (.tmp 48), none, []⟩,
  ⟨some 50, .load 30 (.tmp 7), (some (49, false)), []⟩,
  ⟨some 51, .fieldAddr 33 (.tmp 6) 0, (some (49, false)), []⟩,
  ⟨some 52, .load 3 (.tmp 51), (some (49, false)), []⟩,
  ⟨some 53, .call { callee := .value (.func 19), args := #[.tmp 50, .tmp 52], argTypes := #[30, 3] }, (some (49, false)), []⟩,
  ⟨some 54, .pick (.tmp 49) (.const (.bool true)) (.tmp 53), none, []⟩] [5, 6, 7, 18, 25, 48, 49, 53, 54, 129]) (.seq (.cond (.tmp 54) (.seq (.reg [⟨some 4, .assign (.const (.bool false)), none, []⟩] [4, 18, 25, 129]) .ret) .skip) (.seq (.reg [⟨some 55, .fieldAddr 33 (.tmp 6) 3, none, []⟩,
  ⟨some 56, .load 4 (.tmp 55), none, []⟩,
  ⟨some 57, .unOp .not 4 (.tmp 56), none, []⟩] [5, 6, 7, 18, 25, 57, 129]) (.seq (.cond (.tmp 57) (.seq (.reg [⟨some 59, .load 30 (.tmp 7), none, []⟩,
  ⟨some 60, .fieldAddr 33 (.tmp 6) 0, none, []⟩,
  ⟨some 61, .load 3 (.tmp 60), none, []⟩,
  ⟨some 62, .fieldAddr 33 (.tmp 6) 1, none, []⟩,
  ⟨some 63, .load 3 (.tmp 62), none, []⟩,
  ⟨some 64, .build 43 #[(0, .const (.int .i64 3)), (1, .tmp 61), (2, .tmp 63)], none, []⟩,
  ⟨some 65, .call { callee := .value (.func 20), args := #[.tmp 59, .tmp 64], argTypes := #[30, 43] }, none, []⟩,
  ⟨some 58, .move (.tmp 65), none, []⟩,
  ⟨some 66, .extract (.tmp 58) 0, none, []⟩,
  ⟨some 67, .extract (.tmp 58) 1, none, []⟩,
  ⟨some 9, .alloc 30, none, []⟩,
  ⟨none, .store 30 (.tmp 9) (.tmp 66), none, []⟩,
  ⟨some 10, .assign (.tmp 67), none, []⟩] [5, 6, 7, 10, 18, 25, 58, 65, 67, 129]) (.seq (.reg [⟨some 68, .move (.tmp 10), none, []⟩,
  ⟨some 69, .binOp .neq 35 (.tmp 68) (.const (.int .i64 0)) 35, none, []⟩] [5, 6, 7, 18, 25, 69, 129]) (.seq (.cond (.tmp 69) (.seq (.reg [⟨some 4, .assign (.const (.bool false)), none, []⟩] [4, 18, 25, 129]) .ret) .skip) .skip))) .skip) (.seq (.reg [⟨some 11, .assign (.const (.int .i64 0)), none, []⟩] [5, 6, 7, 11, 18, 25, 76, 129]) (.seq (.block 0 (.seq (.loop (.seq (.reg [⟨some 70, .move (.tmp 11), none, []⟩,
  ⟨some 71, .fieldAddr 30 (.tmp 5) 1, none, []⟩,
  ⟨some 72, .load 26 (.tmp 71), none, []⟩,
  ⟨some 73, .call { callee := .builtin .len, args := #[.tmp 72], argTypes := #[26] }, none, []⟩,
  ⟨some 74, .binOp .lss 3 (.tmp 70) (.tmp 73) 3, none, []⟩] [5, 6, 7, 11, 18, 25, 74, 76, 129]) (.seq (.cond (.tmp 74) .skip (.exit 0)) (.seq (.block 1 (.seq (.reg [⟨some 12, .assign (.const (.int .i64 0)), none, []⟩] [5, 6, 7, 11, 12, 18, 25, 76, 87, 129]) (.seq (.block 2 (.seq (.loop (.seq (.reg [⟨some 77, .move (.tmp 12), none, []⟩,
  ⟨some 78, .fieldAddr 30 (.tmp 5) 1, none, []⟩,
  ⟨some 79, .load 26 (.tmp 78), none, []⟩,
  ⟨some 80, .move (.tmp 11), none, []⟩,
  ⟨some 81, .indexAddr 26 (.tmp 79) (.tmp 80), none, []⟩,
  ⟨some 82, .fieldAddr 46 (.tmp 81) 2, none, []⟩,
  ⟨some 83, .load 44 (.tmp 82), none, []⟩,
  ⟨some 84, .call { callee := .builtin .len, args := #[.tmp 83], argTypes := #[44] }, none, []⟩,
  ⟨some 85, .binOp .lss 3 (.tmp 77) (.tmp 84) 3, none, []⟩] [5, 6, 7, 11, 12, 18, 25, 76, 85, 87, 129]) (.seq (.cond (.tmp 85) .skip (.exit 2)) (.seq (.block 3 (.seq (.reg [⟨some 88, .fieldAddr 30 (.tmp 5) 1, none, [90, 94, 97, 98, 99, 100, 101, 102, 103, 104, 105, 13, 14]⟩,
  ⟨some 89, .load 26 (.tmp 88), none, [90, 94, 97, 98, 99, 100, 101, 102, 103, 104, 105, 13, 14]⟩,
  ⟨some 90, .move (.tmp 11), none, [88, 89, 94, 97, 98, 99, 100, 101, 102, 103, 104, 105, 13, 14]⟩,
  ⟨some 91, .indexAddr 26 (.tmp 89) (.tmp 90), none, [94, 97, 98, 99, 100, 101, 102, 103, 104, 105, 13, 14]⟩,
  ⟨some 92, .fieldAddr 46 (.tmp 91) 2, none, [94, 97, 98, 99, 100, 101, 102, 103, 104, 105, 13, 14]⟩,
  ⟨some 93, .load 44 (.tmp 92), none, [94, 97, 98, 99, 100, 101, 102, 103, 104, 105, 13, 14]⟩,
  ⟨some 94, .move (.tmp 12), none, [88, 89, 90, 91, 92, 93, 97, 98, 99, 100, 101, 102, 103, 104, 105, 13, 14]⟩,
  ⟨some 95, .indexAddr 44 (.tmp 93) (.tmp 94), none, [97, 98, 99, 100, 101, 102, 103, 104, 105, 13, 14]⟩,
  ⟨some 96, .load 48 (.tmp 95), none, [97, 98, 99, 100, 101, 102, 103, 104, 105, 13, 14]⟩,
  ⟨some 97, .fieldAddr 30 (.tmp 7) 1, none, [88, 89, 90, 91, 92, 93, 94, 95, 96, 99, 103, 13, 14, 13]⟩,
  ⟨some 98, .load 26 (.tmp 97), none, [88, 89, 90, 91, 92, 93, 94, 95, 96, 99, 103, 13, 14, 13]⟩,
  ⟨some 99, .move (.tmp 11), none, [88, 89, 90, 91, 92, 93, 94, 95, 96, 97, 98, 103, 13, 14, 13]⟩,
  ⟨some 100, .indexAddr 26 (.tmp 98) (.tmp 99), none, [88, 89, 90, 91, 92, 93, 94, 95, 96, 103, 13, 14, 13]⟩,
  ⟨some 101, .fieldAddr 46 (.tmp 100) 2, none, [88, 89, 90, 91, 92, 93, 94, 95, 96, 103, 13, 14, 13]⟩,
  ⟨some 102, .load 44 (.tmp 101), none, [88, 89, 90, 91, 92, 93, 94, 95, 96, 103, 13, 14, 13]⟩,
  ⟨some 103, .move (.tmp 12), none, [88, 89, 90, 91, 92, 93, 94, 95, 96, 97, 98, 99, 100, 101, 102, 13, 14, 13]⟩,
  ⟨some 104, .indexAddr 44 (.tmp 102) (.tmp 103), none, [88, 89, 90, 91, 92, 93, 94, 95, 96, 13, 14, 13]⟩,
  ⟨some 105, .load 48 (.tmp 104), none, [88, 89, 90, 91, 92, 93, 94, 95, 96, 13, 14, 13]⟩,
  ⟨some 13, .alloc 48, none, [88, 89, 90, 91, 92, 93, 94, 95, 96, 97, 98, 99, 100, 101, 102, 103, 104, 105, 14]⟩,
  ⟨some 14, .alloc 48, none, [88, 89, 90, 91, 92, 93, 94, 95, 96, 97, 98, 99, 100, 101, 102, 103, 104, 105, 13]⟩,
  ⟨none, .store 48 (.tmp 13) (.tmp 96), none, [97, 98, 99, 100, 101, 102, 103, 104, 105]⟩,
  ⟨none, .store 48 (.tmp 14) (.tmp 105), none, []⟩] [5, 6, 7, 11, 12, 13, 14, 18, 25, 76, 87, 129]) (.seq (.reg [⟨some 106, .fieldAddr 48 (.tmp 14) 3, none, []⟩,
  ⟨some 107, .load 3 (.tmp 106), none, []⟩,
  ⟨some 108, .fieldAddr 48 (.tmp 13) 3, none, []⟩,
  ⟨some 109, .load 3 (.tmp 108), none, []⟩,
  ⟨some 110, .binOp .lss 3 (.tmp 107) (.tmp 109) 3, none, []⟩,
  ⟨some 111, .move (.tmp 110), none, []⟩,
  ⟨some 112, .fieldAddr 48 (.tmp 14) 2, (some (111, false)), []⟩,
  ⟨some 113, .load 3 (.tmp 112), (some (111, false)), []⟩,
  ⟨some 114, .binOp .eql 3 (.tmp 113) (.const (.int .i64 0)) 3, (some (111, false)), []⟩,
  ⟨some 115, .move (.tmp 114), (some (111, false)), []⟩,
  ⟨some 116, .fieldAddr 48 (.tmp 13) 2, (some (115, true)), []⟩,
  ⟨some 117, .load 3 (.tmp 116), (some (115, true)), []⟩,
  ⟨some 118, .binOp .neq 3 (.tmp 117) (.const (.int .i64 0)) 3, (some (115, true)), []⟩,
  ⟨some 119, .pick (.tmp 115) (.tmp 118) (.const (.bool false)), (some (111, false)), []⟩,
  ⟨some 120, .move (.tmp 119), (some (111, false)), []⟩,
  ⟨some 121, .load 30 (.tmp 5), (some (120, true)), []⟩,
  ⟨some 122, .load 48 (.tmp 13), (some (120, true)), []⟩,
  ⟨some 123, .fieldAddr 33 (.tmp 6) 0, (some (120, true)), []⟩,
  ⟨some 124, .load 3 (.tmp 123), (some (120, true)), []⟩,
  ⟨some 125, .call { callee := .value (.func 21), args := #[.tmp 121, .tmp 122, .tmp 124], argTypes := #[30, 48, 3] }, (some (120, true)), []⟩,
  ⟨some 126, .binOp .neq 3 (.tmp 125) (.const (.int .i64 0)) 3, (some (120, true)), []⟩,
  ⟨some 127, .pick (.tmp 120) (.tmp 126) (.const (.bool false)), (some (111, false)), []⟩,
  ⟨some 128, .pick (.tmp 111) (.const (.bool true)) (.tmp 127), none, []⟩] [5, 6, 7, 11, 12, 18, 25, 76, 87, 110, 111, 114, 115, 118, 119, 120, 126, 127, 128, 129]) (.seq (.cond (.tmp 128) (.seq (.reg [⟨some 4, .assign (.const (.bool false)), none, []⟩] [4, 18, 25, 129]) .ret) .skip) .skip)))) (.seq (.reg [⟨some 86, .move (.tmp 12), none, []⟩,
  ⟨some 87, .binOp .add 3 (.tmp 86) (.const (.int .i64 1)) 3, none, []⟩,
  ⟨some 12, .assign (.tmp 87), none, []⟩] [5, 6, 7, 11, 12, 18, 25, 76, 87, 129]) .skip))))) .skip)) .skip))) (.seq (.reg [⟨some 75, .move (.tmp 11), none, []⟩,
  ⟨some 76, .binOp .add 3 (.tmp 75) (.const (.int .i64 1)) 3, none, []⟩,
  ⟨some 11, .assign (.tmp 76), none, []⟩] [5, 6, 7, 11, 18, 25, 76, 129]) .skip))))) .skip)) (.seq (.reg [⟨some 129, .call { callee := .value (.func 15), args := #[], argTypes := #[] }, none, []⟩,
  ⟨some 4, .assign (.tmp 129), none, []⟩] [4, 18, 25, 129]) .ret)))))))))))))))
theorem s3 : TextK Proofs.Try.prog 0 3 130 [ResultVar.tmp 4] c3 := .mk' Proofs.Try.f3 _ (by kernel_rfl) rfl rfl rfl (by kernel_rfl) rfl (by kernel_rfl)
theorem light_ok (l : List Record) : ACall pg 14 [.sl (l.map encR)] (B (decide (l.length ≤ 80))) := by
  refine s14.call mo (by simp) fun hxs => ?_
  clear hxs
  unfold c14
  repeat' first
      | (with_reducible first | refine thN ?_ | refine thR ?_ | refine thE ?_ | refine inN ?_ | refine inR ?_ | refine inH ?_ | refine fF ?_ | refine fS ?_ | refine fR ?_ | refine fQ ?_ | refine fC ?_ | refine fB ?_ | refine fL ?_ | refine fE ?_ | refine fT ?_ | refine awBlock ?_ | refine awExit ?_ | refine awRet ?_ | refine awSkip ?_ | refine inM (by decide) ?_)
      | ((with_reducible refine awReg fun K hok hK => ?_); clear hok; (try simp (maxSteps := 10000000) (disch := first | omega | simp) []); (repeat' first
          | (with_reducible refine hK _ (by simp) ?_)
          | ((with_reducible refine gdT (fun h => ?_) (fun h => ?_)) <;> (simp (maxSteps := 10000000) (disch := first | omega | simp) [h]; (try simp at h); (try (exfalso; omega))))
          | ((with_reducible refine gdF (fun h => ?_) (fun h => ?_)) <;> (simp (maxSteps := 10000000) (disch := first | omega | simp) [h]; (try simp at h); (try (exfalso; omega))))
          | ((with_reducible refine sideSt' fun K2 hK2 => ?_); (try simp (maxSteps := 10000000) (disch := first | omega | simp) []); refine hK2 _ ?_; clear hK2 K2; (try simp (maxSteps := 10000000) (disch := first | omega | simp) []))
          | ((with_reducible refine gdU ?_); (try simp (maxSteps := 10000000) (disch := first | omega | simp) []))
          | ((with_reducible refine sideQ' ?_ ?_ fun K2 hK2 => ?_); exact rfl; exact rfl; (try simp (maxSteps := 10000000) (disch := first | omega | simp) []); with_reducible refine hK2 _ _ ?_; clear hK2 K2; (try simp (maxSteps := 10000000) (disch := first | omega | simp) []))
          | ((with_reducible refine side' ?_ fun K2 hK2 => ?_); exact rfl; (try simp (maxSteps := 10000000) (disch := first | omega | simp) []); refine hK2 _ _ (by simp) ?_; clear hK2 K2; (try simp (maxSteps := 10000000) (disch := first | omega | simp) []))) <;> clear hK K)
      | ((with_reducible refine awCond fun A B hA hB => ?_); simp (maxSteps := 10000000) (disch := first | omega | simp) []; (first | refine ⟨fun h => hA ?_, fun h => hB ?_⟩ | refine hA ?_ | refine hB ?_) <;> (clear hA hB A B; (try (exfalso; omega))))
  (refine aEnR (aRes [] fun K hK => ?_); simp (maxSteps := 10000000) (disch := first | omega | simp) []; refine hK _ ?_ (by simp); clear hK; first | done | (simp (maxSteps := 10000000) (disch := first | omega | simp) [*]; done) | (simp (maxSteps := 10000000) (disch := first | omega | simp) [*]; omega) | (simp_all []; done) | (simp_all []; omega))
theorem small_of {p : Part} {n : Nat} (h : p.Rows n) : p.Small := by
  have hb : ∀ l, brokersB l = true → l.length ≤ 1000000 := fun l h => by simp only [brokersB, decide_eq_true_eq] at h; omega
  exact ⟨hb _ h.ids, hb _ h.isr, hb _ h.add, hb _ h.drop⟩
theorem big_of {p : Part} {n : Nat} (h : p.Rows n) : ∀ x ∈ p.ids, big62 x := fun x hx => by
  have := h.ids; simp only [brokersB, decide_eq_true_eq] at this; have := this.2.1 x hx; unfold big62; omega
theorem at_mod (n : Int) (k : Nat) (hk : 0 < k) (hk2 : k ≤ 1000000) : ∃ j : Nat, j < k ∧ IntKind.i64.wrap ((IntKind.u64.wrap n).tmod (k : Int)) = j := by
  have h0 : 0 ≤ IntKind.u64.wrap n := by simp [IntKind.wrap, IntKind.signed, IntKind.bits]; omega
  obtain ⟨a, ha⟩ := Int.eq_ofNat_of_zero_le h0
  rw [ha]
  refine ⟨a % k, Nat.mod_lt _ hk, ?_⟩
  have : (a : Int).tmod (k : Int) = ((a % k : Nat) : Int) := rfl
  rw [this, i64_wrap]
  have := Nat.mod_lt a hk
  omega
theorem leaves_walk (l : List Record) (n : Int) : ACall pg 3 [.sl (l.map encR), I n] (B true) := by
  refine s3.call mo (by simp) fun hxs => ?_
  clear hxs
  unfold c3
  by_cases hl : l.length ≤ 80
  · have hinv := made_inv l (by omega)
    have hpre := hinv.pre (by omega)
    by_cases hb0 : (made l).brokers.length = 0
    · repeat' first
          | (with_reducible first | refine thN ?_ | refine thR ?_ | refine thE ?_ | refine inN ?_ | refine inR ?_ | refine inH ?_ | refine fF ?_ | refine fS ?_ | refine fR ?_ | refine fQ ?_ | refine fC ?_ | refine fB ?_ | refine fL ?_ | refine fE ?_ | refine fT ?_ | refine awBlock ?_ | refine awExit ?_ | refine awRet ?_ | refine awSkip ?_ | refine inM (by decide) ?_)
          | ((with_reducible refine awReg fun K hok hK => ?_); clear hok; (try simp (maxSteps := 10000000) (disch := first | omega | simp) [hl, hb0]); (repeat' first
              | (with_reducible refine hK _ (by simp) ?_)
              | ((with_reducible refine gdT (fun h => ?_) (fun h => ?_)) <;> (simp (maxSteps := 10000000) (disch := first | omega | simp) [h, hl, hb0]; (try simp at h); (try (exfalso; omega))))
              | ((with_reducible refine gdF (fun h => ?_) (fun h => ?_)) <;> (simp (maxSteps := 10000000) (disch := first | omega | simp) [h, hl, hb0]; (try simp at h); (try (exfalso; omega))))
              | ((with_reducible refine callS' fun K2 hK2 => ?_); (try simp (maxSteps := 10000000) (disch := first | omega | simp) [hl, hb0]); (first | (refine hK2 _ _ (light_ok l) rfl fun hk9 => ?_; clear hk9) | (refine hK2 _ _ (works_ok) rfl fun hk9 => ?_; clear hk9) | (refine hK2 _ _ (made_ok l (by omega)) rfl fun hk9 => ?_; clear hk9)); clear hK2 K2; (try simp (maxSteps := 10000000) (disch := first | omega | simp) [hl, hb0]))
              | ((with_reducible refine callF' fun K2 hK2 => ?_); (try simp (maxSteps := 10000000) (disch := first | omega | simp) [hl, hb0]); (first | refine hK2 _ _ _ (light_ok l) fun _ => ?_ | refine hK2 _ _ _ (works_ok) fun _ => ?_ | refine hK2 _ _ _ (made_ok l (by omega)) fun _ => ?_); clear hK2 K2; (try simp (maxSteps := 10000000) (disch := first | omega | simp) [hl, hb0]))
              | ((with_reducible refine sideS' fun K2 hK2 => ?_); (try simp (maxSteps := 10000000) (disch := first | omega | simp) [hl, hb0]); (first | refine hK2 _ _ (light_ok l) rfl ?_ | refine hK2 _ _ (works_ok) rfl ?_ | refine hK2 _ _ (made_ok l (by omega)) rfl ?_); clear hK2 K2; (try simp (maxSteps := 10000000) (disch := first | omega | simp) [hl, hb0]))
              | ((with_reducible refine sideF' fun K2 hK2 => ?_); (try simp (maxSteps := 10000000) (disch := first | omega | simp) [hl, hb0]); (first | refine hK2 _ _ _ (light_ok l) (by simp) ?_ | refine hK2 _ _ _ (works_ok) (by simp) ?_ | refine hK2 _ _ _ (made_ok l (by omega)) (by simp) ?_); clear hK2 K2; (try simp (maxSteps := 10000000) (disch := first | omega | simp) [hl, hb0]))
              | ((with_reducible refine sideSt' fun K2 hK2 => ?_); (try simp (maxSteps := 10000000) (disch := first | omega | simp) [hl, hb0]); refine hK2 _ ?_; clear hK2 K2; (try simp (maxSteps := 10000000) (disch := first | omega | simp) [hl, hb0]))
              | ((with_reducible refine gdU ?_); (try simp (maxSteps := 10000000) (disch := first | omega | simp) [hl, hb0]))
              | ((with_reducible refine sideQ' ?_ ?_ fun K2 hK2 => ?_); exact rfl; exact rfl; (try simp (maxSteps := 10000000) (disch := first | omega | simp) [hl, hb0]); with_reducible refine hK2 _ _ ?_; clear hK2 K2; (try simp (maxSteps := 10000000) (disch := first | omega | simp) [hl, hb0]))
              | ((with_reducible refine side' ?_ fun K2 hK2 => ?_); exact rfl; (try simp (maxSteps := 10000000) (disch := first | omega | simp) [hl, hb0]); refine hK2 _ _ (by simp) ?_; clear hK2 K2; (try simp (maxSteps := 10000000) (disch := first | omega | simp) [hl, hb0]))) <;> clear hK K)
          | ((with_reducible refine awCond fun A B hA hB => ?_); simp (maxSteps := 10000000) (disch := first | omega | simp) [hl, hb0]; (first | refine ⟨fun h => hA ?_, fun h => hB ?_⟩ | refine hA ?_ | refine hB ?_) <;> (clear hA hB A B; (try (exfalso; omega))))
      all_goals (refine aEnR (aRes [] fun K hK => ?_); simp (maxSteps := 10000000) (disch := first | omega | simp) []; refine hK _ ?_ (by simp); clear hK; first | done | (simp (maxSteps := 10000000) (disch := first | omega | simp) [*]; done) | (simp (maxSteps := 10000000) (disch := first | omega | simp) [*]; omega) | (simp_all []; done) | (simp_all []; omega))
    · obtain ⟨j, hj, hje⟩ := at_mod n (made l).brokers.length (by omega) (by have := hpre.bl; omega)
      have hu : IntKind.u64.wrap ((made l).brokers.length : Int) = (made l).brokers.length := by have := hpre.bl; simp [IntKind.wrap, IntKind.signed, IntKind.bits]; omega
      have hne : (made l).brokers ≠ [] := by intro e; rw [e] at hb0; simp at hb0
      generalize hm : made l = m at *
      have hbm : m.brokers[j] ∈ m.brokers := List.getElem_mem hj
      generalize hbb : m.brokers[j] = b at hbm
      have hbr := hinv.br b hbm
      have hbk : m.Brk := ⟨hinv.bs, fun b hb => by have := hinv.br b hb; omega, by have := hinv.bl; omega⟩
      have hsm : m.Sml := ⟨hpre.tl, hpre.pl, fun t ht p hp => small_of (hinv.pr t ht p hp).2⟩
      have hnx : ∀ t ∈ m.topics, ∀ p ∈ t.parts, m.Next p (m.lose p b.id) := fun t ht p hp => lose_next (by omega) (hinv.pr t ht p hp).1 (hinv.pr t ht p hp).2 b.id
      have hlv := leave_ok m b.id hbk hsm (fun t ht p hp => big_of (hinv.pr t ht p hp).2) (fun t ht p hp => by have := (hinv.pr t ht p hp).2.ep; omega) (fun t ht p hp => small_of (hnx t ht p hp).rows)
      have hmk : ACall pg 16 [.sl (l.map encR)] (encM m) := by rw [← hm]; exact made_ok l (by omega)
      have hall := all_ok2 m (m.leave b.id) Image.Pre hpre (fun s h => h) (fun s r hr hs => changes_pre (fun t ht p hp => by have := (hnx t ht p hp).rows.ep; omega) s r hr hs) (changes_len hinv (by omega) _)
      have hac := all_changes hinv (by omega) (fun p => m.lose p b.id) (fun t ht p hp _ => hnx t ht p hp)
      rw [show m.leave b.id = m.changes (fun p => m.lose p b.id) from rfl, hac] at hall
      have hls := leads_ok (m.mapParts fun p => m.lose p b.id) b.id
      rw [lose_any m b.id (by omega)] at hls
      have hnp : (m.mapParts fun p => m.lose p b.id).Pre := mapParts_pre hpre (fun t ht p hp => by have := (hnx t ht p hp).rows.ep; omega)
      have hap := apply_ok (m.mapParts fun p => m.lose p b.id) (fenceR b) hnp
      have hfo : b.fenced = false → ((m.mapParts fun p => m.lose p b.id).apply (fenceR b)).2 = 0 := fun hf => fence_ok ((find_srt hinv.bs).2 ⟨hbm, rfl⟩) (by omega) hf (lose_any m b.id (by omega))
      generalize hnxt : m.mapParts (fun p => m.lose p b.id) = nx at hnp hap hfo hls hall
      by_cases hfn : b.fenced = false
      · rw [hfo hfn] at hap
        repeat' first
            | (with_reducible first | refine thN ?_ | refine thR ?_ | refine thE ?_ | refine inN ?_ | refine inR ?_ | refine inH ?_ | refine fF ?_ | refine fS ?_ | refine fR ?_ | refine fQ ?_ | refine fC ?_ | refine fB ?_ | refine fL ?_ | refine fE ?_ | refine fT ?_ | refine awBlock ?_ | refine awExit ?_ | refine awRet ?_ | refine awSkip ?_ | refine inM (by decide) ?_)
            | ((with_reducible refine awReg fun K hok hK => ?_); clear hok; (try simp (maxSteps := 10000000) (disch := first | omega | simp) [hl, hu, hje, hne, hbb, hfn]); (repeat' first
                | (with_reducible refine hK _ (by simp) ?_)
                | ((with_reducible refine gdT (fun h => ?_) (fun h => ?_)) <;> (simp (maxSteps := 10000000) (disch := first | omega | simp) [h, hl, hu, hje, hne, hbb, hfn]; (try simp at h); (try (exfalso; omega))))
                | ((with_reducible refine gdF (fun h => ?_) (fun h => ?_)) <;> (simp (maxSteps := 10000000) (disch := first | omega | simp) [h, hl, hu, hje, hne, hbb, hfn]; (try simp at h); (try (exfalso; omega))))
                | ((with_reducible refine callS' fun K2 hK2 => ?_); (try simp (maxSteps := 10000000) (disch := first | omega | simp) [hl, hu, hje, hne, hbb, hfn]); (first | (refine hK2 _ _ (light_ok l) rfl fun hk9 => ?_; clear hk9) | (refine hK2 _ _ (works_ok) rfl fun hk9 => ?_; clear hk9) | (refine hK2 _ _ (hmk) rfl fun hk9 => ?_; clear hk9) | (refine hK2 _ _ (hlv) rfl fun hk9 => ?_; clear hk9) | (refine hK2 _ _ (hall) rfl fun hk9 => ?_; clear hk9) | (refine hK2 _ _ (hls) rfl fun hk9 => ?_; clear hk9) | (refine hK2 _ _ (hap) rfl fun hk9 => ?_; clear hk9)); clear hK2 K2; (try simp (maxSteps := 10000000) (disch := first | omega | simp) [hl, hu, hje, hne, hbb, hfn]))
                | ((with_reducible refine callF' fun K2 hK2 => ?_); (try simp (maxSteps := 10000000) (disch := first | omega | simp) [hl, hu, hje, hne, hbb, hfn]); (first | refine hK2 _ _ _ (light_ok l) fun _ => ?_ | refine hK2 _ _ _ (works_ok) fun _ => ?_ | refine hK2 _ _ _ (hmk) fun _ => ?_ | refine hK2 _ _ _ (hlv) fun _ => ?_ | refine hK2 _ _ _ (hall) fun _ => ?_ | refine hK2 _ _ _ (hls) fun _ => ?_ | refine hK2 _ _ _ (hap) fun _ => ?_); clear hK2 K2; (try simp (maxSteps := 10000000) (disch := first | omega | simp) [hl, hu, hje, hne, hbb, hfn]))
                | ((with_reducible refine sideS' fun K2 hK2 => ?_); (try simp (maxSteps := 10000000) (disch := first | omega | simp) [hl, hu, hje, hne, hbb, hfn]); (first | refine hK2 _ _ (light_ok l) rfl ?_ | refine hK2 _ _ (works_ok) rfl ?_ | refine hK2 _ _ (hmk) rfl ?_ | refine hK2 _ _ (hlv) rfl ?_ | refine hK2 _ _ (hall) rfl ?_ | refine hK2 _ _ (hls) rfl ?_ | refine hK2 _ _ (hap) rfl ?_); clear hK2 K2; (try simp (maxSteps := 10000000) (disch := first | omega | simp) [hl, hu, hje, hne, hbb, hfn]))
                | ((with_reducible refine sideF' fun K2 hK2 => ?_); (try simp (maxSteps := 10000000) (disch := first | omega | simp) [hl, hu, hje, hne, hbb, hfn]); (first | refine hK2 _ _ _ (light_ok l) (by simp) ?_ | refine hK2 _ _ _ (works_ok) (by simp) ?_ | refine hK2 _ _ _ (hmk) (by simp) ?_ | refine hK2 _ _ _ (hlv) (by simp) ?_ | refine hK2 _ _ _ (hall) (by simp) ?_ | refine hK2 _ _ _ (hls) (by simp) ?_ | refine hK2 _ _ _ (hap) (by simp) ?_); clear hK2 K2; (try simp (maxSteps := 10000000) (disch := first | omega | simp) [hl, hu, hje, hne, hbb, hfn]))
                | ((with_reducible refine callT' rfl fun K2 hK2 => ?_); (try simp (maxSteps := 10000000) (disch := first | omega | simp) [hl, hu, hje, hne, hbb, hfn]); (first | refine hK2 _ _ _ _ _ (hmk) fun _ => ?_ | refine hK2 _ _ _ _ _ (hlv) fun _ => ?_ | refine hK2 _ _ _ _ _ (hall) fun _ => ?_ | refine hK2 _ _ _ _ _ (hls) fun _ => ?_ | refine hK2 _ _ _ _ _ (hap) fun _ => ?_); clear hK2 K2; (try simp (maxSteps := 10000000) (disch := first | omega | simp) [hl, hu, hje, hne, hbb, hfn]))
                | ((with_reducible refine callM' rfl fun K2 hK2 => ?_); (try simp (maxSteps := 10000000) (disch := first | omega | simp) [hl, hu, hje, hne, hbb, hfn]); (first | refine hK2 _ _ _ _ _ _ _ (hmk) rfl fun _ _ => ?_ | refine hK2 _ _ _ _ _ _ _ (hlv) rfl fun _ _ => ?_ | refine hK2 _ _ _ _ _ _ _ (hall) rfl fun _ _ => ?_ | refine hK2 _ _ _ _ _ _ _ (hls) rfl fun _ _ => ?_ | refine hK2 _ _ _ _ _ _ _ (hap) rfl fun _ _ => ?_); clear hK2 K2; (try simp (maxSteps := 10000000) (disch := first | omega | simp) [hl, hu, hje, hne, hbb, hfn]))
                | ((with_reducible refine sideSt' fun K2 hK2 => ?_); (try simp (maxSteps := 10000000) (disch := first | omega | simp) [hl, hu, hje, hne, hbb, hfn]); refine hK2 _ ?_; clear hK2 K2; (try simp (maxSteps := 10000000) (disch := first | omega | simp) [hl, hu, hje, hne, hbb, hfn]))
                | ((with_reducible refine gdU ?_); (try simp (maxSteps := 10000000) (disch := first | omega | simp) [hl, hu, hje, hne, hbb, hfn]))
                | ((with_reducible refine sideQ' ?_ ?_ fun K2 hK2 => ?_); exact rfl; exact rfl; (try simp (maxSteps := 10000000) (disch := first | omega | simp) [hl, hu, hje, hne, hbb, hfn]); with_reducible refine hK2 _ _ ?_; clear hK2 K2; (try simp (maxSteps := 10000000) (disch := first | omega | simp) [hl, hu, hje, hne, hbb, hfn]))
                | ((with_reducible refine side' ?_ fun K2 hK2 => ?_); exact rfl; (try simp (maxSteps := 10000000) (disch := first | omega | simp) [hl, hu, hje, hne, hbb, hfn]); refine hK2 _ _ (by simp) ?_; clear hK2 K2; (try simp (maxSteps := 10000000) (disch := first | omega | simp) [hl, hu, hje, hne, hbb, hfn]))) <;> clear hK K)
            | ((with_reducible refine awCond fun A B hA hB => ?_); simp (maxSteps := 10000000) (disch := first | omega | simp) [hl, hu, hje, hne, hbb, hfn]; (first | refine ⟨fun h => hA ?_, fun h => hB ?_⟩ | refine hA ?_ | refine hB ?_) <;> (clear hA hB A B; (try (exfalso; omega))))
        refine awFor m.topics.length (fun i (_ : Unit) => True) (fun i _ => [(11, .p (I i)), (7, .p (.own (encM nx).cells)), (6, .p (.own (encB b).cells)), (5, .p (.own (encM m).cells))]) () (Wk.ofA (by simp [*])) trivial fun i _ hi _ => ?_
        by_cases hlt : i < m.topics.length
        · have htm := List.getElem_mem hlt
          have hpl := hpre.pl _ htm
          have htl := hpre.tl
          have hti : nx.topics[i]? = some ⟨m.topics[i].id, m.topics[i].name, m.topics[i].parts.map fun p => m.lose p b.id⟩ := by rw [← hnxt]; simp [Image.mapParts, hlt]
          repeat' first
              | (with_reducible first | refine thN ?_ | refine thR ?_ | refine thE ?_ | refine inN ?_ | refine inR ?_ | refine inH ?_ | refine fF ?_ | refine fS ?_ | refine fR ?_ | refine fQ ?_ | refine fC ?_ | refine fB ?_ | refine fL ?_ | refine fE ?_ | refine fT ?_ | refine awBlock ?_ | refine awExit ?_ | refine awRet ?_ | refine awSkip ?_ | refine inM (by decide) ?_)
              | ((with_reducible refine awReg fun K hok hK => ?_); clear hok; (try simp (maxSteps := 10000000) (disch := first | omega | simp) []); (repeat' first
                  | (with_reducible refine hK _ (by simp) ?_)
                  | ((with_reducible refine gdT (fun h => ?_) (fun h => ?_)) <;> (simp (maxSteps := 10000000) (disch := first | omega | simp) [h]; (try simp at h); (try (exfalso; omega))))
                  | ((with_reducible refine gdF (fun h => ?_) (fun h => ?_)) <;> (simp (maxSteps := 10000000) (disch := first | omega | simp) [h]; (try simp at h); (try (exfalso; omega))))
                  | ((with_reducible refine sideSt' fun K2 hK2 => ?_); (try simp (maxSteps := 10000000) (disch := first | omega | simp) []); refine hK2 _ ?_; clear hK2 K2; (try simp (maxSteps := 10000000) (disch := first | omega | simp) []))
                  | ((with_reducible refine gdU ?_); (try simp (maxSteps := 10000000) (disch := first | omega | simp) []))
                  | ((with_reducible refine sideQ' ?_ ?_ fun K2 hK2 => ?_); exact rfl; exact rfl; (try simp (maxSteps := 10000000) (disch := first | omega | simp) []); with_reducible refine hK2 _ _ ?_; clear hK2 K2; (try simp (maxSteps := 10000000) (disch := first | omega | simp) []))
                  | ((with_reducible refine side' ?_ fun K2 hK2 => ?_); exact rfl; (try simp (maxSteps := 10000000) (disch := first | omega | simp) []); refine hK2 _ _ (by simp) ?_; clear hK2 K2; (try simp (maxSteps := 10000000) (disch := first | omega | simp) []))) <;> clear hK K)
              | ((with_reducible refine awCond fun A B hA hB => ?_); simp (maxSteps := 10000000) (disch := first | omega | simp) []; (first | refine ⟨fun h => hA ?_, fun h => hB ?_⟩ | refine hA ?_ | refine hB ?_) <;> (clear hA hB A B; (try (exfalso; omega))))
          refine awFor m.topics[i].parts.length (fun k (_ : Unit) => True) (fun k _ => [(12, .p (I k)), (11, .p (I i)), (7, .p (.own (encM nx).cells)), (6, .p (.own (encB b).cells)), (5, .p (.own (encM m).cells))]) () (Wk.ofA (by simp)) trivial fun k _ hk _ => ?_
          by_cases hkt : k < m.topics[i].parts.length
          · have hpm := List.getElem_mem hkt
            have hrw := (hinv.pr _ htm _ hpm).2
            have hle := lose_epoch m m.topics[i].parts[k] b.id
            have hld := lose_leader m m.topics[i].parts[k] b.id
            have hne0 : ∀ x ∈ m.topics[i].parts[k].ids, x ≠ 0 := fun x hx => by have := hrw.ids; simp only [brokersB, decide_eq_true_eq] at this; have := this.2.1 x hx; omega
            have hcr := chooseR_ok m m.topics[i].parts[k] b.id (small_of hrw)
            rw [chooseR_eq m _ _ hne0] at hcr
            repeat' first
                | (with_reducible first | refine thN ?_ | refine thR ?_ | refine thE ?_ | refine inN ?_ | refine inR ?_ | refine inH ?_ | refine fF ?_ | refine fS ?_ | refine fR ?_ | refine fQ ?_ | refine fC ?_ | refine fB ?_ | refine fL ?_ | refine fE ?_ | refine fT ?_ | refine awBlock ?_ | refine awExit ?_ | refine awRet ?_ | refine awSkip ?_ | refine inM (by decide) ?_)
                | ((with_reducible refine awReg fun K hok hK => ?_); clear hok; (try simp (maxSteps := 10000000) (disch := first | omega | simp) [hti]); (repeat' first
                    | (with_reducible refine hK _ (by simp) ?_)
                    | ((with_reducible refine gdT (fun h => ?_) (fun h => ?_)) <;> (simp (maxSteps := 10000000) (disch := first | omega | simp) [h, hti]; (try simp at h); (try (exfalso; omega))))
                    | ((with_reducible refine gdF (fun h => ?_) (fun h => ?_)) <;> (simp (maxSteps := 10000000) (disch := first | omega | simp) [h, hti]; (try simp at h); (try (exfalso; omega))))
                    | ((with_reducible refine callS' fun K2 hK2 => ?_); (try simp (maxSteps := 10000000) (disch := first | omega | simp) [hti]); (first | (refine hK2 _ _ (hcr) rfl fun hk9 => ?_; clear hk9)); clear hK2 K2; (try simp (maxSteps := 10000000) (disch := first | omega | simp) [hti]))
                    | ((with_reducible refine callF' fun K2 hK2 => ?_); (try simp (maxSteps := 10000000) (disch := first | omega | simp) [hti]); (first | refine hK2 _ _ _ (hcr) fun _ => ?_); clear hK2 K2; (try simp (maxSteps := 10000000) (disch := first | omega | simp) [hti]))
                    | ((with_reducible refine sideS' fun K2 hK2 => ?_); (try simp (maxSteps := 10000000) (disch := first | omega | simp) [hti]); (first | refine hK2 _ _ (hcr) rfl ?_); clear hK2 K2; (try simp (maxSteps := 10000000) (disch := first | omega | simp) [hti]))
                    | ((with_reducible refine sideF' fun K2 hK2 => ?_); (try simp (maxSteps := 10000000) (disch := first | omega | simp) [hti]); (first | refine hK2 _ _ _ (hcr) (by simp) ?_); clear hK2 K2; (try simp (maxSteps := 10000000) (disch := first | omega | simp) [hti]))
                    | ((with_reducible refine callT' rfl fun K2 hK2 => ?_); (try simp (maxSteps := 10000000) (disch := first | omega | simp) [hti]); (first | refine hK2 _ _ _ _ _ (hcr) fun _ => ?_); clear hK2 K2; (try simp (maxSteps := 10000000) (disch := first | omega | simp) [hti]))
                    | ((with_reducible refine callM' rfl fun K2 hK2 => ?_); (try simp (maxSteps := 10000000) (disch := first | omega | simp) [hti]); (first | refine hK2 _ _ _ _ _ _ _ (hcr) rfl fun _ _ => ?_); clear hK2 K2; (try simp (maxSteps := 10000000) (disch := first | omega | simp) [hti]))
                    | ((with_reducible refine sideSt' fun K2 hK2 => ?_); (try simp (maxSteps := 10000000) (disch := first | omega | simp) [hti]); refine hK2 _ ?_; clear hK2 K2; (try simp (maxSteps := 10000000) (disch := first | omega | simp) [hti]))
                    | ((with_reducible refine gdU ?_); (try simp (maxSteps := 10000000) (disch := first | omega | simp) [hti]))
                    | ((with_reducible refine sideQ' ?_ ?_ fun K2 hK2 => ?_); exact rfl; exact rfl; (try simp (maxSteps := 10000000) (disch := first | omega | simp) [hti]); with_reducible refine hK2 _ _ ?_; clear hK2 K2; (try simp (maxSteps := 10000000) (disch := first | omega | simp) [hti]))
                    | ((with_reducible refine side' ?_ fun K2 hK2 => ?_); exact rfl; (try simp (maxSteps := 10000000) (disch := first | omega | simp) [hti]); refine hK2 _ _ (by simp) ?_; clear hK2 K2; (try simp (maxSteps := 10000000) (disch := first | omega | simp) [hti]))) <;> clear hK K)
                | ((with_reducible refine awCond fun A B hA hB => ?_); simp (maxSteps := 10000000) (disch := first | omega | simp) [hti]; (first | refine ⟨fun h => hA ?_, fun h => hB ?_⟩ | refine hA ?_ | refine hB ?_) <;> (clear hA hB A B; (try (exfalso; omega))))
            all_goals first
              | ((refine ⟨?_, (), ?_, Wk.ofA ?_⟩; assumption; rotate_left; focus (simp []; done))
                 trivial)
              | (exfalso
                 split at hld <;> simp_all)
          · repeat' first
                | (with_reducible first | refine thN ?_ | refine thR ?_ | refine thE ?_ | refine inN ?_ | refine inR ?_ | refine inH ?_ | refine fF ?_ | refine fS ?_ | refine fR ?_ | refine fQ ?_ | refine fC ?_ | refine fB ?_ | refine fL ?_ | refine fE ?_ | refine fT ?_ | refine awBlock ?_ | refine awExit ?_ | refine awRet ?_ | refine awSkip ?_ | refine inM (by decide) ?_)
                | ((with_reducible refine awReg fun K hok hK => ?_); clear hok; (try simp (maxSteps := 10000000) (disch := first | omega | simp) []); (repeat' first
                    | (with_reducible refine hK _ (by simp) ?_)
                    | ((with_reducible refine gdT (fun h => ?_) (fun h => ?_)) <;> (simp (maxSteps := 10000000) (disch := first | omega | simp) [h]; (try simp at h); (try (exfalso; omega))))
                    | ((with_reducible refine gdF (fun h => ?_) (fun h => ?_)) <;> (simp (maxSteps := 10000000) (disch := first | omega | simp) [h]; (try simp at h); (try (exfalso; omega))))
                    | ((with_reducible refine sideSt' fun K2 hK2 => ?_); (try simp (maxSteps := 10000000) (disch := first | omega | simp) []); refine hK2 _ ?_; clear hK2 K2; (try simp (maxSteps := 10000000) (disch := first | omega | simp) []))
                    | ((with_reducible refine gdU ?_); (try simp (maxSteps := 10000000) (disch := first | omega | simp) []))
                    | ((with_reducible refine sideQ' ?_ ?_ fun K2 hK2 => ?_); exact rfl; exact rfl; (try simp (maxSteps := 10000000) (disch := first | omega | simp) []); with_reducible refine hK2 _ _ ?_; clear hK2 K2; (try simp (maxSteps := 10000000) (disch := first | omega | simp) []))
                    | ((with_reducible refine side' ?_ fun K2 hK2 => ?_); exact rfl; (try simp (maxSteps := 10000000) (disch := first | omega | simp) []); refine hK2 _ _ (by simp) ?_; clear hK2 K2; (try simp (maxSteps := 10000000) (disch := first | omega | simp) []))) <;> clear hK K)
                | ((with_reducible refine awCond fun A B hA hB => ?_); simp (maxSteps := 10000000) (disch := first | omega | simp) []; (first | refine ⟨fun h => hA ?_, fun h => hB ?_⟩ | refine hA ?_ | refine hB ?_) <;> (clear hA hB A B; (try (exfalso; omega))))
            (refine ⟨?_, (), ?_, Wk.ofA ?_⟩; assumption; rotate_left; focus (simp []; done))
            trivial
        · repeat' first
              | (with_reducible first | refine thN ?_ | refine thR ?_ | refine thE ?_ | refine inN ?_ | refine inR ?_ | refine inH ?_ | refine fF ?_ | refine fS ?_ | refine fR ?_ | refine fQ ?_ | refine fC ?_ | refine fB ?_ | refine fL ?_ | refine fE ?_ | refine fT ?_ | refine awBlock ?_ | refine awExit ?_ | refine awRet ?_ | refine awSkip ?_ | refine inM (by decide) ?_)
              | ((with_reducible refine awReg fun K hok hK => ?_); clear hok; (try simp (maxSteps := 10000000) (disch := first | omega | simp) []); (repeat' first
                  | (with_reducible refine hK _ (by simp) ?_)
                  | ((with_reducible refine gdT (fun h => ?_) (fun h => ?_)) <;> (simp (maxSteps := 10000000) (disch := first | omega | simp) [h]; (try simp at h); (try (exfalso; omega))))
                  | ((with_reducible refine gdF (fun h => ?_) (fun h => ?_)) <;> (simp (maxSteps := 10000000) (disch := first | omega | simp) [h]; (try simp at h); (try (exfalso; omega))))
                  | ((with_reducible refine callS' fun K2 hK2 => ?_); (try simp (maxSteps := 10000000) (disch := first | omega | simp) []); (first | (refine hK2 _ _ (works_ok) rfl fun hk9 => ?_; clear hk9)); clear hK2 K2; (try simp (maxSteps := 10000000) (disch := first | omega | simp) []))
                  | ((with_reducible refine callF' fun K2 hK2 => ?_); (try simp (maxSteps := 10000000) (disch := first | omega | simp) []); (first | refine hK2 _ _ _ (works_ok) fun _ => ?_); clear hK2 K2; (try simp (maxSteps := 10000000) (disch := first | omega | simp) []))
                  | ((with_reducible refine sideS' fun K2 hK2 => ?_); (try simp (maxSteps := 10000000) (disch := first | omega | simp) []); (first | refine hK2 _ _ (works_ok) rfl ?_); clear hK2 K2; (try simp (maxSteps := 10000000) (disch := first | omega | simp) []))
                  | ((with_reducible refine sideF' fun K2 hK2 => ?_); (try simp (maxSteps := 10000000) (disch := first | omega | simp) []); (first | refine hK2 _ _ _ (works_ok) (by simp) ?_); clear hK2 K2; (try simp (maxSteps := 10000000) (disch := first | omega | simp) []))
                  | ((with_reducible refine sideSt' fun K2 hK2 => ?_); (try simp (maxSteps := 10000000) (disch := first | omega | simp) []); refine hK2 _ ?_; clear hK2 K2; (try simp (maxSteps := 10000000) (disch := first | omega | simp) []))
                  | ((with_reducible refine gdU ?_); (try simp (maxSteps := 10000000) (disch := first | omega | simp) []))
                  | ((with_reducible refine sideQ' ?_ ?_ fun K2 hK2 => ?_); exact rfl; exact rfl; (try simp (maxSteps := 10000000) (disch := first | omega | simp) []); with_reducible refine hK2 _ _ ?_; clear hK2 K2; (try simp (maxSteps := 10000000) (disch := first | omega | simp) []))
                  | ((with_reducible refine side' ?_ fun K2 hK2 => ?_); exact rfl; (try simp (maxSteps := 10000000) (disch := first | omega | simp) []); refine hK2 _ _ (by simp) ?_; clear hK2 K2; (try simp (maxSteps := 10000000) (disch := first | omega | simp) []))) <;> clear hK K)
              | ((with_reducible refine awCond fun A B hA hB => ?_); simp (maxSteps := 10000000) (disch := first | omega | simp) []; (first | refine ⟨fun h => hA ?_, fun h => hB ?_⟩ | refine hA ?_ | refine hB ?_) <;> (clear hA hB A B; (try (exfalso; omega))))
          (refine aEnR (aRes [] fun K hK => ?_); simp (maxSteps := 10000000) (disch := first | omega | simp) []; refine hK _ ?_ (by simp); clear hK; first | done | (simp (maxSteps := 10000000) (disch := first | omega | simp) [*]; done) | (simp (maxSteps := 10000000) (disch := first | omega | simp) [*]; omega) | (simp_all []; done) | (simp_all []; omega))
      · have hfn : b.fenced = true := by simpa using hfn
        repeat' first
            | (with_reducible first | refine thN ?_ | refine thR ?_ | refine thE ?_ | refine inN ?_ | refine inR ?_ | refine inH ?_ | refine fF ?_ | refine fS ?_ | refine fR ?_ | refine fQ ?_ | refine fC ?_ | refine fB ?_ | refine fL ?_ | refine fE ?_ | refine fT ?_ | refine awBlock ?_ | refine awExit ?_ | refine awRet ?_ | refine awSkip ?_ | refine inM (by decide) ?_)
            | ((with_reducible refine awReg fun K hok hK => ?_); clear hok; (try simp (maxSteps := 10000000) (disch := first | omega | simp) [hl, hu, hje, hne, hbb, hfn]); (repeat' first
                | (with_reducible refine hK _ (by simp) ?_)
                | ((with_reducible refine gdT (fun h => ?_) (fun h => ?_)) <;> (simp (maxSteps := 10000000) (disch := first | omega | simp) [h, hl, hu, hje, hne, hbb, hfn]; (try simp at h); (try (exfalso; omega))))
                | ((with_reducible refine gdF (fun h => ?_) (fun h => ?_)) <;> (simp (maxSteps := 10000000) (disch := first | omega | simp) [h, hl, hu, hje, hne, hbb, hfn]; (try simp at h); (try (exfalso; omega))))
                | ((with_reducible refine callS' fun K2 hK2 => ?_); (try simp (maxSteps := 10000000) (disch := first | omega | simp) [hl, hu, hje, hne, hbb, hfn]); (first | (refine hK2 _ _ (light_ok l) rfl fun hk9 => ?_; clear hk9) | (refine hK2 _ _ (works_ok) rfl fun hk9 => ?_; clear hk9) | (refine hK2 _ _ (hmk) rfl fun hk9 => ?_; clear hk9) | (refine hK2 _ _ (hlv) rfl fun hk9 => ?_; clear hk9) | (refine hK2 _ _ (hall) rfl fun hk9 => ?_; clear hk9) | (refine hK2 _ _ (hls) rfl fun hk9 => ?_; clear hk9)); clear hK2 K2; (try simp (maxSteps := 10000000) (disch := first | omega | simp) [hl, hu, hje, hne, hbb, hfn]))
                | ((with_reducible refine callF' fun K2 hK2 => ?_); (try simp (maxSteps := 10000000) (disch := first | omega | simp) [hl, hu, hje, hne, hbb, hfn]); (first | refine hK2 _ _ _ (light_ok l) fun _ => ?_ | refine hK2 _ _ _ (works_ok) fun _ => ?_ | refine hK2 _ _ _ (hmk) fun _ => ?_ | refine hK2 _ _ _ (hlv) fun _ => ?_ | refine hK2 _ _ _ (hall) fun _ => ?_ | refine hK2 _ _ _ (hls) fun _ => ?_); clear hK2 K2; (try simp (maxSteps := 10000000) (disch := first | omega | simp) [hl, hu, hje, hne, hbb, hfn]))
                | ((with_reducible refine sideS' fun K2 hK2 => ?_); (try simp (maxSteps := 10000000) (disch := first | omega | simp) [hl, hu, hje, hne, hbb, hfn]); (first | refine hK2 _ _ (light_ok l) rfl ?_ | refine hK2 _ _ (works_ok) rfl ?_ | refine hK2 _ _ (hmk) rfl ?_ | refine hK2 _ _ (hlv) rfl ?_ | refine hK2 _ _ (hall) rfl ?_ | refine hK2 _ _ (hls) rfl ?_); clear hK2 K2; (try simp (maxSteps := 10000000) (disch := first | omega | simp) [hl, hu, hje, hne, hbb, hfn]))
                | ((with_reducible refine sideF' fun K2 hK2 => ?_); (try simp (maxSteps := 10000000) (disch := first | omega | simp) [hl, hu, hje, hne, hbb, hfn]); (first | refine hK2 _ _ _ (light_ok l) (by simp) ?_ | refine hK2 _ _ _ (works_ok) (by simp) ?_ | refine hK2 _ _ _ (hmk) (by simp) ?_ | refine hK2 _ _ _ (hlv) (by simp) ?_ | refine hK2 _ _ _ (hall) (by simp) ?_ | refine hK2 _ _ _ (hls) (by simp) ?_); clear hK2 K2; (try simp (maxSteps := 10000000) (disch := first | omega | simp) [hl, hu, hje, hne, hbb, hfn]))
                | ((with_reducible refine callT' rfl fun K2 hK2 => ?_); (try simp (maxSteps := 10000000) (disch := first | omega | simp) [hl, hu, hje, hne, hbb, hfn]); (first | refine hK2 _ _ _ _ _ (hmk) fun _ => ?_ | refine hK2 _ _ _ _ _ (hlv) fun _ => ?_ | refine hK2 _ _ _ _ _ (hall) fun _ => ?_ | refine hK2 _ _ _ _ _ (hls) fun _ => ?_); clear hK2 K2; (try simp (maxSteps := 10000000) (disch := first | omega | simp) [hl, hu, hje, hne, hbb, hfn]))
                | ((with_reducible refine callM' rfl fun K2 hK2 => ?_); (try simp (maxSteps := 10000000) (disch := first | omega | simp) [hl, hu, hje, hne, hbb, hfn]); (first | refine hK2 _ _ _ _ _ _ _ (hmk) rfl fun _ _ => ?_ | refine hK2 _ _ _ _ _ _ _ (hlv) rfl fun _ _ => ?_ | refine hK2 _ _ _ _ _ _ _ (hall) rfl fun _ _ => ?_ | refine hK2 _ _ _ _ _ _ _ (hls) rfl fun _ _ => ?_); clear hK2 K2; (try simp (maxSteps := 10000000) (disch := first | omega | simp) [hl, hu, hje, hne, hbb, hfn]))
                | ((with_reducible refine sideSt' fun K2 hK2 => ?_); (try simp (maxSteps := 10000000) (disch := first | omega | simp) [hl, hu, hje, hne, hbb, hfn]); refine hK2 _ ?_; clear hK2 K2; (try simp (maxSteps := 10000000) (disch := first | omega | simp) [hl, hu, hje, hne, hbb, hfn]))
                | ((with_reducible refine gdU ?_); (try simp (maxSteps := 10000000) (disch := first | omega | simp) [hl, hu, hje, hne, hbb, hfn]))
                | ((with_reducible refine sideQ' ?_ ?_ fun K2 hK2 => ?_); exact rfl; exact rfl; (try simp (maxSteps := 10000000) (disch := first | omega | simp) [hl, hu, hje, hne, hbb, hfn]); with_reducible refine hK2 _ _ ?_; clear hK2 K2; (try simp (maxSteps := 10000000) (disch := first | omega | simp) [hl, hu, hje, hne, hbb, hfn]))
                | ((with_reducible refine side' ?_ fun K2 hK2 => ?_); exact rfl; (try simp (maxSteps := 10000000) (disch := first | omega | simp) [hl, hu, hje, hne, hbb, hfn]); refine hK2 _ _ (by simp) ?_; clear hK2 K2; (try simp (maxSteps := 10000000) (disch := first | omega | simp) [hl, hu, hje, hne, hbb, hfn]))) <;> clear hK K)
            | ((with_reducible refine awCond fun A B hA hB => ?_); simp (maxSteps := 10000000) (disch := first | omega | simp) [hl, hu, hje, hne, hbb, hfn]; (first | refine ⟨fun h => hA ?_, fun h => hB ?_⟩ | refine hA ?_ | refine hB ?_) <;> (clear hA hB A B; (try (exfalso; omega))))
        refine awFor m.topics.length (fun i (_ : Unit) => True) (fun i _ => [(11, .p (I i)), (7, .p (.own (encM nx).cells)), (6, .p (.own (encB b).cells)), (5, .p (.own (encM m).cells))]) () (Wk.ofA (by simp [*])) trivial fun i _ hi _ => ?_
        by_cases hlt : i < m.topics.length
        · have htm := List.getElem_mem hlt
          have hpl := hpre.pl _ htm
          have htl := hpre.tl
          have hti : nx.topics[i]? = some ⟨m.topics[i].id, m.topics[i].name, m.topics[i].parts.map fun p => m.lose p b.id⟩ := by rw [← hnxt]; simp [Image.mapParts, hlt]
          repeat' first
              | (with_reducible first | refine thN ?_ | refine thR ?_ | refine thE ?_ | refine inN ?_ | refine inR ?_ | refine inH ?_ | refine fF ?_ | refine fS ?_ | refine fR ?_ | refine fQ ?_ | refine fC ?_ | refine fB ?_ | refine fL ?_ | refine fE ?_ | refine fT ?_ | refine awBlock ?_ | refine awExit ?_ | refine awRet ?_ | refine awSkip ?_ | refine inM (by decide) ?_)
              | ((with_reducible refine awReg fun K hok hK => ?_); clear hok; (try simp (maxSteps := 10000000) (disch := first | omega | simp) []); (repeat' first
                  | (with_reducible refine hK _ (by simp) ?_)
                  | ((with_reducible refine gdT (fun h => ?_) (fun h => ?_)) <;> (simp (maxSteps := 10000000) (disch := first | omega | simp) [h]; (try simp at h); (try (exfalso; omega))))
                  | ((with_reducible refine gdF (fun h => ?_) (fun h => ?_)) <;> (simp (maxSteps := 10000000) (disch := first | omega | simp) [h]; (try simp at h); (try (exfalso; omega))))
                  | ((with_reducible refine sideSt' fun K2 hK2 => ?_); (try simp (maxSteps := 10000000) (disch := first | omega | simp) []); refine hK2 _ ?_; clear hK2 K2; (try simp (maxSteps := 10000000) (disch := first | omega | simp) []))
                  | ((with_reducible refine gdU ?_); (try simp (maxSteps := 10000000) (disch := first | omega | simp) []))
                  | ((with_reducible refine sideQ' ?_ ?_ fun K2 hK2 => ?_); exact rfl; exact rfl; (try simp (maxSteps := 10000000) (disch := first | omega | simp) []); with_reducible refine hK2 _ _ ?_; clear hK2 K2; (try simp (maxSteps := 10000000) (disch := first | omega | simp) []))
                  | ((with_reducible refine side' ?_ fun K2 hK2 => ?_); exact rfl; (try simp (maxSteps := 10000000) (disch := first | omega | simp) []); refine hK2 _ _ (by simp) ?_; clear hK2 K2; (try simp (maxSteps := 10000000) (disch := first | omega | simp) []))) <;> clear hK K)
              | ((with_reducible refine awCond fun A B hA hB => ?_); simp (maxSteps := 10000000) (disch := first | omega | simp) []; (first | refine ⟨fun h => hA ?_, fun h => hB ?_⟩ | refine hA ?_ | refine hB ?_) <;> (clear hA hB A B; (try (exfalso; omega))))
          refine awFor m.topics[i].parts.length (fun k (_ : Unit) => True) (fun k _ => [(12, .p (I k)), (11, .p (I i)), (7, .p (.own (encM nx).cells)), (6, .p (.own (encB b).cells)), (5, .p (.own (encM m).cells))]) () (Wk.ofA (by simp)) trivial fun k _ hk _ => ?_
          by_cases hkt : k < m.topics[i].parts.length
          · have hpm := List.getElem_mem hkt
            have hrw := (hinv.pr _ htm _ hpm).2
            have hle := lose_epoch m m.topics[i].parts[k] b.id
            have hld := lose_leader m m.topics[i].parts[k] b.id
            have hne0 : ∀ x ∈ m.topics[i].parts[k].ids, x ≠ 0 := fun x hx => by have := hrw.ids; simp only [brokersB, decide_eq_true_eq] at this; have := this.2.1 x hx; omega
            have hcr := chooseR_ok m m.topics[i].parts[k] b.id (small_of hrw)
            rw [chooseR_eq m _ _ hne0] at hcr
            repeat' first
                | (with_reducible first | refine thN ?_ | refine thR ?_ | refine thE ?_ | refine inN ?_ | refine inR ?_ | refine inH ?_ | refine fF ?_ | refine fS ?_ | refine fR ?_ | refine fQ ?_ | refine fC ?_ | refine fB ?_ | refine fL ?_ | refine fE ?_ | refine fT ?_ | refine awBlock ?_ | refine awExit ?_ | refine awRet ?_ | refine awSkip ?_ | refine inM (by decide) ?_)
                | ((with_reducible refine awReg fun K hok hK => ?_); clear hok; (try simp (maxSteps := 10000000) (disch := first | omega | simp) [hti]); (repeat' first
                    | (with_reducible refine hK _ (by simp) ?_)
                    | ((with_reducible refine gdT (fun h => ?_) (fun h => ?_)) <;> (simp (maxSteps := 10000000) (disch := first | omega | simp) [h, hti]; (try simp at h); (try (exfalso; omega))))
                    | ((with_reducible refine gdF (fun h => ?_) (fun h => ?_)) <;> (simp (maxSteps := 10000000) (disch := first | omega | simp) [h, hti]; (try simp at h); (try (exfalso; omega))))
                    | ((with_reducible refine callS' fun K2 hK2 => ?_); (try simp (maxSteps := 10000000) (disch := first | omega | simp) [hti]); (first | (refine hK2 _ _ (hcr) rfl fun hk9 => ?_; clear hk9)); clear hK2 K2; (try simp (maxSteps := 10000000) (disch := first | omega | simp) [hti]))
                    | ((with_reducible refine callF' fun K2 hK2 => ?_); (try simp (maxSteps := 10000000) (disch := first | omega | simp) [hti]); (first | refine hK2 _ _ _ (hcr) fun _ => ?_); clear hK2 K2; (try simp (maxSteps := 10000000) (disch := first | omega | simp) [hti]))
                    | ((with_reducible refine sideS' fun K2 hK2 => ?_); (try simp (maxSteps := 10000000) (disch := first | omega | simp) [hti]); (first | refine hK2 _ _ (hcr) rfl ?_); clear hK2 K2; (try simp (maxSteps := 10000000) (disch := first | omega | simp) [hti]))
                    | ((with_reducible refine sideF' fun K2 hK2 => ?_); (try simp (maxSteps := 10000000) (disch := first | omega | simp) [hti]); (first | refine hK2 _ _ _ (hcr) (by simp) ?_); clear hK2 K2; (try simp (maxSteps := 10000000) (disch := first | omega | simp) [hti]))
                    | ((with_reducible refine callT' rfl fun K2 hK2 => ?_); (try simp (maxSteps := 10000000) (disch := first | omega | simp) [hti]); (first | refine hK2 _ _ _ _ _ (hcr) fun _ => ?_); clear hK2 K2; (try simp (maxSteps := 10000000) (disch := first | omega | simp) [hti]))
                    | ((with_reducible refine callM' rfl fun K2 hK2 => ?_); (try simp (maxSteps := 10000000) (disch := first | omega | simp) [hti]); (first | refine hK2 _ _ _ _ _ _ _ (hcr) rfl fun _ _ => ?_); clear hK2 K2; (try simp (maxSteps := 10000000) (disch := first | omega | simp) [hti]))
                    | ((with_reducible refine sideSt' fun K2 hK2 => ?_); (try simp (maxSteps := 10000000) (disch := first | omega | simp) [hti]); refine hK2 _ ?_; clear hK2 K2; (try simp (maxSteps := 10000000) (disch := first | omega | simp) [hti]))
                    | ((with_reducible refine gdU ?_); (try simp (maxSteps := 10000000) (disch := first | omega | simp) [hti]))
                    | ((with_reducible refine sideQ' ?_ ?_ fun K2 hK2 => ?_); exact rfl; exact rfl; (try simp (maxSteps := 10000000) (disch := first | omega | simp) [hti]); with_reducible refine hK2 _ _ ?_; clear hK2 K2; (try simp (maxSteps := 10000000) (disch := first | omega | simp) [hti]))
                    | ((with_reducible refine side' ?_ fun K2 hK2 => ?_); exact rfl; (try simp (maxSteps := 10000000) (disch := first | omega | simp) [hti]); refine hK2 _ _ (by simp) ?_; clear hK2 K2; (try simp (maxSteps := 10000000) (disch := first | omega | simp) [hti]))) <;> clear hK K)
                | ((with_reducible refine awCond fun A B hA hB => ?_); simp (maxSteps := 10000000) (disch := first | omega | simp) [hti]; (first | refine ⟨fun h => hA ?_, fun h => hB ?_⟩ | refine hA ?_ | refine hB ?_) <;> (clear hA hB A B; (try (exfalso; omega))))
            all_goals first
              | ((refine ⟨?_, (), ?_, Wk.ofA ?_⟩; assumption; rotate_left; focus (simp []; done))
                 trivial)
              | (exfalso
                 split at hld <;> simp_all)
          · repeat' first
                | (with_reducible first | refine thN ?_ | refine thR ?_ | refine thE ?_ | refine inN ?_ | refine inR ?_ | refine inH ?_ | refine fF ?_ | refine fS ?_ | refine fR ?_ | refine fQ ?_ | refine fC ?_ | refine fB ?_ | refine fL ?_ | refine fE ?_ | refine fT ?_ | refine awBlock ?_ | refine awExit ?_ | refine awRet ?_ | refine awSkip ?_ | refine inM (by decide) ?_)
                | ((with_reducible refine awReg fun K hok hK => ?_); clear hok; (try simp (maxSteps := 10000000) (disch := first | omega | simp) []); (repeat' first
                    | (with_reducible refine hK _ (by simp) ?_)
                    | ((with_reducible refine gdT (fun h => ?_) (fun h => ?_)) <;> (simp (maxSteps := 10000000) (disch := first | omega | simp) [h]; (try simp at h); (try (exfalso; omega))))
                    | ((with_reducible refine gdF (fun h => ?_) (fun h => ?_)) <;> (simp (maxSteps := 10000000) (disch := first | omega | simp) [h]; (try simp at h); (try (exfalso; omega))))
                    | ((with_reducible refine sideSt' fun K2 hK2 => ?_); (try simp (maxSteps := 10000000) (disch := first | omega | simp) []); refine hK2 _ ?_; clear hK2 K2; (try simp (maxSteps := 10000000) (disch := first | omega | simp) []))
                    | ((with_reducible refine gdU ?_); (try simp (maxSteps := 10000000) (disch := first | omega | simp) []))
                    | ((with_reducible refine sideQ' ?_ ?_ fun K2 hK2 => ?_); exact rfl; exact rfl; (try simp (maxSteps := 10000000) (disch := first | omega | simp) []); with_reducible refine hK2 _ _ ?_; clear hK2 K2; (try simp (maxSteps := 10000000) (disch := first | omega | simp) []))
                    | ((with_reducible refine side' ?_ fun K2 hK2 => ?_); exact rfl; (try simp (maxSteps := 10000000) (disch := first | omega | simp) []); refine hK2 _ _ (by simp) ?_; clear hK2 K2; (try simp (maxSteps := 10000000) (disch := first | omega | simp) []))) <;> clear hK K)
                | ((with_reducible refine awCond fun A B hA hB => ?_); simp (maxSteps := 10000000) (disch := first | omega | simp) []; (first | refine ⟨fun h => hA ?_, fun h => hB ?_⟩ | refine hA ?_ | refine hB ?_) <;> (clear hA hB A B; (try (exfalso; omega))))
            (refine ⟨?_, (), ?_, Wk.ofA ?_⟩; assumption; rotate_left; focus (simp []; done))
            trivial
        · repeat' first
              | (with_reducible first | refine thN ?_ | refine thR ?_ | refine thE ?_ | refine inN ?_ | refine inR ?_ | refine inH ?_ | refine fF ?_ | refine fS ?_ | refine fR ?_ | refine fQ ?_ | refine fC ?_ | refine fB ?_ | refine fL ?_ | refine fE ?_ | refine fT ?_ | refine awBlock ?_ | refine awExit ?_ | refine awRet ?_ | refine awSkip ?_ | refine inM (by decide) ?_)
              | ((with_reducible refine awReg fun K hok hK => ?_); clear hok; (try simp (maxSteps := 10000000) (disch := first | omega | simp) []); (repeat' first
                  | (with_reducible refine hK _ (by simp) ?_)
                  | ((with_reducible refine gdT (fun h => ?_) (fun h => ?_)) <;> (simp (maxSteps := 10000000) (disch := first | omega | simp) [h]; (try simp at h); (try (exfalso; omega))))
                  | ((with_reducible refine gdF (fun h => ?_) (fun h => ?_)) <;> (simp (maxSteps := 10000000) (disch := first | omega | simp) [h]; (try simp at h); (try (exfalso; omega))))
                  | ((with_reducible refine callS' fun K2 hK2 => ?_); (try simp (maxSteps := 10000000) (disch := first | omega | simp) []); (first | (refine hK2 _ _ (works_ok) rfl fun hk9 => ?_; clear hk9)); clear hK2 K2; (try simp (maxSteps := 10000000) (disch := first | omega | simp) []))
                  | ((with_reducible refine callF' fun K2 hK2 => ?_); (try simp (maxSteps := 10000000) (disch := first | omega | simp) []); (first | refine hK2 _ _ _ (works_ok) fun _ => ?_); clear hK2 K2; (try simp (maxSteps := 10000000) (disch := first | omega | simp) []))
                  | ((with_reducible refine sideS' fun K2 hK2 => ?_); (try simp (maxSteps := 10000000) (disch := first | omega | simp) []); (first | refine hK2 _ _ (works_ok) rfl ?_); clear hK2 K2; (try simp (maxSteps := 10000000) (disch := first | omega | simp) []))
                  | ((with_reducible refine sideF' fun K2 hK2 => ?_); (try simp (maxSteps := 10000000) (disch := first | omega | simp) []); (first | refine hK2 _ _ _ (works_ok) (by simp) ?_); clear hK2 K2; (try simp (maxSteps := 10000000) (disch := first | omega | simp) []))
                  | ((with_reducible refine sideSt' fun K2 hK2 => ?_); (try simp (maxSteps := 10000000) (disch := first | omega | simp) []); refine hK2 _ ?_; clear hK2 K2; (try simp (maxSteps := 10000000) (disch := first | omega | simp) []))
                  | ((with_reducible refine gdU ?_); (try simp (maxSteps := 10000000) (disch := first | omega | simp) []))
                  | ((with_reducible refine sideQ' ?_ ?_ fun K2 hK2 => ?_); exact rfl; exact rfl; (try simp (maxSteps := 10000000) (disch := first | omega | simp) []); with_reducible refine hK2 _ _ ?_; clear hK2 K2; (try simp (maxSteps := 10000000) (disch := first | omega | simp) []))
                  | ((with_reducible refine side' ?_ fun K2 hK2 => ?_); exact rfl; (try simp (maxSteps := 10000000) (disch := first | omega | simp) []); refine hK2 _ _ (by simp) ?_; clear hK2 K2; (try simp (maxSteps := 10000000) (disch := first | omega | simp) []))) <;> clear hK K)
              | ((with_reducible refine awCond fun A B hA hB => ?_); simp (maxSteps := 10000000) (disch := first | omega | simp) []; (first | refine ⟨fun h => hA ?_, fun h => hB ?_⟩ | refine hA ?_ | refine hB ?_) <;> (clear hA hB A B; (try (exfalso; omega))))
          (refine aEnR (aRes [] fun K hK => ?_); simp (maxSteps := 10000000) (disch := first | omega | simp) []; refine hK _ ?_ (by simp); clear hK; first | done | (simp (maxSteps := 10000000) (disch := first | omega | simp) [*]; done) | (simp (maxSteps := 10000000) (disch := first | omega | simp) [*]; omega) | (simp_all []; done) | (simp_all []; omega))
  · repeat' first
        | (with_reducible first | refine thN ?_ | refine thR ?_ | refine thE ?_ | refine inN ?_ | refine inR ?_ | refine inH ?_ | refine fF ?_ | refine fS ?_ | refine fR ?_ | refine fQ ?_ | refine fC ?_ | refine fB ?_ | refine fL ?_ | refine fE ?_ | refine fT ?_ | refine awBlock ?_ | refine awExit ?_ | refine awRet ?_ | refine awSkip ?_ | refine inM (by decide) ?_)
        | ((with_reducible refine awReg fun K hok hK => ?_); clear hok; (try simp (maxSteps := 10000000) (disch := first | omega | simp) [hl]); (repeat' first
            | (with_reducible refine hK _ (by simp) ?_)
            | ((with_reducible refine gdT (fun h => ?_) (fun h => ?_)) <;> (simp (maxSteps := 10000000) (disch := first | omega | simp) [h, hl]; (try simp at h); (try (exfalso; omega))))
            | ((with_reducible refine gdF (fun h => ?_) (fun h => ?_)) <;> (simp (maxSteps := 10000000) (disch := first | omega | simp) [h, hl]; (try simp at h); (try (exfalso; omega))))
            | ((with_reducible refine callS' fun K2 hK2 => ?_); (try simp (maxSteps := 10000000) (disch := first | omega | simp) [hl]); (first | (refine hK2 _ _ (light_ok l) rfl fun hk9 => ?_; clear hk9) | (refine hK2 _ _ (works_ok) rfl fun hk9 => ?_; clear hk9)); clear hK2 K2; (try simp (maxSteps := 10000000) (disch := first | omega | simp) [hl]))
            | ((with_reducible refine callF' fun K2 hK2 => ?_); (try simp (maxSteps := 10000000) (disch := first | omega | simp) [hl]); (first | refine hK2 _ _ _ (light_ok l) fun _ => ?_ | refine hK2 _ _ _ (works_ok) fun _ => ?_); clear hK2 K2; (try simp (maxSteps := 10000000) (disch := first | omega | simp) [hl]))
            | ((with_reducible refine sideS' fun K2 hK2 => ?_); (try simp (maxSteps := 10000000) (disch := first | omega | simp) [hl]); (first | refine hK2 _ _ (light_ok l) rfl ?_ | refine hK2 _ _ (works_ok) rfl ?_); clear hK2 K2; (try simp (maxSteps := 10000000) (disch := first | omega | simp) [hl]))
            | ((with_reducible refine sideF' fun K2 hK2 => ?_); (try simp (maxSteps := 10000000) (disch := first | omega | simp) [hl]); (first | refine hK2 _ _ _ (light_ok l) (by simp) ?_ | refine hK2 _ _ _ (works_ok) (by simp) ?_); clear hK2 K2; (try simp (maxSteps := 10000000) (disch := first | omega | simp) [hl]))
            | ((with_reducible refine sideSt' fun K2 hK2 => ?_); (try simp (maxSteps := 10000000) (disch := first | omega | simp) [hl]); refine hK2 _ ?_; clear hK2 K2; (try simp (maxSteps := 10000000) (disch := first | omega | simp) [hl]))
            | ((with_reducible refine gdU ?_); (try simp (maxSteps := 10000000) (disch := first | omega | simp) [hl]))
            | ((with_reducible refine sideQ' ?_ ?_ fun K2 hK2 => ?_); exact rfl; exact rfl; (try simp (maxSteps := 10000000) (disch := first | omega | simp) [hl]); with_reducible refine hK2 _ _ ?_; clear hK2 K2; (try simp (maxSteps := 10000000) (disch := first | omega | simp) [hl]))
            | ((with_reducible refine side' ?_ fun K2 hK2 => ?_); exact rfl; (try simp (maxSteps := 10000000) (disch := first | omega | simp) [hl]); refine hK2 _ _ (by simp) ?_; clear hK2 K2; (try simp (maxSteps := 10000000) (disch := first | omega | simp) [hl]))) <;> clear hK K)
        | ((with_reducible refine awCond fun A B hA hB => ?_); simp (maxSteps := 10000000) (disch := first | omega | simp) [hl]; (first | refine ⟨fun h => hA ?_, fun h => hB ?_⟩ | refine hA ?_ | refine hB ?_) <;> (clear hA hB A B; (try (exfalso; omega))))
    all_goals (refine aEnR (aRes [] fun K hK => ?_); simp (maxSteps := 10000000) (disch := first | omega | simp) []; refine hK _ ?_ (by simp); clear hK; first | done | (simp (maxSteps := 10000000) (disch := first | omega | simp) [*]; done) | (simp (maxSteps := 10000000) (disch := first | omega | simp) [*]; omega) | (simp_all []; done) | (simp_all []; omega))
end
end Go.Am
