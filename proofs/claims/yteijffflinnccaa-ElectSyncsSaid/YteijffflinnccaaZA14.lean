/- Part of the proof of ElectLeaves. -/
import Derived.Test.YteijffflinnccaaZAA
set_option linter.all false
set_option maxRecDepth 100000
set_option maxHeartbeats 0
namespace Go.Am
open Go
noncomputable section
def c124 : SC := (.seq (.reg [⟨some 2, .box 30 (.tmp 0), none, []⟩,
  ⟨some 3, .box 48 (.tmp 1), none, []⟩,
  ⟨some 4, .assign (.const (.int .i64 0)), none, []⟩] [2, 3]) (.seq (.reg [⟨some 11, .fieldAddr 48 (.tmp 3) 0, none, []⟩,
  ⟨some 12, .load 41 (.tmp 11), none, []⟩,
  ⟨some 13, .call { callee := .builtin .len, args := #[.tmp 12], argTypes := #[41] }, none, []⟩,
  ⟨some 14, .binOp .eql 3 (.tmp 13) (.const (.int .i64 0)) 3, none, []⟩] [2, 3, 14]) (.seq (.cond (.tmp 14) (.seq (.reg [⟨some 4, .assign (.const (.int .i64 18)), none, []⟩] [4]) .ret) .skip) (.seq (.reg [⟨some 5, .assign (.const (.int .i64 0)), none, []⟩] [2, 3, 5, 21]) (.seq (.block 0 (.seq (.loop (.seq (.reg [⟨some 15, .move (.tmp 5), none, []⟩,
  ⟨some 16, .fieldAddr 48 (.tmp 3) 0, none, []⟩,
  ⟨some 17, .load 41 (.tmp 16), none, []⟩,
  ⟨some 18, .call { callee := .builtin .len, args := #[.tmp 17], argTypes := #[41] }, none, []⟩,
  ⟨some 19, .binOp .lss 3 (.tmp 15) (.tmp 18) 3, none, []⟩] [2, 3, 5, 19, 21]) (.seq (.cond (.tmp 19) .skip (.exit 0)) (.seq (.block 1 (.seq (.reg [⟨some 23, .load 30 (.tmp 2), none, [24, 25, 26, 27, 28, 6]⟩,
  ⟨some 24, .fieldAddr 48 (.tmp 3) 0, none, [23, 26, 6]⟩,
  ⟨some 25, .load 41 (.tmp 24), none, [23, 26, 6]⟩,
  ⟨some 26, .move (.tmp 5), none, [23, 24, 25, 6]⟩,
  ⟨some 27, .indexAddr 41 (.tmp 25) (.tmp 26), none, [23, 6]⟩,
  ⟨some 28, .load 3 (.tmp 27), none, [23, 6]⟩,
  ⟨some 29, .call { callee := .value (.func 66), args := #[.tmp 23, .tmp 28], argTypes := #[30, 3] }, none, [6]⟩,
  ⟨some 22, .move (.tmp 29), none, [6]⟩,
  ⟨some 30, .extract (.tmp 22) 0, none, [31, 6]⟩,
  ⟨some 31, .extract (.tmp 22) 1, none, [30, 6, 6]⟩,
  ⟨some 6, .alloc 33, none, [23, 24, 25, 26, 27, 28, 29, 22, 30, 31]⟩,
  ⟨none, .store 33 (.tmp 6) (.tmp 30), none, [31]⟩,
  ⟨some 7, .assign (.tmp 31), none, []⟩] [2, 3, 5, 7, 21, 22, 29, 31]) (.seq (.reg [⟨some 32, .move (.tmp 7), none, []⟩,
  ⟨some 33, .unOp .not 4 (.tmp 32), none, []⟩] [2, 3, 5, 21, 33]) (.seq (.cond (.tmp 33) (.seq (.reg [⟨some 4, .assign (.const (.int .i64 18)), none, []⟩] [4]) .ret) .skip) .skip)))) (.seq (.reg [⟨some 20, .move (.tmp 5), none, []⟩,
  ⟨some 21, .binOp .add 3 (.tmp 20) (.const (.int .i64 1)) 3, none, []⟩,
  ⟨some 5, .assign (.tmp 21), none, []⟩] [2, 3, 5, 21]) .skip))))) .skip)) (.seq (.reg [⟨some 34, .fieldAddr 48 (.tmp 3) 1, none, []⟩,
  ⟨some 35, .load 41 (.tmp 34), none, []⟩,
  ⟨some 36, .call { callee := .builtin .len, args := #[.tmp 35], argTypes := #[41] }, none, []⟩,
  ⟨some 37, .binOp .eql 3 (.tmp 36) (.const (.int .i64 0)) 3, none, []⟩] [2, 3, 37]) (.seq (.cond (.tmp 37) (.seq (.reg [⟨some 4, .assign (.const (.int .i64 18)), none, []⟩] [4]) .ret) .skip) (.seq (.reg [⟨some 8, .assign (.const (.int .i64 0)), none, []⟩] [2, 3, 8, 44]) (.seq (.block 2 (.seq (.loop (.seq (.reg [⟨some 38, .move (.tmp 8), none, []⟩,
  ⟨some 39, .fieldAddr 48 (.tmp 3) 1, none, []⟩,
  ⟨some 40, .load 41 (.tmp 39), none, []⟩,
  ⟨some 41, .call { callee := .builtin .len, args := #[.tmp 40], argTypes := #[41] }, none, []⟩,
  ⟨some 42, .binOp .lss 3 (.tmp 38) (.tmp 41) 3, none, []⟩] [2, 3, 8, 42, 44]) (.seq (.cond (.tmp 42) .skip (.exit 2)) (.seq (.block 3 (.seq (.reg [⟨some 45, .fieldAddr 48 (.tmp 3) 0, none, [47, 48, 49, 50, 51]⟩,
  ⟨some 46, .load 41 (.tmp 45), none, [47, 48, 49, 50, 51]⟩,
  ⟨some 47, .fieldAddr 48 (.tmp 3) 1, none, [45, 46, 49]⟩,
  ⟨some 48, .load 41 (.tmp 47), none, [45, 46, 49]⟩,
  ⟨some 49, .move (.tmp 8), none, [45, 46, 47, 48]⟩,
  ⟨some 50, .indexAddr 41 (.tmp 48) (.tmp 49), none, [45, 46]⟩,
  ⟨some 51, .load 3 (.tmp 50), none, [45, 46]⟩,
  ⟨some 52, .call { callee := .value (.func 23), args := #[.tmp 46, .tmp 51], argTypes := #[41, 3] }, none, []⟩,
  ⟨some 53, .unOp .not 4 (.tmp 52), none, []⟩] [2, 3, 8, 44, 53]) (.seq (.cond (.tmp 53) (.seq (.reg [⟨some 4, .assign (.const (.int .i64 18)), none, []⟩] [4]) .ret) .skip) .skip))) (.seq (.reg [⟨some 43, .move (.tmp 8), none, []⟩,
  ⟨some 44, .binOp .add 3 (.tmp 43) (.const (.int .i64 1)) 3, none, []⟩,
  ⟨some 8, .assign (.tmp 44), none, []⟩] [2, 3, 8, 44]) .skip))))) .skip)) (.seq (.reg [⟨some 54, .fieldAddr 48 (.tmp 3) 2, none, []⟩,
  ⟨some 55, .load 3 (.tmp 54), none, []⟩,
  ⟨some 56, .binOp .neq 3 (.tmp 55) (.const (.int .i64 0)) 3, none, []⟩,
  ⟨some 57, .move (.tmp 56), none, []⟩,
  ⟨some 58, .fieldAddr 48 (.tmp 3) 1, (some (57, true)), []⟩,
  ⟨some 59, .load 41 (.tmp 58), (some (57, true)), []⟩,
  ⟨some 60, .fieldAddr 48 (.tmp 3) 2, (some (57, true)), []⟩,
  ⟨some 61, .load 3 (.tmp 60), (some (57, true)), []⟩,
  ⟨some 62, .call { callee := .value (.func 23), args := #[.tmp 59, .tmp 61], argTypes := #[41, 3] }, (some (57, true)), []⟩,
  ⟨some 63, .unOp .not 4 (.tmp 62), (some (57, true)), []⟩,
  ⟨some 64, .move (.tmp 63), (some (57, true)), []⟩,
  ⟨some 65, .load 30 (.tmp 2), (some (64, false)), []⟩,
  ⟨some 66, .fieldAddr 48 (.tmp 3) 2, (some (64, false)), []⟩,
  ⟨some 67, .load 3 (.tmp 66), (some (64, false)), []⟩,
  ⟨some 68, .call { callee := .value (.func 48), args := #[.tmp 65, .tmp 67], argTypes := #[30, 3] }, (some (64, false)), []⟩,
  ⟨some 69, .unOp .not 4 (.tmp 68), (some (64, false)), []⟩,
  ⟨some 70, .pick (.tmp 64) (.const (.bool true)) (.tmp 69), (some (57, true)), []⟩,
  ⟨some 71, .pick (.tmp 57) (.tmp 70) (.const (.bool false)), none, []⟩] [3, 56, 57, 63, 64, 69, 70, 71]) (.seq (.cond (.tmp 71) (.seq (.reg [⟨some 4, .assign (.const (.int .i64 17)), none, []⟩] [4]) .ret) .skip) (.seq (.reg [⟨some 9, .assign (.const (.int .i64 0)), none, []⟩] [3, 9, 78]) (.seq (.block 4 (.seq (.loop (.seq (.reg [⟨some 72, .move (.tmp 9), none, []⟩,
  ⟨some 73, .fieldAddr 48 (.tmp 3) 4, none, []⟩,
  ⟨some 74, .load 41 (.tmp 73), none, []⟩,
  ⟨some 75, .call { callee := .builtin .len, args := #[.tmp 74], argTypes := #[41] }, none, []⟩,
  ⟨some 76, .binOp .lss 3 (.tmp 72) (.tmp 75) 3, none, []⟩] [3, 9, 76, 78]) (.seq (.cond (.tmp 76) .skip (.exit 4)) (.seq (.block 5 (.seq (.reg [⟨some 79, .fieldAddr 48 (.tmp 3) 0, none, [81, 82, 83, 84, 85]⟩,
  ⟨some 80, .load 41 (.tmp 79), none, [81, 82, 83, 84, 85]⟩,
  ⟨some 81, .fieldAddr 48 (.tmp 3) 4, none, [79, 80, 83]⟩,
  ⟨some 82, .load 41 (.tmp 81), none, [79, 80, 83]⟩,
  ⟨some 83, .move (.tmp 9), none, [79, 80, 81, 82]⟩,
  ⟨some 84, .indexAddr 41 (.tmp 82) (.tmp 83), none, [79, 80]⟩,
  ⟨some 85, .load 3 (.tmp 84), none, [79, 80]⟩,
  ⟨some 86, .call { callee := .value (.func 23), args := #[.tmp 80, .tmp 85], argTypes := #[41, 3] }, none, []⟩,
  ⟨some 87, .unOp .not 4 (.tmp 86), none, []⟩,
  ⟨some 88, .move (.tmp 87), none, []⟩,
  ⟨some 89, .fieldAddr 48 (.tmp 3) 5, (some (88, false)), [91, 92, 93, 94, 95]⟩,
  ⟨some 90, .load 41 (.tmp 89), (some (88, false)), [91, 92, 93, 94, 95]⟩,
  ⟨some 91, .fieldAddr 48 (.tmp 3) 4, (some (88, false)), [89, 90, 93]⟩,
  ⟨some 92, .load 41 (.tmp 91), (some (88, false)), [89, 90, 93]⟩,
  ⟨some 93, .move (.tmp 9), (some (88, false)), [89, 90, 91, 92]⟩,
  ⟨some 94, .indexAddr 41 (.tmp 92) (.tmp 93), (some (88, false)), [89, 90]⟩,
  ⟨some 95, .load 3 (.tmp 94), (some (88, false)), [89, 90]⟩,
  ⟨some 96, .call { callee := .value (.func 23), args := #[.tmp 90, .tmp 95], argTypes := #[41, 3] }, (some (88, false)), []⟩,
  ⟨some 97, .pick (.tmp 88) (.const (.bool true)) (.tmp 96), none, []⟩] [3, 9, 78, 87, 88, 96, 97]) (.seq (.cond (.tmp 97) (.seq (.reg [⟨some 4, .assign (.const (.int .i64 18)), none, []⟩] [4]) .ret) .skip) .skip))) (.seq (.reg [⟨some 77, .move (.tmp 9), none, []⟩,
  ⟨some 78, .binOp .add 3 (.tmp 77) (.const (.int .i64 1)) 3, none, []⟩,
  ⟨some 9, .assign (.tmp 78), none, []⟩] [3, 9, 78]) .skip))))) .skip)) (.seq (.reg [⟨some 10, .assign (.const (.int .i64 0)), none, []⟩] [3, 10, 104]) (.seq (.block 6 (.seq (.loop (.seq (.reg [⟨some 98, .move (.tmp 10), none, []⟩,
  ⟨some 99, .fieldAddr 48 (.tmp 3) 5, none, []⟩,
  ⟨some 100, .load 41 (.tmp 99), none, []⟩,
  ⟨some 101, .call { callee := .builtin .len, args := #[.tmp 100], argTypes := #[41] }, none, []⟩,
  ⟨some 102, .binOp .lss 3 (.tmp 98) (.tmp 101) 3, none, []⟩] [3, 10, 102, 104]) (.seq (.cond (.tmp 102) .skip (.exit 6)) (.seq (.block 7 (.seq (.reg [⟨some 105, .fieldAddr 48 (.tmp 3) 0, none, [107, 108, 109, 110, 111]⟩,
  ⟨some 106, .load 41 (.tmp 105), none, [107, 108, 109, 110, 111]⟩,
  ⟨some 107, .fieldAddr 48 (.tmp 3) 5, none, [105, 106, 109]⟩,
  ⟨some 108, .load 41 (.tmp 107), none, [105, 106, 109]⟩,
  ⟨some 109, .move (.tmp 10), none, [105, 106, 107, 108]⟩,
  ⟨some 110, .indexAddr 41 (.tmp 108) (.tmp 109), none, [105, 106]⟩,
  ⟨some 111, .load 3 (.tmp 110), none, [105, 106]⟩,
  ⟨some 112, .call { callee := .value (.func 23), args := #[.tmp 106, .tmp 111], argTypes := #[41, 3] }, none, []⟩,
  ⟨some 113, .unOp .not 4 (.tmp 112), none, []⟩] [3, 10, 104, 113]) (.seq (.cond (.tmp 113) (.seq (.reg [⟨some 4, .assign (.const (.int .i64 18)), none, []⟩] [4]) .ret) .skip) .skip))) (.seq (.reg [⟨some 103, .move (.tmp 10), none, []⟩,
  ⟨some 104, .binOp .add 3 (.tmp 103) (.const (.int .i64 1)) 3, none, []⟩,
  ⟨some 10, .assign (.tmp 104), none, []⟩] [3, 10, 104]) .skip))))) .skip)) (.seq (.reg [⟨some 4, .assign (.const (.int .i64 0)), none, []⟩] [4]) .ret))))))))))))))))
theorem s124 : TextK Proofs.Try.prog 0 124 114 [ResultVar.tmp 4] c124 := .mk' Proofs.Try.f124 _ (by kernel_rfl) rfl rfl rfl (by kernel_rfl) rfl (by kernel_rfl)
theorem right_ok (m : Image) (p : Part) : ACall pg 124 [encM m, encP p] (I (m.right p)) := by
  refine s124.call mo (by simp) fun hxs => ?_
  have hp1 := okLenI (l := p.ids) (by simpa using hxs.2.1.1)
  have hp2 := okLenI (l := p.isr) (by simpa using hxs.2.1.2.1)
  have hp3 := okLenI (l := p.add) (by simpa using hxs.2.1.2.2.2.2.1)
  have hp4 := okLenI (l := p.drop) (by simpa using hxs.2.1.2.2.2.2.2.1)
  clear hxs
  unfold c124
  repeat' first
      | (with_reducible first | refine thN ?_ | refine thR ?_ | refine thE ?_ | refine inN ?_ | refine inR ?_ | refine inH ?_ | refine fF ?_ | refine fS ?_ | refine fR ?_ | refine fQ ?_ | refine fC ?_ | refine fB ?_ | refine fL ?_ | refine fE ?_ | refine fT ?_ | refine awBlock ?_ | refine awExit ?_ | refine awRet ?_ | refine awSkip ?_ | refine inM (by decide) ?_)
      | ((with_reducible refine awReg fun K hok hK => ?_); clear hok; (try simp (maxSteps := 10000000) (disch := first | omega | simp) []); (repeat' first
          | (with_reducible refine hK _ (by simp) ?_)
          | ((with_reducible refine gdT (fun h => ?_) (fun h => ?_)) <;> (simp (maxSteps := 10000000) (disch := first | omega | simp) [h]; (try simp at h); (try (exfalso; omega))))
          | ((with_reducible refine gdF (fun h => ?_) (fun h => ?_)) <;> (simp (maxSteps := 10000000) (disch := first | omega | simp) [h]; (try simp at h); (try (exfalso; omega))))
          | ((with_reducible refine sideSt' fun K2 hK2 => ?_); (try simp (maxSteps := 10000000) (disch := first | omega | simp) []); refine hK2 _ ?_; clear hK2 K2; (try simp (maxSteps := 10000000) (disch := first | omega | simp) []))
          | ((with_reducible refine gdU ?_); (try simp (maxSteps := 10000000) (disch := first | omega | simp) []))
          | ((with_reducible refine sideQ' ?_ ?_ fun K2 hK2 => ?_); exact rfl; exact rfl; (try simp (maxSteps := 10000000) (disch := first | omega | simp) []); with_reducible refine hK2 _ _ ?_; clear hK2 K2; (try simp (maxSteps := 10000000) (disch := first | omega | simp) []))
          | ((with_reducible refine side' ?_ fun K2 hK2 => ?_); exact rfl; (try simp (maxSteps := 10000000) (disch := first | omega | simp) []); refine hK2 _ _ (by simp) ?_; clear hK2 K2; (try simp (maxSteps := 10000000) (disch := first | omega | simp) []))) <;> clear hK K)
      | ((with_reducible refine awCond fun A B hA hB => ?_); simp (maxSteps := 10000000) (disch := first | omega | simp) []; (first | refine ⟨fun h => hA ?_, fun h => hB ?_⟩ | refine hA ?_ | refine hB ?_) <;> (clear hA hB A B; (try (exfalso; omega))))
  · (refine aEnR (aRes [] fun K hK => ?_); simp (maxSteps := 10000000) (disch := first | omega | simp) [Image.right]; refine hK _ ?_ (by simp); clear hK; first | done | (simp (maxSteps := 10000000) (disch := first | omega | simp) [Image.right, *]; done) | (simp (maxSteps := 10000000) (disch := first | omega | simp) [Image.right, *]; omega) | (simp_all [Image.right]; done) | (simp_all [Image.right]; omega))
  refine awFor p.ids.length (fun i (_ : Unit) => ∀ n ∈ p.ids.take i, ((m.broker n).isNone) = false) (fun i _ => [(5, .p (I i)), (2, .p (.own (encM m).cells)), (3, .p (.own (encP p).cells))]) () (Wk.ofA ?_) (by simp) fun i _ hi hni => ?_
  · simp
  repeat' first
      | (with_reducible first | refine thN ?_ | refine thR ?_ | refine thE ?_ | refine inN ?_ | refine inR ?_ | refine inH ?_ | refine fF ?_ | refine fS ?_ | refine fR ?_ | refine fQ ?_ | refine fC ?_ | refine fB ?_ | refine fL ?_ | refine fE ?_ | refine fT ?_ | refine awBlock ?_ | refine awExit ?_ | refine awRet ?_ | refine awSkip ?_ | refine inM (by decide) ?_)
      | ((with_reducible refine awReg fun K hok hK => ?_); clear hok; (try simp (maxSteps := 10000000) (disch := first | omega | simp) []); (repeat' first
          | (with_reducible refine hK _ (by simp) ?_)
          | ((with_reducible refine gdT (fun h => ?_) (fun h => ?_)) <;> (simp (maxSteps := 10000000) (disch := first | omega | simp) [h]; (try simp at h); (try (exfalso; omega))))
          | ((with_reducible refine gdF (fun h => ?_) (fun h => ?_)) <;> (simp (maxSteps := 10000000) (disch := first | omega | simp) [h]; (try simp at h); (try (exfalso; omega))))
          | ((with_reducible refine callS' fun K2 hK2 => ?_); (try simp (maxSteps := 10000000) (disch := first | omega | simp) []); (first | (refine hK2 _ _ (broker_ok m _) rfl fun hk9 => ?_; clear hk9)); clear hK2 K2; (try simp (maxSteps := 10000000) (disch := first | omega | simp) []))
          | ((with_reducible refine callF' fun K2 hK2 => ?_); (try simp (maxSteps := 10000000) (disch := first | omega | simp) []); (first | refine hK2 _ _ _ (broker_ok m _) fun _ => ?_); clear hK2 K2; (try simp (maxSteps := 10000000) (disch := first | omega | simp) []))
          | ((with_reducible refine sideS' fun K2 hK2 => ?_); (try simp (maxSteps := 10000000) (disch := first | omega | simp) []); (first | refine hK2 _ _ (broker_ok m _) rfl ?_); clear hK2 K2; (try simp (maxSteps := 10000000) (disch := first | omega | simp) []))
          | ((with_reducible refine sideF' fun K2 hK2 => ?_); (try simp (maxSteps := 10000000) (disch := first | omega | simp) []); (first | refine hK2 _ _ _ (broker_ok m _) (by simp) ?_); clear hK2 K2; (try simp (maxSteps := 10000000) (disch := first | omega | simp) []))
          | ((with_reducible refine sideSt' fun K2 hK2 => ?_); (try simp (maxSteps := 10000000) (disch := first | omega | simp) []); refine hK2 _ ?_; clear hK2 K2; (try simp (maxSteps := 10000000) (disch := first | omega | simp) []))
          | ((with_reducible refine gdU ?_); (try simp (maxSteps := 10000000) (disch := first | omega | simp) []))
          | ((with_reducible refine sideQ' ?_ ?_ fun K2 hK2 => ?_); exact rfl; exact rfl; (try simp (maxSteps := 10000000) (disch := first | omega | simp) []); with_reducible refine hK2 _ _ ?_; clear hK2 K2; (try simp (maxSteps := 10000000) (disch := first | omega | simp) []))
          | ((with_reducible refine side' ?_ fun K2 hK2 => ?_); exact rfl; (try simp (maxSteps := 10000000) (disch := first | omega | simp) []); refine hK2 _ _ (by simp) ?_; clear hK2 K2; (try simp (maxSteps := 10000000) (disch := first | omega | simp) []))) <;> clear hK K)
      | ((with_reducible refine awCond fun A B hA hB => ?_); simp (maxSteps := 10000000) (disch := first | omega | simp) []; (first | refine ⟨fun h => hA ?_, fun h => hB ?_⟩ | refine hA ?_ | refine hB ?_) <;> (clear hA hB A B; (try (exfalso; omega))))
  · have e : p.ids.any (fun n => (m.broker n).isNone) = true := any_at (by assumption) (by simpa using h)
    (refine aEnR (aRes [] fun K hK => ?_); simp (maxSteps := 10000000) (disch := first | omega | simp) [Image.right, e]; refine hK _ ?_ (by simp); clear hK; first | done | (simp (maxSteps := 10000000) (disch := first | omega | simp) [Image.right, e, *]; done) | (simp (maxSteps := 10000000) (disch := first | omega | simp) [Image.right, e, *]; omega) | (simp_all [Image.right, e]; done) | (simp_all [Image.right, e]; omega))
  · exact ⟨by assumption, (), all_take (by assumption) hni (by simpa using h), Wk.ofA (by simp)⟩
  · have e1 : p.ids.any (fun n => (m.broker n).isNone) = false := any_no (by assumption) hni
    (refine aEnR (aRes [] fun K hK => ?_); simp (maxSteps := 10000000) (disch := first | omega | simp) [Image.right, e1]; refine hK _ ?_ (by simp); clear hK; first | done | (simp (maxSteps := 10000000) (disch := first | omega | simp) [Image.right, e1, *]; done) | (simp (maxSteps := 10000000) (disch := first | omega | simp) [Image.right, e1, *]; omega) | (simp_all [Image.right, e1]; done) | (simp_all [Image.right, e1]; omega))
  have e1 : p.ids.any (fun n => (m.broker n).isNone) = false := any_no (by assumption) hni
  clear hni hi
  refine awFor p.isr.length (fun i (_ : Unit) => ∀ n ∈ p.isr.take i, (!p.ids.contains n) = false) (fun i _ => [(8, .p (I i)), (2, .p (.own (encM m).cells)), (3, .p (.own (encP p).cells))]) () (Wk.ofA ?_) (by simp) fun i _ hi hni => ?_
  · simp
  repeat' first
      | (with_reducible first | refine thN ?_ | refine thR ?_ | refine thE ?_ | refine inN ?_ | refine inR ?_ | refine inH ?_ | refine fF ?_ | refine fS ?_ | refine fR ?_ | refine fQ ?_ | refine fC ?_ | refine fB ?_ | refine fL ?_ | refine fE ?_ | refine fT ?_ | refine awBlock ?_ | refine awExit ?_ | refine awRet ?_ | refine awSkip ?_ | refine inM (by decide) ?_)
      | ((with_reducible refine awReg fun K hok hK => ?_); clear hok; (try simp (maxSteps := 10000000) (disch := first | omega | simp) []); (repeat' first
          | (with_reducible refine hK _ (by simp) ?_)
          | ((with_reducible refine gdT (fun h => ?_) (fun h => ?_)) <;> (simp (maxSteps := 10000000) (disch := first | omega | simp) [h]; (try simp at h); (try (exfalso; omega))))
          | ((with_reducible refine gdF (fun h => ?_) (fun h => ?_)) <;> (simp (maxSteps := 10000000) (disch := first | omega | simp) [h]; (try simp at h); (try (exfalso; omega))))
          | ((with_reducible refine callS' fun K2 hK2 => ?_); (try simp (maxSteps := 10000000) (disch := first | omega | simp) []); (first | (refine hK2 _ _ (has_ok _ _) rfl fun hk9 => ?_; clear hk9) | (refine hK2 _ _ (alive_ok m p.leader) rfl fun hk9 => ?_; clear hk9)); clear hK2 K2; (try simp (maxSteps := 10000000) (disch := first | omega | simp) []))
          | ((with_reducible refine callF' fun K2 hK2 => ?_); (try simp (maxSteps := 10000000) (disch := first | omega | simp) []); (first | refine hK2 _ _ _ (has_ok _ _) fun _ => ?_ | refine hK2 _ _ _ (alive_ok m p.leader) fun _ => ?_); clear hK2 K2; (try simp (maxSteps := 10000000) (disch := first | omega | simp) []))
          | ((with_reducible refine sideS' fun K2 hK2 => ?_); (try simp (maxSteps := 10000000) (disch := first | omega | simp) []); (first | refine hK2 _ _ (has_ok _ _) rfl ?_ | refine hK2 _ _ (alive_ok m p.leader) rfl ?_); clear hK2 K2; (try simp (maxSteps := 10000000) (disch := first | omega | simp) []))
          | ((with_reducible refine sideF' fun K2 hK2 => ?_); (try simp (maxSteps := 10000000) (disch := first | omega | simp) []); (first | refine hK2 _ _ _ (has_ok _ _) (by simp) ?_ | refine hK2 _ _ _ (alive_ok m p.leader) (by simp) ?_); clear hK2 K2; (try simp (maxSteps := 10000000) (disch := first | omega | simp) []))
          | ((with_reducible refine sideSt' fun K2 hK2 => ?_); (try simp (maxSteps := 10000000) (disch := first | omega | simp) []); refine hK2 _ ?_; clear hK2 K2; (try simp (maxSteps := 10000000) (disch := first | omega | simp) []))
          | ((with_reducible refine gdU ?_); (try simp (maxSteps := 10000000) (disch := first | omega | simp) []))
          | ((with_reducible refine sideQ' ?_ ?_ fun K2 hK2 => ?_); exact rfl; exact rfl; (try simp (maxSteps := 10000000) (disch := first | omega | simp) []); with_reducible refine hK2 _ _ ?_; clear hK2 K2; (try simp (maxSteps := 10000000) (disch := first | omega | simp) []))
          | ((with_reducible refine side' ?_ fun K2 hK2 => ?_); exact rfl; (try simp (maxSteps := 10000000) (disch := first | omega | simp) []); refine hK2 _ _ (by simp) ?_; clear hK2 K2; (try simp (maxSteps := 10000000) (disch := first | omega | simp) []))) <;> clear hK K)
      | ((with_reducible refine awCond fun A B hA hB => ?_); simp (maxSteps := 10000000) (disch := first | omega | simp) []; (first | refine ⟨fun h => hA ?_, fun h => hB ?_⟩ | refine hA ?_ | refine hB ?_) <;> (clear hA hB A B; (try (exfalso; omega))))
  · have e : p.isr.any (fun n => !p.ids.contains n) = true := any_at (by assumption) (by simpa using h)
    (refine aEnR (aRes [] fun K hK => ?_); simp (maxSteps := 10000000) (disch := first | omega | simp) [Image.right, e1, e]; refine hK _ ?_ (by simp); clear hK; first | done | (simp (maxSteps := 10000000) (disch := first | omega | simp) [Image.right, e1, e, *]; done) | (simp (maxSteps := 10000000) (disch := first | omega | simp) [Image.right, e1, e, *]; omega) | (simp_all [Image.right, e1, e]; done) | (simp_all [Image.right, e1, e]; omega))
  · exact ⟨by assumption, (), all_take (by assumption) hni (by simpa using h), Wk.ofA (by simp)⟩
  all_goals
    have e2 : p.isr.any (fun n => !p.ids.contains n) = false := any_no (by assumption) hni
    clear hni hi
  all_goals first
    | (refine aEnR (aRes [] fun K hK => ?_); simp (maxSteps := 10000000) (disch := first | omega | simp) []; refine hK _ ?_ (by simp); clear hK; (try unfold Image.right); ((repeat' split) <;> first | rfl | (exfalso; omega) | (exfalso; simp only [*, Bool.false_eq_true, Bool.true_eq_false, not_true, not_false_iff] at *; done) | (simp_all; done) | (exfalso; simp_all; omega)))
    | (refine awFor p.add.length (fun i (_ : Unit) => ∀ n ∈ p.add.take i, (!p.ids.contains n || p.drop.contains n) = false) (fun i _ => [(9, .p (I i)), (3, .p (.own (encP p).cells))]) () (Wk.ofA ?_) (by simp) fun i _ hi hni => ?_
       · simp
       repeat' first
           | (with_reducible first | refine thN ?_ | refine thR ?_ | refine thE ?_ | refine inN ?_ | refine inR ?_ | refine inH ?_ | refine fF ?_ | refine fS ?_ | refine fR ?_ | refine fQ ?_ | refine fC ?_ | refine fB ?_ | refine fL ?_ | refine fE ?_ | refine fT ?_ | refine awBlock ?_ | refine awExit ?_ | refine awRet ?_ | refine awSkip ?_ | refine inM (by decide) ?_)
           | ((with_reducible refine awReg fun K hok hK => ?_); clear hok; (try simp (maxSteps := 10000000) (disch := first | omega | simp) []); (repeat' first
               | (with_reducible refine hK _ (by simp) ?_)
               | ((with_reducible refine gdT (fun h => ?_) (fun h => ?_)) <;> (simp (maxSteps := 10000000) (disch := first | omega | simp) [h]; (try simp at h); (try (exfalso; omega))))
               | ((with_reducible refine gdF (fun h => ?_) (fun h => ?_)) <;> (simp (maxSteps := 10000000) (disch := first | omega | simp) [h]; (try simp at h); (try (exfalso; omega))))
               | ((with_reducible refine callS' fun K2 hK2 => ?_); (try simp (maxSteps := 10000000) (disch := first | omega | simp) []); (first | (refine hK2 _ _ (has_ok _ _) rfl fun hk9 => ?_; clear hk9)); clear hK2 K2; (try simp (maxSteps := 10000000) (disch := first | omega | simp) []))
               | ((with_reducible refine callF' fun K2 hK2 => ?_); (try simp (maxSteps := 10000000) (disch := first | omega | simp) []); (first | refine hK2 _ _ _ (has_ok _ _) fun _ => ?_); clear hK2 K2; (try simp (maxSteps := 10000000) (disch := first | omega | simp) []))
               | ((with_reducible refine sideS' fun K2 hK2 => ?_); (try simp (maxSteps := 10000000) (disch := first | omega | simp) []); (first | refine hK2 _ _ (has_ok _ _) rfl ?_); clear hK2 K2; (try simp (maxSteps := 10000000) (disch := first | omega | simp) []))
               | ((with_reducible refine sideF' fun K2 hK2 => ?_); (try simp (maxSteps := 10000000) (disch := first | omega | simp) []); (first | refine hK2 _ _ _ (has_ok _ _) (by simp) ?_); clear hK2 K2; (try simp (maxSteps := 10000000) (disch := first | omega | simp) []))
               | ((with_reducible refine sideSt' fun K2 hK2 => ?_); (try simp (maxSteps := 10000000) (disch := first | omega | simp) []); refine hK2 _ ?_; clear hK2 K2; (try simp (maxSteps := 10000000) (disch := first | omega | simp) []))
               | ((with_reducible refine gdU ?_); (try simp (maxSteps := 10000000) (disch := first | omega | simp) []))
               | ((with_reducible refine sideQ' ?_ ?_ fun K2 hK2 => ?_); exact rfl; exact rfl; (try simp (maxSteps := 10000000) (disch := first | omega | simp) []); with_reducible refine hK2 _ _ ?_; clear hK2 K2; (try simp (maxSteps := 10000000) (disch := first | omega | simp) []))
               | ((with_reducible refine side' ?_ fun K2 hK2 => ?_); exact rfl; (try simp (maxSteps := 10000000) (disch := first | omega | simp) []); refine hK2 _ _ (by simp) ?_; clear hK2 K2; (try simp (maxSteps := 10000000) (disch := first | omega | simp) []))) <;> clear hK K)
           | ((with_reducible refine awCond fun A B hA hB => ?_); simp (maxSteps := 10000000) (disch := first | omega | simp) []; (first | refine ⟨fun h => hA ?_, fun h => hB ?_⟩ | refine hA ?_ | refine hB ?_) <;> (clear hA hB A B; (try (exfalso; omega))))
       all_goals first
         | exact ⟨by assumption, (), all_take (by assumption) hni (by simp [*]), Wk.ofA (by simp)⟩
         | (have e : p.add.any (fun n => !p.ids.contains n || p.drop.contains n) = true := any_at (by assumption) (by simp [*])
            (refine aEnR (aRes [] fun K hK => ?_); simp (maxSteps := 10000000) (disch := first | omega | simp) []; refine hK _ ?_ (by simp); clear hK; (try unfold Image.right); ((repeat' split) <;> first | rfl | (exfalso; omega) | (exfalso; simp only [*, Bool.false_eq_true, Bool.true_eq_false, not_true, not_false_iff] at *; done) | (simp_all; done) | (exfalso; simp_all; omega))))
         | (have e3 : p.add.any (fun n => !p.ids.contains n || p.drop.contains n) = false := any_no (by assumption) hni
            clear hni hi
            refine awFor p.drop.length (fun i (_ : Unit) => ∀ n ∈ p.drop.take i, (!p.ids.contains n) = false) (fun i _ => [(10, .p (I i)), (3, .p (.own (encP p).cells))]) () (Wk.ofA (by simp)) (by simp) fun i _ hi hni => ?_
            repeat' first
                | (with_reducible first | refine thN ?_ | refine thR ?_ | refine thE ?_ | refine inN ?_ | refine inR ?_ | refine inH ?_ | refine fF ?_ | refine fS ?_ | refine fR ?_ | refine fQ ?_ | refine fC ?_ | refine fB ?_ | refine fL ?_ | refine fE ?_ | refine fT ?_ | refine awBlock ?_ | refine awExit ?_ | refine awRet ?_ | refine awSkip ?_ | refine inM (by decide) ?_)
                | ((with_reducible refine awReg fun K hok hK => ?_); clear hok; (try simp (maxSteps := 10000000) (disch := first | omega | simp) []); (repeat' first
                    | (with_reducible refine hK _ (by simp) ?_)
                    | ((with_reducible refine gdT (fun h => ?_) (fun h => ?_)) <;> (simp (maxSteps := 10000000) (disch := first | omega | simp) [h]; (try simp at h); (try (exfalso; omega))))
                    | ((with_reducible refine gdF (fun h => ?_) (fun h => ?_)) <;> (simp (maxSteps := 10000000) (disch := first | omega | simp) [h]; (try simp at h); (try (exfalso; omega))))
                    | ((with_reducible refine callS' fun K2 hK2 => ?_); (try simp (maxSteps := 10000000) (disch := first | omega | simp) []); (first | (refine hK2 _ _ (has_ok _ _) rfl fun hk9 => ?_; clear hk9)); clear hK2 K2; (try simp (maxSteps := 10000000) (disch := first | omega | simp) []))
                    | ((with_reducible refine callF' fun K2 hK2 => ?_); (try simp (maxSteps := 10000000) (disch := first | omega | simp) []); (first | refine hK2 _ _ _ (has_ok _ _) fun _ => ?_); clear hK2 K2; (try simp (maxSteps := 10000000) (disch := first | omega | simp) []))
                    | ((with_reducible refine sideS' fun K2 hK2 => ?_); (try simp (maxSteps := 10000000) (disch := first | omega | simp) []); (first | refine hK2 _ _ (has_ok _ _) rfl ?_); clear hK2 K2; (try simp (maxSteps := 10000000) (disch := first | omega | simp) []))
                    | ((with_reducible refine sideF' fun K2 hK2 => ?_); (try simp (maxSteps := 10000000) (disch := first | omega | simp) []); (first | refine hK2 _ _ _ (has_ok _ _) (by simp) ?_); clear hK2 K2; (try simp (maxSteps := 10000000) (disch := first | omega | simp) []))
                    | ((with_reducible refine sideSt' fun K2 hK2 => ?_); (try simp (maxSteps := 10000000) (disch := first | omega | simp) []); refine hK2 _ ?_; clear hK2 K2; (try simp (maxSteps := 10000000) (disch := first | omega | simp) []))
                    | ((with_reducible refine gdU ?_); (try simp (maxSteps := 10000000) (disch := first | omega | simp) []))
                    | ((with_reducible refine sideQ' ?_ ?_ fun K2 hK2 => ?_); exact rfl; exact rfl; (try simp (maxSteps := 10000000) (disch := first | omega | simp) []); with_reducible refine hK2 _ _ ?_; clear hK2 K2; (try simp (maxSteps := 10000000) (disch := first | omega | simp) []))
                    | ((with_reducible refine side' ?_ fun K2 hK2 => ?_); exact rfl; (try simp (maxSteps := 10000000) (disch := first | omega | simp) []); refine hK2 _ _ (by simp) ?_; clear hK2 K2; (try simp (maxSteps := 10000000) (disch := first | omega | simp) []))) <;> clear hK K)
                | ((with_reducible refine awCond fun A B hA hB => ?_); simp (maxSteps := 10000000) (disch := first | omega | simp) []; (first | refine ⟨fun h => hA ?_, fun h => hB ?_⟩ | refine hA ?_ | refine hB ?_) <;> (clear hA hB A B; (try (exfalso; omega))))
            all_goals first
              | exact ⟨by assumption, (), all_take (by assumption) hni (by simpa using h), Wk.ofA (by simp)⟩
              | (have e : p.drop.any (fun n => !p.ids.contains n) = true := any_at (by assumption) (by simpa using h)
                 (refine aEnR (aRes [] fun K hK => ?_); simp (maxSteps := 10000000) (disch := first | omega | simp) []; refine hK _ ?_ (by simp); clear hK; (try unfold Image.right); ((repeat' split) <;> first | rfl | (exfalso; omega) | (exfalso; simp only [*, Bool.false_eq_true, Bool.true_eq_false, not_true, not_false_iff] at *; done) | (simp_all; done) | (exfalso; simp_all; omega))))
              | (have e4 : p.drop.any (fun n => !p.ids.contains n) = false := any_no (by assumption) hni
                 (refine aEnR (aRes [] fun K hK => ?_); simp (maxSteps := 10000000) (disch := first | omega | simp) []; refine hK _ ?_ (by simp); clear hK; (try unfold Image.right); ((repeat' split) <;> first | rfl | (exfalso; omega) | (exfalso; simp only [*, Bool.false_eq_true, Bool.true_eq_false, not_true, not_false_iff] at *; done) | (simp_all; done) | (exfalso; simp_all; omega))))))
end
end Go.Am
