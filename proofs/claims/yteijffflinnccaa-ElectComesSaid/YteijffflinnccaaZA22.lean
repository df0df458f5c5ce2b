/- Part of the proof of ElectLeaves. -/
import Derived.Test.YteijffflinnccaaZA13
import Derived.Test.YteijffflinnccaaZA15
import Derived.Test.YteijffflinnccaaZA17
import Derived.Test.YteijffflinnccaaZA18
import Derived.Test.YteijffflinnccaaZA19
import Derived.Test.YteijffflinnccaaZA21
import Derived.Test.YteijffflinnccaaZAB
import Derived.Test.YteijffflinnccaaZPU
set_option linter.all false
set_option maxRecDepth 100000
set_option maxHeartbeats 0
namespace Go.Am
open Go
noncomputable section
def c20 : SC := (.seq (.reg [⟨some 2, .box 30 (.tmp 0), none, []⟩,
  ⟨some 3, .box 43 (.tmp 1), none, []⟩,
  ⟨some 4, .alloc 30, none, []⟩,
  ⟨some 5, .assign (.const (.int .i64 0)), none, []⟩] [2, 3, 4, 6, 13, 14, 21, 23, 31, 33, 39, 41, 46, 48, 54, 56, 61, 63, 68, 70]) (.seq (.reg [⟨some 7, .load 43 (.tmp 3), none, []⟩,
  ⟨some 8, .call { callee := .value (.func 58), args := #[.tmp 7], argTypes := #[43] }, none, []⟩,
  ⟨some 6, .alloc 99, none, []⟩,
  ⟨none, .store 99 (.tmp 6) (.tmp 8), none, []⟩] [2, 3, 4, 6, 13, 14, 21, 23, 31, 33, 39, 41, 46, 48, 54, 56, 61, 63, 68, 70]) (.seq (.reg [⟨some 9, .fieldAddr 99 (.tmp 6) 2, none, []⟩,
  ⟨some 10, .load 35 (.tmp 9), none, []⟩,
  ⟨some 11, .binOp .neq 35 (.tmp 10) (.const (.int .i64 0)) 35, none, []⟩] [2, 3, 4, 6, 11, 13, 14, 21, 23, 31, 33, 39, 41, 46, 48, 54, 56, 61, 63, 68, 70]) (.seq (.cond (.tmp 11) (.seq (.reg [⟨some 12, .load 30 (.tmp 2), none, [13, 14]⟩,
  ⟨some 13, .fieldAddr 99 (.tmp 6) 2, none, [12, 4]⟩,
  ⟨some 14, .load 35 (.tmp 13), none, [12, 4]⟩,
  ⟨none, .store 30 (.tmp 4) (.tmp 12), none, [13, 14]⟩,
  ⟨some 5, .assign (.tmp 14), none, []⟩] [4, 5, 6, 13, 14, 21, 23, 31, 33, 39, 41, 46, 48, 54, 56, 61, 63, 68, 70]) .ret) .skip) (.seq (.reg [⟨some 15, .fieldAddr 43 (.tmp 3) 0, none, []⟩,
  ⟨some 16, .load 3 (.tmp 15), none, []⟩] [2, 3, 4, 6, 13, 14, 15, 16, 21, 23, 31, 33, 39, 41, 46, 48, 54, 56, 61, 63, 68, 70]) (.seq (.block 0 (.seq (.reg [⟨some 18, .binOp .eql 3 (.tmp 16) (.const (.int .i64 2)) 3, none, []⟩,
  ⟨some 17, .assign (.tmp 18), none, []⟩] [2, 3, 4, 6, 13, 14, 15, 16, 17, 18, 21, 23, 31, 33, 39, 41, 46, 48, 54, 56, 61, 63, 68, 70]) (.seq (.cond (.tmp 17) (.seq (.reg [⟨some 19, .load 30 (.tmp 2), none, []⟩,
  ⟨some 20, .load 43 (.tmp 3), none, []⟩,
  ⟨some 21, .call { callee := .value (.func 59), args := #[.tmp 19, .tmp 20], argTypes := #[30, 43] }, none, []⟩,
  ⟨some 22, .extract (.tmp 21) 0, none, []⟩,
  ⟨some 23, .extract (.tmp 21) 1, none, []⟩,
  ⟨none, .store 30 (.tmp 4) (.tmp 22), none, []⟩,
  ⟨some 5, .assign (.tmp 23), none, []⟩] [4, 5, 6, 13, 14, 21, 23, 31, 33, 39, 41, 46, 48, 54, 56, 61, 63, 68, 70]) .ret) (.seq (.reg [⟨some 25, .binOp .eql 3 (.tmp 16) (.const (.int .i64 3)) 3, none, []⟩,
  ⟨some 24, .assign (.tmp 25), none, []⟩] [2, 3, 4, 6, 13, 14, 15, 16, 21, 23, 24, 25, 26, 27, 28, 31, 33, 39, 41, 46, 48, 54, 56, 61, 63, 68, 70]) (.seq (.cond (.tmp 24) .skip (.seq (.reg [⟨some 26, .binOp .eql 3 (.tmp 16) (.const (.int .i64 4)) 3, none, []⟩,
  ⟨some 24, .assign (.tmp 26), none, []⟩] [2, 3, 4, 6, 13, 14, 15, 16, 21, 23, 24, 25, 26, 27, 28, 31, 33, 39, 41, 46, 48, 54, 56, 61, 63, 68, 70]) (.seq (.cond (.tmp 24) .skip (.seq (.reg [⟨some 27, .binOp .eql 3 (.tmp 16) (.const (.int .i64 5)) 3, none, []⟩,
  ⟨some 24, .assign (.tmp 27), none, []⟩] [2, 3, 4, 6, 13, 14, 15, 16, 21, 23, 24, 25, 26, 27, 28, 31, 33, 39, 41, 46, 48, 54, 56, 61, 63, 68, 70]) (.seq (.cond (.tmp 24) .skip (.seq (.reg [⟨some 28, .binOp .eql 3 (.tmp 16) (.const (.int .i64 6)) 3, none, []⟩,
  ⟨some 24, .assign (.tmp 28), none, []⟩] [2, 3, 4, 6, 13, 14, 15, 16, 21, 23, 24, 25, 26, 27, 28, 31, 33, 39, 41, 46, 48, 54, 56, 61, 63, 68, 70]) .skip)) .skip))) .skip))) (.seq (.cond (.tmp 24) (.seq (.reg [⟨some 29, .load 30 (.tmp 2), none, []⟩,
  ⟨some 30, .load 43 (.tmp 3), none, []⟩,
  ⟨some 31, .call { callee := .value (.func 60), args := #[.tmp 29, .tmp 30], argTypes := #[30, 43] }, none, []⟩,
  ⟨some 32, .extract (.tmp 31) 0, none, []⟩,
  ⟨some 33, .extract (.tmp 31) 1, none, []⟩,
  ⟨none, .store 30 (.tmp 4) (.tmp 32), none, []⟩,
  ⟨some 5, .assign (.tmp 33), none, []⟩] [4, 5, 6, 13, 14, 21, 23, 31, 33, 39, 41, 46, 48, 54, 56, 61, 63, 68, 70]) .ret) (.seq (.reg [⟨some 35, .binOp .eql 3 (.tmp 16) (.const (.int .i64 8)) 3, none, []⟩,
  ⟨some 34, .assign (.tmp 35), none, []⟩] [2, 3, 4, 6, 13, 14, 15, 16, 21, 23, 31, 33, 34, 35, 36, 39, 41, 46, 48, 54, 56, 61, 63, 68, 70]) (.seq (.cond (.tmp 34) .skip (.seq (.reg [⟨some 36, .binOp .eql 3 (.tmp 16) (.const (.int .i64 9)) 3, none, []⟩,
  ⟨some 34, .assign (.tmp 36), none, []⟩] [2, 3, 4, 6, 13, 14, 15, 16, 21, 23, 31, 33, 34, 35, 36, 39, 41, 46, 48, 54, 56, 61, 63, 68, 70]) .skip)) (.seq (.cond (.tmp 34) (.seq (.reg [⟨some 37, .load 30 (.tmp 2), none, []⟩,
  ⟨some 38, .load 43 (.tmp 3), none, []⟩,
  ⟨some 39, .call { callee := .value (.func 61), args := #[.tmp 37, .tmp 38], argTypes := #[30, 43] }, none, []⟩,
  ⟨some 40, .extract (.tmp 39) 0, none, []⟩,
  ⟨some 41, .extract (.tmp 39) 1, none, []⟩,
  ⟨none, .store 30 (.tmp 4) (.tmp 40), none, []⟩,
  ⟨some 5, .assign (.tmp 41), none, []⟩] [4, 5, 6, 13, 14, 21, 23, 31, 33, 39, 41, 46, 48, 54, 56, 61, 63, 68, 70]) .ret) (.seq (.reg [⟨some 43, .binOp .eql 3 (.tmp 16) (.const (.int .i64 7)) 3, none, []⟩,
  ⟨some 42, .assign (.tmp 43), none, []⟩] [2, 3, 4, 6, 13, 14, 15, 16, 21, 23, 31, 33, 39, 41, 42, 43, 46, 48, 54, 56, 61, 63, 68, 70]) (.seq (.cond (.tmp 42) (.seq (.reg [⟨some 44, .load 30 (.tmp 2), none, []⟩,
  ⟨some 45, .load 43 (.tmp 3), none, []⟩,
  ⟨some 46, .call { callee := .value (.func 62), args := #[.tmp 44, .tmp 45], argTypes := #[30, 43] }, none, []⟩,
  ⟨some 47, .extract (.tmp 46) 0, none, []⟩,
  ⟨some 48, .extract (.tmp 46) 1, none, []⟩,
  ⟨none, .store 30 (.tmp 4) (.tmp 47), none, []⟩,
  ⟨some 5, .assign (.tmp 48), none, []⟩] [4, 5, 6, 13, 14, 21, 23, 31, 33, 39, 41, 46, 48, 54, 56, 61, 63, 68, 70]) .ret) (.seq (.reg [⟨some 50, .binOp .eql 3 (.tmp 16) (.const (.int .i64 11)) 3, none, []⟩,
  ⟨some 49, .assign (.tmp 50), none, []⟩] [2, 3, 4, 6, 13, 14, 15, 16, 21, 23, 31, 33, 39, 41, 46, 48, 49, 50, 54, 56, 61, 63, 68, 70]) (.seq (.cond (.tmp 49) (.seq (.reg [⟨some 51, .load 30 (.tmp 2), none, []⟩,
  ⟨some 52, .fieldAddr 43 (.tmp 3) 3, none, []⟩,
  ⟨some 53, .load 3 (.tmp 52), none, []⟩,
  ⟨some 54, .call { callee := .value (.func 63), args := #[.tmp 51, .tmp 53], argTypes := #[30, 3] }, none, []⟩,
  ⟨some 55, .extract (.tmp 54) 0, none, []⟩,
  ⟨some 56, .extract (.tmp 54) 1, none, []⟩,
  ⟨none, .store 30 (.tmp 4) (.tmp 55), none, []⟩,
  ⟨some 5, .assign (.tmp 56), none, []⟩] [4, 5, 6, 13, 14, 21, 23, 31, 33, 39, 41, 46, 48, 54, 56, 61, 63, 68, 70]) .ret) (.seq (.reg [⟨some 58, .binOp .eql 3 (.tmp 16) (.const (.int .i64 10)) 3, none, []⟩,
  ⟨some 57, .assign (.tmp 58), none, []⟩] [2, 3, 4, 6, 13, 14, 15, 16, 21, 23, 31, 33, 39, 41, 46, 48, 54, 56, 57, 58, 61, 63, 68, 70]) (.seq (.cond (.tmp 57) (.seq (.reg [⟨some 59, .load 30 (.tmp 2), none, []⟩,
  ⟨some 60, .load 43 (.tmp 3), none, []⟩,
  ⟨some 61, .call { callee := .value (.func 64), args := #[.tmp 59, .tmp 60], argTypes := #[30, 43] }, none, []⟩,
  ⟨some 62, .extract (.tmp 61) 0, none, []⟩,
  ⟨some 63, .extract (.tmp 61) 1, none, []⟩,
  ⟨none, .store 30 (.tmp 4) (.tmp 62), none, []⟩,
  ⟨some 5, .assign (.tmp 63), none, []⟩] [4, 5, 6, 13, 14, 21, 23, 31, 33, 39, 41, 46, 48, 54, 56, 61, 63, 68, 70]) .ret) (.seq (.reg [⟨some 65, .binOp .eql 3 (.tmp 16) (.const (.int .i64 12)) 3, none, []⟩,
  ⟨some 64, .assign (.tmp 65), none, []⟩] [2, 3, 4, 6, 13, 14, 21, 23, 31, 33, 39, 41, 46, 48, 54, 56, 61, 63, 64, 65, 68, 70]) (.seq (.cond (.tmp 64) (.seq (.reg [⟨some 66, .load 30 (.tmp 2), none, []⟩,
  ⟨some 67, .load 43 (.tmp 3), none, []⟩,
  ⟨some 68, .call { callee := .value (.func 65), args := #[.tmp 66, .tmp 67], argTypes := #[30, 43] }, none, []⟩,
  ⟨some 69, .extract (.tmp 68) 0, none, []⟩,
  ⟨some 70, .extract (.tmp 68) 1, none, []⟩,
  ⟨none, .store 30 (.tmp 4) (.tmp 69), none, []⟩,
  ⟨some 5, .assign (.tmp 70), none, []⟩] [4, 5, 6, 13, 14, 21, 23, 31, 33, 39, 41, 46, 48, 54, 56, 61, 63, 68, 70]) .ret) .skip) .skip))) .skip))) .skip))) .skip))) .skip)))) .skip)))) .skip))) (.seq (.reg [⟨some 71, .load 30 (.tmp 2), none, []⟩,
  ⟨none, .store 30 (.tmp 4) (.tmp 71), none, []⟩,
  ⟨some 5, .assign (.const (.int .i64 0)), none, []⟩] [4, 5, 6, 13, 14, 21, 23, 31, 33, 39, 41, 46, 48, 54, 56, 61, 63, 68, 70]) .ret)))))))
theorem s20 : TextK Proofs.Try.prog 0 20 72 [ResultVar.cell 4 30, ResultVar.tmp 5] c20 := .mk' Proofs.Try.f20 _ (by kernel_rfl) rfl rfl rfl (by kernel_rfl) rfl (by kernel_rfl)
theorem apply_ok (m : Image) (r : Record) (hm : m.Pre) : ACall pg 20 [encM m, encR r] (.tup [encM (m.apply r).1, I (m.apply r).2]) := by
  refine s20.call mo (by simp) fun hxs => ?_
  clear hxs
  unfold c20
  by_cases hc : (checkW r).code = 0
  · by_cases hk : r.kind = 8 ∨ r.kind = 9
    · have hp := (check_part hc hk).1
      repeat' first
          | (with_reducible first | refine thN ?_ | refine thR ?_ | refine thE ?_ | refine inN ?_ | refine inR ?_ | refine inH ?_ | refine fF ?_ | refine fS ?_ | refine fR ?_ | refine fQ ?_ | refine fC ?_ | refine fB ?_ | refine fL ?_ | refine fE ?_ | refine fT ?_ | refine awBlock ?_ | refine awExit ?_ | refine awRet ?_ | refine awSkip ?_ | refine inM (by decide) ?_)
          | ((with_reducible refine awReg fun K hok hK => ?_); clear hok; (try simp (maxSteps := 10000000) (disch := first | omega | simp) [hc]); (repeat' first
              | (with_reducible refine hK _ (by simp) ?_)
              | ((with_reducible refine gdT (fun h => ?_) (fun h => ?_)) <;> (simp (maxSteps := 10000000) (disch := first | omega | simp) [h, hc]; (try simp at h); (try (exfalso; omega))))
              | ((with_reducible refine gdF (fun h => ?_) (fun h => ?_)) <;> (simp (maxSteps := 10000000) (disch := first | omega | simp) [h, hc]; (try simp at h); (try (exfalso; omega))))
              | ((with_reducible refine callS' fun K2 hK2 => ?_); (try simp (maxSteps := 10000000) (disch := first | omega | simp) [hc]); (first | (refine hK2 _ _ (ref05_Check_ok r) rfl fun hk9 => ?_; clear hk9) | (refine hK2 _ _ (partRec_ok m r hm hp) rfl fun hk9 => ?_; clear hk9)); clear hK2 K2; (try simp (maxSteps := 10000000) (disch := first | omega | simp) [hc]))
              | ((with_reducible refine callF' fun K2 hK2 => ?_); (try simp (maxSteps := 10000000) (disch := first | omega | simp) [hc]); (first | refine hK2 _ _ _ (ref05_Check_ok r) fun _ => ?_ | refine hK2 _ _ _ (partRec_ok m r hm hp) fun _ => ?_); clear hK2 K2; (try simp (maxSteps := 10000000) (disch := first | omega | simp) [hc]))
              | ((with_reducible refine sideSt' fun K2 hK2 => ?_); (try simp (maxSteps := 10000000) (disch := first | omega | simp) [hc]); refine hK2 _ ?_; clear hK2 K2; (try simp (maxSteps := 10000000) (disch := first | omega | simp) [hc]))
              | ((with_reducible refine gdU ?_); (try simp (maxSteps := 10000000) (disch := first | omega | simp) [hc]))
              | ((with_reducible refine sideQ' ?_ ?_ fun K2 hK2 => ?_); exact rfl; exact rfl; (try simp (maxSteps := 10000000) (disch := first | omega | simp) [hc]); with_reducible refine hK2 _ _ ?_; clear hK2 K2; (try simp (maxSteps := 10000000) (disch := first | omega | simp) [hc]))
              | ((with_reducible refine side' ?_ fun K2 hK2 => ?_); exact rfl; (try simp (maxSteps := 10000000) (disch := first | omega | simp) [hc]); refine hK2 _ _ (by simp) ?_; clear hK2 K2; (try simp (maxSteps := 10000000) (disch := first | omega | simp) [hc]))) <;> clear hK K)
          | ((with_reducible refine awCond fun A B hA hB => ?_); simp (maxSteps := 10000000) (disch := first | omega | simp) [hc]; (first | refine ⟨fun h => hA ?_, fun h => hB ?_⟩ | refine hA ?_ | refine hB ?_) <;> (clear hA hB A B; (try (exfalso; omega))))
      all_goals (refine aEnR (aRes [true] fun K hK => ?_); simp (maxSteps := 10000000) (disch := first | omega | simp) [hc]; refine hK _ ?_ (by simp); clear hK; (try unfold Image.apply); ((repeat' split) <;> first | rfl | (exfalso; omega) | (exfalso; simp only [*, Bool.false_eq_true, Bool.true_eq_false, not_true, not_false_iff] at *; done) | (simp_all [hc]; done) | (exfalso; simp_all [hc]; omega)))
    · repeat' first
          | (with_reducible first | refine thN ?_ | refine thR ?_ | refine thE ?_ | refine inN ?_ | refine inR ?_ | refine inH ?_ | refine fF ?_ | refine fS ?_ | refine fR ?_ | refine fQ ?_ | refine fC ?_ | refine fB ?_ | refine fL ?_ | refine fE ?_ | refine fT ?_ | refine awBlock ?_ | refine awExit ?_ | refine awRet ?_ | refine awSkip ?_ | refine inM (by decide) ?_)
          | ((with_reducible refine awReg fun K hok hK => ?_); clear hok; (try simp (maxSteps := 10000000) (disch := first | omega | simp) [hc]); (repeat' first
              | (with_reducible refine hK _ (by simp) ?_)
              | ((with_reducible refine gdT (fun h => ?_) (fun h => ?_)) <;> (simp (maxSteps := 10000000) (disch := first | omega | simp) [h, hc]; (try simp at h); (try (exfalso; omega))))
              | ((with_reducible refine gdF (fun h => ?_) (fun h => ?_)) <;> (simp (maxSteps := 10000000) (disch := first | omega | simp) [h, hc]; (try simp at h); (try (exfalso; omega))))
              | ((with_reducible refine callS' fun K2 hK2 => ?_); (try simp (maxSteps := 10000000) (disch := first | omega | simp) [hc]); (first | (refine hK2 _ _ (ref05_Check_ok r) rfl fun hk9 => ?_; clear hk9) | (refine hK2 _ _ (register_ok m r hm.bl) rfl fun hk9 => ?_; clear hk9) | (refine hK2 _ _ (brokerRec_ok m r hm.bl) rfl fun hk9 => ?_; clear hk9) | (refine hK2 _ _ (addTopic_ok m r) rfl fun hk9 => ?_; clear hk9) | (refine hK2 _ _ (dropRec_ok m r.topic hm) rfl fun hk9 => ?_; clear hk9) | (refine hK2 _ _ (configRec_ok m r hm) rfl fun hk9 => ?_; clear hk9) | (refine hK2 _ _ (doneRec_ok m r hm) rfl fun hk9 => ?_; clear hk9)); clear hK2 K2; (try simp (maxSteps := 10000000) (disch := first | omega | simp) [hc]))
              | ((with_reducible refine callF' fun K2 hK2 => ?_); (try simp (maxSteps := 10000000) (disch := first | omega | simp) [hc]); (first | refine hK2 _ _ _ (ref05_Check_ok r) fun _ => ?_ | refine hK2 _ _ _ (register_ok m r hm.bl) fun _ => ?_ | refine hK2 _ _ _ (brokerRec_ok m r hm.bl) fun _ => ?_ | refine hK2 _ _ _ (addTopic_ok m r) fun _ => ?_ | refine hK2 _ _ _ (dropRec_ok m r.topic hm) fun _ => ?_ | refine hK2 _ _ _ (configRec_ok m r hm) fun _ => ?_ | refine hK2 _ _ _ (doneRec_ok m r hm) fun _ => ?_); clear hK2 K2; (try simp (maxSteps := 10000000) (disch := first | omega | simp) [hc]))
              | ((with_reducible refine sideSt' fun K2 hK2 => ?_); (try simp (maxSteps := 10000000) (disch := first | omega | simp) [hc]); refine hK2 _ ?_; clear hK2 K2; (try simp (maxSteps := 10000000) (disch := first | omega | simp) [hc]))
              | ((with_reducible refine gdU ?_); (try simp (maxSteps := 10000000) (disch := first | omega | simp) [hc]))
              | ((with_reducible refine sideQ' ?_ ?_ fun K2 hK2 => ?_); exact rfl; exact rfl; (try simp (maxSteps := 10000000) (disch := first | omega | simp) [hc]); with_reducible refine hK2 _ _ ?_; clear hK2 K2; (try simp (maxSteps := 10000000) (disch := first | omega | simp) [hc]))
              | ((with_reducible refine side' ?_ fun K2 hK2 => ?_); exact rfl; (try simp (maxSteps := 10000000) (disch := first | omega | simp) [hc]); refine hK2 _ _ (by simp) ?_; clear hK2 K2; (try simp (maxSteps := 10000000) (disch := first | omega | simp) [hc]))) <;> clear hK K)
          | ((with_reducible refine awCond fun A B hA hB => ?_); simp (maxSteps := 10000000) (disch := first | omega | simp) [hc]; (first | refine ⟨fun h => hA ?_, fun h => hB ?_⟩ | refine hA ?_ | refine hB ?_) <;> (clear hA hB A B; (try (exfalso; omega))))
      all_goals (refine aEnR (aRes [true] fun K hK => ?_); simp (maxSteps := 10000000) (disch := first | omega | simp) [hc]; refine hK _ ?_ (by simp); clear hK; (try unfold Image.apply); ((repeat' split) <;> first | rfl | (exfalso; omega) | (exfalso; simp only [*, Bool.false_eq_true, Bool.true_eq_false, not_true, not_false_iff] at *; done) | (simp_all [hc]; done) | (exfalso; simp_all [hc]; omega)))
  · repeat' first
        | (with_reducible first | refine thN ?_ | refine thR ?_ | refine thE ?_ | refine inN ?_ | refine inR ?_ | refine inH ?_ | refine fF ?_ | refine fS ?_ | refine fR ?_ | refine fQ ?_ | refine fC ?_ | refine fB ?_ | refine fL ?_ | refine fE ?_ | refine fT ?_ | refine awBlock ?_ | refine awExit ?_ | refine awRet ?_ | refine awSkip ?_ | refine inM (by decide) ?_)
        | ((with_reducible refine awReg fun K hok hK => ?_); clear hok; (try simp (maxSteps := 10000000) (disch := first | omega | simp) [hc]); (repeat' first
            | (with_reducible refine hK _ (by simp) ?_)
            | ((with_reducible refine gdT (fun h => ?_) (fun h => ?_)) <;> (simp (maxSteps := 10000000) (disch := first | omega | simp) [h, hc]; (try simp at h); (try (exfalso; omega))))
            | ((with_reducible refine gdF (fun h => ?_) (fun h => ?_)) <;> (simp (maxSteps := 10000000) (disch := first | omega | simp) [h, hc]; (try simp at h); (try (exfalso; omega))))
            | ((with_reducible refine callS' fun K2 hK2 => ?_); (try simp (maxSteps := 10000000) (disch := first | omega | simp) [hc]); (first | (refine hK2 _ _ (ref05_Check_ok r) rfl fun hk9 => ?_; clear hk9)); clear hK2 K2; (try simp (maxSteps := 10000000) (disch := first | omega | simp) [hc]))
            | ((with_reducible refine callF' fun K2 hK2 => ?_); (try simp (maxSteps := 10000000) (disch := first | omega | simp) [hc]); (first | refine hK2 _ _ _ (ref05_Check_ok r) fun _ => ?_); clear hK2 K2; (try simp (maxSteps := 10000000) (disch := first | omega | simp) [hc]))
            | ((with_reducible refine sideSt' fun K2 hK2 => ?_); (try simp (maxSteps := 10000000) (disch := first | omega | simp) [hc]); refine hK2 _ ?_; clear hK2 K2; (try simp (maxSteps := 10000000) (disch := first | omega | simp) [hc]))
            | ((with_reducible refine gdU ?_); (try simp (maxSteps := 10000000) (disch := first | omega | simp) [hc]))
            | ((with_reducible refine sideQ' ?_ ?_ fun K2 hK2 => ?_); exact rfl; exact rfl; (try simp (maxSteps := 10000000) (disch := first | omega | simp) [hc]); with_reducible refine hK2 _ _ ?_; clear hK2 K2; (try simp (maxSteps := 10000000) (disch := first | omega | simp) [hc]))
            | ((with_reducible refine side' ?_ fun K2 hK2 => ?_); exact rfl; (try simp (maxSteps := 10000000) (disch := first | omega | simp) [hc]); refine hK2 _ _ (by simp) ?_; clear hK2 K2; (try simp (maxSteps := 10000000) (disch := first | omega | simp) [hc]))) <;> clear hK K)
        | ((with_reducible refine awCond fun A B hA hB => ?_); simp (maxSteps := 10000000) (disch := first | omega | simp) [hc]; (first | refine ⟨fun h => hA ?_, fun h => hB ?_⟩ | refine hA ?_ | refine hB ?_) <;> (clear hA hB A B; (try (exfalso; omega))))
    all_goals (refine aEnR (aRes [true] fun K hK => ?_); simp (maxSteps := 10000000) (disch := first | omega | simp) [hc]; refine hK _ ?_ (by simp); clear hK; (try unfold Image.apply); ((repeat' split) <;> first | rfl | (exfalso; omega) | (exfalso; simp only [*, Bool.false_eq_true, Bool.true_eq_false, not_true, not_false_iff] at *; done) | (simp_all [hc]; done) | (exfalso; simp_all [hc]; omega)))
end
end Go.Am
