/- Part of the proof of a law of placing. -/
import Derived.Test.YteijffflinnccaaQAA
import Derived.Test.YteijffflinnccaaQPU
set_option linter.all false
set_option maxRecDepth 100000
set_option maxHeartbeats 0
namespace Go.Am
open Go
noncomputable section
def c73 : SC := (.seq (.reg [⟨some 2, .assign (.const (.slice none 0 0)), none, []⟩] [0, 7]) (.seq (.reg [⟨some 3, .move (.tmp 0), none, []⟩,
  ⟨some 4, .binOp .eql 41 (.tmp 3) (.const (.slice none 0 0)) 41, none, []⟩] [0, 4, 7]) (.seq (.cond (.tmp 4) (.seq (.reg [⟨some 2, .assign (.const (.slice none 0 0)), none, []⟩] [2, 7]) .ret) .skip) (.seq (.reg [⟨some 5, .buildSlice 41 0 #[], none, []⟩,
  ⟨some 6, .move (.tmp 0), none, []⟩,
  ⟨some 7, .call { callee := .builtin .append, args := #[.tmp 5, .tmp 6], argTypes := #[41, 41] }, none, []⟩,
  ⟨some 2, .assign (.tmp 7), none, []⟩] [2, 7]) .ret))))
theorem s73 : TextK Proofs.Try.prog 0 73 8 [ResultVar.tmp 2] c73 := .mk' Proofs.Try.f73 _ (by kernel_rfl) rfl rfl rfl (by kernel_rfl) rfl (by kernel_rfl)
def c158 : SC := (.seq (.reg [⟨some 1, .box 33 (.tmp 0), none, []⟩,
  ⟨some 2, .assign (.const (.int .i64 0)), none, []⟩] [1]) (.seq (.reg [⟨some 3, .fieldAddr 33 (.tmp 1) 0, none, []⟩,
  ⟨some 4, .load 3 (.tmp 3), none, []⟩,
  ⟨some 2, .assign (.tmp 4), none, []⟩] [1, 2, 3, 4]) .ret))
theorem s158 : TextK Proofs.Try.prog 0 158 5 [ResultVar.tmp 2] c158 := .mk' Proofs.Try.f158 _ (by kernel_rfl) rfl rfl rfl (by kernel_rfl) rfl (by kernel_rfl)
def c164 : SC := (.seq (.reg [⟨some 3, .box 33 (.tmp 0), none, []⟩,
  ⟨some 5, .assign (.const (.int .i64 0)), none, []⟩] [1, 2, 3]) (.seq (.reg [⟨some 6, .load 125 (.tmp 2), none, []⟩,
  ⟨some 7, .load 33 (.tmp 3), none, []⟩,
  ⟨some 8, .call { callee := .value (.tmp 6), args := #[.tmp 7], argTypes := #[33] }, none, []⟩,
  ⟨some 9, .move (.tmp 1), none, []⟩,
  ⟨some 10, .binOp .sub 3 (.tmp 8) (.tmp 9) 3, none, []⟩,
  ⟨some 5, .assign (.tmp 10), none, []⟩] [5, 10]) .ret))
theorem s164 : TextK Proofs.Try.prog 0 164 11 [ResultVar.tmp 5] c164 := .mk' Proofs.Try.f164 _ (by kernel_rfl) rfl rfl rfl (by kernel_rfl) rfl (by kernel_rfl)
def c163 : SC := (.seq (.reg [⟨some 6, .assign (.const (.int .i64 0)), none, []⟩,
  ⟨some 7, .assign (.const (.bool false)), none, []⟩] [0, 1, 2, 33]) (.seq (.reg [⟨some 12, .move (.tmp 0), none, []⟩,
  ⟨some 13, .call { callee := .builtin .len, args := #[.tmp 12], argTypes := #[25] }, none, []⟩,
  ⟨some 8, .assign (.tmp 13), none, []⟩] [0, 1, 2, 8, 13, 33]) (.seq (.reg [⟨some 14, .move (.tmp 8), none, []⟩,
  ⟨some 9, .assign (.const (.int .i64 0)), none, []⟩,
  ⟨some 10, .assign (.tmp 14), none, []⟩] [0, 1, 2, 8, 9, 10, 11, 13, 14, 23, 33, 34]) (.seq (.block 0 (.seq (.loop (.seq (.reg [⟨some 15, .move (.tmp 9), none, []⟩,
  ⟨some 16, .move (.tmp 10), none, []⟩,
  ⟨some 17, .binOp .lss 3 (.tmp 15) (.tmp 16) 3, none, []⟩] [0, 1, 2, 8, 9, 10, 11, 13, 14, 17, 23, 33, 34]) (.seq (.cond (.tmp 17) .skip (.exit 0)) (.seq (.block 1 (.seq (.reg [⟨some 18, .move (.tmp 9), none, []⟩,
  ⟨some 19, .move (.tmp 10), none, []⟩,
  ⟨some 20, .binOp .add 3 (.tmp 18) (.tmp 19) 3, none, []⟩,
  ⟨some 21, .convert 3 182 (.tmp 20), none, []⟩,
  ⟨some 22, .binOp .shr 182 (.tmp 21) (.const (.int .u64 1)) 182, none, []⟩,
  ⟨some 23, .convert 182 3 (.tmp 22), none, []⟩,
  ⟨some 11, .assign (.tmp 23), none, []⟩] [0, 1, 2, 8, 9, 10, 11, 13, 14, 23, 33, 34]) (.seq (.reg [⟨some 24, .move (.tmp 2), none, []⟩,
  ⟨some 25, .move (.tmp 0), none, []⟩,
  ⟨some 26, .move (.tmp 11), none, []⟩,
  ⟨some 27, .indexAddr 25 (.tmp 25) (.tmp 26), none, []⟩,
  ⟨some 28, .load 33 (.tmp 27), none, []⟩,
  ⟨some 29, .move (.tmp 1), none, []⟩,
  ⟨some 30, .call { callee := .value (.tmp 24), args := #[.tmp 28, .tmp 29], argTypes := #[33, 3] }, none, []⟩,
  ⟨some 31, .binOp .lss 3 (.tmp 30) (.const (.int .i64 0)) 3, none, []⟩] [0, 1, 2, 8, 9, 10, 11, 13, 14, 23, 31, 33, 34]) (.seq (.cond (.tmp 31) (.seq (.reg [⟨some 32, .move (.tmp 11), none, []⟩,
  ⟨some 33, .binOp .add 3 (.tmp 32) (.const (.int .i64 1)) 3, none, []⟩,
  ⟨some 9, .assign (.tmp 33), none, []⟩] [0, 1, 2, 8, 9, 10, 11, 13, 14, 23, 33, 34]) .skip) (.seq (.reg [⟨some 34, .move (.tmp 11), none, []⟩,
  ⟨some 10, .assign (.tmp 34), none, []⟩] [0, 1, 2, 8, 9, 10, 11, 13, 14, 23, 33, 34]) .skip)) .skip)))) .skip)))) .skip)) (.seq (.reg [⟨some 35, .move (.tmp 9), none, []⟩,
  ⟨some 36, .move (.tmp 9), none, []⟩,
  ⟨some 37, .move (.tmp 8), none, []⟩,
  ⟨some 38, .binOp .lss 3 (.tmp 36) (.tmp 37) 3, none, []⟩,
  ⟨some 39, .move (.tmp 38), none, []⟩,
  ⟨some 40, .move (.tmp 2), (some (39, true)), []⟩,
  ⟨some 41, .move (.tmp 0), (some (39, true)), []⟩,
  ⟨some 42, .move (.tmp 9), (some (39, true)), []⟩,
  ⟨some 43, .indexAddr 25 (.tmp 41) (.tmp 42), (some (39, true)), []⟩,
  ⟨some 44, .load 33 (.tmp 43), (some (39, true)), []⟩,
  ⟨some 45, .move (.tmp 1), (some (39, true)), []⟩,
  ⟨some 46, .call { callee := .value (.tmp 40), args := #[.tmp 44, .tmp 45], argTypes := #[33, 3] }, (some (39, true)), []⟩,
  ⟨some 47, .binOp .eql 3 (.tmp 46) (.const (.int .i64 0)) 3, (some (39, true)), []⟩,
  ⟨some 48, .pick (.tmp 39) (.tmp 47) (.const (.bool false)), none, []⟩,
  ⟨some 6, .assign (.tmp 35), none, []⟩,
  ⟨some 7, .assign (.tmp 48), none, []⟩] [6, 7, 9, 33, 35, 38, 39, 47, 48]) .ret)))))
theorem s163 : TextK Proofs.Try.prog 0 163 49 [ResultVar.tmp 6, ResultVar.tmp 7] c163 := .mk' Proofs.Try.f163 _ (by kernel_rfl) rfl rfl rfl (by kernel_rfl) rfl (by kernel_rfl)
def c157 : SC := (.seq (.reg [⟨some 5, .box 125 (.tmp 2), none, []⟩,
  ⟨some 6, .assign (.const (.int .i64 0)), none, []⟩,
  ⟨some 7, .assign (.const (.bool false)), none, []⟩] [0, 1, 5]) (.seq (.reg [⟨some 8, .move (.tmp 0), none, []⟩,
  ⟨some 9, .move (.tmp 1), none, []⟩,
  ⟨some 10, .makeFunc (Fn.func 164) #[] #[.tmp 5], none, []⟩,
  ⟨some 11, .call { callee := .value (.func 163), args := #[.tmp 8, .tmp 9, .tmp 10], argTypes := #[25, 3, 214] }, none, []⟩,
  ⟨some 12, .extract (.tmp 11) 0, none, []⟩,
  ⟨some 13, .extract (.tmp 11) 1, none, []⟩,
  ⟨some 6, .assign (.tmp 12), none, []⟩,
  ⟨some 7, .assign (.tmp 13), none, []⟩] [6, 7, 11, 12, 13]) .ret))
theorem s157 : TextK Proofs.Try.prog 0 157 14 [ResultVar.tmp 6, ResultVar.tmp 7] c157 := .mk' Proofs.Try.f157 _ (by kernel_rfl) rfl rfl rfl (by kernel_rfl) rfl (by kernel_rfl)
def c150 : SC := (.seq (.reg [⟨some 2, .box 30 (.tmp 0), none, []⟩,
  ⟨some 4, .assign (.const (.int .i64 0)), none, []⟩,
  ⟨some 5, .assign (.const (.bool false)), none, []⟩] [1, 2]) (.seq (.reg [⟨some 6, .fieldAddr 30 (.tmp 2) 0, none, []⟩,
  ⟨some 7, .load 25 (.tmp 6), none, []⟩,
  ⟨some 8, .move (.tmp 1), none, []⟩,
  ⟨some 9, .call { callee := .value (.func 157), args := #[.tmp 7, .tmp 8, .func 158], argTypes := #[25, 3, 125] }, none, []⟩,
  ⟨some 10, .extract (.tmp 9) 0, none, []⟩,
  ⟨some 11, .extract (.tmp 9) 1, none, []⟩,
  ⟨some 4, .assign (.tmp 10), none, []⟩,
  ⟨some 5, .assign (.tmp 11), none, []⟩] [4, 5, 9, 10, 11]) .ret))
theorem s150 : TextK Proofs.Try.prog 0 150 12 [ResultVar.tmp 4, ResultVar.tmp 5] c150 := .mk' Proofs.Try.f150 _ (by kernel_rfl) rfl rfl rfl (by kernel_rfl) rfl (by kernel_rfl)
def c132 : SC := (.seq (.reg [⟨some 2, .box 30 (.tmp 0), none, []⟩,
  ⟨some 4, .alloc 33, none, []⟩,
  ⟨some 5, .assign (.const (.bool false)), none, []⟩] [1, 2, 4]) (.seq (.reg [⟨some 9, .load 30 (.tmp 2), none, []⟩,
  ⟨some 10, .move (.tmp 1), none, []⟩,
  ⟨some 11, .call { callee := .value (.func 150), args := #[.tmp 9, .tmp 10], argTypes := #[30, 3] }, none, []⟩,
  ⟨some 8, .move (.tmp 11), none, []⟩,
  ⟨some 12, .extract (.tmp 8) 0, none, []⟩,
  ⟨some 13, .extract (.tmp 8) 1, none, []⟩,
  ⟨some 6, .assign (.tmp 12), none, []⟩,
  ⟨some 7, .assign (.tmp 13), none, []⟩] [2, 4, 6, 7, 8, 11, 12, 13]) (.seq (.reg [⟨some 14, .move (.tmp 7), none, []⟩,
  ⟨some 15, .unOp .not 4 (.tmp 14), none, []⟩] [2, 4, 6, 8, 11, 12, 15]) (.seq (.cond (.tmp 15) (.seq (.reg [⟨some 16, .build 33 #[], none, []⟩,
  ⟨none, .store 33 (.tmp 4) (.tmp 16), none, []⟩,
  ⟨some 5, .assign (.const (.bool false)), none, []⟩] [4, 5]) .ret) .skip) (.seq (.reg [⟨some 17, .fieldAddr 30 (.tmp 2) 0, none, []⟩,
  ⟨some 18, .load 25 (.tmp 17), none, []⟩,
  ⟨some 19, .move (.tmp 6), none, []⟩,
  ⟨some 20, .indexAddr 25 (.tmp 18) (.tmp 19), none, []⟩,
  ⟨some 21, .load 33 (.tmp 20), none, []⟩,
  ⟨none, .store 33 (.tmp 4) (.tmp 21), none, []⟩,
  ⟨some 5, .assign (.const (.bool true)), none, []⟩] [4, 5]) .ret)))))
theorem s132 : TextK Proofs.Try.prog 0 132 22 [ResultVar.cell 4 33, ResultVar.tmp 5] c132 := .mk' Proofs.Try.f132 _ (by kernel_rfl) rfl rfl rfl (by kernel_rfl) rfl (by kernel_rfl)
def c71 : SC := (.seq (.reg [⟨some 3, .box 30 (.tmp 0), none, []⟩,
  ⟨some 6, .assign (.const (.bool false)), none, []⟩] [1, 2, 3]) (.seq (.reg [⟨some 10, .load 30 (.tmp 3), none, []⟩,
  ⟨some 11, .move (.tmp 1), none, []⟩,
  ⟨some 12, .call { callee := .value (.func 132), args := #[.tmp 10, .tmp 11], argTypes := #[30, 3] }, none, []⟩,
  ⟨some 9, .move (.tmp 12), none, []⟩,
  ⟨some 13, .extract (.tmp 9) 0, none, []⟩,
  ⟨some 14, .extract (.tmp 9) 1, none, []⟩,
  ⟨some 7, .alloc 33, none, []⟩,
  ⟨none, .store 33 (.tmp 7) (.tmp 13), none, []⟩,
  ⟨some 8, .assign (.tmp 14), none, []⟩] [2, 7, 8, 9, 12, 14]) (.seq (.reg [⟨some 15, .move (.tmp 8), none, []⟩,
  ⟨some 16, .move (.tmp 15), none, []⟩,
  ⟨some 17, .fieldAddr 33 (.tmp 7) 3, (some (16, true)), []⟩,
  ⟨some 18, .load 4 (.tmp 17), (some (16, true)), []⟩,
  ⟨some 19, .unOp .not 4 (.tmp 18), (some (16, true)), []⟩,
  ⟨some 20, .pick (.tmp 16) (.tmp 19) (.const (.bool false)), none, []⟩,
  ⟨some 21, .move (.tmp 20), none, []⟩,
  ⟨some 22, .move (.tmp 2), (some (21, true)), []⟩,
  ⟨some 23, .unOp .not 4 (.tmp 22), (some (21, true)), []⟩,
  ⟨some 24, .move (.tmp 23), (some (21, true)), []⟩,
  ⟨some 25, .fieldAddr 33 (.tmp 7) 4, (some (24, false)), []⟩,
  ⟨some 26, .load 4 (.tmp 25), (some (24, false)), []⟩,
  ⟨some 27, .unOp .not 4 (.tmp 26), (some (24, false)), []⟩,
  ⟨some 28, .pick (.tmp 24) (.const (.bool true)) (.tmp 27), (some (21, true)), []⟩,
  ⟨some 29, .pick (.tmp 21) (.tmp 28) (.const (.bool false)), none, []⟩,
  ⟨some 6, .assign (.tmp 29), none, []⟩] [6, 8, 9, 12, 14, 15, 16, 19, 20, 21, 23, 24, 27, 28, 29]) .ret)))
theorem s71 : TextK Proofs.Try.prog 0 71 30 [ResultVar.tmp 6] c71 := .mk' Proofs.Try.f71 _ (by kernel_rfl) rfl rfl rfl (by kernel_rfl) rfl (by kernel_rfl)
theorem cloneI_ok (l : List Int) (hl : l.length ≤ 1000000) : ACall pg 73 [Li l] (.uq (l.map I)) := by
  cases l with
  | nil =>
    refine ACall.empty fun a c => ?_
    refine s73.call mo (by simp) fun hxs => ?_
    clear hxs
    unfold c73
    repeat' first
        | (with_reducible first | refine thN ?_ | refine thR ?_ | refine thE ?_ | refine inN ?_ | refine inR ?_ | refine inH ?_ | refine fF ?_ | refine fS ?_ | refine fR ?_ | refine fQ ?_ | refine fC ?_ | refine fB ?_ | refine fL ?_ | refine fE ?_ | refine fT ?_ | refine awBlock ?_ | refine awExit ?_ | refine awRet ?_ | refine awSkip ?_ | refine inM (by decide) ?_)
        | ((with_reducible refine awReg fun K hok hK => ?_); clear hok; (try simp (maxSteps := 10000000) (disch := first | omega | simp) []); (repeat' first
            | (with_reducible refine hK _ (by simp) ?_)
            | ((with_reducible refine gdT (fun h => ?_) (fun h => ?_)) <;> (simp (maxSteps := 10000000) (disch := first | omega | simp) [h]; (try simp at h); (try (exfalso; omega))))
            | ((with_reducible refine gdF (fun h => ?_) (fun h => ?_)) <;> (simp (maxSteps := 10000000) (disch := first | omega | simp) [h]; (try simp at h); (try (exfalso; omega))))
            | ((with_reducible refine gdU ?_); (try simp (maxSteps := 10000000) (disch := first | omega | simp) []))) <;> clear hK K)
        | ((with_reducible refine awCond fun A B hA hB => ?_); simp (maxSteps := 10000000) (disch := first | omega | simp) []; (first | refine ⟨fun h => hA ?_, fun h => hB ?_⟩ | refine hA ?_ | refine hB ?_) <;> (clear hA hB A B; (try (exfalso; omega))))
    all_goals (refine aEnR (aRes [] fun K hK => ?_); simp (maxSteps := 10000000) (disch := first | omega | simp) []; refine hK _ ?_ (by simp); clear hK; first | done | (simp (maxSteps := 10000000) (disch := first | omega | simp) [*]; done) | (simp (maxSteps := 10000000) (disch := first | omega | simp) [*]; omega) | (simp_all []; done) | (simp_all []; omega))
  | cons x l =>
    have hl' : l.length + 1 ≤ 1000000 := by simpa using hl
    refine s73.call mo (by simp) fun hxs => ?_
    clear hxs
    unfold c73
    repeat' first
        | (with_reducible first | refine thN ?_ | refine thR ?_ | refine thE ?_ | refine inN ?_ | refine inR ?_ | refine inH ?_ | refine fF ?_ | refine fS ?_ | refine fR ?_ | refine fQ ?_ | refine fC ?_ | refine fB ?_ | refine fL ?_ | refine fE ?_ | refine fT ?_ | refine awBlock ?_ | refine awExit ?_ | refine awRet ?_ | refine awSkip ?_ | refine inM (by decide) ?_)
        | ((with_reducible refine awReg fun K hok hK => ?_); clear hok; (try simp (maxSteps := 10000000) (disch := first | omega | simp) []); (repeat' first
            | (with_reducible refine hK _ (by simp) ?_)
            | ((with_reducible refine gdT (fun h => ?_) (fun h => ?_)) <;> (simp (maxSteps := 10000000) (disch := first | omega | simp) [h]; (try simp at h); (try (exfalso; omega))))
            | ((with_reducible refine gdF (fun h => ?_) (fun h => ?_)) <;> (simp (maxSteps := 10000000) (disch := first | omega | simp) [h]; (try simp at h); (try (exfalso; omega))))
            | ((with_reducible refine gdU ?_); (try simp (maxSteps := 10000000) (disch := first | omega | simp) []))) <;> clear hK K)
        | ((with_reducible refine awCond fun A B hA hB => ?_); simp (maxSteps := 10000000) (disch := first | omega | simp) []; (first | refine ⟨fun h => hA ?_, fun h => hB ?_⟩ | refine hA ?_ | refine hB ?_) <;> (clear hA hB A B; (try (exfalso; omega))))
    all_goals (refine aEnR (aRes [] fun K hK => ?_); simp (maxSteps := 10000000) (disch := first | omega | simp) []; refine hK _ ?_ (by simp); clear hK; first | done | (simp (maxSteps := 10000000) (disch := first | omega | simp) [*]; done) | (simp (maxSteps := 10000000) (disch := first | omega | simp) [*]; omega) | (simp_all []; done) | (simp_all []; omega))
theorem brokerId_ok (x : Broker) : ACall pg 158 [encB x] (I x.id) := by
  refine s158.call mo (by simp) fun hxs => ?_
  clear hxs
  unfold c158
  repeat' first
      | (with_reducible first | refine thN ?_ | refine thR ?_ | refine thE ?_ | refine inN ?_ | refine inR ?_ | refine inH ?_ | refine fF ?_ | refine fS ?_ | refine fR ?_ | refine fQ ?_ | refine fC ?_ | refine fB ?_ | refine fL ?_ | refine fE ?_ | refine fT ?_ | refine awBlock ?_ | refine awExit ?_ | refine awRet ?_ | refine awSkip ?_ | refine inM (by decide) ?_)
      | ((with_reducible refine awReg fun K hok hK => ?_); clear hok; (try simp (maxSteps := 10000000) (disch := first | omega | simp) []); (repeat' first
          | (with_reducible refine hK _ (by simp) ?_)
          | ((with_reducible refine gdT (fun h => ?_) (fun h => ?_)) <;> (simp (maxSteps := 10000000) (disch := first | omega | simp) [h]; (try simp at h); (try (exfalso; omega))))
          | ((with_reducible refine gdF (fun h => ?_) (fun h => ?_)) <;> (simp (maxSteps := 10000000) (disch := first | omega | simp) [h]; (try simp at h); (try (exfalso; omega))))
          | ((with_reducible refine gdU ?_); (try simp (maxSteps := 10000000) (disch := first | omega | simp) []))) <;> clear hK K)
      | ((with_reducible refine awCond fun A B hA hB => ?_); simp (maxSteps := 10000000) (disch := first | omega | simp) []; (first | refine ⟨fun h => hA ?_, fun h => hB ?_⟩ | refine hA ?_ | refine hB ?_) <;> (clear hA hB A B; (try (exfalso; omega))))
  (refine aEnR (aRes [] fun K hK => ?_); simp (maxSteps := 10000000) (disch := first | omega | simp) []; refine hK _ ?_ (by simp); clear hK; first | done | (simp (maxSteps := 10000000) (disch := first | omega | simp) [*]; done) | (simp (maxSteps := 10000000) (disch := first | omega | simp) [*]; omega) | (simp_all []; done) | (simp_all []; omega))
abbrev capB : V := .ip [.clo 158 []] 0
theorem findB1_ok (x : Broker) (n : Int) (h : -9223372036854775808 ≤ x.id - n ∧ x.id - n ≤ 9223372036854775807) : ACall pg 164 [encB x, I n, capB] (I (x.id - n)) := by
  refine s164.call mo (by simp) fun hxs => ?_
  clear hxs
  unfold c164
  have e := i64_wrap h
  repeat' first
      | (with_reducible first | refine thN ?_ | refine thR ?_ | refine thE ?_ | refine inN ?_ | refine inR ?_ | refine inH ?_ | refine fF ?_ | refine fS ?_ | refine fR ?_ | refine fQ ?_ | refine fC ?_ | refine fB ?_ | refine fL ?_ | refine fE ?_ | refine fT ?_ | refine awBlock ?_ | refine awExit ?_ | refine awRet ?_ | refine awSkip ?_ | refine inM (by decide) ?_)
      | ((with_reducible refine awReg fun K hok hK => ?_); clear hok; (try simp (maxSteps := 10000000) (disch := first | omega | simp) [e]); (repeat' first
          | (with_reducible refine hK _ (by simp) ?_)
          | ((with_reducible refine gdT (fun h => ?_) (fun h => ?_)) <;> (simp (maxSteps := 10000000) (disch := first | omega | simp) [h, e]; (try simp at h); (try (exfalso; omega))))
          | ((with_reducible refine gdF (fun h => ?_) (fun h => ?_)) <;> (simp (maxSteps := 10000000) (disch := first | omega | simp) [h, e]; (try simp at h); (try (exfalso; omega))))
          | ((with_reducible refine callS' fun K2 hK2 => ?_); (try simp (maxSteps := 10000000) (disch := first | omega | simp) [e]); (first | (refine hK2 _ _ (brokerId_ok x) rfl fun hk9 => ?_; clear hk9)); clear hK2 K2; (try simp (maxSteps := 10000000) (disch := first | omega | simp) [e]))
          | ((with_reducible refine callF' fun K2 hK2 => ?_); (try simp (maxSteps := 10000000) (disch := first | omega | simp) [e]); (first | refine hK2 _ _ _ (brokerId_ok x) fun _ => ?_); clear hK2 K2; (try simp (maxSteps := 10000000) (disch := first | omega | simp) [e]))
          | ((with_reducible refine callCS' fun K2 hK2 => ?_); (try simp (maxSteps := 10000000) (disch := first | omega | simp) [e]); (first | (refine hK2 _ _ _ _ (brokerId_ok x) rfl fun hk9 => ?_; clear hk9)); clear hK2 K2; (try simp (maxSteps := 10000000) (disch := first | omega | simp) [e]))
          | ((with_reducible refine callC' fun K2 hK2 => ?_); (try simp (maxSteps := 10000000) (disch := first | omega | simp) [e]); (first | refine hK2 _ _ _ _ _ (brokerId_ok x) fun _ => ?_); clear hK2 K2; (try simp (maxSteps := 10000000) (disch := first | omega | simp) [e]))
          | ((with_reducible refine gdU ?_); (try simp (maxSteps := 10000000) (disch := first | omega | simp) [e]))) <;> clear hK K)
      | ((with_reducible refine awCond fun A B hA hB => ?_); simp (maxSteps := 10000000) (disch := first | omega | simp) [e]; (first | refine ⟨fun h => hA ?_, fun h => hB ?_⟩ | refine hA ?_ | refine hB ?_) <;> (clear hA hB A B; (try (exfalso; omega))))
  (refine aEnR (aRes [] fun K hK => ?_); simp (maxSteps := 10000000) (disch := first | omega | simp) [e]; refine hK _ ?_ (by simp); clear hK; first | done | (simp (maxSteps := 10000000) (disch := first | omega | simp) [e, *]; done) | (simp (maxSteps := 10000000) (disch := first | omega | simp) [e, *]; omega) | (simp_all [e]; done) | (simp_all [e]; omega))
theorem bsearchB_ok (l : List Broker) (n : Int) (f : FuncId) (caps : List V) (hp : pureL caps = true) (c : Broker → Int) (hc : ∀ x ∈ l, ACall pg f ([encB x, I n] ++ caps) (I (c x))) (k : Nat) (hk : k ≤ l.length) (hl : l.length ≤ 1000000) (hi : ∀ i (h : i < l.length), i < k ↔ c l[i] < 0) :
    ACall pg 163 [.sl (l.map encB), I n, .clo f caps] (.tup [I k, B (if h : k < l.length then c l[k] == 0 else false)]) := by
  refine s163.call mo (by simp) fun hxs => ?_
  clear hxs
  unfold c163
  have hv := pvL_pure caps hp
  repeat' first
      | (with_reducible first | refine thN ?_ | refine thR ?_ | refine thE ?_ | refine inN ?_ | refine inR ?_ | refine inH ?_ | refine fF ?_ | refine fS ?_ | refine fR ?_ | refine fQ ?_ | refine fC ?_ | refine fB ?_ | refine fL ?_ | refine fE ?_ | refine fT ?_ | refine awBlock ?_ | refine awExit ?_ | refine awRet ?_ | refine awSkip ?_ | refine inM (by decide) ?_)
      | ((with_reducible refine awReg fun K hok hK => ?_); clear hok; (try simp (maxSteps := 10000000) (disch := first | omega | simp) [hp, hv]); (repeat' first
          | (with_reducible refine hK _ (by simp) ?_)
          | ((with_reducible refine gdT (fun h => ?_) (fun h => ?_)) <;> (simp (maxSteps := 10000000) (disch := first | omega | simp) [h, hp, hv]; (try simp at h); (try (exfalso; omega))))
          | ((with_reducible refine gdF (fun h => ?_) (fun h => ?_)) <;> (simp (maxSteps := 10000000) (disch := first | omega | simp) [h, hp, hv]; (try simp at h); (try (exfalso; omega))))
          | ((with_reducible refine gdU ?_); (try simp (maxSteps := 10000000) (disch := first | omega | simp) [hp, hv]))) <;> clear hK K)
      | ((with_reducible refine awCond fun A B hA hB => ?_); simp (maxSteps := 10000000) (disch := first | omega | simp) [hp, hv]; (first | refine ⟨fun h => hA ?_, fun h => hB ?_⟩ | refine hA ?_ | refine hB ?_) <;> (clear hA hB A B; (try (exfalso; omega))))
  refine awWhile (fun (s : Nat × Nat) => s.2 - s.1) (fun s => s.1 ≤ k ∧ k ≤ s.2 ∧ s.2 ≤ l.length) (fun s => [(10, .p (I s.2)), (9, .p (I s.1)), (8, .p (I l.length)), (2, .p (.clo f caps)), (1, .p (I n)), (0, .p (.sl (l.map encB)))]) (0, l.length) (Wk.ofA (by simp)) (by simp; omega) fun s hs => ?_
  obtain ⟨i, j⟩ := s
  simp only at hs
  by_cases hlt : i < j
  · have e1 : IntKind.u64.wrap ((i : Int) + j) = i + j := by simp [IntKind.wrap, IntKind.bits, IntKind.signed]; omega
    obtain ⟨t, ht1, ht2, e2⟩ : ∃ t : Nat, i ≤ t ∧ t < j ∧ IntKind.i64.wrap (((i : Int) + j).fdiv (2 ^ min 1 IntKind.u64.bits)) = t := by
      refine ⟨(i + j) / 2, by omega, by omega, ?_⟩
      have : (2 : Int) ^ min 1 IntKind.u64.bits = 2 := by decide
      rw [this, Int.fdiv_eq_ediv_of_nonneg _ (by omega), i64_wrap (by omega)]; omega
    have hmid : t < l.length := by omega
    have hik := hi t hmid
    repeat' first
        | (with_reducible first | refine thN ?_ | refine thR ?_ | refine thE ?_ | refine inN ?_ | refine inR ?_ | refine inH ?_ | refine fF ?_ | refine fS ?_ | refine fR ?_ | refine fQ ?_ | refine fC ?_ | refine fB ?_ | refine fL ?_ | refine fE ?_ | refine fT ?_ | refine awBlock ?_ | refine awExit ?_ | refine awRet ?_ | refine awSkip ?_ | refine inM (by decide) ?_)
        | ((with_reducible refine awReg fun K hok hK => ?_); clear hok; (try simp (maxSteps := 10000000) (disch := first | omega | simp) [e1, e2, hp, hv]); (repeat' first
            | (with_reducible refine hK _ (by simp) ?_)
            | ((with_reducible refine gdT (fun h => ?_) (fun h => ?_)) <;> (simp (maxSteps := 10000000) (disch := first | omega | simp) [h, e1, e2, hp, hv]; (try simp at h); (try (exfalso; omega))))
            | ((with_reducible refine gdF (fun h => ?_) (fun h => ?_)) <;> (simp (maxSteps := 10000000) (disch := first | omega | simp) [h, e1, e2, hp, hv]; (try simp at h); (try (exfalso; omega))))
            | ((with_reducible refine callS' fun K2 hK2 => ?_); (try simp (maxSteps := 10000000) (disch := first | omega | simp) [e1, e2, hp, hv]); (first | (refine hK2 _ _ (hc _ (List.getElem_mem hmid)) rfl fun hk9 => ?_; clear hk9)); clear hK2 K2; (try simp (maxSteps := 10000000) (disch := first | omega | simp) [e1, e2, hp, hv]))
            | ((with_reducible refine callF' fun K2 hK2 => ?_); (try simp (maxSteps := 10000000) (disch := first | omega | simp) [e1, e2, hp, hv]); (first | refine hK2 _ _ _ (hc _ (List.getElem_mem hmid)) fun _ => ?_); clear hK2 K2; (try simp (maxSteps := 10000000) (disch := first | omega | simp) [e1, e2, hp, hv]))
            | ((with_reducible refine callCS' fun K2 hK2 => ?_); (try simp (maxSteps := 10000000) (disch := first | omega | simp) [e1, e2, hp, hv]); (first | (refine hK2 _ _ _ _ (hc _ (List.getElem_mem hmid)) rfl fun hk9 => ?_; clear hk9)); clear hK2 K2; (try simp (maxSteps := 10000000) (disch := first | omega | simp) [e1, e2, hp, hv]))
            | ((with_reducible refine callC' fun K2 hK2 => ?_); (try simp (maxSteps := 10000000) (disch := first | omega | simp) [e1, e2, hp, hv]); (first | refine hK2 _ _ _ _ _ (hc _ (List.getElem_mem hmid)) fun _ => ?_); clear hK2 K2; (try simp (maxSteps := 10000000) (disch := first | omega | simp) [e1, e2, hp, hv]))
            | ((with_reducible refine callM' rfl fun K2 hK2 => ?_); (try simp (maxSteps := 10000000) (disch := first | omega | simp) [e1, e2, hp, hv]); (first | refine hK2 _ _ _ _ _ _ _ (hc _ (List.getElem_mem hmid)) rfl fun _ _ => ?_); clear hK2 K2; (try simp (maxSteps := 10000000) (disch := first | omega | simp) [e1, e2, hp, hv]))
            | ((with_reducible refine callT' rfl fun K2 hK2 => ?_); (try simp (maxSteps := 10000000) (disch := first | omega | simp) [e1, e2, hp, hv]); (first | refine hK2 _ _ _ _ _ (hc _ (List.getElem_mem hmid)) fun _ => ?_); clear hK2 K2; (try simp (maxSteps := 10000000) (disch := first | omega | simp) [e1, e2, hp, hv]))
            | ((with_reducible refine gdU ?_); (try simp (maxSteps := 10000000) (disch := first | omega | simp) [e1, e2, hp, hv]))) <;> clear hK K)
        | ((with_reducible refine awCond fun A B hA hB => ?_); simp (maxSteps := 10000000) (disch := first | omega | simp) [e1, e2, hp, hv]; (first | refine ⟨fun h => hA ?_, fun h => hB ?_⟩ | refine hA ?_ | refine hB ?_) <;> (clear hA hB A B; (try (exfalso; omega))))
    · have := hik.2 h
      refine ⟨(t + 1, j), by simp only; omega, by simp only; omega, Wk.ofA (by simp)⟩
    · have : ¬ t < k := fun hh => by have := hik.1 hh; omega
      refine ⟨(i, t), by simp only; omega, by simp only; omega, Wk.ofA (by simp)⟩
  · have : i = k ∧ j = k := by omega
    obtain ⟨rfl, rfl⟩ := this
    by_cases hkl : j < l.length
    · repeat' first
          | (with_reducible first | refine thN ?_ | refine thR ?_ | refine thE ?_ | refine inN ?_ | refine inR ?_ | refine inH ?_ | refine fF ?_ | refine fS ?_ | refine fR ?_ | refine fQ ?_ | refine fC ?_ | refine fB ?_ | refine fL ?_ | refine fE ?_ | refine fT ?_ | refine awBlock ?_ | refine awExit ?_ | refine awRet ?_ | refine awSkip ?_ | refine inM (by decide) ?_)
          | ((with_reducible refine awReg fun K hok hK => ?_); clear hok; (try simp (maxSteps := 10000000) (disch := first | omega | simp) [hp, hv]); (repeat' first
              | (with_reducible refine hK _ (by simp) ?_)
              | ((with_reducible refine gdT (fun h => ?_) (fun h => ?_)) <;> (simp (maxSteps := 10000000) (disch := first | omega | simp) [h, hp, hv]; (try simp at h); (try (exfalso; omega))))
              | ((with_reducible refine gdF (fun h => ?_) (fun h => ?_)) <;> (simp (maxSteps := 10000000) (disch := first | omega | simp) [h, hp, hv]; (try simp at h); (try (exfalso; omega))))
              | ((with_reducible refine callS' fun K2 hK2 => ?_); (try simp (maxSteps := 10000000) (disch := first | omega | simp) [hp, hv]); (first | (refine hK2 _ _ (hc _ (List.getElem_mem hkl)) rfl fun hk9 => ?_; clear hk9)); clear hK2 K2; (try simp (maxSteps := 10000000) (disch := first | omega | simp) [hp, hv]))
              | ((with_reducible refine callF' fun K2 hK2 => ?_); (try simp (maxSteps := 10000000) (disch := first | omega | simp) [hp, hv]); (first | refine hK2 _ _ _ (hc _ (List.getElem_mem hkl)) fun _ => ?_); clear hK2 K2; (try simp (maxSteps := 10000000) (disch := first | omega | simp) [hp, hv]))
              | ((with_reducible refine callCS' fun K2 hK2 => ?_); (try simp (maxSteps := 10000000) (disch := first | omega | simp) [hp, hv]); (first | (refine hK2 _ _ _ _ (hc _ (List.getElem_mem hkl)) rfl fun hk9 => ?_; clear hk9)); clear hK2 K2; (try simp (maxSteps := 10000000) (disch := first | omega | simp) [hp, hv]))
              | ((with_reducible refine callC' fun K2 hK2 => ?_); (try simp (maxSteps := 10000000) (disch := first | omega | simp) [hp, hv]); (first | refine hK2 _ _ _ _ _ (hc _ (List.getElem_mem hkl)) fun _ => ?_); clear hK2 K2; (try simp (maxSteps := 10000000) (disch := first | omega | simp) [hp, hv]))
              | ((with_reducible refine callM' rfl fun K2 hK2 => ?_); (try simp (maxSteps := 10000000) (disch := first | omega | simp) [hp, hv]); (first | refine hK2 _ _ _ _ _ _ _ (hc _ (List.getElem_mem hkl)) rfl fun _ _ => ?_); clear hK2 K2; (try simp (maxSteps := 10000000) (disch := first | omega | simp) [hp, hv]))
              | ((with_reducible refine callT' rfl fun K2 hK2 => ?_); (try simp (maxSteps := 10000000) (disch := first | omega | simp) [hp, hv]); (first | refine hK2 _ _ _ _ _ (hc _ (List.getElem_mem hkl)) fun _ => ?_); clear hK2 K2; (try simp (maxSteps := 10000000) (disch := first | omega | simp) [hp, hv]))
              | ((with_reducible refine gdU ?_); (try simp (maxSteps := 10000000) (disch := first | omega | simp) [hp, hv]))) <;> clear hK K)
          | ((with_reducible refine awCond fun A B hA hB => ?_); simp (maxSteps := 10000000) (disch := first | omega | simp) [hp, hv]; (first | refine ⟨fun h => hA ?_, fun h => hB ?_⟩ | refine hA ?_ | refine hB ?_) <;> (clear hA hB A B; (try (exfalso; omega))))
      (refine aEnR (aRes [] fun K hK => ?_); simp (maxSteps := 10000000) (disch := first | omega | simp) [hkl]; refine hK _ ?_ (by simp); clear hK; first | done | (simp (maxSteps := 10000000) (disch := first | omega | simp) [hkl, *]; done) | (simp (maxSteps := 10000000) (disch := first | omega | simp) [hkl, *]; omega) | (simp_all [hkl]; done) | (simp_all [hkl]; omega))
    · repeat' first
          | (with_reducible first | refine thN ?_ | refine thR ?_ | refine thE ?_ | refine inN ?_ | refine inR ?_ | refine inH ?_ | refine fF ?_ | refine fS ?_ | refine fR ?_ | refine fQ ?_ | refine fC ?_ | refine fB ?_ | refine fL ?_ | refine fE ?_ | refine fT ?_ | refine awBlock ?_ | refine awExit ?_ | refine awRet ?_ | refine awSkip ?_ | refine inM (by decide) ?_)
          | ((with_reducible refine awReg fun K hok hK => ?_); clear hok; (try simp (maxSteps := 10000000) (disch := first | omega | simp) [hp, hv]); (repeat' first
              | (with_reducible refine hK _ (by simp) ?_)
              | ((with_reducible refine gdT (fun h => ?_) (fun h => ?_)) <;> (simp (maxSteps := 10000000) (disch := first | omega | simp) [h, hp, hv]; (try simp at h); (try (exfalso; omega))))
              | ((with_reducible refine gdF (fun h => ?_) (fun h => ?_)) <;> (simp (maxSteps := 10000000) (disch := first | omega | simp) [h, hp, hv]; (try simp at h); (try (exfalso; omega))))
              | ((with_reducible refine callS' fun K2 hK2 => ?_); (try simp (maxSteps := 10000000) (disch := first | omega | simp) [hp, hv]); (first | (refine hK2 _ _ (hc _ (List.getElem_mem hkl)) rfl fun hk9 => ?_; clear hk9)); clear hK2 K2; (try simp (maxSteps := 10000000) (disch := first | omega | simp) [hp, hv]))
              | ((with_reducible refine callF' fun K2 hK2 => ?_); (try simp (maxSteps := 10000000) (disch := first | omega | simp) [hp, hv]); (first | refine hK2 _ _ _ (hc _ (List.getElem_mem hkl)) fun _ => ?_); clear hK2 K2; (try simp (maxSteps := 10000000) (disch := first | omega | simp) [hp, hv]))
              | ((with_reducible refine callCS' fun K2 hK2 => ?_); (try simp (maxSteps := 10000000) (disch := first | omega | simp) [hp, hv]); (first | (refine hK2 _ _ _ _ (hc _ (List.getElem_mem hkl)) rfl fun hk9 => ?_; clear hk9)); clear hK2 K2; (try simp (maxSteps := 10000000) (disch := first | omega | simp) [hp, hv]))
              | ((with_reducible refine callC' fun K2 hK2 => ?_); (try simp (maxSteps := 10000000) (disch := first | omega | simp) [hp, hv]); (first | refine hK2 _ _ _ _ _ (hc _ (List.getElem_mem hkl)) fun _ => ?_); clear hK2 K2; (try simp (maxSteps := 10000000) (disch := first | omega | simp) [hp, hv]))
              | ((with_reducible refine callM' rfl fun K2 hK2 => ?_); (try simp (maxSteps := 10000000) (disch := first | omega | simp) [hp, hv]); (first | refine hK2 _ _ _ _ _ _ _ (hc _ (List.getElem_mem hkl)) rfl fun _ _ => ?_); clear hK2 K2; (try simp (maxSteps := 10000000) (disch := first | omega | simp) [hp, hv]))
              | ((with_reducible refine callT' rfl fun K2 hK2 => ?_); (try simp (maxSteps := 10000000) (disch := first | omega | simp) [hp, hv]); (first | refine hK2 _ _ _ _ _ (hc _ (List.getElem_mem hkl)) fun _ => ?_); clear hK2 K2; (try simp (maxSteps := 10000000) (disch := first | omega | simp) [hp, hv]))
              | ((with_reducible refine gdU ?_); (try simp (maxSteps := 10000000) (disch := first | omega | simp) [hp, hv]))) <;> clear hK K)
          | ((with_reducible refine awCond fun A B hA hB => ?_); simp (maxSteps := 10000000) (disch := first | omega | simp) [hp, hv]; (first | refine ⟨fun h => hA ?_, fun h => hB ?_⟩ | refine hA ?_ | refine hB ?_) <;> (clear hA hB A B; (try (exfalso; omega))))
      (refine aEnR (aRes [] fun K hK => ?_); simp (maxSteps := 10000000) (disch := first | omega | simp) [hkl]; refine hK _ ?_ (by simp); clear hK; first | done | (simp (maxSteps := 10000000) (disch := first | omega | simp) [hkl, *]; done) | (simp (maxSteps := 10000000) (disch := first | omega | simp) [hkl, *]; omega) | (simp_all [hkl]; done) | (simp_all [hkl]; omega))
abbrev big62 (n : Int) : Prop := -4611686018427387904 ≤ n ∧ n ≤ 4611686018427387904
theorem findB_ok (m : Image) (n : Int) (hs : srtB m.brokers) (hb : ∀ b ∈ m.brokers, 1 ≤ b.id ∧ b.id ≤ 64) (hl : m.brokers.length ≤ 1000000) (hn : big62 n) : ACall pg 157 [.sl (m.brokers.map encB), I n, .clo 158 []] (.tup [I (posOf Broker.id m.brokers n), B (m.broker n).isSome]) := by
  refine s157.call mo (by simp) fun hxs => ?_
  clear hxs
  unfold c157
  have hc : ∀ x ∈ m.brokers, ACall pg 164 ([encB x, I n] ++ [capB]) (I (x.id - n)) := fun x hx => findB1_ok x n (by have := hb x hx; unfold big62 at hn; omega)
  have hbs := bsearchB_ok m.brokers n _ [capB] (by simp [pureL, pureB]) (fun x => x.id - n) hc (posOf Broker.id m.brokers n) (pos_le _ _ _) hl (fun i h => by rw [pos_iff n hs i h]; omega)
  have e : (if h : posOf Broker.id m.brokers n < m.brokers.length then m.brokers[posOf Broker.id m.brokers n].id - n == 0 else false) = (m.broker n).isSome := by
    unfold Image.broker
    rw [pos_find (f := Broker.id) n hs]
    split
    · split
      · rename_i h; simp [h]
      · rename_i h; simp; omega
    · rfl
  rw [e] at hbs
  repeat' first
      | (with_reducible first | refine thN ?_ | refine thR ?_ | refine thE ?_ | refine inN ?_ | refine inR ?_ | refine inH ?_ | refine fF ?_ | refine fS ?_ | refine fR ?_ | refine fQ ?_ | refine fC ?_ | refine fB ?_ | refine fL ?_ | refine fE ?_ | refine fT ?_ | refine awBlock ?_ | refine awExit ?_ | refine awRet ?_ | refine awSkip ?_ | refine inM (by decide) ?_)
      | ((with_reducible refine awReg fun K hok hK => ?_); clear hok; (try simp (maxSteps := 10000000) (disch := first | omega | simp) []); (repeat' first
          | (with_reducible refine hK _ (by simp) ?_)
          | ((with_reducible refine gdT (fun h => ?_) (fun h => ?_)) <;> (simp (maxSteps := 10000000) (disch := first | omega | simp) [h]; (try simp at h); (try (exfalso; omega))))
          | ((with_reducible refine gdF (fun h => ?_) (fun h => ?_)) <;> (simp (maxSteps := 10000000) (disch := first | omega | simp) [h]; (try simp at h); (try (exfalso; omega))))
          | ((with_reducible refine callS' fun K2 hK2 => ?_); (try simp (maxSteps := 10000000) (disch := first | omega | simp) []); (first | (refine hK2 _ _ (hbs) rfl fun hk9 => ?_; clear hk9)); clear hK2 K2; (try simp (maxSteps := 10000000) (disch := first | omega | simp) []))
          | ((with_reducible refine callF' fun K2 hK2 => ?_); (try simp (maxSteps := 10000000) (disch := first | omega | simp) []); (first | refine hK2 _ _ _ (hbs) fun _ => ?_); clear hK2 K2; (try simp (maxSteps := 10000000) (disch := first | omega | simp) []))
          | ((with_reducible refine callCS' fun K2 hK2 => ?_); (try simp (maxSteps := 10000000) (disch := first | omega | simp) []); (first | (refine hK2 _ _ _ _ (hbs) rfl fun hk9 => ?_; clear hk9)); clear hK2 K2; (try simp (maxSteps := 10000000) (disch := first | omega | simp) []))
          | ((with_reducible refine callC' fun K2 hK2 => ?_); (try simp (maxSteps := 10000000) (disch := first | omega | simp) []); (first | refine hK2 _ _ _ _ _ (hbs) fun _ => ?_); clear hK2 K2; (try simp (maxSteps := 10000000) (disch := first | omega | simp) []))
          | ((with_reducible refine callM' rfl fun K2 hK2 => ?_); (try simp (maxSteps := 10000000) (disch := first | omega | simp) []); (first | refine hK2 _ _ _ _ _ _ _ (hbs) rfl fun _ _ => ?_); clear hK2 K2; (try simp (maxSteps := 10000000) (disch := first | omega | simp) []))
          | ((with_reducible refine callT' rfl fun K2 hK2 => ?_); (try simp (maxSteps := 10000000) (disch := first | omega | simp) []); (first | refine hK2 _ _ _ _ _ (hbs) fun _ => ?_); clear hK2 K2; (try simp (maxSteps := 10000000) (disch := first | omega | simp) []))
          | ((with_reducible refine gdU ?_); (try simp (maxSteps := 10000000) (disch := first | omega | simp) []))) <;> clear hK K)
      | ((with_reducible refine awCond fun A B hA hB => ?_); simp (maxSteps := 10000000) (disch := first | omega | simp) []; (first | refine ⟨fun h => hA ?_, fun h => hB ?_⟩ | refine hA ?_ | refine hB ?_) <;> (clear hA hB A B; (try (exfalso; omega))))
  (refine aEnR (aRes [] fun K hK => ?_); simp (maxSteps := 10000000) (disch := first | omega | simp) []; refine hK _ ?_ (by simp); clear hK; first | done | (simp (maxSteps := 10000000) (disch := first | omega | simp) [*]; done) | (simp (maxSteps := 10000000) (disch := first | omega | simp) [*]; omega) | (simp_all []; done) | (simp_all []; omega))
theorem ibroker_ok (m : Image) (n : Int) (hs : srtB m.brokers) (hb : ∀ b ∈ m.brokers, 1 ≤ b.id ∧ b.id ≤ 64) (hl : m.brokers.length ≤ 1000000) (hn : big62 n) : ACall pg 150 [encM m, I n] (.tup [I (posOf Broker.id m.brokers n), B (m.broker n).isSome]) := by
  refine s150.call mo (by simp) fun hxs => ?_
  clear hxs
  unfold c150
  repeat' first
      | (with_reducible first | refine thN ?_ | refine thR ?_ | refine thE ?_ | refine inN ?_ | refine inR ?_ | refine inH ?_ | refine fF ?_ | refine fS ?_ | refine fR ?_ | refine fQ ?_ | refine fC ?_ | refine fB ?_ | refine fL ?_ | refine fE ?_ | refine fT ?_ | refine awBlock ?_ | refine awExit ?_ | refine awRet ?_ | refine awSkip ?_ | refine inM (by decide) ?_)
      | ((with_reducible refine awReg fun K hok hK => ?_); clear hok; (try simp (maxSteps := 10000000) (disch := first | omega | simp) []); (repeat' first
          | (with_reducible refine hK _ (by simp) ?_)
          | ((with_reducible refine gdT (fun h => ?_) (fun h => ?_)) <;> (simp (maxSteps := 10000000) (disch := first | omega | simp) [h]; (try simp at h); (try (exfalso; omega))))
          | ((with_reducible refine gdF (fun h => ?_) (fun h => ?_)) <;> (simp (maxSteps := 10000000) (disch := first | omega | simp) [h]; (try simp at h); (try (exfalso; omega))))
          | ((with_reducible refine callS' fun K2 hK2 => ?_); (try simp (maxSteps := 10000000) (disch := first | omega | simp) []); (first | (refine hK2 _ _ (findB_ok m n hs hb hl hn) rfl fun hk9 => ?_; clear hk9)); clear hK2 K2; (try simp (maxSteps := 10000000) (disch := first | omega | simp) []))
          | ((with_reducible refine callF' fun K2 hK2 => ?_); (try simp (maxSteps := 10000000) (disch := first | omega | simp) []); (first | refine hK2 _ _ _ (findB_ok m n hs hb hl hn) fun _ => ?_); clear hK2 K2; (try simp (maxSteps := 10000000) (disch := first | omega | simp) []))
          | ((with_reducible refine callCS' fun K2 hK2 => ?_); (try simp (maxSteps := 10000000) (disch := first | omega | simp) []); (first | (refine hK2 _ _ _ _ (findB_ok m n hs hb hl hn) rfl fun hk9 => ?_; clear hk9)); clear hK2 K2; (try simp (maxSteps := 10000000) (disch := first | omega | simp) []))
          | ((with_reducible refine callC' fun K2 hK2 => ?_); (try simp (maxSteps := 10000000) (disch := first | omega | simp) []); (first | refine hK2 _ _ _ _ _ (findB_ok m n hs hb hl hn) fun _ => ?_); clear hK2 K2; (try simp (maxSteps := 10000000) (disch := first | omega | simp) []))
          | ((with_reducible refine gdU ?_); (try simp (maxSteps := 10000000) (disch := first | omega | simp) []))) <;> clear hK K)
      | ((with_reducible refine awCond fun A B hA hB => ?_); simp (maxSteps := 10000000) (disch := first | omega | simp) []; (first | refine ⟨fun h => hA ?_, fun h => hB ?_⟩ | refine hA ?_ | refine hB ?_) <;> (clear hA hB A B; (try (exfalso; omega))))
  (refine aEnR (aRes [] fun K hK => ?_); simp (maxSteps := 10000000) (disch := first | omega | simp) []; refine hK _ ?_ (by simp); clear hK; first | done | (simp (maxSteps := 10000000) (disch := first | omega | simp) [*]; done) | (simp (maxSteps := 10000000) (disch := first | omega | simp) [*]; omega) | (simp_all []; done) | (simp_all []; omega))
theorem iBroker_ok (m : Image) (n : Int) (hs : srtB m.brokers) (hb : ∀ b ∈ m.brokers, 1 ≤ b.id ∧ b.id ≤ 64) (hl : m.brokers.length ≤ 1000000) (hn : big62 n) : ACall pg 132 [encM m, I n] (.tup [encB ((m.broker n).getD zB), B (m.broker n).isSome]) := by
  refine s132.call mo (by simp) fun hxs => ?_
  clear hxs
  unfold c132
  have hp := pos_find (f := Broker.id) n hs
  cases hm : m.broker n with
  | none =>
    repeat' first
        | (with_reducible first | refine thN ?_ | refine thR ?_ | refine thE ?_ | refine inN ?_ | refine inR ?_ | refine inH ?_ | refine fF ?_ | refine fS ?_ | refine fR ?_ | refine fQ ?_ | refine fC ?_ | refine fB ?_ | refine fL ?_ | refine fE ?_ | refine fT ?_ | refine awBlock ?_ | refine awExit ?_ | refine awRet ?_ | refine awSkip ?_ | refine inM (by decide) ?_)
        | ((with_reducible refine awReg fun K hok hK => ?_); clear hok; (try simp (maxSteps := 10000000) (disch := first | omega | simp) [hm]); (repeat' first
            | (with_reducible refine hK _ (by simp) ?_)
            | ((with_reducible refine gdT (fun h => ?_) (fun h => ?_)) <;> (simp (maxSteps := 10000000) (disch := first | omega | simp) [h, hm]; (try simp at h); (try (exfalso; omega))))
            | ((with_reducible refine gdF (fun h => ?_) (fun h => ?_)) <;> (simp (maxSteps := 10000000) (disch := first | omega | simp) [h, hm]; (try simp at h); (try (exfalso; omega))))
            | ((with_reducible refine callS' fun K2 hK2 => ?_); (try simp (maxSteps := 10000000) (disch := first | omega | simp) [hm]); (first | (refine hK2 _ _ (ibroker_ok m n hs hb hl hn) rfl fun hk9 => ?_; clear hk9)); clear hK2 K2; (try simp (maxSteps := 10000000) (disch := first | omega | simp) [hm]))
            | ((with_reducible refine callF' fun K2 hK2 => ?_); (try simp (maxSteps := 10000000) (disch := first | omega | simp) [hm]); (first | refine hK2 _ _ _ (ibroker_ok m n hs hb hl hn) fun _ => ?_); clear hK2 K2; (try simp (maxSteps := 10000000) (disch := first | omega | simp) [hm]))
            | ((with_reducible refine callCS' fun K2 hK2 => ?_); (try simp (maxSteps := 10000000) (disch := first | omega | simp) [hm]); (first | (refine hK2 _ _ _ _ (ibroker_ok m n hs hb hl hn) rfl fun hk9 => ?_; clear hk9)); clear hK2 K2; (try simp (maxSteps := 10000000) (disch := first | omega | simp) [hm]))
            | ((with_reducible refine callC' fun K2 hK2 => ?_); (try simp (maxSteps := 10000000) (disch := first | omega | simp) [hm]); (first | refine hK2 _ _ _ _ _ (ibroker_ok m n hs hb hl hn) fun _ => ?_); clear hK2 K2; (try simp (maxSteps := 10000000) (disch := first | omega | simp) [hm]))
            | ((with_reducible refine gdU ?_); (try simp (maxSteps := 10000000) (disch := first | omega | simp) [hm]))) <;> clear hK K)
        | ((with_reducible refine awCond fun A B hA hB => ?_); simp (maxSteps := 10000000) (disch := first | omega | simp) [hm]; (first | refine ⟨fun h => hA ?_, fun h => hB ?_⟩ | refine hA ?_ | refine hB ?_) <;> (clear hA hB A B; (try (exfalso; omega))))
    (refine aEnR (aRes [] fun K hK => ?_); simp (maxSteps := 10000000) (disch := first | omega | simp) [zB]; refine hK _ ?_ (by simp); clear hK; first | done | (simp (maxSteps := 10000000) (disch := first | omega | simp) [zB, *]; done) | (simp (maxSteps := 10000000) (disch := first | omega | simp) [zB, *]; omega) | (simp_all [zB]; done) | (simp_all [zB]; omega))
  | some b =>
    unfold Image.broker at hm
    rw [hm] at hp
    split at hp
    · rename_i h
      split at hp
      · rename_i h2
        have hb2 : m.brokers[posOf Broker.id m.brokers n] = b := by simpa using hp.symm
        have hm' : (m.broker n).isSome = true := by unfold Image.broker; rw [hm]; rfl
        repeat' first
            | (with_reducible first | refine thN ?_ | refine thR ?_ | refine thE ?_ | refine inN ?_ | refine inR ?_ | refine inH ?_ | refine fF ?_ | refine fS ?_ | refine fR ?_ | refine fQ ?_ | refine fC ?_ | refine fB ?_ | refine fL ?_ | refine fE ?_ | refine fT ?_ | refine awBlock ?_ | refine awExit ?_ | refine awRet ?_ | refine awSkip ?_ | refine inM (by decide) ?_)
            | ((with_reducible refine awReg fun K hok hK => ?_); clear hok; (try simp (maxSteps := 10000000) (disch := first | omega | simp) [hm', hb2]); (repeat' first
                | (with_reducible refine hK _ (by simp) ?_)
                | ((with_reducible refine gdT (fun h => ?_) (fun h => ?_)) <;> (simp (maxSteps := 10000000) (disch := first | omega | simp) [h, hm', hb2]; (try simp at h); (try (exfalso; omega))))
                | ((with_reducible refine gdF (fun h => ?_) (fun h => ?_)) <;> (simp (maxSteps := 10000000) (disch := first | omega | simp) [h, hm', hb2]; (try simp at h); (try (exfalso; omega))))
                | ((with_reducible refine callS' fun K2 hK2 => ?_); (try simp (maxSteps := 10000000) (disch := first | omega | simp) [hm', hb2]); (first | (refine hK2 _ _ (ibroker_ok m n hs hb hl hn) rfl fun hk9 => ?_; clear hk9)); clear hK2 K2; (try simp (maxSteps := 10000000) (disch := first | omega | simp) [hm', hb2]))
                | ((with_reducible refine callF' fun K2 hK2 => ?_); (try simp (maxSteps := 10000000) (disch := first | omega | simp) [hm', hb2]); (first | refine hK2 _ _ _ (ibroker_ok m n hs hb hl hn) fun _ => ?_); clear hK2 K2; (try simp (maxSteps := 10000000) (disch := first | omega | simp) [hm', hb2]))
                | ((with_reducible refine callCS' fun K2 hK2 => ?_); (try simp (maxSteps := 10000000) (disch := first | omega | simp) [hm', hb2]); (first | (refine hK2 _ _ _ _ (ibroker_ok m n hs hb hl hn) rfl fun hk9 => ?_; clear hk9)); clear hK2 K2; (try simp (maxSteps := 10000000) (disch := first | omega | simp) [hm', hb2]))
                | ((with_reducible refine callC' fun K2 hK2 => ?_); (try simp (maxSteps := 10000000) (disch := first | omega | simp) [hm', hb2]); (first | refine hK2 _ _ _ _ _ (ibroker_ok m n hs hb hl hn) fun _ => ?_); clear hK2 K2; (try simp (maxSteps := 10000000) (disch := first | omega | simp) [hm', hb2]))
                | ((with_reducible refine gdU ?_); (try simp (maxSteps := 10000000) (disch := first | omega | simp) [hm', hb2]))) <;> clear hK K)
            | ((with_reducible refine awCond fun A B hA hB => ?_); simp (maxSteps := 10000000) (disch := first | omega | simp) [hm', hb2]; (first | refine ⟨fun h => hA ?_, fun h => hB ?_⟩ | refine hA ?_ | refine hB ?_) <;> (clear hA hB A B; (try (exfalso; omega))))
        (refine aEnR (aRes [] fun K hK => ?_); simp (maxSteps := 10000000) (disch := first | omega | simp) []; refine hK _ ?_ (by simp); clear hK; first | done | (simp (maxSteps := 10000000) (disch := first | omega | simp) [*]; done) | (simp (maxSteps := 10000000) (disch := first | omega | simp) [*]; omega) | (simp_all []; done) | (simp_all []; omega))
      · cases hp
    · cases hp
theorem fit_ok (m : Image) (n : Int) (st : Bool) (hs : srtB m.brokers) (hb : ∀ b ∈ m.brokers, 1 ≤ b.id ∧ b.id ≤ 64) (hl : m.brokers.length ≤ 1000000) (hn : big62 n) : ACall pg 71 [encM m, I n, B st] (B (m.fit n st)) := by
  refine s71.call mo (by simp) fun hxs => ?_
  clear hxs
  unfold c71
  cases hm : m.broker n with
  | none =>
    repeat' first
        | (with_reducible first | refine thN ?_ | refine thR ?_ | refine thE ?_ | refine inN ?_ | refine inR ?_ | refine inH ?_ | refine fF ?_ | refine fS ?_ | refine fR ?_ | refine fQ ?_ | refine fC ?_ | refine fB ?_ | refine fL ?_ | refine fE ?_ | refine fT ?_ | refine awBlock ?_ | refine awExit ?_ | refine awRet ?_ | refine awSkip ?_ | refine inM (by decide) ?_)
        | ((with_reducible refine awReg fun K hok hK => ?_); clear hok; (try simp (maxSteps := 10000000) (disch := first | omega | simp) [hm, zB]); (repeat' first
            | (with_reducible refine hK _ (by simp) ?_)
            | ((with_reducible refine gdT (fun h => ?_) (fun h => ?_)) <;> (simp (maxSteps := 10000000) (disch := first | omega | simp) [h, hm, zB]; (try simp at h); (try (exfalso; omega))))
            | ((with_reducible refine gdF (fun h => ?_) (fun h => ?_)) <;> (simp (maxSteps := 10000000) (disch := first | omega | simp) [h, hm, zB]; (try simp at h); (try (exfalso; omega))))
            | ((with_reducible refine callS' fun K2 hK2 => ?_); (try simp (maxSteps := 10000000) (disch := first | omega | simp) [hm, zB]); (first | (refine hK2 _ _ (iBroker_ok m n hs hb hl hn) rfl fun hk9 => ?_; clear hk9)); clear hK2 K2; (try simp (maxSteps := 10000000) (disch := first | omega | simp) [hm, zB]))
            | ((with_reducible refine callF' fun K2 hK2 => ?_); (try simp (maxSteps := 10000000) (disch := first | omega | simp) [hm, zB]); (first | refine hK2 _ _ _ (iBroker_ok m n hs hb hl hn) fun _ => ?_); clear hK2 K2; (try simp (maxSteps := 10000000) (disch := first | omega | simp) [hm, zB]))
            | ((with_reducible refine callCS' fun K2 hK2 => ?_); (try simp (maxSteps := 10000000) (disch := first | omega | simp) [hm, zB]); (first | (refine hK2 _ _ _ _ (iBroker_ok m n hs hb hl hn) rfl fun hk9 => ?_; clear hk9)); clear hK2 K2; (try simp (maxSteps := 10000000) (disch := first | omega | simp) [hm, zB]))
            | ((with_reducible refine callC' fun K2 hK2 => ?_); (try simp (maxSteps := 10000000) (disch := first | omega | simp) [hm, zB]); (first | refine hK2 _ _ _ _ _ (iBroker_ok m n hs hb hl hn) fun _ => ?_); clear hK2 K2; (try simp (maxSteps := 10000000) (disch := first | omega | simp) [hm, zB]))
            | ((with_reducible refine gdU ?_); (try simp (maxSteps := 10000000) (disch := first | omega | simp) [hm, zB]))) <;> clear hK K)
        | ((with_reducible refine awCond fun A B hA hB => ?_); simp (maxSteps := 10000000) (disch := first | omega | simp) [hm, zB]; (first | refine ⟨fun h => hA ?_, fun h => hB ?_⟩ | refine hA ?_ | refine hB ?_) <;> (clear hA hB A B; (try (exfalso; omega))))
    all_goals (refine aEnR (aRes [] fun K hK => ?_); simp (maxSteps := 10000000) (disch := first | omega | simp) [Image.fit, hm]; refine hK _ ?_ (by simp); clear hK; first | done | (simp (maxSteps := 10000000) (disch := first | omega | simp) [Image.fit, hm, *]; done) | (simp (maxSteps := 10000000) (disch := first | omega | simp) [Image.fit, hm, *]; omega) | (simp_all [Image.fit, hm]; done) | (simp_all [Image.fit, hm]; omega))
  | some b =>
    repeat' first
        | (with_reducible first | refine thN ?_ | refine thR ?_ | refine thE ?_ | refine inN ?_ | refine inR ?_ | refine inH ?_ | refine fF ?_ | refine fS ?_ | refine fR ?_ | refine fQ ?_ | refine fC ?_ | refine fB ?_ | refine fL ?_ | refine fE ?_ | refine fT ?_ | refine awBlock ?_ | refine awExit ?_ | refine awRet ?_ | refine awSkip ?_ | refine inM (by decide) ?_)
        | ((with_reducible refine awReg fun K hok hK => ?_); clear hok; (try simp (maxSteps := 10000000) (disch := first | omega | simp) [hm]); (repeat' first
            | (with_reducible refine hK _ (by simp) ?_)
            | ((with_reducible refine gdT (fun h => ?_) (fun h => ?_)) <;> (simp (maxSteps := 10000000) (disch := first | omega | simp) [h, hm]; (try simp at h); (try (exfalso; omega))))
            | ((with_reducible refine gdF (fun h => ?_) (fun h => ?_)) <;> (simp (maxSteps := 10000000) (disch := first | omega | simp) [h, hm]; (try simp at h); (try (exfalso; omega))))
            | ((with_reducible refine callS' fun K2 hK2 => ?_); (try simp (maxSteps := 10000000) (disch := first | omega | simp) [hm]); (first | (refine hK2 _ _ (iBroker_ok m n hs hb hl hn) rfl fun hk9 => ?_; clear hk9)); clear hK2 K2; (try simp (maxSteps := 10000000) (disch := first | omega | simp) [hm]))
            | ((with_reducible refine callF' fun K2 hK2 => ?_); (try simp (maxSteps := 10000000) (disch := first | omega | simp) [hm]); (first | refine hK2 _ _ _ (iBroker_ok m n hs hb hl hn) fun _ => ?_); clear hK2 K2; (try simp (maxSteps := 10000000) (disch := first | omega | simp) [hm]))
            | ((with_reducible refine callCS' fun K2 hK2 => ?_); (try simp (maxSteps := 10000000) (disch := first | omega | simp) [hm]); (first | (refine hK2 _ _ _ _ (iBroker_ok m n hs hb hl hn) rfl fun hk9 => ?_; clear hk9)); clear hK2 K2; (try simp (maxSteps := 10000000) (disch := first | omega | simp) [hm]))
            | ((with_reducible refine callC' fun K2 hK2 => ?_); (try simp (maxSteps := 10000000) (disch := first | omega | simp) [hm]); (first | refine hK2 _ _ _ _ _ (iBroker_ok m n hs hb hl hn) fun _ => ?_); clear hK2 K2; (try simp (maxSteps := 10000000) (disch := first | omega | simp) [hm]))
            | ((with_reducible refine gdU ?_); (try simp (maxSteps := 10000000) (disch := first | omega | simp) [hm]))) <;> clear hK K)
        | ((with_reducible refine awCond fun A B hA hB => ?_); simp (maxSteps := 10000000) (disch := first | omega | simp) [hm]; (first | refine ⟨fun h => hA ?_, fun h => hB ?_⟩ | refine hA ?_ | refine hB ?_) <;> (clear hA hB A B; (try (exfalso; omega))))
    all_goals (refine aEnR (aRes [] fun K hK => ?_); simp (maxSteps := 10000000) (disch := first | omega | simp) [Image.fit, hm]; refine hK _ ?_ (by simp); clear hK; first | done | (simp (maxSteps := 10000000) (disch := first | omega | simp) [Image.fit, hm, *]; done) | (simp (maxSteps := 10000000) (disch := first | omega | simp) [Image.fit, hm, *]; omega) | (simp_all [Image.fit, hm]; done) | (simp_all [Image.fit, hm]; omega))
end
end Go.Am
