/- Part of the proof of a law of moving. -/
import Derived.Test.YtmnheledelnbfaaGreatQAA
import Derived.Test.YtmnheledelnbfaaGreatQPU
set_option linter.all false
section
set_option maxRecDepth 100000
set_option maxHeartbeats 0
namespace Go.Am
open Go
noncomputable section
def c58 : SC := (.seq (.reg [⟨some 2, .assign (.const (.slice none 0 0)), none, []⟩] [0, 7]) (.seq (.reg [⟨some 3, .move (.tmp 0), none, []⟩,
  ⟨some 4, .binOp .eql 23 (.tmp 3) (.const (.slice none 0 0)) 23, none, []⟩] [0, 4, 7]) (.seq (.cond (.tmp 4) (.seq (.reg [⟨some 2, .assign (.const (.slice none 0 0)), none, []⟩] [2, 7]) .ret) .skip) (.seq (.reg [⟨some 5, .buildSlice 23 0 #[], none, []⟩,
  ⟨some 6, .move (.tmp 0), none, []⟩,
  ⟨some 7, .call { callee := .builtin .append, args := #[.tmp 5, .tmp 6], argTypes := #[23, 23] }, none, []⟩,
  ⟨some 2, .assign (.tmp 7), none, []⟩] [2, 7]) .ret))))
theorem s58 : TextK Proofs.Tryz.prog 0 58 8 [ResultVar.tmp 2] c58 := .mk' Proofs.Tryz.f58 _ (by kernel_rfl) rfl rfl rfl (by kernel_rfl) rfl (by kernel_rfl)
def c93 : SC := (.seq (.reg [⟨some 1, .box 84 (.tmp 0), none, []⟩,
  ⟨some 2, .assign (.const (.int .i64 0)), none, []⟩] [1]) (.seq (.reg [⟨some 3, .fieldAddr 84 (.tmp 1) 0, none, []⟩,
  ⟨some 4, .load 3 (.tmp 3), none, []⟩,
  ⟨some 2, .assign (.tmp 4), none, []⟩] [1, 2, 3, 4]) .ret))
theorem s93 : TextK Proofs.Tryz.prog 0 93 5 [ResultVar.tmp 2] c93 := .mk' Proofs.Tryz.f93 _ (by kernel_rfl) rfl rfl rfl (by kernel_rfl) rfl (by kernel_rfl)
def c96 : SC := (.seq (.reg [⟨some 3, .box 84 (.tmp 0), none, []⟩,
  ⟨some 5, .assign (.const (.int .i64 0)), none, []⟩] [1, 2, 3]) (.seq (.reg [⟨some 6, .load 155 (.tmp 2), none, []⟩,
  ⟨some 7, .load 84 (.tmp 3), none, []⟩,
  ⟨some 8, .call { callee := .value (.tmp 6), args := #[.tmp 7], argTypes := #[84] }, none, []⟩,
  ⟨some 9, .move (.tmp 1), none, []⟩,
  ⟨some 10, .binOp .sub 3 (.tmp 8) (.tmp 9) 3, none, []⟩,
  ⟨some 5, .assign (.tmp 10), none, []⟩] [5, 10]) .ret))
theorem s96 : TextK Proofs.Tryz.prog 0 96 11 [ResultVar.tmp 5] c96 := .mk' Proofs.Tryz.f96 _ (by kernel_rfl) rfl rfl rfl (by kernel_rfl) rfl (by kernel_rfl)
def c95 : SC := (.seq (.reg [⟨some 6, .assign (.const (.int .i64 0)), none, []⟩,
  ⟨some 7, .assign (.const (.bool false)), none, []⟩] [0, 1, 2, 33]) (.seq (.reg [⟨some 12, .move (.tmp 0), none, []⟩,
  ⟨some 13, .call { callee := .builtin .len, args := #[.tmp 12], argTypes := #[31] }, none, []⟩,
  ⟨some 8, .assign (.tmp 13), none, []⟩] [0, 1, 2, 8, 13, 33]) (.seq (.reg [⟨some 14, .move (.tmp 8), none, []⟩,
  ⟨some 9, .assign (.const (.int .i64 0)), none, []⟩,
  ⟨some 10, .assign (.tmp 14), none, []⟩] [0, 1, 2, 8, 9, 10, 11, 13, 14, 23, 33, 34]) (.seq (.block 0 (.seq (.loop (.seq (.reg [⟨some 15, .move (.tmp 9), none, []⟩,
  ⟨some 16, .move (.tmp 10), none, []⟩,
  ⟨some 17, .binOp .lss 3 (.tmp 15) (.tmp 16) 3, none, []⟩] [0, 1, 2, 8, 9, 10, 11, 13, 14, 17, 23, 33, 34]) (.seq (.cond (.tmp 17) .skip (.exit 0)) (.seq (.block 1 (.seq (.reg [⟨some 18, .move (.tmp 9), none, []⟩,
  ⟨some 19, .move (.tmp 10), none, []⟩,
  ⟨some 20, .binOp .add 3 (.tmp 18) (.tmp 19) 3, none, []⟩,
  ⟨some 21, .convert 3 151 (.tmp 20), none, []⟩,
  ⟨some 22, .binOp .shr 151 (.tmp 21) (.const (.int .u64 1)) 151, none, []⟩,
  ⟨some 23, .convert 151 3 (.tmp 22), none, []⟩,
  ⟨some 11, .assign (.tmp 23), none, []⟩] [0, 1, 2, 8, 9, 10, 11, 13, 14, 23, 33, 34]) (.seq (.reg [⟨some 24, .move (.tmp 2), none, []⟩,
  ⟨some 25, .move (.tmp 0), none, []⟩,
  ⟨some 26, .move (.tmp 11), none, []⟩,
  ⟨some 27, .indexAddr 31 (.tmp 25) (.tmp 26), none, []⟩,
  ⟨some 28, .load 84 (.tmp 27), none, []⟩,
  ⟨some 29, .move (.tmp 1), none, []⟩,
  ⟨some 30, .call { callee := .value (.tmp 24), args := #[.tmp 28, .tmp 29], argTypes := #[84, 3] }, none, []⟩,
  ⟨some 31, .binOp .lss 3 (.tmp 30) (.const (.int .i64 0)) 3, none, []⟩] [0, 1, 2, 8, 9, 10, 11, 13, 14, 23, 31, 33, 34]) (.seq (.cond (.tmp 31) (.seq (.reg [⟨some 32, .move (.tmp 11), none, []⟩,
  ⟨some 33, .binOp .add 3 (.tmp 32) (.const (.int .i64 1)) 3, none, []⟩,
  ⟨some 9, .assign (.tmp 33), none, []⟩] [0, 1, 2, 8, 9, 10, 11, 13, 14, 23, 33, 34]) .skip) (.seq (.reg [⟨some 34, .move (.tmp 11), none, []⟩,
  ⟨some 10, .assign (.tmp 34), none, []⟩] [0, 1, 2, 8, 9, 10, 11, 13, 14, 23, 33, 34]) .skip)) .skip)))) .skip)))) .skip)) (.seq (.reg [⟨some 35, .move (.tmp 9), none, []⟩,
  ⟨some 36, .move (.tmp 9), none, []⟩,
  ⟨some 37, .move (.tmp 8), none, []⟩,
  ⟨some 38, .binOp .lss 3 (.tmp 36) (.tmp 37) 3, none, []⟩,
  ⟨some 39, .move (.tmp 38), none, []⟩,
  ⟨some 40, .move (.tmp 2), (some (39, true)), []⟩,
  ⟨some 41, .move (.tmp 0), (some (39, true)), []⟩,
  ⟨some 42, .move (.tmp 9), (some (39, true)), []⟩,
  ⟨some 43, .indexAddr 31 (.tmp 41) (.tmp 42), (some (39, true)), []⟩,
  ⟨some 44, .load 84 (.tmp 43), (some (39, true)), []⟩,
  ⟨some 45, .move (.tmp 1), (some (39, true)), []⟩,
  ⟨some 46, .call { callee := .value (.tmp 40), args := #[.tmp 44, .tmp 45], argTypes := #[84, 3] }, (some (39, true)), []⟩,
  ⟨some 47, .binOp .eql 3 (.tmp 46) (.const (.int .i64 0)) 3, (some (39, true)), []⟩,
  ⟨some 48, .pick (.tmp 39) (.tmp 47) (.const (.bool false)), none, []⟩,
  ⟨some 6, .assign (.tmp 35), none, []⟩,
  ⟨some 7, .assign (.tmp 48), none, []⟩] [6, 7, 9, 33, 35, 38, 39, 47, 48]) .ret)))))
theorem s95 : TextK Proofs.Tryz.prog 0 95 49 [ResultVar.tmp 6, ResultVar.tmp 7] c95 := .mk' Proofs.Tryz.f95 _ (by kernel_rfl) rfl rfl rfl (by kernel_rfl) rfl (by kernel_rfl)
def c92 : SC := (.seq (.reg [⟨some 5, .box 155 (.tmp 2), none, []⟩,
  ⟨some 6, .assign (.const (.int .i64 0)), none, []⟩,
  ⟨some 7, .assign (.const (.bool false)), none, []⟩] [0, 1, 5]) (.seq (.reg [⟨some 8, .move (.tmp 0), none, []⟩,
  ⟨some 9, .move (.tmp 1), none, []⟩,
  ⟨some 10, .makeFunc (Fn.func 96) #[] #[.tmp 5], none, []⟩,
  ⟨some 11, .call { callee := .value (.func 95), args := #[.tmp 8, .tmp 9, .tmp 10], argTypes := #[31, 3, 157] }, none, []⟩,
  ⟨some 12, .extract (.tmp 11) 0, none, []⟩,
  ⟨some 13, .extract (.tmp 11) 1, none, []⟩,
  ⟨some 6, .assign (.tmp 12), none, []⟩,
  ⟨some 7, .assign (.tmp 13), none, []⟩] [6, 7, 11, 12, 13]) .ret))
theorem s92 : TextK Proofs.Tryz.prog 0 92 14 [ResultVar.tmp 6, ResultVar.tmp 7] c92 := .mk' Proofs.Tryz.f92 _ (by kernel_rfl) rfl rfl rfl (by kernel_rfl) rfl (by kernel_rfl)
def c88 : SC := (.seq (.reg [⟨some 2, .box 36 (.tmp 0), none, []⟩,
  ⟨some 4, .assign (.const (.int .i64 0)), none, []⟩,
  ⟨some 5, .assign (.const (.bool false)), none, []⟩] [1, 2]) (.seq (.reg [⟨some 6, .fieldAddr 36 (.tmp 2) 0, none, []⟩,
  ⟨some 7, .load 31 (.tmp 6), none, []⟩,
  ⟨some 8, .move (.tmp 1), none, []⟩,
  ⟨some 9, .call { callee := .value (.func 92), args := #[.tmp 7, .tmp 8, .func 93], argTypes := #[31, 3, 155] }, none, []⟩,
  ⟨some 10, .extract (.tmp 9) 0, none, []⟩,
  ⟨some 11, .extract (.tmp 9) 1, none, []⟩,
  ⟨some 4, .assign (.tmp 10), none, []⟩,
  ⟨some 5, .assign (.tmp 11), none, []⟩] [4, 5, 9, 10, 11]) .ret))
theorem s88 : TextK Proofs.Tryz.prog 0 88 12 [ResultVar.tmp 4, ResultVar.tmp 5] c88 := .mk' Proofs.Tryz.f88 _ (by kernel_rfl) rfl rfl rfl (by kernel_rfl) rfl (by kernel_rfl)
def c82 : SC := (.seq (.reg [⟨some 2, .box 36 (.tmp 0), none, []⟩,
  ⟨some 4, .alloc 84, none, []⟩,
  ⟨some 5, .assign (.const (.bool false)), none, []⟩] [1, 2, 4]) (.seq (.reg [⟨some 9, .load 36 (.tmp 2), none, []⟩,
  ⟨some 10, .move (.tmp 1), none, []⟩,
  ⟨some 11, .call { callee := .value (.func 88), args := #[.tmp 9, .tmp 10], argTypes := #[36, 3] }, none, []⟩,
  ⟨some 8, .move (.tmp 11), none, []⟩,
  ⟨some 12, .extract (.tmp 8) 0, none, []⟩,
  ⟨some 13, .extract (.tmp 8) 1, none, []⟩,
  ⟨some 6, .assign (.tmp 12), none, []⟩,
  ⟨some 7, .assign (.tmp 13), none, []⟩] [2, 4, 6, 7, 8, 11, 12, 13]) (.seq (.reg [⟨some 14, .move (.tmp 7), none, []⟩,
  ⟨some 15, .unOp .not 4 (.tmp 14), none, []⟩] [2, 4, 6, 8, 11, 12, 15]) (.seq (.cond (.tmp 15) (.seq (.reg [⟨some 16, .build 84 #[], none, []⟩,
  ⟨none, .store 84 (.tmp 4) (.tmp 16), none, []⟩,
  ⟨some 5, .assign (.const (.bool false)), none, []⟩] [4, 5]) .ret) .skip) (.seq (.reg [⟨some 17, .fieldAddr 36 (.tmp 2) 0, none, []⟩,
  ⟨some 18, .load 31 (.tmp 17), none, []⟩,
  ⟨some 19, .move (.tmp 6), none, []⟩,
  ⟨some 20, .indexAddr 31 (.tmp 18) (.tmp 19), none, []⟩,
  ⟨some 21, .load 84 (.tmp 20), none, []⟩,
  ⟨none, .store 84 (.tmp 4) (.tmp 21), none, []⟩,
  ⟨some 5, .assign (.const (.bool true)), none, []⟩] [4, 5]) .ret)))))
theorem s82 : TextK Proofs.Tryz.prog 0 82 22 [ResultVar.cell 4 84, ResultVar.tmp 5] c82 := .mk' Proofs.Tryz.f82 _ (by kernel_rfl) rfl rfl rfl (by kernel_rfl) rfl (by kernel_rfl)
def c75 : SC := (.seq (.reg [⟨some 3, .box 36 (.tmp 0), none, []⟩,
  ⟨some 6, .assign (.const (.bool false)), none, []⟩] [1, 2, 3]) (.seq (.reg [⟨some 10, .load 36 (.tmp 3), none, []⟩,
  ⟨some 11, .move (.tmp 1), none, []⟩,
  ⟨some 12, .call { callee := .value (.func 82), args := #[.tmp 10, .tmp 11], argTypes := #[36, 3] }, none, []⟩,
  ⟨some 9, .move (.tmp 12), none, []⟩,
  ⟨some 13, .extract (.tmp 9) 0, none, []⟩,
  ⟨some 14, .extract (.tmp 9) 1, none, []⟩,
  ⟨some 7, .alloc 84, none, []⟩,
  ⟨none, .store 84 (.tmp 7) (.tmp 13), none, []⟩,
  ⟨some 8, .assign (.tmp 14), none, []⟩] [2, 7, 8, 9, 12, 14]) (.seq (.reg [⟨some 15, .move (.tmp 8), none, []⟩,
  ⟨some 16, .move (.tmp 15), none, []⟩,
  ⟨some 17, .fieldAddr 84 (.tmp 7) 3, (some (16, true)), []⟩,
  ⟨some 18, .load 4 (.tmp 17), (some (16, true)), []⟩,
  ⟨some 19, .unOp .not 4 (.tmp 18), (some (16, true)), []⟩,
  ⟨some 20, .pick (.tmp 16) (.tmp 19) (.const (.bool false)), none, []⟩,
  ⟨some 21, .move (.tmp 20), none, []⟩,
  ⟨some 22, .move (.tmp 2), (some (21, true)), []⟩,
  ⟨some 23, .unOp .not 4 (.tmp 22), (some (21, true)), []⟩,
  ⟨some 24, .move (.tmp 23), (some (21, true)), []⟩,
  ⟨some 25, .fieldAddr 84 (.tmp 7) 4, (some (24, false)), []⟩,
  ⟨some 26, .load 4 (.tmp 25), (some (24, false)), []⟩,
  ⟨some 27, .unOp .not 4 (.tmp 26), (some (24, false)), []⟩,
  ⟨some 28, .pick (.tmp 24) (.const (.bool true)) (.tmp 27), (some (21, true)), []⟩,
  ⟨some 29, .pick (.tmp 21) (.tmp 28) (.const (.bool false)), none, []⟩,
  ⟨some 6, .assign (.tmp 29), none, []⟩] [6, 8, 9, 12, 14, 15, 16, 19, 20, 21, 23, 24, 27, 28, 29]) .ret)))
theorem s75 : TextK Proofs.Tryz.prog 0 75 30 [ResultVar.tmp 6] c75 := .mk' Proofs.Tryz.f75 _ (by kernel_rfl) rfl rfl rfl (by kernel_rfl) rfl (by kernel_rfl)
theorem cloneI_ok (l : List Int) (hl : l.length ≤ 1000000) : ACall pg 58 [Li l] (.uq (l.map I)) := by
  cases l with
  | nil =>
    refine ACall.empty fun a c => ?_
    refine s58.call mo (by simp) fun hxs => ?_
    clear hxs
    unfold c58
    repeat' first | (with_reducible first | refine fS ?_ | refine fR ?_ | refine fQ ?_ | refine fT ?_ | refine awRet ?_) | ((with_reducible refine awReg fun K hok hK => ?_); clear hok; (try simp (maxSteps := 10000000) (disch := first | omega | simp) []); (repeat' first | (with_reducible refine hK _ (by simp) ?_)) <;> clear hK K) | ((with_reducible refine awCond fun A B hA hB => ?_); simp (maxSteps := 10000000) (disch := first | omega | simp) []; (first | refine ⟨fun h => hA ?_, fun h => hB ?_⟩ | refine hA ?_ | refine hB ?_) <;> (clear hA hB A B; (try (exfalso; omega))))
    all_goals (refine aEnR (aRes [] fun K hK => ?_); simp (maxSteps := 10000000) (disch := first | omega | simp) []; refine hK _ ?_ (by simp); clear hK; first | done | (simp (maxSteps := 10000000) (disch := first | omega | simp) [*]; done) | (simp (maxSteps := 10000000) (disch := first | omega | simp) [*]; omega) | (simp_all []; done) | (simp_all []; omega))
  | cons x l =>
    have hl' : l.length + 1 ≤ 1000000 := by simpa using hl
    refine s58.call mo (by simp) fun hxs => ?_
    clear hxs
    unfold c58
    repeat' first | (with_reducible first | refine fS ?_ | refine fR ?_ | refine fQ ?_ | refine fT ?_ | refine awRet ?_) | ((with_reducible refine awReg fun K hok hK => ?_); clear hok; (try simp (maxSteps := 10000000) (disch := first | omega | simp) []); (repeat' first | (with_reducible refine hK _ (by simp) ?_)) <;> clear hK K) | ((with_reducible refine awCond fun A B hA hB => ?_); simp (maxSteps := 10000000) (disch := first | omega | simp) []; (first | refine ⟨fun h => hA ?_, fun h => hB ?_⟩ | refine hA ?_ | refine hB ?_) <;> (clear hA hB A B; (try (exfalso; omega))))
    all_goals (refine aEnR (aRes [] fun K hK => ?_); simp (maxSteps := 10000000) (disch := first | omega | simp) []; refine hK _ ?_ (by simp); clear hK; first | done | (simp (maxSteps := 10000000) (disch := first | omega | simp) [*]; done) | (simp (maxSteps := 10000000) (disch := first | omega | simp) [*]; omega) | (simp_all []; done) | (simp_all []; omega))
theorem brokerId_ok (x : Broker) : ACall pg 93 [encB x] (I x.id) := by
  refine s93.call mo (by simp) fun hxs => ?_
  clear hxs
  unfold c93
  repeat' first | (with_reducible first | refine awRet ?_) | ((with_reducible refine awReg fun K hok hK => ?_); clear hok; (try simp (maxSteps := 10000000) (disch := first | omega | simp) []); (repeat' first | (with_reducible refine hK _ (by simp) ?_)) <;> clear hK K) | ((with_reducible refine awCond fun A B hA hB => ?_); simp (maxSteps := 10000000) (disch := first | omega | simp) []; (first | refine ⟨fun h => hA ?_, fun h => hB ?_⟩ | refine hA ?_ | refine hB ?_) <;> (clear hA hB A B; (try (exfalso; omega))))
  (refine aEnR (aRes [] fun K hK => ?_); simp (maxSteps := 10000000) (disch := first | omega | simp) []; refine hK _ ?_ (by simp); clear hK; first | done | (simp (maxSteps := 10000000) (disch := first | omega | simp) [*]; done) | (simp (maxSteps := 10000000) (disch := first | omega | simp) [*]; omega) | (simp_all []; done) | (simp_all []; omega))
abbrev capB : V := .ip [.clo 93 []] 0
theorem findB1_ok (x : Broker) (n : Int) (h : -9223372036854775808 ≤ x.id - n ∧ x.id - n ≤ 9223372036854775807) : ACall pg 96 [encB x, I n, capB] (I (x.id - n)) := by
  refine s96.call mo (by simp) fun hxs => ?_
  clear hxs
  unfold c96
  have e := i64_wrap h
  repeat' first | (with_reducible first | refine awRet ?_) | ((with_reducible refine awReg fun K hok hK => ?_); clear hok; (try simp (maxSteps := 10000000) (disch := first | omega | simp) [e]); (repeat' first | (with_reducible refine hK _ (by simp) ?_) | ((with_reducible refine callCS' fun K2 hK2 => ?_); (try simp (maxSteps := 10000000) (disch := first | omega | simp) [e]); (refine hK2 _ _ _ _ (brokerId_ok x) rfl fun hk9 => ?_); clear hk9; clear hK2 K2; (try simp (maxSteps := 10000000) (disch := first | omega | simp) [e]))) <;> clear hK K) | ((with_reducible refine awCond fun A B hA hB => ?_); simp (maxSteps := 10000000) (disch := first | omega | simp) [e]; (first | refine ⟨fun h => hA ?_, fun h => hB ?_⟩ | refine hA ?_ | refine hB ?_) <;> (clear hA hB A B; (try (exfalso; omega))))
  (refine aEnR (aRes [] fun K hK => ?_); simp (maxSteps := 10000000) (disch := first | omega | simp) [e]; refine hK _ ?_ (by simp); clear hK; first | done | (simp (maxSteps := 10000000) (disch := first | omega | simp) [e, *]; done) | (simp (maxSteps := 10000000) (disch := first | omega | simp) [e, *]; omega) | (simp_all [e]; done) | (simp_all [e]; omega))
theorem bsearchB_ok (l : List Broker) (n : Int) (f : FuncId) (caps : List V) (hp : pureL caps = true) (c : Broker → Int) (hc : ∀ x ∈ l, ACall pg f ([encB x, I n] ++ caps) (I (c x))) (k : Nat) (hk : k ≤ l.length) (hl : l.length ≤ 1000000) (hi : ∀ i (h : i < l.length), i < k ↔ c l[i] < 0) :
    ACall pg 95 [.sl (l.map encB), I n, .clo f caps] (.tup [I k, B (if h : k < l.length then c l[k] == 0 else false)]) := by
  refine s95.call mo (by simp) fun hxs => ?_
  clear hxs
  unfold c95
  have hv := pvL_pure caps hp
  repeat' first | (with_reducible first | refine thN ?_ | refine thE ?_ | refine inN ?_ | refine inH ?_ | refine fS ?_ | refine fR ?_ | refine fQ ?_ | refine fE ?_ | refine awBlock ?_ | refine awExit ?_ | refine awRet ?_ | refine awSkip ?_) | ((with_reducible refine awReg fun K hok hK => ?_); clear hok; (try simp (maxSteps := 10000000) (disch := first | omega | simp) [hp, hv]); (repeat' first | (with_reducible refine hK _ (by simp) ?_) | ((with_reducible refine gdT (fun h => ?_) (fun h => ?_)) <;> (simp (maxSteps := 10000000) (disch := first | omega | simp) [h, hp, hv]; (try simp at h); (try (exfalso; omega))))) <;> clear hK K) | ((with_reducible refine awCond fun A B hA hB => ?_); simp (maxSteps := 10000000) (disch := first | omega | simp) [hp, hv]; (first | refine ⟨fun h => hA ?_, fun h => hB ?_⟩ | refine hA ?_ | refine hB ?_) <;> (clear hA hB A B; (try (exfalso; omega))))
  refine awWhile (fun (s : Nat × Nat) => s.2 - s.1) (fun s => s.1 ≤ k ∧ k ≤ s.2 ∧ s.2 ≤ l.length) (fun s => [(10, .p (I s.2)), (9, .p (I s.1)), (8, .p (I l.length)), (2, .p (.clo f caps)), (1, .p (I n)), (0, .p (.sl (l.map encB)))]) (0, l.length) (Wk.ofA (by simp)) (by simp; omega) fun s hs => ?_
  obtain ⟨i, j⟩ := s
  simp only at hs
  by_cases hlt : i < j
  · have e1 : IntKind.u64.wrap ((i : Int) + j) = i + j := by simp [IntKind.wrap, IntKind.bits, IntKind.signed]; omega
    obtain ⟨t, ht1, ht2, e2⟩ : ∃ t : Nat, i ≤ t ∧ t < j ∧ IntKind.i64.wrap (((i : Int) + j).fdiv (2 ^ min 1 IntKind.u64.bits)) = t := by
      refine ⟨(i + j) / 2, by omega, by omega, ?_⟩
      have : (2 : Int) ^ min 1 IntKind.u64.bits = 2 := by decide
      rw [this, Int.fdiv_eq_ediv_of_nonneg _ (by omega), i64_wrap (by omega)]; omega
    have hmid : t < l.length := by omega
    have hik := hi t hmid
    repeat' first | (with_reducible first | refine thN ?_ | refine thE ?_ | refine inN ?_ | refine inH ?_ | refine fS ?_ | refine fR ?_ | refine fQ ?_ | refine fE ?_ | refine awBlock ?_ | refine awExit ?_ | refine awRet ?_ | refine awSkip ?_) | ((with_reducible refine awReg fun K hok hK => ?_); clear hok; (try simp (maxSteps := 10000000) (disch := first | omega | simp) [e1, e2, hp, hv]); (repeat' first | (with_reducible refine hK _ (by simp) ?_) | ((with_reducible refine gdT (fun h => ?_) (fun h => ?_)) <;> (simp (maxSteps := 10000000) (disch := first | omega | simp) [h, e1, e2, hp, hv]; (try simp at h); (try (exfalso; omega)))) | ((with_reducible refine callCS' fun K2 hK2 => ?_); (try simp (maxSteps := 10000000) (disch := first | omega | simp) [e1, e2, hp, hv]); (refine hK2 _ _ _ _ (hc _ (List.getElem_mem hmid)) rfl fun hk9 => ?_); clear hk9; clear hK2 K2; (try simp (maxSteps := 10000000) (disch := first | omega | simp) [e1, e2, hp, hv]))) <;> clear hK K) | ((with_reducible refine awCond fun A B hA hB => ?_); simp (maxSteps := 10000000) (disch := first | omega | simp) [e1, e2, hp, hv]; (first | refine ⟨fun h => hA ?_, fun h => hB ?_⟩ | refine hA ?_ | refine hB ?_) <;> (clear hA hB A B; (try (exfalso; omega))))
    · have := hik.2 h
      refine ⟨(t + 1, j), by simp only; omega, by simp only; omega, Wk.ofA (by simp)⟩
    · have : ¬ t < k := fun hh => by have := hik.1 hh; omega
      refine ⟨(i, t), by simp only; omega, by simp only; omega, Wk.ofA (by simp)⟩
  · have : i = k ∧ j = k := by omega
    obtain ⟨rfl, rfl⟩ := this
    by_cases hkl : j < l.length
    · repeat' first | (with_reducible first | refine thN ?_ | refine thE ?_ | refine inN ?_ | refine inH ?_ | refine fS ?_ | refine fR ?_ | refine fQ ?_ | refine fE ?_ | refine awBlock ?_ | refine awExit ?_ | refine awRet ?_ | refine awSkip ?_) | ((with_reducible refine awReg fun K hok hK => ?_); clear hok; (try simp (maxSteps := 10000000) (disch := first | omega | simp) [hp, hv]); (repeat' first | (with_reducible refine hK _ (by simp) ?_) | ((with_reducible refine gdT (fun h => ?_) (fun h => ?_)) <;> (simp (maxSteps := 10000000) (disch := first | omega | simp) [h, hp, hv]; (try simp at h); (try (exfalso; omega)))) | ((with_reducible refine callCS' fun K2 hK2 => ?_); (try simp (maxSteps := 10000000) (disch := first | omega | simp) [hp, hv]); (refine hK2 _ _ _ _ (hc _ (List.getElem_mem hkl)) rfl fun hk9 => ?_); clear hk9; clear hK2 K2; (try simp (maxSteps := 10000000) (disch := first | omega | simp) [hp, hv]))) <;> clear hK K) | ((with_reducible refine awCond fun A B hA hB => ?_); simp (maxSteps := 10000000) (disch := first | omega | simp) [hp, hv]; (first | refine ⟨fun h => hA ?_, fun h => hB ?_⟩ | refine hA ?_ | refine hB ?_) <;> (clear hA hB A B; (try (exfalso; omega))))
      (refine aEnR (aRes [] fun K hK => ?_); simp (maxSteps := 10000000) (disch := first | omega | simp) [hkl]; refine hK _ ?_ (by simp); clear hK; first | done | (simp (maxSteps := 10000000) (disch := first | omega | simp) [hkl, *]; done) | (simp (maxSteps := 10000000) (disch := first | omega | simp) [hkl, *]; omega) | (simp_all [hkl]; done) | (simp_all [hkl]; omega))
    · repeat' first | (with_reducible first | refine thN ?_ | refine thE ?_ | refine inN ?_ | refine inH ?_ | refine fS ?_ | refine fR ?_ | refine fQ ?_ | refine fE ?_ | refine awBlock ?_ | refine awExit ?_ | refine awRet ?_ | refine awSkip ?_) | ((with_reducible refine awReg fun K hok hK => ?_); clear hok; (try simp (maxSteps := 10000000) (disch := first | omega | simp) [hp, hv]); (repeat' first | (with_reducible refine hK _ (by simp) ?_) | ((with_reducible refine gdT (fun h => ?_) (fun h => ?_)) <;> (simp (maxSteps := 10000000) (disch := first | omega | simp) [h, hp, hv]; (try simp at h); (try (exfalso; omega)))) | ((with_reducible refine callCS' fun K2 hK2 => ?_); (try simp (maxSteps := 10000000) (disch := first | omega | simp) [hp, hv]); (refine hK2 _ _ _ _ (hc _ (List.getElem_mem hkl)) rfl fun hk9 => ?_); clear hk9; clear hK2 K2; (try simp (maxSteps := 10000000) (disch := first | omega | simp) [hp, hv]))) <;> clear hK K) | ((with_reducible refine awCond fun A B hA hB => ?_); simp (maxSteps := 10000000) (disch := first | omega | simp) [hp, hv]; (first | refine ⟨fun h => hA ?_, fun h => hB ?_⟩ | refine hA ?_ | refine hB ?_) <;> (clear hA hB A B; (try (exfalso; omega))))
      (refine aEnR (aRes [] fun K hK => ?_); simp (maxSteps := 10000000) (disch := first | omega | simp) [hkl]; refine hK _ ?_ (by simp); clear hK; first | done | (simp (maxSteps := 10000000) (disch := first | omega | simp) [hkl, *]; done) | (simp (maxSteps := 10000000) (disch := first | omega | simp) [hkl, *]; omega) | (simp_all [hkl]; done) | (simp_all [hkl]; omega))
abbrev big62 (n : Int) : Prop := -4611686018427387904 ≤ n ∧ n ≤ 4611686018427387904
theorem findB_ok (m : Image) (n : Int) (hs : srtB m.brokers) (hb : ∀ b ∈ m.brokers, 1 ≤ b.id ∧ b.id ≤ 64) (hl : m.brokers.length ≤ 1000000) (hn : big62 n) : ACall pg 92 [.sl (m.brokers.map encB), I n, .clo 93 []] (.tup [I (posOf Broker.id m.brokers n), B (m.broker n).isSome]) := by
  refine s92.call mo (by simp) fun hxs => ?_
  clear hxs
  unfold c92
  have hc : ∀ x ∈ m.brokers, ACall pg 96 ([encB x, I n] ++ [capB]) (I (x.id - n)) := fun x hx => findB1_ok x n (by have := hb x hx; unfold big62 at hn; omega)
  have hbs := bsearchB_ok m.brokers n _ [capB] (by simp [pureL, pureB]) (fun x => x.id - n) hc (posOf Broker.id m.brokers n) (pos_le _ _ _) hl (fun i h => by rw [pos_iff n hs i h]; omega)
  have e : (if h : posOf Broker.id m.brokers n < m.brokers.length then m.brokers[posOf Broker.id m.brokers n].id - n == 0 else false) = (m.broker n).isSome := by
    unfold Image.broker
    rw [pos_find (f := Broker.id) n hs]
    split
    · split
      · rename_i h; simp [h]
      · rename_i h; simp; omega
    · rfl
  rw [e] at hbs
  repeat' first | (with_reducible first | refine awRet ?_) | ((with_reducible refine awReg fun K hok hK => ?_); clear hok; (try simp (maxSteps := 10000000) (disch := first | omega | simp) []); (repeat' first | (with_reducible refine hK _ (by simp) ?_) | ((with_reducible refine callS' fun K2 hK2 => ?_); (try simp (maxSteps := 10000000) (disch := first | omega | simp) []); (refine hK2 _ _ hbs rfl fun hk9 => ?_); clear hk9; clear hK2 K2; (try simp (maxSteps := 10000000) (disch := first | omega | simp) []))) <;> clear hK K) | ((with_reducible refine awCond fun A B hA hB => ?_); simp (maxSteps := 10000000) (disch := first | omega | simp) []; (first | refine ⟨fun h => hA ?_, fun h => hB ?_⟩ | refine hA ?_ | refine hB ?_) <;> (clear hA hB A B; (try (exfalso; omega))))
  (refine aEnR (aRes [] fun K hK => ?_); simp (maxSteps := 10000000) (disch := first | omega | simp) []; refine hK _ ?_ (by simp); clear hK; first | done | (simp (maxSteps := 10000000) (disch := first | omega | simp) [*]; done) | (simp (maxSteps := 10000000) (disch := first | omega | simp) [*]; omega) | (simp_all []; done) | (simp_all []; omega))
theorem ibroker_ok (m : Image) (n : Int) (hs : srtB m.brokers) (hb : ∀ b ∈ m.brokers, 1 ≤ b.id ∧ b.id ≤ 64) (hl : m.brokers.length ≤ 1000000) (hn : big62 n) : ACall pg 88 [encM m, I n] (.tup [I (posOf Broker.id m.brokers n), B (m.broker n).isSome]) := by
  refine s88.call mo (by simp) fun hxs => ?_
  clear hxs
  unfold c88
  repeat' first | (with_reducible first | refine awRet ?_) | ((with_reducible refine awReg fun K hok hK => ?_); clear hok; (try simp (maxSteps := 10000000) (disch := first | omega | simp) []); (repeat' first | (with_reducible refine hK _ (by simp) ?_) | ((with_reducible refine callS' fun K2 hK2 => ?_); (try simp (maxSteps := 10000000) (disch := first | omega | simp) []); (refine hK2 _ _ (findB_ok m n hs hb hl hn) rfl fun hk9 => ?_); clear hk9; clear hK2 K2; (try simp (maxSteps := 10000000) (disch := first | omega | simp) []))) <;> clear hK K) | ((with_reducible refine awCond fun A B hA hB => ?_); simp (maxSteps := 10000000) (disch := first | omega | simp) []; (first | refine ⟨fun h => hA ?_, fun h => hB ?_⟩ | refine hA ?_ | refine hB ?_) <;> (clear hA hB A B; (try (exfalso; omega))))
  (refine aEnR (aRes [] fun K hK => ?_); simp (maxSteps := 10000000) (disch := first | omega | simp) []; refine hK _ ?_ (by simp); clear hK; first | done | (simp (maxSteps := 10000000) (disch := first | omega | simp) [*]; done) | (simp (maxSteps := 10000000) (disch := first | omega | simp) [*]; omega) | (simp_all []; done) | (simp_all []; omega))
theorem iBroker_ok (m : Image) (n : Int) (hs : srtB m.brokers) (hb : ∀ b ∈ m.brokers, 1 ≤ b.id ∧ b.id ≤ 64) (hl : m.brokers.length ≤ 1000000) (hn : big62 n) : ACall pg 82 [encM m, I n] (.tup [encB ((m.broker n).getD zB), B (m.broker n).isSome]) := by
  refine s82.call mo (by simp) fun hxs => ?_
  clear hxs
  unfold c82
  have hp := pos_find (f := Broker.id) n hs
  cases hm : m.broker n with
  | none =>
    repeat' first | (with_reducible first | refine fS ?_ | refine fR ?_ | refine fQ ?_ | refine fT ?_ | refine awRet ?_) | ((with_reducible refine awReg fun K hok hK => ?_); clear hok; (try simp (maxSteps := 10000000) (disch := first | omega | simp) [hm]); (repeat' first | (with_reducible refine hK _ (by simp) ?_) | ((with_reducible refine callS' fun K2 hK2 => ?_); (try simp (maxSteps := 10000000) (disch := first | omega | simp) [hm]); (refine hK2 _ _ (ibroker_ok m n hs hb hl hn) rfl fun hk9 => ?_); clear hk9; clear hK2 K2; (try simp (maxSteps := 10000000) (disch := first | omega | simp) [hm]))) <;> clear hK K) | ((with_reducible refine awCond fun A B hA hB => ?_); simp (maxSteps := 10000000) (disch := first | omega | simp) [hm]; (first | refine ⟨fun h => hA ?_, fun h => hB ?_⟩ | refine hA ?_ | refine hB ?_) <;> (clear hA hB A B; (try (exfalso; omega))))
    (refine aEnR (aRes [] fun K hK => ?_); simp (maxSteps := 10000000) (disch := first | omega | simp) [zB]; refine hK _ ?_ (by simp); clear hK; first | done | (simp (maxSteps := 10000000) (disch := first | omega | simp) [zB, *]; done) | (simp (maxSteps := 10000000) (disch := first | omega | simp) [zB, *]; omega) | (simp_all [zB]; done) | (simp_all [zB]; omega))
  | some b =>
    unfold Image.broker at hm
    rw [hm] at hp
    split at hp
    · rename_i h
      split at hp
      · rename_i h2
        have hb2 : m.brokers[posOf Broker.id m.brokers n] = b := by simpa using hp.symm
        have hm' : (m.broker n).isSome = true := by unfold Image.broker; rw [hm]; rfl
        repeat' first | (with_reducible first | refine fS ?_ | refine fR ?_ | refine fQ ?_ | refine fT ?_ | refine awRet ?_) | ((with_reducible refine awReg fun K hok hK => ?_); clear hok; (try simp (maxSteps := 10000000) (disch := first | omega | simp) [hm', hb2]); (repeat' first | (with_reducible refine hK _ (by simp) ?_) | ((with_reducible refine callS' fun K2 hK2 => ?_); (try simp (maxSteps := 10000000) (disch := first | omega | simp) [hm', hb2]); (refine hK2 _ _ (ibroker_ok m n hs hb hl hn) rfl fun hk9 => ?_); clear hk9; clear hK2 K2; (try simp (maxSteps := 10000000) (disch := first | omega | simp) [hm', hb2]))) <;> clear hK K) | ((with_reducible refine awCond fun A B hA hB => ?_); simp (maxSteps := 10000000) (disch := first | omega | simp) [hm', hb2]; (first | refine ⟨fun h => hA ?_, fun h => hB ?_⟩ | refine hA ?_ | refine hB ?_) <;> (clear hA hB A B; (try (exfalso; omega))))
        (refine aEnR (aRes [] fun K hK => ?_); simp (maxSteps := 10000000) (disch := first | omega | simp) []; refine hK _ ?_ (by simp); clear hK; first | done | (simp (maxSteps := 10000000) (disch := first | omega | simp) [*]; done) | (simp (maxSteps := 10000000) (disch := first | omega | simp) [*]; omega) | (simp_all []; done) | (simp_all []; omega))
      · cases hp
    · cases hp
theorem fit_ok (m : Image) (n : Int) (st : Bool) (hs : srtB m.brokers) (hb : ∀ b ∈ m.brokers, 1 ≤ b.id ∧ b.id ≤ 64) (hl : m.brokers.length ≤ 1000000) (hn : big62 n) : ACall pg 75 [encM m, I n, B st] (B (m.fit n st)) := by
  refine s75.call mo (by simp) fun hxs => ?_
  clear hxs
  unfold c75
  cases hm : m.broker n with
  | none =>
    repeat' first | (with_reducible first | refine awRet ?_) | ((with_reducible refine awReg fun K hok hK => ?_); clear hok; (try simp (maxSteps := 10000000) (disch := first | omega | simp) [hm, zB]); (repeat' first | (with_reducible refine hK _ (by simp) ?_) | ((with_reducible refine gdT (fun h => ?_) (fun h => ?_)) <;> (simp (maxSteps := 10000000) (disch := first | omega | simp) [h, hm, zB]; (try simp at h); (try (exfalso; omega)))) | ((with_reducible refine gdF (fun h => ?_) (fun h => ?_)) <;> (simp (maxSteps := 10000000) (disch := first | omega | simp) [h, hm, zB]; (try simp at h); (try (exfalso; omega)))) | ((with_reducible refine callS' fun K2 hK2 => ?_); (try simp (maxSteps := 10000000) (disch := first | omega | simp) [hm, zB]); (refine hK2 _ _ (iBroker_ok m n hs hb hl hn) rfl fun hk9 => ?_); clear hk9; clear hK2 K2; (try simp (maxSteps := 10000000) (disch := first | omega | simp) [hm, zB]))) <;> clear hK K) | ((with_reducible refine awCond fun A B hA hB => ?_); simp (maxSteps := 10000000) (disch := first | omega | simp) [hm, zB]; (first | refine ⟨fun h => hA ?_, fun h => hB ?_⟩ | refine hA ?_ | refine hB ?_) <;> (clear hA hB A B; (try (exfalso; omega))))
    all_goals (refine aEnR (aRes [] fun K hK => ?_); simp (maxSteps := 10000000) (disch := first | omega | simp) [Image.fit, hm]; refine hK _ ?_ (by simp); clear hK; first | done | (simp (maxSteps := 10000000) (disch := first | omega | simp) [Image.fit, hm, *]; done) | (simp (maxSteps := 10000000) (disch := first | omega | simp) [Image.fit, hm, *]; omega) | (simp_all [Image.fit, hm]; done) | (simp_all [Image.fit, hm]; omega))
  | some b =>
    repeat' first | (with_reducible first | refine awRet ?_) | ((with_reducible refine awReg fun K hok hK => ?_); clear hok; (try simp (maxSteps := 10000000) (disch := first | omega | simp) [hm]); (repeat' first | (with_reducible refine hK _ (by simp) ?_) | ((with_reducible refine gdT (fun h => ?_) (fun h => ?_)) <;> (simp (maxSteps := 10000000) (disch := first | omega | simp) [h, hm]; (try simp at h); (try (exfalso; omega)))) | ((with_reducible refine gdF (fun h => ?_) (fun h => ?_)) <;> (simp (maxSteps := 10000000) (disch := first | omega | simp) [h, hm]; (try simp at h); (try (exfalso; omega)))) | ((with_reducible refine callS' fun K2 hK2 => ?_); (try simp (maxSteps := 10000000) (disch := first | omega | simp) [hm]); (refine hK2 _ _ (iBroker_ok m n hs hb hl hn) rfl fun hk9 => ?_); clear hk9; clear hK2 K2; (try simp (maxSteps := 10000000) (disch := first | omega | simp) [hm]))) <;> clear hK K) | ((with_reducible refine awCond fun A B hA hB => ?_); simp (maxSteps := 10000000) (disch := first | omega | simp) [hm]; (first | refine ⟨fun h => hA ?_, fun h => hB ?_⟩ | refine hA ?_ | refine hB ?_) <;> (clear hA hB A B; (try (exfalso; omega))))
    all_goals (refine aEnR (aRes [] fun K hK => ?_); simp (maxSteps := 10000000) (disch := first | omega | simp) [Image.fit, hm]; refine hK _ ?_ (by simp); clear hK; first | done | (simp (maxSteps := 10000000) (disch := first | omega | simp) [Image.fit, hm, *]; done) | (simp (maxSteps := 10000000) (disch := first | omega | simp) [Image.fit, hm, *]; omega) | (simp_all [Image.fit, hm]; done) | (simp_all [Image.fit, hm]; omega))
end
end Go.Am
end
section
set_option maxRecDepth 100000
set_option maxHeartbeats 0
namespace Go.Am
open Go
noncomputable section
def c74 : SC := (.seq (.reg [⟨some 4, .assign (.const (.int .i64 0)), none, []⟩] [0, 1, 5, 8, 10, 17, 18]) (.seq (.reg [⟨some 6, .move (.tmp 0), none, []⟩,
  ⟨some 7, .call { callee := .builtin .len, args := #[.tmp 6], argTypes := #[23] }, none, []⟩,
  ⟨some 8, .move (.const (.int .i64 0)), none, []⟩] [0, 1, 5, 7, 8, 10, 17, 18]) (.seq (.block 0 (.seq (.loop (.seq (.reg [⟨some 9, .binOp .lss 3 (.tmp 8) (.tmp 7) 3, none, []⟩] [0, 1, 5, 7, 8, 9, 10, 17, 18]) (.seq (.cond (.tmp 9) .skip (.exit 0)) (.seq (.block 1 (.seq (.reg [⟨some 10, .move (.tmp 8), none, []⟩,
  ⟨some 5, .assign (.tmp 10), none, []⟩] [0, 1, 5, 7, 8, 10, 17, 18]) (.seq (.reg [⟨some 11, .move (.tmp 1), none, []⟩,
  ⟨some 12, .move (.tmp 0), none, []⟩,
  ⟨some 13, .move (.tmp 5), none, []⟩,
  ⟨some 14, .indexAddr 23 (.tmp 12) (.tmp 13), none, []⟩,
  ⟨some 15, .load 3 (.tmp 14), none, []⟩,
  ⟨some 16, .binOp .eql 3 (.tmp 11) (.tmp 15) 3, none, []⟩] [0, 1, 5, 7, 8, 10, 16, 17, 18]) (.seq (.cond (.tmp 16) (.seq (.reg [⟨some 17, .move (.tmp 5), none, []⟩,
  ⟨some 4, .assign (.tmp 17), none, []⟩] [4, 5, 8, 10, 17, 18]) .ret) .skip) .skip)))) (.seq (.reg [⟨some 18, .binOp .add 3 (.tmp 8) (.const (.int .i64 1)) 3, none, []⟩,
  ⟨some 8, .move (.tmp 18), none, []⟩] [0, 1, 5, 7, 8, 10, 17, 18]) .skip))))) .skip)) (.seq (.reg [⟨some 4, .assign (.const (.int .i64 (-1))), none, []⟩] [4, 5, 8, 10, 17, 18]) .ret))))
theorem s74 : TextK Proofs.Tryz.prog 0 74 19 [ResultVar.tmp 4] c74 := .mk' Proofs.Tryz.f74 _ (by kernel_rfl) rfl rfl rfl (by kernel_rfl) rfl (by kernel_rfl)
def c55 : SC := (.seq (.reg [⟨some 4, .assign (.const (.bool false)), none, []⟩] [0, 1]) (.seq (.reg [⟨some 5, .move (.tmp 0), none, []⟩,
  ⟨some 6, .move (.tmp 1), none, []⟩,
  ⟨some 7, .call { callee := .value (.func 74), args := #[.tmp 5, .tmp 6], argTypes := #[23, 3] }, none, []⟩,
  ⟨some 8, .binOp .geq 3 (.tmp 7) (.const (.int .i64 0)) 3, none, []⟩,
  ⟨some 4, .assign (.tmp 8), none, []⟩] [4, 8]) .ret))
theorem s55 : TextK Proofs.Tryz.prog 0 55 9 [ResultVar.tmp 4] c55 := .mk' Proofs.Tryz.f55 _ (by kernel_rfl) rfl rfl rfl (by kernel_rfl) rfl (by kernel_rfl)
def c41 : SC := (.seq (.reg [⟨some 4, .assign (.const (.bool false)), none, []⟩] [0, 1]) (.seq (.reg [⟨some 6, .move (.tmp 0), none, []⟩,
  ⟨some 7, .call { callee := .builtin .len, args := #[.tmp 6], argTypes := #[23] }, none, []⟩,
  ⟨some 8, .move (.tmp 1), none, []⟩,
  ⟨some 9, .call { callee := .builtin .len, args := #[.tmp 8], argTypes := #[23] }, none, []⟩,
  ⟨some 10, .binOp .neq 3 (.tmp 7) (.tmp 9) 3, none, []⟩] [0, 1, 10]) (.seq (.cond (.tmp 10) (.seq (.reg [⟨some 4, .assign (.const (.bool false)), none, []⟩] [4]) .ret) .skip) (.seq (.reg [⟨some 11, .move (.tmp 0), none, []⟩,
  ⟨some 12, .call { callee := .builtin .len, args := #[.tmp 11], argTypes := #[23] }, none, []⟩,
  ⟨some 13, .move (.const (.int .i64 0)), none, []⟩] [0, 1, 12, 13, 25]) (.seq (.block 0 (.seq (.loop (.seq (.reg [⟨some 14, .binOp .lss 3 (.tmp 13) (.tmp 12) 3, none, []⟩] [0, 1, 12, 13, 14, 25]) (.seq (.cond (.tmp 14) .skip (.exit 0)) (.seq (.block 1 (.seq (.reg [⟨some 15, .move (.tmp 13), none, []⟩,
  ⟨some 5, .assign (.tmp 15), none, []⟩] [0, 1, 5, 12, 13, 15, 25]) (.seq (.reg [⟨some 16, .move (.tmp 0), none, [17, 20, 21, 22, 23]⟩,
  ⟨some 17, .move (.tmp 5), none, [16, 20, 21, 22, 23]⟩,
  ⟨some 18, .indexAddr 23 (.tmp 16) (.tmp 17), none, [20, 21, 22, 23]⟩,
  ⟨some 19, .load 3 (.tmp 18), none, [20, 21, 22, 23]⟩,
  ⟨some 20, .move (.tmp 1), none, [16, 17, 18, 19, 21]⟩,
  ⟨some 21, .move (.tmp 5), none, [16, 17, 18, 19, 20]⟩,
  ⟨some 22, .indexAddr 23 (.tmp 20) (.tmp 21), none, [16, 17, 18, 19]⟩,
  ⟨some 23, .load 3 (.tmp 22), none, [16, 17, 18, 19]⟩,
  ⟨some 24, .binOp .neq 3 (.tmp 19) (.tmp 23) 3, none, []⟩] [0, 1, 12, 13, 24, 25]) (.seq (.cond (.tmp 24) (.seq (.reg [⟨some 4, .assign (.const (.bool false)), none, []⟩] [4]) .ret) .skip) .skip)))) (.seq (.reg [⟨some 25, .binOp .add 3 (.tmp 13) (.const (.int .i64 1)) 3, none, []⟩,
  ⟨some 13, .move (.tmp 25), none, []⟩] [0, 1, 12, 13, 25]) .skip))))) .skip)) (.seq (.reg [⟨some 4, .assign (.const (.bool true)), none, []⟩] [4]) .ret))))))
theorem s41 : TextK Proofs.Tryz.prog 0 41 26 [ResultVar.tmp 4] c41 := .mk' Proofs.Tryz.f41 _ (by kernel_rfl) rfl rfl rfl (by kernel_rfl) rfl (by kernel_rfl)
theorem index_ok (l : List Int) (v : Int) (hl : l.length ≤ 1000000) : ACall pg 74 [Li l, I v] (I (idxI l v 0)) := by
  refine s74.call mo (by simp) fun hxs => ?_
  clear hxs
  unfold c74
  repeat' first | (with_reducible first | refine thN ?_ | refine thR ?_ | refine thE ?_ | refine inN ?_ | refine inR ?_ | refine inH ?_ | refine fS ?_ | refine fR ?_ | refine fQ ?_ | refine fE ?_ | refine fT ?_ | refine awBlock ?_ | refine awExit ?_ | refine awRet ?_ | refine awSkip ?_) | ((with_reducible refine awReg fun K hok hK => ?_); clear hok; (try simp (maxSteps := 10000000) (disch := first | omega | simp) []); (repeat' first | (with_reducible refine hK _ (by simp) ?_)) <;> clear hK K) | ((with_reducible refine awCond fun A B hA hB => ?_); simp (maxSteps := 10000000) (disch := first | omega | simp) []; (first | refine ⟨fun h => hA ?_, fun h => hB ?_⟩ | refine hA ?_ | refine hB ?_) <;> (clear hA hB A B; (try (exfalso; omega))))
  refine awFor l.length (fun i (_ : Unit) => idxI (l.drop i) v i = idxI l v 0) (fun i _ => [(8, .p (I i)), (7, .p (I l.length)), (0, .p (Li l)), (1, .p (I v))]) () (Wk.ofA (by simp)) (by simp) fun i _ hi hs => ?_
  by_cases hlt : i < l.length
  · rw [drop_cons hlt] at hs
    simp only [idxI] at hs
    repeat' first | (with_reducible first | refine thN ?_ | refine thR ?_ | refine thE ?_ | refine inN ?_ | refine inR ?_ | refine inH ?_ | refine fS ?_ | refine fR ?_ | refine fQ ?_ | refine fE ?_ | refine fT ?_ | refine awBlock ?_ | refine awExit ?_ | refine awRet ?_ | refine awSkip ?_) | ((with_reducible refine awReg fun K hok hK => ?_); clear hok; (try simp (maxSteps := 10000000) (disch := first | omega | simp) []); (repeat' first | (with_reducible refine hK _ (by simp) ?_)) <;> clear hK K) | ((with_reducible refine awCond fun A B hA hB => ?_); simp (maxSteps := 10000000) (disch := first | omega | simp) []; (first | refine ⟨fun h => hA ?_, fun h => hB ?_⟩ | refine hA ?_ | refine hB ?_) <;> (clear hA hB A B; (try (exfalso; omega))))
    · rw [if_pos h] at hs
      have e := hs.symm; clear hs; (refine aEnR (aRes [] fun K hK => ?_); simp (maxSteps := 10000000) (disch := first | omega | simp) [e]; refine hK _ ?_ (by simp); clear hK; first | done | (simp (maxSteps := 10000000) (disch := first | omega | simp) [e, *]; done) | (simp (maxSteps := 10000000) (disch := first | omega | simp) [e, *]; omega) | (simp_all [e]; done) | (simp_all [e]; omega))
    · rw [if_neg h] at hs
      (refine ⟨?_, (), ?_, Wk.ofA ?_⟩; assumption; rotate_left; focus (simp []; done))
      exact hs
  · rw [drop_nil (by omega)] at hs
    simp only [idxI] at hs
    repeat' first | (with_reducible first | refine thN ?_ | refine thR ?_ | refine thE ?_ | refine inN ?_ | refine inR ?_ | refine inH ?_ | refine fS ?_ | refine fR ?_ | refine fQ ?_ | refine fE ?_ | refine fT ?_ | refine awBlock ?_ | refine awExit ?_ | refine awRet ?_ | refine awSkip ?_) | ((with_reducible refine awReg fun K hok hK => ?_); clear hok; (try simp (maxSteps := 10000000) (disch := first | omega | simp) []); (repeat' first | (with_reducible refine hK _ (by simp) ?_)) <;> clear hK K) | ((with_reducible refine awCond fun A B hA hB => ?_); simp (maxSteps := 10000000) (disch := first | omega | simp) []; (first | refine ⟨fun h => hA ?_, fun h => hB ?_⟩ | refine hA ?_ | refine hB ?_) <;> (clear hA hB A B; (try (exfalso; omega))))
    have e := hs.symm; clear hs; (refine aEnR (aRes [] fun K hK => ?_); simp (maxSteps := 10000000) (disch := first | omega | simp) [e]; refine hK _ ?_ (by simp); clear hK; first | done | (simp (maxSteps := 10000000) (disch := first | omega | simp) [e, *]; done) | (simp (maxSteps := 10000000) (disch := first | omega | simp) [e, *]; omega) | (simp_all [e]; done) | (simp_all [e]; omega))
theorem contains_ok (l : List Int) (v : Int) (hl : l.length ≤ 1000000) : ACall pg 55 [Li l, I v] (B (l.contains v)) := by
  refine s55.call mo (by simp) fun hxs => ?_
  clear hxs
  unfold c55
  have e : decide (0 ≤ idxI l v 0) = l.contains v := by
    rw [Bool.eq_iff_iff]; simp [idxI_nonneg]
  repeat' first | (with_reducible first | refine awRet ?_) | ((with_reducible refine awReg fun K hok hK => ?_); clear hok; (try simp (maxSteps := 10000000) (disch := first | omega | simp) []); (repeat' first | (with_reducible refine hK _ (by simp) ?_) | ((with_reducible refine callS' fun K2 hK2 => ?_); (try simp (maxSteps := 10000000) (disch := first | omega | simp) []); (refine hK2 _ _ (index_ok l v hl) rfl fun hk9 => ?_); clear hk9; clear hK2 K2; (try simp (maxSteps := 10000000) (disch := first | omega | simp) []))) <;> clear hK K) | ((with_reducible refine awCond fun A B hA hB => ?_); simp (maxSteps := 10000000) (disch := first | omega | simp) []; (first | refine ⟨fun h => hA ?_, fun h => hB ?_⟩ | refine hA ?_ | refine hB ?_) <;> (clear hA hB A B; (try (exfalso; omega))))
  (refine aEnR (aRes [] fun K hK => ?_); simp (maxSteps := 10000000) (disch := first | omega | simp) [e]; refine hK _ ?_ (by simp); clear hK; first | done | (simp (maxSteps := 10000000) (disch := first | omega | simp) [e, *]; done) | (simp (maxSteps := 10000000) (disch := first | omega | simp) [e, *]; omega) | (simp_all [e]; done) | (simp_all [e]; omega))
theorem equal_ok (a b : List Int) (hl : a.length ≤ 1000000) (hb : b.length ≤ 1000000) : ACall pg 41 [Li a, Li b] (B (a == b)) := by
  refine s41.call mo (by simp) fun hxs => ?_
  clear hxs
  unfold c41
  repeat' first | (with_reducible first | refine thN ?_ | refine thR ?_ | refine thE ?_ | refine inN ?_ | refine inR ?_ | refine inH ?_ | refine fS ?_ | refine fR ?_ | refine fQ ?_ | refine fE ?_ | refine fT ?_ | refine awBlock ?_ | refine awExit ?_ | refine awRet ?_ | refine awSkip ?_) | ((with_reducible refine awReg fun K hok hK => ?_); clear hok; (try simp (maxSteps := 10000000) (disch := first | omega | simp) []); (repeat' first | (with_reducible refine hK _ (by simp) ?_) | ((with_reducible refine sideQ' ?_ ?_ fun K2 hK2 => ?_); exact rfl; exact rfl; (try simp (maxSteps := 10000000) (disch := first | omega | simp) []); with_reducible refine hK2 _ _ ?_; clear hK2 K2; (try simp (maxSteps := 10000000) (disch := first | omega | simp) []))) <;> clear hK K) | ((with_reducible refine awCond fun A B hA hB => ?_); simp (maxSteps := 10000000) (disch := first | omega | simp) []; (first | refine ⟨fun h => hA ?_, fun h => hB ?_⟩ | refine hA ?_ | refine hB ?_) <;> (clear hA hB A B; (try (exfalso; omega))))
  · have e : (a == b) = false := by rw [beq_eq_false_iff_ne]; intro e; subst e; simp_all
    (refine aEnR (aRes [] fun K hK => ?_); simp (maxSteps := 10000000) (disch := first | omega | simp) [e]; refine hK _ ?_ (by simp); clear hK; first | done | (simp (maxSteps := 10000000) (disch := first | omega | simp) [e, *]; done) | (simp (maxSteps := 10000000) (disch := first | omega | simp) [e, *]; omega) | (simp_all [e]; done) | (simp_all [e]; omega))
  have hl : a.length = b.length := by omega
  refine awFor a.length (fun i (_ : Unit) => a.take i = b.take i) (fun i _ => [(13, .p (I i)), (12, .p (I a.length)), (0, .p (Li a)), (1, .p (Li b))]) () (Wk.ofA (by simp)) (by simp) fun i _ hi hs => ?_
  repeat' first | (with_reducible first | refine thN ?_ | refine thR ?_ | refine thE ?_ | refine inN ?_ | refine inR ?_ | refine inH ?_ | refine fS ?_ | refine fR ?_ | refine fQ ?_ | refine fE ?_ | refine fT ?_ | refine awBlock ?_ | refine awExit ?_ | refine awRet ?_ | refine awSkip ?_) | ((with_reducible refine awReg fun K hok hK => ?_); clear hok; (try simp (maxSteps := 10000000) (disch := first | omega | simp) []); (repeat' first | (with_reducible refine hK _ (by simp) ?_) | ((with_reducible refine sideQ' ?_ ?_ fun K2 hK2 => ?_); exact rfl; exact rfl; (try simp (maxSteps := 10000000) (disch := first | omega | simp) []); with_reducible refine hK2 _ _ ?_; clear hK2 K2; (try simp (maxSteps := 10000000) (disch := first | omega | simp) []))) <;> clear hK K) | ((with_reducible refine awCond fun A B hA hB => ?_); simp (maxSteps := 10000000) (disch := first | omega | simp) []; (first | refine ⟨fun h => hA ?_, fun h => hB ?_⟩ | refine hA ?_ | refine hB ?_) <;> (clear hA hB A B; (try (exfalso; omega))))
  all_goals first
    | (have hi2 : i < a.length := by assumption
       have hi3 : i < b.length := (by omega)
       first
         | ((refine ⟨?_, (), ?_, Wk.ofA ?_⟩; assumption; rotate_left; focus (simp []; done)); exact eq_take hi2 hi3 hs (by simpa using h))
         | (have e : (a == b) = false := (by rw [beq_eq_false_iff_ne]; intro e; subst e; simp at h)
            (refine aEnR (aRes [] fun K hK => ?_); simp (maxSteps := 10000000) (disch := first | omega | simp) [e]; refine hK _ ?_ (by simp); clear hK; first | done | (simp (maxSteps := 10000000) (disch := first | omega | simp) [e, *]; done) | (simp (maxSteps := 10000000) (disch := first | omega | simp) [e, *]; omega) | (simp_all [e]; done) | (simp_all [e]; omega))))
    | (have e : a = b := (by rw [List.take_of_length_le (by omega), List.take_of_length_le (by omega)] at hs; exact hs)
       (refine aEnR (aRes [] fun K hK => ?_); simp (maxSteps := 10000000) (disch := first | omega | simp) [e]; refine hK _ ?_ (by simp); clear hK; first | done | (simp (maxSteps := 10000000) (disch := first | omega | simp) [e, *]; done) | (simp (maxSteps := 10000000) (disch := first | omega | simp) [e, *]; omega) | (simp_all [e]; done) | (simp_all [e]; omega)))
end
end Go.Am
end
