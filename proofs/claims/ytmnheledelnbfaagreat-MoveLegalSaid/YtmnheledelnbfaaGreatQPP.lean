/- Part of the proof of a law of moving. -/
import Derived.Test.YtmnheledelnbfaaGreatQEB
import Derived.Test.YtmnheledelnbfaaGreatQEC
import Derived.Test.YtmnheledelnbfaaGreatQED
import Derived.Test.YtmnheledelnbfaaGreatQIN
import Derived.Test.YtmnheledelnbfaaGreatQIx
import Derived.Test.YtmnheledelnbfaaGreatQPK
set_option linter.all false
section
set_option maxRecDepth 100000
set_option maxHeartbeats 0
namespace Go.Am
open Go
noncomputable section
def c83 : SC := (.seq (.reg [⟨some 1, .box 84 (.tmp 0), none, []⟩,
  ⟨some 2, .assign (.const (.bool false)), none, []⟩] [1]) (.seq (.reg [⟨some 3, .fieldAddr 84 (.tmp 1) 3, none, []⟩,
  ⟨some 4, .load 4 (.tmp 3), none, []⟩,
  ⟨some 5, .unOp .not 4 (.tmp 4), none, []⟩,
  ⟨some 6, .move (.tmp 5), none, []⟩,
  ⟨some 7, .fieldAddr 84 (.tmp 1) 4, (some (6, true)), []⟩,
  ⟨some 8, .load 4 (.tmp 7), (some (6, true)), []⟩,
  ⟨some 9, .unOp .not 4 (.tmp 8), (some (6, true)), []⟩,
  ⟨some 10, .pick (.tmp 6) (.tmp 9) (.const (.bool false)), none, []⟩,
  ⟨some 2, .assign (.tmp 10), none, []⟩] [2, 5, 6, 9, 10]) .ret))
theorem s83 : TextK Proofs.Tryz.prog 0 83 11 [ResultVar.tmp 2] c83 := .mk' Proofs.Tryz.f83 _ (by kernel_rfl) rfl rfl rfl (by kernel_rfl) rfl (by kernel_rfl)
def c89 : SC := (.seq (.reg [⟨some 2, .assign (.const (.bool false)), none, []⟩] [0]) (.seq (.reg [⟨some 3, .move (.tmp 0), none, []⟩,
  ⟨some 4, .move (.tmp 0), none, []⟩,
  ⟨some 5, .binOp .neq 9 (.tmp 3) (.tmp 4) 9, none, []⟩,
  ⟨some 2, .assign (.tmp 5), none, []⟩] [2, 5]) .ret))
theorem s89 : TextK Proofs.Tryz.prog 0 89 6 [ResultVar.tmp 2] c89 := .mk' Proofs.Tryz.f89 _ (by kernel_rfl) rfl rfl rfl (by kernel_rfl) rfl (by kernel_rfl)
def c86 : SC := (.seq (.reg [⟨some 4, .assign (.const (.int .i64 0)), none, []⟩] [0, 1]) (.seq (.reg [⟨some 7, .move (.tmp 0), none, []⟩,
  ⟨some 8, .call { callee := .value (.func 89), args := #[.tmp 7], argTypes := #[9] }, none, []⟩,
  ⟨some 5, .assign (.tmp 8), none, []⟩] [0, 1, 5, 8]) (.seq (.reg [⟨some 9, .move (.tmp 1), none, []⟩,
  ⟨some 10, .call { callee := .value (.func 89), args := #[.tmp 9], argTypes := #[9] }, none, []⟩,
  ⟨some 6, .assign (.tmp 10), none, []⟩] [0, 1, 5, 6, 8, 10]) (.seq (.reg [⟨some 11, .move (.tmp 5), none, []⟩] [0, 1, 5, 6, 8, 10, 11]) (.seq (.cond (.tmp 11) (.seq (.reg [⟨some 12, .move (.tmp 6), none, []⟩] [6, 10, 12]) (.seq (.cond (.tmp 12) (.seq (.reg [⟨some 4, .assign (.const (.int .i64 0)), none, []⟩] [4]) .ret) .skip) (.seq (.reg [⟨some 4, .assign (.const (.int .i64 (-1))), none, []⟩] [4]) .ret))) .skip) (.seq (.reg [⟨some 13, .move (.tmp 6), none, []⟩] [0, 1, 6, 10, 13]) (.seq (.cond (.tmp 13) (.seq (.reg [⟨some 4, .assign (.const (.int .i64 1)), none, []⟩] [4]) .ret) .skip) (.seq (.reg [⟨some 14, .move (.tmp 0), none, []⟩,
  ⟨some 15, .move (.tmp 1), none, []⟩,
  ⟨some 16, .binOp .lss 9 (.tmp 14) (.tmp 15) 9, none, []⟩] [0, 1, 16]) (.seq (.cond (.tmp 16) (.seq (.reg [⟨some 4, .assign (.const (.int .i64 (-1))), none, []⟩] [4]) .ret) .skip) (.seq (.reg [⟨some 17, .move (.tmp 0), none, []⟩,
  ⟨some 18, .move (.tmp 1), none, []⟩,
  ⟨some 19, .binOp .gtr 9 (.tmp 17) (.tmp 18) 9, none, []⟩] [19]) (.seq (.cond (.tmp 19) (.seq (.reg [⟨some 4, .assign (.const (.int .i64 1)), none, []⟩] [4]) .ret) .skip) (.seq (.reg [⟨some 4, .assign (.const (.int .i64 0)), none, []⟩] [4]) .ret))))))))))))
theorem s86 : TextK Proofs.Tryz.prog 0 86 20 [ResultVar.tmp 4] c86 := .mk' Proofs.Tryz.f86 _ (by kernel_rfl) rfl rfl rfl (by kernel_rfl) rfl (by kernel_rfl)
def c85 : SC := (.seq (.reg [⟨some 2, .box 128 (.tmp 0), none, []⟩,
  ⟨some 4, .assign (.const (.int .i64 0)), none, []⟩] [1, 2]) (.seq (.reg [⟨some 5, .fieldAddr 128 (.tmp 2) 0, none, []⟩,
  ⟨some 6, .load 9 (.tmp 5), none, []⟩,
  ⟨some 7, .move (.tmp 1), none, []⟩,
  ⟨some 8, .call { callee := .value (.func 86), args := #[.tmp 6, .tmp 7], argTypes := #[9, 9] }, none, []⟩,
  ⟨some 4, .assign (.tmp 8), none, []⟩] [4, 8]) .ret))
theorem s85 : TextK Proofs.Tryz.prog 0 85 9 [ResultVar.tmp 4] c85 := .mk' Proofs.Tryz.f85 _ (by kernel_rfl) rfl rfl rfl (by kernel_rfl) rfl (by kernel_rfl)
def c84 : SC := (.seq (.reg [⟨some 6, .assign (.const (.int .i64 0)), none, []⟩,
  ⟨some 7, .assign (.const (.bool false)), none, []⟩] [0, 1, 2, 33]) (.seq (.reg [⟨some 12, .move (.tmp 0), none, []⟩,
  ⟨some 13, .call { callee := .builtin .len, args := #[.tmp 12], argTypes := #[125] }, none, []⟩,
  ⟨some 8, .assign (.tmp 13), none, []⟩] [0, 1, 2, 8, 13, 33]) (.seq (.reg [⟨some 14, .move (.tmp 8), none, []⟩,
  ⟨some 9, .assign (.const (.int .i64 0)), none, []⟩,
  ⟨some 10, .assign (.tmp 14), none, []⟩] [0, 1, 2, 8, 9, 10, 11, 13, 14, 23, 33, 34]) (.seq (.block 0 (.seq (.loop (.seq (.reg [⟨some 15, .move (.tmp 9), none, []⟩,
  ⟨some 16, .move (.tmp 10), none, []⟩,
  ⟨some 17, .binOp .lss 3 (.tmp 15) (.tmp 16) 3, none, []⟩] [0, 1, 2, 8, 9, 10, 11, 13, 14, 17, 23, 33, 34]) (.seq (.cond (.tmp 17) .skip (.exit 0)) (.seq (.block 1 (.seq (.reg [⟨some 18, .move (.tmp 9), none, []⟩,
  ⟨some 19, .move (.tmp 10), none, []⟩,
  ⟨some 20, .binOp .add 3 (.tmp 18) (.tmp 19) 3, none, []⟩,
  ⟨some 21, .convert 3 151 (.tmp 20), none, []⟩,
  ⟨some 22, .binOp .shr 151 (.tmp 21) (.const (.int .u64 1)) 151, none, []⟩,
  ⟨some 23, .convert 151 3 (.tmp 22), none, []⟩,
  ⟨some 11, .assign (.tmp 23), none, []⟩] [0, 1, 2, 8, 9, 10, 11, 13, 14, 23, 33, 34]) (.seq (.reg [⟨some 24, .move (.tmp 2), none, []⟩,
  ⟨some 25, .move (.tmp 0), none, []⟩,
  ⟨some 26, .move (.tmp 11), none, []⟩,
  ⟨some 27, .indexAddr 125 (.tmp 25) (.tmp 26), none, []⟩,
  ⟨some 28, .load 128 (.tmp 27), none, []⟩,
  ⟨some 29, .move (.tmp 1), none, []⟩,
  ⟨some 30, .call { callee := .value (.tmp 24), args := #[.tmp 28, .tmp 29], argTypes := #[128, 9] }, none, []⟩,
  ⟨some 31, .binOp .lss 3 (.tmp 30) (.const (.int .i64 0)) 3, none, []⟩] [0, 1, 2, 8, 9, 10, 11, 13, 14, 23, 31, 33, 34]) (.seq (.cond (.tmp 31) (.seq (.reg [⟨some 32, .move (.tmp 11), none, []⟩,
  ⟨some 33, .binOp .add 3 (.tmp 32) (.const (.int .i64 1)) 3, none, []⟩,
  ⟨some 9, .assign (.tmp 33), none, []⟩] [0, 1, 2, 8, 9, 10, 11, 13, 14, 23, 33, 34]) .skip) (.seq (.reg [⟨some 34, .move (.tmp 11), none, []⟩,
  ⟨some 10, .assign (.tmp 34), none, []⟩] [0, 1, 2, 8, 9, 10, 11, 13, 14, 23, 33, 34]) .skip)) .skip)))) .skip)))) .skip)) (.seq (.reg [⟨some 35, .move (.tmp 9), none, []⟩,
  ⟨some 36, .move (.tmp 9), none, []⟩,
  ⟨some 37, .move (.tmp 8), none, []⟩,
  ⟨some 38, .binOp .lss 3 (.tmp 36) (.tmp 37) 3, none, []⟩,
  ⟨some 39, .move (.tmp 38), none, []⟩,
  ⟨some 40, .move (.tmp 2), (some (39, true)), []⟩,
  ⟨some 41, .move (.tmp 0), (some (39, true)), []⟩,
  ⟨some 42, .move (.tmp 9), (some (39, true)), []⟩,
  ⟨some 43, .indexAddr 125 (.tmp 41) (.tmp 42), (some (39, true)), []⟩,
  ⟨some 44, .load 128 (.tmp 43), (some (39, true)), []⟩,
  ⟨some 45, .move (.tmp 1), (some (39, true)), []⟩,
  ⟨some 46, .call { callee := .value (.tmp 40), args := #[.tmp 44, .tmp 45], argTypes := #[128, 9] }, (some (39, true)), []⟩,
  ⟨some 47, .binOp .eql 3 (.tmp 46) (.const (.int .i64 0)) 3, (some (39, true)), []⟩,
  ⟨some 48, .pick (.tmp 39) (.tmp 47) (.const (.bool false)), none, []⟩,
  ⟨some 6, .assign (.tmp 35), none, []⟩,
  ⟨some 7, .assign (.tmp 48), none, []⟩] [6, 7, 9, 33, 35, 38, 39, 47, 48]) .ret)))))
theorem s84 : TextK Proofs.Tryz.prog 0 84 49 [ResultVar.tmp 6, ResultVar.tmp 7] c84 := .mk' Proofs.Tryz.f84 _ (by kernel_rfl) rfl rfl rfl (by kernel_rfl) rfl (by kernel_rfl)
def c76 : SC := (.seq (.reg [⟨some 1, .box 36 (.tmp 0), none, []⟩,
  ⟨some 2, .assign (.const (.slice none 0 0)), none, []⟩] [1, 33]) (.seq (.reg [⟨some 3, .assign (.const (.slice none 0 0)), none, []⟩] [1, 3, 33]) (.seq (.reg [⟨some 8, .fieldAddr 36 (.tmp 1) 0, none, []⟩,
  ⟨some 9, .load 31 (.tmp 8), none, []⟩,
  ⟨some 10, .call { callee := .builtin .len, args := #[.tmp 9], argTypes := #[31] }, none, []⟩,
  ⟨some 11, .move (.const (.int .i64 0)), none, []⟩] [1, 3, 8, 9, 10, 11, 33, 47]) (.seq (.block 0 (.seq (.loop (.seq (.reg [⟨some 12, .binOp .lss 3 (.tmp 11) (.tmp 10) 3, none, []⟩] [1, 3, 8, 9, 10, 11, 12, 33, 47]) (.seq (.cond (.tmp 12) .skip (.exit 0)) (.seq (.block 1 (.seq (.reg [⟨some 13, .indexAddr 31 (.tmp 9) (.tmp 11), none, []⟩,
  ⟨some 14, .load 84 (.tmp 13), none, []⟩,
  ⟨some 5, .alloc 84, none, []⟩,
  ⟨none, .store 84 (.tmp 5) (.tmp 14), none, []⟩] [1, 3, 5, 8, 9, 10, 11, 33, 47]) (.seq (.reg [⟨some 15, .load 84 (.tmp 5), none, []⟩,
  ⟨some 16, .call { callee := .value (.func 83), args := #[.tmp 15], argTypes := #[84] }, none, []⟩,
  ⟨some 17, .unOp .not 4 (.tmp 16), none, []⟩] [1, 3, 5, 8, 9, 10, 11, 17, 33, 47]) (.seq (.cond (.tmp 17) (.exit 1) .skip) (.seq (.reg [⟨some 19, .move (.tmp 3), none, []⟩,
  ⟨some 20, .fieldAddr 84 (.tmp 5) 2, none, []⟩,
  ⟨some 21, .load 9 (.tmp 20), none, []⟩,
  ⟨some 22, .call { callee := .value (.func 84), args := #[.tmp 19, .tmp 21, .func 85], argTypes := #[125, 9, 148] }, none, []⟩,
  ⟨some 18, .move (.tmp 22), none, []⟩,
  ⟨some 23, .extract (.tmp 18) 0, none, []⟩,
  ⟨some 24, .extract (.tmp 18) 1, none, []⟩,
  ⟨some 6, .assign (.tmp 23), none, []⟩,
  ⟨some 7, .assign (.tmp 24), none, []⟩] [1, 3, 5, 6, 7, 8, 9, 10, 11, 18, 22, 23, 24, 33, 47]) (.seq (.reg [⟨some 25, .move (.tmp 7), none, []⟩,
  ⟨some 26, .unOp .not 4 (.tmp 25), none, []⟩] [1, 3, 5, 6, 8, 9, 10, 11, 18, 22, 23, 26, 33, 47]) (.seq (.cond (.tmp 26) (.seq (.reg [⟨some 27, .move (.tmp 3), none, []⟩,
  ⟨some 28, .move (.tmp 6), none, []⟩,
  ⟨some 29, .fieldAddr 84 (.tmp 5) 2, none, []⟩,
  ⟨some 30, .load 9 (.tmp 29), none, []⟩,
  ⟨some 31, .build 128 #[(0, .tmp 30)], none, []⟩,
  ⟨some 32, .buildSlice 125 1 #[(0, .tmp 31)], none, []⟩,
  ⟨some 33, .call { callee := .value (.func 87), args := #[.tmp 27, .tmp 28, .tmp 32], argTypes := #[125, 3, 125] }, none, []⟩,
  ⟨some 3, .assign (.tmp 33), none, []⟩] [1, 3, 5, 6, 8, 9, 10, 11, 18, 22, 23, 33, 47]) .skip) .skip) (.seq (.reg [⟨some 34, .move (.tmp 3), none, []⟩,
  ⟨some 35, .move (.tmp 6), none, []⟩,
  ⟨some 36, .move (.tmp 3), none, []⟩,
  ⟨some 37, .move (.tmp 6), none, []⟩,
  ⟨some 38, .indexAddr 125 (.tmp 36) (.tmp 37), none, [41, 42, 43]⟩,
  ⟨some 39, .fieldAddr 128 (.tmp 38) 1, none, [41, 42, 43]⟩,
  ⟨some 40, .load 23 (.tmp 39), none, [41, 42, 43]⟩,
  ⟨some 41, .fieldAddr 84 (.tmp 5) 0, none, [38, 39, 40]⟩,
  ⟨some 42, .load 3 (.tmp 41), none, [38, 39, 40]⟩,
  ⟨some 43, .buildSlice 23 1 #[(0, .tmp 42)], none, [38, 39, 40]⟩,
  ⟨some 44, .call { callee := .builtin .append, args := #[.tmp 40, .tmp 43], argTypes := #[23, 23] }, none, []⟩,
  ⟨some 45, .indexAddr 125 (.tmp 34) (.tmp 35), none, []⟩,
  ⟨some 46, .fieldAddr 128 (.tmp 45) 1, none, []⟩,
  ⟨none, .store 23 (.tmp 46) (.tmp 44), none, []⟩] [1, 3, 8, 9, 10, 11, 33, 47]) .skip)))))))) (.seq (.reg [⟨some 47, .binOp .add 3 (.tmp 11) (.const (.int .i64 1)) 3, none, []⟩,
  ⟨some 11, .move (.tmp 47), none, []⟩] [1, 3, 8, 9, 10, 11, 33, 47]) .skip))))) .skip)) (.seq (.reg [⟨some 48, .move (.tmp 3), none, []⟩,
  ⟨some 2, .assign (.tmp 48), none, []⟩] [2, 3, 33, 48]) .ret)))))
theorem s76 : TextK Proofs.Tryz.prog 0 76 49 [ResultVar.tmp 2] c76 := .mk' Proofs.Tryz.f76 _ (by kernel_rfl) rfl rfl rfl (by kernel_rfl) rfl (by kernel_rfl)
def encK (r : Rack) : V := .agg [St r.name, .uq (r.ids.map I)]
def encKf (r : Rack) : V := .agg [St r.name, Li r.ids]
@[simp] theorem encK_eq (r : Rack) : encK r = .agg [St r.name, .uq (r.ids.map I)] := rfl
@[simp] theorem encKf_eq (r : Rack) : encKf r = .agg [St r.name, Li r.ids] := rfl
@[simp] theorem pvL_encK (l : List Rack) : pvL (l.map encK) = l.map encKf := by
  induction l with
  | nil => rfl
  | cons r l ih => simp [ih, pvL_eq]
theorem placeReady_ok (b : Broker) : ACall pg 83 [encB b] (B (readyB b)) := by
  refine s83.call mo (by simp) fun hxs => ?_
  clear hxs
  unfold c83
  repeat' first | (with_reducible first | refine awRet ?_) | ((with_reducible refine awReg fun K hok hK => ?_); clear hok; (try simp (maxSteps := 10000000) (disch := first | omega | simp) []); (repeat' first | (with_reducible refine hK _ (by simp) ?_) | ((with_reducible refine gdT (fun h => ?_) (fun h => ?_)) <;> (simp (maxSteps := 10000000) (disch := first | omega | simp) [h]; (try simp at h); (try (exfalso; omega))))) <;> clear hK K) | ((with_reducible refine awCond fun A B hA hB => ?_); simp (maxSteps := 10000000) (disch := first | omega | simp) []; (first | refine ⟨fun h => hA ?_, fun h => hB ?_⟩ | refine hA ?_ | refine hB ?_) <;> (clear hA hB A B; (try (exfalso; omega))))
  all_goals (refine aEnR (aRes [] fun K hK => ?_); simp (maxSteps := 10000000) (disch := first | omega | simp) [readyB]; refine hK _ ?_ (by simp); clear hK; first | done | (simp (maxSteps := 10000000) (disch := first | omega | simp) [readyB, *]; done) | (simp (maxSteps := 10000000) (disch := first | omega | simp) [readyB, *]; omega) | (simp_all [readyB]; done) | (simp_all [readyB]; omega))
theorem isNaNS_ok (s : ByteArray) : ACall pg 89 [St s] (B false) := by
  refine s89.call mo (by simp) fun hxs => ?_
  clear hxs
  unfold c89
  repeat' first | (with_reducible first | refine awRet ?_) | ((with_reducible refine awReg fun K hok hK => ?_); clear hok; (try simp (maxSteps := 10000000) (disch := first | omega | simp) []); (repeat' first | (with_reducible refine hK _ (by simp) ?_)) <;> clear hK K) | ((with_reducible refine awCond fun A B hA hB => ?_); simp (maxSteps := 10000000) (disch := first | omega | simp) []; (first | refine ⟨fun h => hA ?_, fun h => hB ?_⟩ | refine hA ?_ | refine hB ?_) <;> (clear hA hB A B; (try (exfalso; omega))))
  all_goals (refine aEnR (aRes [] fun K hK => ?_); simp (maxSteps := 10000000) (disch := first | omega | simp) []; refine hK _ ?_ (by simp); clear hK; first | done | (simp (maxSteps := 10000000) (disch := first | omega | simp) [*]; done) | (simp (maxSteps := 10000000) (disch := first | omega | simp) [*]; omega) | (simp_all []; done) | (simp_all []; omega))
theorem compareS_ok (a b : ByteArray) : ACall pg 86 [St a, St b] (I (cmpS a b)) := by
  refine s86.call mo (by simp) fun hxs => ?_
  clear hxs
  unfold c86
  by_cases h1 : Op.bytesLess a.toList b.toList = true
  · have e : cmpS a b = -1 := by simp [cmpS, h1]
    repeat' first | (with_reducible first | refine fS ?_ | refine fR ?_ | refine fQ ?_ | refine fT ?_ | refine awRet ?_) | ((with_reducible refine awReg fun K hok hK => ?_); clear hok; (try simp (maxSteps := 10000000) (disch := first | omega | simp) [h1]); (repeat' first | (with_reducible refine hK _ (by simp) ?_) | ((with_reducible refine callS' fun K2 hK2 => ?_); (try simp (maxSteps := 10000000) (disch := first | omega | simp) [h1]); (first | refine hK2 _ _ (isNaNS_ok a) rfl fun hk9 => ?_ | refine hK2 _ _ (isNaNS_ok b) rfl fun hk9 => ?_); clear hk9; clear hK2 K2; (try simp (maxSteps := 10000000) (disch := first | omega | simp) [h1]))) <;> clear hK K) | ((with_reducible refine awCond fun A B hA hB => ?_); simp (maxSteps := 10000000) (disch := first | omega | simp) [h1]; (first | refine ⟨fun h => hA ?_, fun h => hB ?_⟩ | refine hA ?_ | refine hB ?_) <;> (clear hA hB A B; (try (exfalso; omega))))
    all_goals (refine aEnR (aRes [] fun K hK => ?_); simp (maxSteps := 10000000) (disch := first | omega | simp) [e]; refine hK _ ?_ (by simp); clear hK; first | done | (simp (maxSteps := 10000000) (disch := first | omega | simp) [e, *]; done) | (simp (maxSteps := 10000000) (disch := first | omega | simp) [e, *]; omega) | (simp_all [e]; done) | (simp_all [e]; omega))
  · have h1 : Op.bytesLess a.toList b.toList = false := by simpa using h1
    by_cases h2 : (a.toList == b.toList) = true
    · have e : cmpS a b = 0 := by simp only [cmpS, lessS, eqS, h1, h2]; rfl
      repeat' first | (with_reducible first | refine fS ?_ | refine fR ?_ | refine fQ ?_ | refine fT ?_ | refine awRet ?_) | ((with_reducible refine awReg fun K hok hK => ?_); clear hok; (try simp (maxSteps := 10000000) (disch := first | omega | simp) [h1, h2]); (repeat' first | (with_reducible refine hK _ (by simp) ?_) | ((with_reducible refine callS' fun K2 hK2 => ?_); (try simp (maxSteps := 10000000) (disch := first | omega | simp) [h1, h2]); (first | refine hK2 _ _ (isNaNS_ok a) rfl fun hk9 => ?_ | refine hK2 _ _ (isNaNS_ok b) rfl fun hk9 => ?_); clear hk9; clear hK2 K2; (try simp (maxSteps := 10000000) (disch := first | omega | simp) [h1, h2]))) <;> clear hK K) | ((with_reducible refine awCond fun A B hA hB => ?_); simp (maxSteps := 10000000) (disch := first | omega | simp) [h1, h2]; (first | refine ⟨fun h => hA ?_, fun h => hB ?_⟩ | refine hA ?_ | refine hB ?_) <;> (clear hA hB A B; (try (exfalso; omega))))
      all_goals (refine aEnR (aRes [] fun K hK => ?_); simp (maxSteps := 10000000) (disch := first | omega | simp) [e]; refine hK _ ?_ (by simp); clear hK; first | done | (simp (maxSteps := 10000000) (disch := first | omega | simp) [e, *]; done) | (simp (maxSteps := 10000000) (disch := first | omega | simp) [e, *]; omega) | (simp_all [e]; done) | (simp_all [e]; omega))
    · have h2 : (a.toList == b.toList) = false := by simpa using h2
      have e : cmpS a b = 1 := by simp only [cmpS, lessS, eqS, h1, h2]; rfl
      repeat' first | (with_reducible first | refine fS ?_ | refine fR ?_ | refine fQ ?_ | refine fT ?_ | refine awRet ?_) | ((with_reducible refine awReg fun K hok hK => ?_); clear hok; (try simp (maxSteps := 10000000) (disch := first | omega | simp) [h1, h2]); (repeat' first | (with_reducible refine hK _ (by simp) ?_) | ((with_reducible refine callS' fun K2 hK2 => ?_); (try simp (maxSteps := 10000000) (disch := first | omega | simp) [h1, h2]); (first | refine hK2 _ _ (isNaNS_ok a) rfl fun hk9 => ?_ | refine hK2 _ _ (isNaNS_ok b) rfl fun hk9 => ?_); clear hk9; clear hK2 K2; (try simp (maxSteps := 10000000) (disch := first | omega | simp) [h1, h2]))) <;> clear hK K) | ((with_reducible refine awCond fun A B hA hB => ?_); simp (maxSteps := 10000000) (disch := first | omega | simp) [h1, h2]; (first | refine ⟨fun h => hA ?_, fun h => hB ?_⟩ | refine hA ?_ | refine hB ?_) <;> (clear hA hB A B; (try (exfalso; omega))))
      all_goals (refine aEnR (aRes [] fun K hK => ?_); simp (maxSteps := 10000000) (disch := first | omega | simp) [e]; refine hK _ ?_ (by simp); clear hK; first | done | (simp (maxSteps := 10000000) (disch := first | omega | simp) [e, *]; done) | (simp (maxSteps := 10000000) (disch := first | omega | simp) [e, *]; omega) | (simp_all [e]; done) | (simp_all [e]; omega))
theorem racks1_ok (r : Rack) (s : ByteArray) : ACall pg 85 [encKf r, St s] (I (cmpS r.name s)) := by
  refine s85.call mo (by simp) fun hxs => ?_
  clear hxs
  unfold c85
  repeat' first | (with_reducible first | refine awRet ?_) | ((with_reducible refine awReg fun K hok hK => ?_); clear hok; (try simp (maxSteps := 10000000) (disch := first | omega | simp) []); (repeat' first | (with_reducible refine hK _ (by simp) ?_) | ((with_reducible refine callS' fun K2 hK2 => ?_); (try simp (maxSteps := 10000000) (disch := first | omega | simp) []); (refine hK2 _ _ (compareS_ok r.name s) rfl fun hk9 => ?_); clear hk9; clear hK2 K2; (try simp (maxSteps := 10000000) (disch := first | omega | simp) []))) <;> clear hK K) | ((with_reducible refine awCond fun A B hA hB => ?_); simp (maxSteps := 10000000) (disch := first | omega | simp) []; (first | refine ⟨fun h => hA ?_, fun h => hB ?_⟩ | refine hA ?_ | refine hB ?_) <;> (clear hA hB A B; (try (exfalso; omega))))
  all_goals (refine aEnR (aRes [] fun K hK => ?_); simp (maxSteps := 10000000) (disch := first | omega | simp) []; refine hK _ ?_ (by simp); clear hK; first | done | (simp (maxSteps := 10000000) (disch := first | omega | simp) [*]; done) | (simp (maxSteps := 10000000) (disch := first | omega | simp) [*]; omega) | (simp_all []; done) | (simp_all []; omega))
theorem bsearchK_ok (l : List Rack) (s : ByteArray) (hs : srtK l) (hl : l.length ≤ 1000000) :
    ACall pg 84 [.sl (l.map encKf), St s, .clo 85 []] (.tup [I (rpos l s), B (rthere l s)]) := by
  refine s84.call mo (by simp) fun hxs => ?_
  clear hxs
  unfold c84
  have hk := rpos_le l s
  have hi := rpos_iff s hs
  have ht : rthere l s = (if h : rpos l s < l.length then cmpS l[rpos l s].name s == 0 else false) := by
    unfold rthere
    split
    · rename_i r hr
      have h : rpos l s < l.length := by
        rcases Nat.lt_or_ge (rpos l s) l.length with h' | h'
        · exact h'
        · rw [List.getElem?_eq_none h'] at hr; cases hr
      rw [dif_pos h, cmpS_zero]
      rw [List.getElem?_eq_getElem h] at hr; cases hr; rfl
    · rename_i hr
      rw [dif_neg]
      intro h; rw [List.getElem?_eq_getElem h] at hr; cases hr
  rw [ht]
  clear ht
  generalize rpos l s = k at *
  repeat' first | (with_reducible first | refine thN ?_ | refine thE ?_ | refine inN ?_ | refine inH ?_ | refine fS ?_ | refine fR ?_ | refine fQ ?_ | refine fE ?_ | refine awBlock ?_ | refine awExit ?_ | refine awRet ?_ | refine awSkip ?_) | ((with_reducible refine awReg fun K hok hK => ?_); clear hok; (try simp (maxSteps := 10000000) (disch := first | omega | simp) []); (repeat' first | (with_reducible refine hK _ (by simp) ?_) | ((with_reducible refine gdT (fun h => ?_) (fun h => ?_)) <;> (simp (maxSteps := 10000000) (disch := first | omega | simp) [h]; (try simp at h); (try (exfalso; omega))))) <;> clear hK K) | ((with_reducible refine awCond fun A B hA hB => ?_); simp (maxSteps := 10000000) (disch := first | omega | simp) []; (first | refine ⟨fun h => hA ?_, fun h => hB ?_⟩ | refine hA ?_ | refine hB ?_) <;> (clear hA hB A B; (try (exfalso; omega))))
  refine awWhile (fun (s : Nat × Nat) => s.2 - s.1) (fun s => s.1 ≤ k ∧ k ≤ s.2 ∧ s.2 ≤ l.length) (fun z => [(10, .p (I z.2)), (9, .p (I z.1)), (8, .p (I l.length)), (2, .p (.clo 85 [])), (1, .p (St s)), (0, .p (.sl (l.map encKf)))]) (0, l.length) (Wk.ofA (by simp)) ⟨by simp, hk, by simp⟩ fun z hs => ?_
  obtain ⟨i, j⟩ := z
  simp only at hs
  by_cases hlt : i < j
  · have e1 : IntKind.u64.wrap ((i : Int) + j) = i + j := by simp [IntKind.wrap, IntKind.bits, IntKind.signed]; omega
    obtain ⟨t, ht1, ht2, e2⟩ : ∃ t : Nat, i ≤ t ∧ t < j ∧ IntKind.i64.wrap (((i : Int) + j).fdiv (2 ^ min 1 IntKind.u64.bits)) = t := by
      refine ⟨(i + j) / 2, by omega, by omega, ?_⟩
      have : (2 : Int) ^ min 1 IntKind.u64.bits = 2 := by decide
      rw [this, Int.fdiv_eq_ediv_of_nonneg _ (by omega), i64_wrap (by omega)]; omega
    have hmid : t < l.length := by omega
    have hik := hi t hmid
    rw [← cmpS_neg] at hik
    repeat' first | (with_reducible first | refine thN ?_ | refine thE ?_ | refine inN ?_ | refine inH ?_ | refine fS ?_ | refine fR ?_ | refine fQ ?_ | refine fE ?_ | refine awBlock ?_ | refine awExit ?_ | refine awRet ?_ | refine awSkip ?_) | ((with_reducible refine awReg fun K hok hK => ?_); clear hok; (try simp (maxSteps := 10000000) (disch := first | omega | simp) [e1, e2]); (repeat' first | (with_reducible refine hK _ (by simp) ?_) | ((with_reducible refine gdT (fun h => ?_) (fun h => ?_)) <;> (simp (maxSteps := 10000000) (disch := first | omega | simp) [h, e1, e2]; (try simp at h); (try (exfalso; omega)))) | ((with_reducible refine callCS' fun K2 hK2 => ?_); (try simp (maxSteps := 10000000) (disch := first | omega | simp) [e1, e2]); (refine hK2 _ _ _ _ (racks1_ok l[t] s) rfl fun hk9 => ?_); clear hk9; clear hK2 K2; (try simp (maxSteps := 10000000) (disch := first | omega | simp) [e1, e2]))) <;> clear hK K) | ((with_reducible refine awCond fun A B hA hB => ?_); simp (maxSteps := 10000000) (disch := first | omega | simp) [e1, e2]; (first | refine ⟨fun h => hA ?_, fun h => hB ?_⟩ | refine hA ?_ | refine hB ?_) <;> (clear hA hB A B; (try (exfalso; omega))))
    · have := hik.2 h
      refine ⟨(t + 1, j), by simp only; omega, by simp only; omega, Wk.ofA (by simp)⟩
    · have : ¬ t < k := fun hh => by have := hik.1 hh; omega
      refine ⟨(i, t), by simp only; omega, by simp only; omega, Wk.ofA (by simp)⟩
  · have : i = k ∧ j = k := by omega
    obtain ⟨rfl, rfl⟩ := this
    by_cases hkl : j < l.length
    · repeat' first | (with_reducible first | refine thN ?_ | refine thE ?_ | refine inN ?_ | refine inH ?_ | refine fS ?_ | refine fR ?_ | refine fQ ?_ | refine fE ?_ | refine awBlock ?_ | refine awExit ?_ | refine awRet ?_ | refine awSkip ?_) | ((with_reducible refine awReg fun K hok hK => ?_); clear hok; (try simp (maxSteps := 10000000) (disch := first | omega | simp) []); (repeat' first | (with_reducible refine hK _ (by simp) ?_) | ((with_reducible refine gdT (fun h => ?_) (fun h => ?_)) <;> (simp (maxSteps := 10000000) (disch := first | omega | simp) [h]; (try simp at h); (try (exfalso; omega)))) | ((with_reducible refine callCS' fun K2 hK2 => ?_); (try simp (maxSteps := 10000000) (disch := first | omega | simp) []); (refine hK2 _ _ _ _ (racks1_ok l[j] s) rfl fun hk9 => ?_); clear hk9; clear hK2 K2; (try simp (maxSteps := 10000000) (disch := first | omega | simp) []))) <;> clear hK K) | ((with_reducible refine awCond fun A B hA hB => ?_); simp (maxSteps := 10000000) (disch := first | omega | simp) []; (first | refine ⟨fun h => hA ?_, fun h => hB ?_⟩ | refine hA ?_ | refine hB ?_) <;> (clear hA hB A B; (try (exfalso; omega))))
      (refine aEnR (aRes [] fun K hK => ?_); simp (maxSteps := 10000000) (disch := first | omega | simp) [hkl]; refine hK _ ?_ (by simp); clear hK; first | done | (simp (maxSteps := 10000000) (disch := first | omega | simp) [hkl, *]; done) | (simp (maxSteps := 10000000) (disch := first | omega | simp) [hkl, *]; omega) | (simp_all [hkl]; done) | (simp_all [hkl]; omega))
    · repeat' first | (with_reducible first | refine thN ?_ | refine thE ?_ | refine inN ?_ | refine inH ?_ | refine fS ?_ | refine fR ?_ | refine fQ ?_ | refine fE ?_ | refine awBlock ?_ | refine awExit ?_ | refine awRet ?_ | refine awSkip ?_) | ((with_reducible refine awReg fun K hok hK => ?_); clear hok; (try simp (maxSteps := 10000000) (disch := first | omega | simp) []); (repeat' first | (with_reducible refine hK _ (by simp) ?_) | ((with_reducible refine gdT (fun h => ?_) (fun h => ?_)) <;> (simp (maxSteps := 10000000) (disch := first | omega | simp) [h]; (try simp at h); (try (exfalso; omega))))) <;> clear hK K) | ((with_reducible refine awCond fun A B hA hB => ?_); simp (maxSteps := 10000000) (disch := first | omega | simp) []; (first | refine ⟨fun h => hA ?_, fun h => hB ?_⟩ | refine hA ?_ | refine hB ?_) <;> (clear hA hB A B; (try (exfalso; omega))))
      (refine aEnR (aRes [] fun K hK => ?_); simp (maxSteps := 10000000) (disch := first | omega | simp) [hkl]; refine hK _ ?_ (by simp); clear hK; first | done | (simp (maxSteps := 10000000) (disch := first | omega | simp) [hkl, *]; done) | (simp (maxSteps := 10000000) (disch := first | omega | simp) [hkl, *]; omega) | (simp_all [hkl]; done) | (simp_all [hkl]; omega))
end
end Go.Am
end
section
set_option maxRecDepth 100000
set_option maxHeartbeats 0
namespace Go.Am
open Go
noncomputable section
theorem insR_ok (l : List Rack) (s : ByteArray) (i : Nat) (hi : i ≤ l.length) (hl : l.length ≤ 1000000) :
    ACallM pg 87 [.uq (l.map encK), I i, .uq [.agg [St s, .uq []]]] [] (.uq ((l.take i ++ ⟨s, []⟩ :: l.drop i).map encK)) [.any, .any, .any] := by
  have := rackIns_ok (l.map encK) (.agg [St s, .uq []]) i (by simpa using hi) (by simpa using hl) (by simp)
  simpa [List.map_take, List.map_drop] using this
theorem map_mixL {α : Type} (f : α → V) (l : List α) (i : Nat) : l.map f = mixL f f l i := by rw [mixL, ← List.map_append, List.take_append_drop]
@[simp] theorem setCell_map {α : Type} (f : α → V) (l : List α) (i j : Nat) (y : V) (h : i < l.length) : (V.uq (l.map f)).setCell i j y = .uq (mixM f f l i ((f l[i]).recell ((f l[i]).cells.set j y))) := by
  rw [map_mixL f l i, setCell_mixL h]
theorem radd_map (L : List Rack) (k : Nat) (id : Int) (h : k < L.length) : (radd L k id).map encK = mixM encK encK L k (.agg [St L[k].name, .uq (L[k].ids.map I ++ [I id])]) := by
  unfold radd mixM
  rw [List.modify_eq_take_cons_drop h]
  simp
theorem ids_le_put {s : List Rack} {n : ByteArray} {i : Nat} (h : ∀ r ∈ s, r.ids.length ≤ i) : ∀ r ∈ rput s n, r.ids.length ≤ i := by
  intro r hr
  unfold rput at hr
  split at hr
  · exact h r hr
  · rcases List.mem_append.1 hr with hr | hr
    · exact h r (List.mem_of_mem_take hr)
    · rcases List.mem_cons.1 hr with rfl | hr
      · simp
      · exact h r (List.mem_of_mem_drop hr)
theorem ids_le_add {s : List Rack} {k : Nat} {id : Int} {i : Nat} (h : ∀ r ∈ s, r.ids.length ≤ i) : ∀ r ∈ radd s k id, r.ids.length ≤ i + 1 := by
  intro r hr
  obtain ⟨j, hj, rfl⟩ := List.getElem_of_mem hr
  simp only [radd, List.length_modify] at hj
  simp only [radd, List.getElem_modify]
  have := h s[j] (List.getElem_mem hj)
  split
  · simp; omega
  · omega
theorem racks_ok (m : Image) (hb : m.brokers.length ≤ 1000) : ACall pg 76 [encM m] (.uq ((racksOf m.brokers).map encK)) := by
  refine s76.call mo (by simp) fun hxs => ?_
  clear hxs
  unfold c76
  repeat' first | (with_reducible first | refine thN ?_ | refine thE ?_ | refine inN ?_ | refine inH ?_ | refine fS ?_ | refine fR ?_ | refine fQ ?_ | refine fE ?_ | refine awBlock ?_ | refine awExit ?_ | refine awRet ?_ | refine awSkip ?_) | ((with_reducible refine awReg fun K hok hK => ?_); clear hok; (try simp (maxSteps := 10000000) (disch := first | omega | simp) []); (repeat' first | (with_reducible refine hK _ (by simp) ?_) | ((first | ((with_reducible refine sideQ' ?_ ?_ fun K2 hK2 => ?_); exact rfl; exact rfl; (try simp (maxSteps := 10000000) (disch := first | omega | simp) []); with_reducible refine hK2 _ _ ?_; clear hK2 K2) | ((with_reducible refine side' ?_ fun K2 hK2 => ?_); exact rfl; (try simp (maxSteps := 10000000) (disch := first | omega | simp) []); refine hK2 _ _ (by simp) ?_; clear hK2 K2)); (try simp (maxSteps := 10000000) (disch := first | omega | simp) []))) <;> clear hK K) | ((with_reducible refine awCond fun A B hA hB => ?_); simp (maxSteps := 10000000) (disch := first | omega | simp) []; (first | refine ⟨fun h => hA ?_, fun h => hB ?_⟩ | refine hA ?_ | refine hB ?_) <;> (clear hA hB A B; (try (exfalso; omega))))
  refine awFor m.brokers.length (fun i (s : List Rack) => (m.brokers.drop i).foldl rackStep s = racksOf m.brokers ∧ srtK s ∧ s.length ≤ i ∧ ∀ r ∈ s, r.ids.length ≤ i) (fun i s => [(11, .p (I i)), (10, .p (I m.brokers.length)), (9, .p (.sl (m.brokers.map encB))), (3, .p (.uq (s.map encK)))]) [] (Wk.ofA (by simp)) ⟨rfl, by simp, by simp, by simp⟩ fun i s hi hs => ?_
  obtain ⟨hs, hsr, hsl, hid⟩ := hs
  by_cases hlt : i < m.brokers.length
  · rw [foldl_drop hlt] at hs
    generalize hbb : m.brokers[i] = b at hs
    cases hrd : readyB b with
    | false =>
      have e : rackStep s b = s := by simp [rackStep, hrd]
      rw [e] at hs
      have hre := placeReady_ok b
      rw [hrd] at hre
      repeat' first | (with_reducible first | refine thN ?_ | refine thE ?_ | refine inN ?_ | refine inH ?_ | refine fS ?_ | refine fR ?_ | refine fQ ?_ | refine fE ?_ | refine awBlock ?_ | refine awExit ?_ | refine awRet ?_ | refine awSkip ?_) | ((with_reducible refine awReg fun K hok hK => ?_); clear hok; (try simp (maxSteps := 10000000) (disch := first | omega | simp) [hbb]); (repeat' first | (with_reducible refine hK _ (by simp) ?_) | ((first | ((with_reducible refine callS' fun K2 hK2 => ?_); (try simp (maxSteps := 10000000) (disch := first | omega | simp) [hbb]); (refine hK2 _ _ hre rfl fun hk9 => ?_); clear hk9; clear hK2 K2) | ((with_reducible refine callA' fun K2 hK2 => ?_); (try simp (maxSteps := 10000000) (disch := first | omega | simp) [hbb]); (refine hK2 _ _ _ _ hre fun _ => ?_); clear hK2 K2) | ((with_reducible refine sideQ' ?_ ?_ fun K2 hK2 => ?_); exact rfl; exact rfl; (try simp (maxSteps := 10000000) (disch := first | omega | simp) [hbb]); with_reducible refine hK2 _ _ ?_; clear hK2 K2) | ((with_reducible refine side' ?_ fun K2 hK2 => ?_); exact rfl; (try simp (maxSteps := 10000000) (disch := first | omega | simp) [hbb]); refine hK2 _ _ (by simp) ?_; clear hK2 K2)); (try simp (maxSteps := 10000000) (disch := first | omega | simp) [hbb]))) <;> clear hK K) | ((with_reducible refine awCond fun A B hA hB => ?_); simp (maxSteps := 10000000) (disch := first | omega | simp) [hbb]; (first | refine ⟨fun h => hA ?_, fun h => hB ?_⟩ | refine hA ?_ | refine hB ?_) <;> (clear hA hB A B; (try (exfalso; omega))))
      (refine ⟨?_, s, ?_, Wk.ofA ?_⟩; assumption; rotate_left; focus (simp []; done))
      exact ⟨hs, hsr, by omega, fun r hr => by have := hid r hr; omega⟩
    | true =>
      have hre := placeReady_ok b
      rw [hrd] at hre
      have e : rackStep s b = radd (rput s b.rack) (rpos s b.rack) b.id := by simp [rackStep, hrd]
      have hbs := bsearchK_ok s b.rack hsr (by omega)
      have hk := rput_at s b.rack
      have hkl := rput_len s b.rack
      have hss := rackStep_srt b hsr
      have hsl' := rackStep_len s b
      have hin := insR_ok s b.rack (rpos s b.rack) (rpos_le _ _) (by omega)
      have hid2 := ids_le_put (n := b.rack) hid
      generalize hL : rput s b.rack = L at *
      generalize hkk : rpos s b.rack = k at *
      have hid3 := hid2 L[k] (List.getElem_mem hk)
      have hrm := radd_map L k b.id hk
      have hid4 := ids_le_add (k := k) (id := b.id) hid2
      rw [← e] at hrm hid4
      cases hth : rthere s b.rack with
      | true =>
        rw [hth] at hbs
        have eL : L = s := by rw [← hL]; simp [rput, hth]
        subst eL
        repeat' first | (with_reducible first | refine thN ?_ | refine thE ?_ | refine inN ?_ | refine inH ?_ | refine fS ?_ | refine fR ?_ | refine fQ ?_ | refine fE ?_ | refine awBlock ?_ | refine awExit ?_ | refine awRet ?_ | refine awSkip ?_) | ((with_reducible refine awReg fun K hok hK => ?_); clear hok; (try simp (maxSteps := 10000000) (disch := first | omega | simp) [hbb, hk]); (repeat' first | (with_reducible refine hK _ (by simp) ?_) | ((first | ((with_reducible refine callS' fun K2 hK2 => ?_); (try simp (maxSteps := 10000000) (disch := first | omega | simp) [hbb, hk]); (first | refine hK2 _ _ hre rfl fun hk9 => ?_ | refine hK2 _ _ hbs rfl fun hk9 => ?_); clear hk9; clear hK2 K2) | ((with_reducible refine callA' fun K2 hK2 => ?_); (try simp (maxSteps := 10000000) (disch := first | omega | simp) [hbb, hk]); (first | refine hK2 _ _ _ _ hre fun _ => ?_ | refine hK2 _ _ _ _ hbs fun _ => ?_); clear hK2 K2) | ((with_reducible refine sideQ' ?_ ?_ fun K2 hK2 => ?_); exact rfl; exact rfl; (try simp (maxSteps := 10000000) (disch := first | omega | simp) [hbb, hk]); with_reducible refine hK2 _ _ ?_; clear hK2 K2) | ((with_reducible refine side' ?_ fun K2 hK2 => ?_); exact rfl; (try simp (maxSteps := 10000000) (disch := first | omega | simp) [hbb, hk]); refine hK2 _ _ (by simp) ?_; clear hK2 K2)); (try simp (maxSteps := 10000000) (disch := first | omega | simp) [hbb, hk]))) <;> clear hK K) | ((with_reducible refine awCond fun A B hA hB => ?_); simp (maxSteps := 10000000) (disch := first | omega | simp) [hbb, hk]; (first | refine ⟨fun h => hA ?_, fun h => hB ?_⟩ | refine hA ?_ | refine hB ?_) <;> (clear hA hB A B; (try (exfalso; omega))))
        (refine ⟨?_, rackStep L b, ?_, Wk.ofA ?_⟩; assumption; rotate_left; focus (simp [hrm]; done))
        exact ⟨hs, hss, by omega, hid4⟩
      | false =>
        rw [hth] at hbs
        have eL : s.take k ++ ⟨b.rack, []⟩ :: s.drop k = L := by rw [← hL]; simp [rput, hth, hkk]
        rw [eL] at hin
        repeat' first | (with_reducible first | refine thN ?_ | refine thE ?_ | refine inN ?_ | refine inH ?_ | refine fS ?_ | refine fR ?_ | refine fQ ?_ | refine fE ?_ | refine awBlock ?_ | refine awExit ?_ | refine awRet ?_ | refine awSkip ?_) | ((with_reducible refine awReg fun K hok hK => ?_); clear hok; (try simp (maxSteps := 10000000) (disch := first | omega | simp) [hbb, hk]); (repeat' first | (with_reducible refine hK _ (by simp) ?_) | ((first | ((with_reducible refine callS' fun K2 hK2 => ?_); (try simp (maxSteps := 10000000) (disch := first | omega | simp) [hbb, hk]); (first | refine hK2 _ _ hre rfl fun hk9 => ?_ | refine hK2 _ _ hbs rfl fun hk9 => ?_ | refine hK2 _ _ hin rfl fun hk9 => ?_); clear hk9; clear hK2 K2) | ((with_reducible refine callA' fun K2 hK2 => ?_); (try simp (maxSteps := 10000000) (disch := first | omega | simp) [hbb, hk]); (first | refine hK2 _ _ _ _ hre fun _ => ?_ | refine hK2 _ _ _ _ hbs fun _ => ?_ | refine hK2 _ _ _ _ hin fun _ => ?_); clear hK2 K2) | ((with_reducible refine sideQ' ?_ ?_ fun K2 hK2 => ?_); exact rfl; exact rfl; (try simp (maxSteps := 10000000) (disch := first | omega | simp) [hbb, hk]); with_reducible refine hK2 _ _ ?_; clear hK2 K2) | ((with_reducible refine side' ?_ fun K2 hK2 => ?_); exact rfl; (try simp (maxSteps := 10000000) (disch := first | omega | simp) [hbb, hk]); refine hK2 _ _ (by simp) ?_; clear hK2 K2)); (try simp (maxSteps := 10000000) (disch := first | omega | simp) [hbb, hk]))) <;> clear hK K) | ((with_reducible refine awCond fun A B hA hB => ?_); simp (maxSteps := 10000000) (disch := first | omega | simp) [hbb, hk]; (first | refine ⟨fun h => hA ?_, fun h => hB ?_⟩ | refine hA ?_ | refine hB ?_) <;> (clear hA hB A B; (try (exfalso; omega))))
        (refine ⟨?_, rackStep s b, ?_, Wk.ofA ?_⟩; assumption; rotate_left; focus (simp [hrm]; done))
        exact ⟨hs, hss, by omega, hid4⟩
  · have e : racksOf m.brokers = s := by rw [drop_nil (by omega)] at hs; exact hs.symm
    repeat' first | (with_reducible first | refine thN ?_ | refine thE ?_ | refine inN ?_ | refine inH ?_ | refine fS ?_ | refine fR ?_ | refine fQ ?_ | refine fE ?_ | refine awBlock ?_ | refine awExit ?_ | refine awRet ?_ | refine awSkip ?_) | ((with_reducible refine awReg fun K hok hK => ?_); clear hok; (try simp (maxSteps := 10000000) (disch := first | omega | simp) []); (repeat' first | (with_reducible refine hK _ (by simp) ?_) | ((first | ((with_reducible refine sideQ' ?_ ?_ fun K2 hK2 => ?_); exact rfl; exact rfl; (try simp (maxSteps := 10000000) (disch := first | omega | simp) []); with_reducible refine hK2 _ _ ?_; clear hK2 K2) | ((with_reducible refine side' ?_ fun K2 hK2 => ?_); exact rfl; (try simp (maxSteps := 10000000) (disch := first | omega | simp) []); refine hK2 _ _ (by simp) ?_; clear hK2 K2)); (try simp (maxSteps := 10000000) (disch := first | omega | simp) []))) <;> clear hK K) | ((with_reducible refine awCond fun A B hA hB => ?_); simp (maxSteps := 10000000) (disch := first | omega | simp) []; (first | refine ⟨fun h => hA ?_, fun h => hB ?_⟩ | refine hA ?_ | refine hB ?_) <;> (clear hA hB A B; (try (exfalso; omega))))
    (refine aEnR (aRes [] fun K hK => ?_); simp (maxSteps := 10000000) (disch := first | omega | simp) [e]; refine hK _ ?_ (by simp); clear hK; first | done | (simp (maxSteps := 10000000) (disch := first | omega | simp) [e, *]; done) | (simp (maxSteps := 10000000) (disch := first | omega | simp) [e, *]; omega) | (simp_all [e]; done) | (simp_all [e]; omega))
end
end Go.Am
end
section
set_option maxRecDepth 100000
set_option maxHeartbeats 0
namespace Go.Am
open Go
noncomputable section
def c57 : SC := (.seq (.reg [⟨some 1, .box 36 (.tmp 0), none, []⟩,
  ⟨some 2, .assign (.const (.slice none 0 0)), none, []⟩] [1, 32]) (.seq (.reg [⟨some 3, .assign (.const (.slice none 0 0)), none, []⟩] [1, 3, 32]) (.seq (.reg [⟨some 9, .load 36 (.tmp 1), none, []⟩,
  ⟨some 10, .call { callee := .value (.func 76), args := #[.tmp 9], argTypes := #[36] }, none, []⟩,
  ⟨some 4, .assign (.tmp 10), none, []⟩] [3, 4, 10, 32]) (.seq (.reg [⟨some 5, .assign (.const (.bool true)), none, []⟩,
  ⟨some 6, .assign (.const (.int .i64 0)), none, []⟩] [3, 4, 5, 6, 10, 13, 32]) (.seq (.block 0 (.seq (.loop (.seq (.reg [⟨some 11, .move (.tmp 5), none, []⟩] [3, 4, 5, 6, 10, 11, 13, 32]) (.seq (.cond (.tmp 11) .skip (.exit 0)) (.seq (.block 1 (.seq (.reg [⟨some 5, .assign (.const (.bool false)), none, []⟩] [3, 4, 5, 6, 10, 13, 32]) (.seq (.reg [⟨some 14, .move (.tmp 4), none, []⟩,
  ⟨some 15, .call { callee := .builtin .len, args := #[.tmp 14], argTypes := #[125] }, none, []⟩,
  ⟨some 16, .move (.const (.int .i64 0)), none, []⟩] [3, 4, 5, 6, 10, 13, 14, 15, 16, 32, 33]) (.seq (.block 2 (.seq (.loop (.seq (.reg [⟨some 17, .binOp .lss 3 (.tmp 16) (.tmp 15) 3, none, []⟩] [3, 4, 5, 6, 10, 13, 14, 15, 16, 17, 32, 33]) (.seq (.cond (.tmp 17) .skip (.exit 2)) (.seq (.block 3 (.seq (.reg [⟨some 18, .indexAddr 125 (.tmp 14) (.tmp 16), none, []⟩,
  ⟨some 19, .load 128 (.tmp 18), none, []⟩,
  ⟨some 8, .alloc 128, none, []⟩,
  ⟨none, .store 128 (.tmp 8) (.tmp 19), none, []⟩] [3, 4, 5, 6, 8, 10, 13, 14, 15, 16, 32, 33]) (.seq (.reg [⟨some 20, .move (.tmp 6), none, []⟩,
  ⟨some 21, .fieldAddr 128 (.tmp 8) 1, none, []⟩,
  ⟨some 22, .load 23 (.tmp 21), none, []⟩,
  ⟨some 23, .call { callee := .builtin .len, args := #[.tmp 22], argTypes := #[23] }, none, []⟩,
  ⟨some 24, .binOp .lss 3 (.tmp 20) (.tmp 23) 3, none, []⟩] [3, 4, 5, 6, 8, 10, 13, 14, 15, 16, 24, 32, 33]) (.seq (.cond (.tmp 24) (.seq (.reg [⟨some 25, .move (.tmp 3), none, []⟩,
  ⟨some 26, .fieldAddr 128 (.tmp 8) 1, none, []⟩,
  ⟨some 27, .load 23 (.tmp 26), none, []⟩,
  ⟨some 28, .move (.tmp 6), none, []⟩,
  ⟨some 29, .indexAddr 23 (.tmp 27) (.tmp 28), none, []⟩,
  ⟨some 30, .load 3 (.tmp 29), none, []⟩,
  ⟨some 31, .buildSlice 23 1 #[(0, .tmp 30)], none, []⟩,
  ⟨some 32, .call { callee := .builtin .append, args := #[.tmp 25, .tmp 31], argTypes := #[23, 23] }, none, []⟩,
  ⟨some 3, .assign (.tmp 32), none, []⟩] [3, 4, 6, 10, 13, 14, 15, 16, 32, 33]) (.seq (.reg [⟨some 5, .assign (.const (.bool true)), none, []⟩] [3, 4, 5, 6, 10, 13, 14, 15, 16, 32, 33]) .skip)) .skip) .skip)))) (.seq (.reg [⟨some 33, .binOp .add 3 (.tmp 16) (.const (.int .i64 1)) 3, none, []⟩,
  ⟨some 16, .move (.tmp 33), none, []⟩] [3, 4, 5, 6, 10, 13, 14, 15, 16, 32, 33]) .skip))))) .skip)) .skip)))) (.seq (.reg [⟨some 12, .move (.tmp 6), none, []⟩,
  ⟨some 13, .binOp .add 3 (.tmp 12) (.const (.int .i64 1)) 3, none, []⟩,
  ⟨some 6, .assign (.tmp 13), none, []⟩] [3, 4, 5, 6, 10, 13, 32]) .skip))))) .skip)) (.seq (.reg [⟨some 34, .move (.tmp 3), none, []⟩,
  ⟨some 2, .assign (.tmp 34), none, []⟩] [2, 3, 32, 34]) .ret))))))
theorem s57 : TextK Proofs.Tryz.prog 0 57 35 [ResultVar.tmp 2] c57 := .mk' Proofs.Tryz.f57 _ (by kernel_rfl) rfl rfl rfl (by kernel_rfl) rfl (by kernel_rfl)
theorem Wk.frz0 {l : List (Nat × E)} {r : Nat} {X : List V} (h : Am.ofA l r = .p (.uq X)) : Wk (Am.ofA l) (Am.ofA ((r, .p (.sl (pvL X))) :: blurK r [] l)) := by
  have hc : cont (Am.ofA l) r = .uq X := by simp [cont, h]
  have := Wk.freeze (Γ := Am.ofA l) (r := r) (q := []) (D := .uq X) (by rw [hc]; rfl) (by simp)
  rw [upd_ofA, hc] at this
  exact this
theorem order_ok (m : Image) (hb : m.brokers.length ≤ 100) : ACall pg 57 [encM m] (.uq (m.order.map I)) := by
  refine s57.call mo (by simp) fun hxs => ?_
  clear hxs
  unfold c57
  have hra := racks_ok m (by omega)
  have hl0 := racksOf_len m.brokers [] 0 (by simp) (by simp)
  unfold Image.order
  change ACall _ _ _ (.uq ((racksOf m.brokers).map encK)) at hra
  have hll : (racksOf m.brokers).length ≤ 100 := by have := hl0.1; unfold racksOf; omega
  have hil : ∀ r ∈ racksOf m.brokers, r.ids.length ≤ 100 := fun r hr => by have := hl0.2 r hr; omega
  clear hl0
  generalize racksOf m.brokers = l at *
  have hol := orderOf_len l
  repeat' first | (with_reducible first | refine thN ?_ | refine thE ?_ | refine inN ?_ | refine inH ?_ | refine fS ?_ | refine fR ?_ | refine fQ ?_ | refine fE ?_ | refine awBlock ?_ | refine awExit ?_ | refine awRet ?_ | refine awSkip ?_) | ((with_reducible refine awReg fun K hok hK => ?_); clear hok; (try simp (maxSteps := 10000000) (disch := first | omega | simp) []); (repeat' first | (with_reducible refine hK _ (by simp) ?_) | ((with_reducible refine callF' fun K2 hK2 => ?_); (try simp (maxSteps := 10000000) (disch := first | omega | simp) []); (refine hK2 _ _ _ hra fun _ => ?_); clear hK2 K2; (try simp (maxSteps := 10000000) (disch := first | omega | simp) []))) <;> clear hK K) | ((with_reducible refine awCond fun A B hA hB => ?_); simp (maxSteps := 10000000) (disch := first | omega | simp) []; (first | refine ⟨fun h => hA ?_, fun h => hB ?_⟩ | refine hA ?_ | refine hB ?_) <;> (clear hA hB A B; (try (exfalso; omega))))
  refine awWhile (fun (s : List Int × Bool × Nat) => 102 - s.2.2) (fun s => s.1 ++ ((List.range 1000).drop s.2.2).flatMap (roundK l) = orderOf l ∧ (s.2.1 = false → ∀ r ∈ l, r.ids.length ≤ s.2.2) ∧ s.2.2 ≤ 101 ∧ (s.2.1 = true → s.2.2 ≤ 100))
    (fun s => [(6, .p (I s.2.2)), (5, .p (B s.2.1)), (4, .p (.sl (l.map encKf))), (3, .p (.uq (s.1.map I)))]) ([], true, 0) (((Wk.frz0 (r := 4) rfl).trans (Wk.ofA (by simp)))) ⟨by simp [orderOf], by simp, by simp, by simp⟩ fun s hs => ?_
  obtain ⟨out, more, i⟩ := s
  simp only at hs
  obtain ⟨hs, hf, hi1, hi2⟩ := hs
  cases more with
  | false =>
    have e : orderOf l = out := by rw [rest_nil (hf rfl), List.append_nil] at hs; exact hs.symm
    repeat' first | (with_reducible first | refine thN ?_ | refine thE ?_ | refine inN ?_ | refine inH ?_ | refine fS ?_ | refine fR ?_ | refine fQ ?_ | refine fE ?_ | refine awBlock ?_ | refine awExit ?_ | refine awRet ?_ | refine awSkip ?_) | ((with_reducible refine awReg fun K hok hK => ?_); clear hok; (try simp (maxSteps := 10000000) (disch := first | omega | simp) []); (repeat' first | (with_reducible refine hK _ (by simp) ?_)) <;> clear hK K) | ((with_reducible refine awCond fun A B hA hB => ?_); simp (maxSteps := 10000000) (disch := first | omega | simp) []; (first | refine ⟨fun h => hA ?_, fun h => hB ?_⟩ | refine hA ?_ | refine hB ?_) <;> (clear hA hB A B; (try (exfalso; omega))))
    (refine aEnR (aRes [] fun K hK => ?_); simp (maxSteps := 10000000) (disch := first | omega | simp) [e]; refine hK _ ?_ (by simp); clear hK; first | done | (simp (maxSteps := 10000000) (disch := first | omega | simp) [e, *]; done) | (simp (maxSteps := 10000000) (disch := first | omega | simp) [e, *]; omega) | (simp_all [e]; done) | (simp_all [e]; omega))
  | true =>
    have hi := hi2 rfl
    rw [drop_cons (show i < (List.range 1000).length by simp; omega)] at hs
    simp only [List.getElem_range, List.flatMap_cons] at hs
    generalize hrest : ((List.range 1000).drop (i + 1)).flatMap (roundK l) = rest at hs
    repeat' first | (with_reducible first | refine thN ?_ | refine thE ?_ | refine inN ?_ | refine inH ?_ | refine fS ?_ | refine fR ?_ | refine fQ ?_ | refine fE ?_ | refine awBlock ?_ | refine awExit ?_ | refine awRet ?_ | refine awSkip ?_) | ((with_reducible refine awReg fun K hok hK => ?_); clear hok; (try simp (maxSteps := 10000000) (disch := first | omega | simp) []); (repeat' first | (with_reducible refine hK _ (by simp) ?_)) <;> clear hK K) | ((with_reducible refine awCond fun A B hA hB => ?_); simp (maxSteps := 10000000) (disch := first | omega | simp) []; (first | refine ⟨fun h => hA ?_, fun h => hB ?_⟩ | refine hA ?_ | refine hB ?_) <;> (clear hA hB A B; (try (exfalso; omega))))
    refine awFor l.length (fun k (s : List Int × Bool) => s.1 ++ (roundK (l.drop k) i ++ rest) = orderOf l ∧ (s.2 = false → ∀ r ∈ l.take k, r.ids.length ≤ i) ∧ (s.2 = true → i + 1 ≤ 100)) (fun k s => [(16, .p (I k)), (15, .p (I l.length)), (14, .p (.sl (l.map encKf))), (6, .p (I i)), (5, .p (B s.2)), (4, .p (.sl (l.map encKf))), (3, .p (.uq (s.1.map I)))]) (out, false) (Wk.ofA (by simp)) ⟨by simpa using hs, by simp, by simp⟩ fun k s hk hs2 => ?_
    obtain ⟨o2, more⟩ := s
    simp only at hs2
    obtain ⟨h1, h2, h3⟩ := hs2
    have ho2 : o2.length ≤ 100000 := by
      have := congrArg List.length h1
      simp only [List.length_append] at this
      omega
    by_cases hlt : k < l.length
    · rw [drop_cons hlt] at h1
      simp only [roundK, List.flatMap_cons] at h1
      have hrl := hil _ (List.getElem_mem hlt)
      generalize hr : l[k] = r at *
      by_cases hir : i < r.ids.length
      · rw [List.getElem?_eq_getElem hir] at h1
        repeat' first | (with_reducible first | refine thN ?_ | refine thE ?_ | refine inN ?_ | refine inH ?_ | refine fS ?_ | refine fR ?_ | refine fQ ?_ | refine fE ?_ | refine awBlock ?_ | refine awExit ?_ | refine awRet ?_ | refine awSkip ?_) | ((with_reducible refine awReg fun K hok hK => ?_); clear hok; (try simp (maxSteps := 10000000) (disch := first | omega | simp) [hr, hir]); (repeat' first | (with_reducible refine hK _ (by simp) ?_)) <;> clear hK K) | ((with_reducible refine awCond fun A B hA hB => ?_); simp (maxSteps := 10000000) (disch := first | omega | simp) [hr, hir]; (first | refine ⟨fun h => hA ?_, fun h => hB ?_⟩ | refine hA ?_ | refine hB ?_) <;> (clear hA hB A B; (try (exfalso; omega))))
        (refine ⟨?_, (o2 ++ [r.ids[i]], true), ?_, Wk.ofA ?_⟩; assumption; rotate_left; focus (simp []; done))
        exact ⟨by simp only [roundK]; simpa using h1, by simp, fun _ => by omega⟩
      · rw [List.getElem?_eq_none (by omega)] at h1
        repeat' first | (with_reducible first | refine thN ?_ | refine thE ?_ | refine inN ?_ | refine inH ?_ | refine fS ?_ | refine fR ?_ | refine fQ ?_ | refine fE ?_ | refine awBlock ?_ | refine awExit ?_ | refine awRet ?_ | refine awSkip ?_) | ((with_reducible refine awReg fun K hok hK => ?_); clear hok; (try simp (maxSteps := 10000000) (disch := first | omega | simp) [hr]); (repeat' first | (with_reducible refine hK _ (by simp) ?_)) <;> clear hK K) | ((with_reducible refine awCond fun A B hA hB => ?_); simp (maxSteps := 10000000) (disch := first | omega | simp) [hr]; (first | refine ⟨fun h => hA ?_, fun h => hB ?_⟩ | refine hA ?_ | refine hB ?_) <;> (clear hA hB A B; (try (exfalso; omega))))
        (refine ⟨?_, (o2, more), ?_, Wk.ofA ?_⟩; assumption; rotate_left; focus (simp []; done))
        refine ⟨by simp only [roundK]; simpa using h1, fun e q hq => ?_, h3⟩
        rw [List.take_add_one, List.getElem?_eq_getElem hlt, hr] at hq
        rcases List.mem_append.1 hq with hq | hq
        · exact h2 e q hq
        · have : q = r := by simpa using hq
          subst this; omega
    · have e : l.drop k = [] := drop_nil (by omega)
      rw [e] at h1
      simp only [roundK, List.flatMap_nil, List.nil_append] at h1
      repeat' first | (with_reducible first | refine thN ?_ | refine thE ?_ | refine inN ?_ | refine inH ?_ | refine fS ?_ | refine fR ?_ | refine fQ ?_ | refine fE ?_ | refine awBlock ?_ | refine awExit ?_ | refine awRet ?_ | refine awSkip ?_) | ((with_reducible refine awReg fun K hok hK => ?_); clear hok; (try simp (maxSteps := 10000000) (disch := first | omega | simp) []); (repeat' first | (with_reducible refine hK _ (by simp) ?_)) <;> clear hK K) | ((with_reducible refine awCond fun A B hA hB => ?_); simp (maxSteps := 10000000) (disch := first | omega | simp) []; (first | refine ⟨fun h => hA ?_, fun h => hB ?_⟩ | refine hA ?_ | refine hB ?_) <;> (clear hA hB A B; (try (exfalso; omega))))
      refine ⟨(o2, more, i + 1), by simp only; omega, ⟨by simp only; rw [hrest]; exact h1, fun em r hr => ?_, by simp only; omega, fun em => h3 em⟩, Wk.ofA (by simp)⟩
      have := h2 em r (by rw [List.take_of_length_le (by omega)]; exact hr)
      simp only; omega
end
end Go.Am
end
section
set_option maxRecDepth 100000
set_option maxHeartbeats 0
namespace Go.Am
open Go
noncomputable section
end
end Go.Am
end
section
set_option maxRecDepth 100000
set_option maxHeartbeats 0
namespace Go.Am
open Go
noncomputable section
end
end Go.Am
end
section
set_option maxRecDepth 100000
set_option maxHeartbeats 0
namespace Go.Am
open Go
noncomputable section
end
end Go.Am
end
section
set_option maxRecDepth 100000
set_option maxHeartbeats 0
namespace Go.Am
open Go
noncomputable section
def c38 : SC := (.seq (.reg [⟨some 2, .box 36 (.tmp 0), none, []⟩,
  ⟨some 4, .assign (.const .nilIface), none, []⟩] [1, 2, 18, 40]) (.seq (.reg [⟨some 8, .move (.tmp 1), none, []⟩,
  ⟨some 9, .call { callee := .builtin .len, args := #[.tmp 8], argTypes := #[23] }, none, []⟩,
  ⟨some 10, .binOp .lss 3 (.tmp 9) (.const (.int .i64 1)) 3, none, []⟩,
  ⟨some 11, .move (.tmp 10), none, []⟩,
  ⟨some 12, .move (.tmp 1), (some (11, false)), []⟩,
  ⟨some 13, .call { callee := .builtin .len, args := #[.tmp 12], argTypes := #[23] }, (some (11, false)), []⟩,
  ⟨some 14, .binOp .gtr 3 (.tmp 13) (.const (.int .i64 7)) 3, (some (11, false)), []⟩,
  ⟨some 15, .pick (.tmp 11) (.const (.bool true)) (.tmp 14), none, []⟩] [1, 2, 10, 11, 14, 15, 18, 40]) (.seq (.cond (.tmp 15) (.seq (.reg [⟨some 16, .move (.tmp 1), none, []⟩,
  ⟨some 17, .call { callee := .builtin .len, args := #[.tmp 16], argTypes := #[23] }, none, []⟩,
  ⟨some 18, .call { callee := .value (.func 29), args := #[.const (.string ⟨#[114, 101, 112, 108, 105, 99, 97, 115]⟩), .tmp 17, .const (.int .i64 18)], argTypes := #[9, 3, 42] }, none, []⟩,
  ⟨some 4, .assign (.tmp 18), none, []⟩] [4, 18, 40]) .ret) .skip) (.seq (.reg [⟨some 19, .load 36 (.tmp 2), none, []⟩,
  ⟨some 20, .call { callee := .value (.func 57), args := #[.tmp 19], argTypes := #[36] }, none, []⟩,
  ⟨some 5, .assign (.tmp 20), none, []⟩] [1, 5, 18, 20, 40]) (.seq (.reg [⟨some 21, .move (.tmp 1), none, []⟩,
  ⟨some 22, .call { callee := .builtin .len, args := #[.tmp 21], argTypes := #[23] }, none, []⟩,
  ⟨some 23, .move (.const (.int .i64 0)), none, []⟩] [1, 5, 18, 20, 21, 22, 23, 40, 41]) (.seq (.block 0 (.seq (.loop (.seq (.reg [⟨some 24, .binOp .lss 3 (.tmp 23) (.tmp 22) 3, none, []⟩] [1, 5, 18, 20, 21, 22, 23, 24, 40, 41]) (.seq (.cond (.tmp 24) .skip (.exit 0)) (.seq (.block 1 (.seq (.reg [⟨some 25, .move (.tmp 23), none, []⟩,
  ⟨some 26, .indexAddr 23 (.tmp 21) (.tmp 23), none, []⟩,
  ⟨some 27, .load 3 (.tmp 26), none, []⟩,
  ⟨some 6, .assign (.tmp 25), none, []⟩,
  ⟨some 7, .assign (.tmp 27), none, []⟩] [1, 5, 6, 7, 18, 20, 21, 22, 23, 25, 26, 27, 40, 41]) (.seq (.reg [⟨some 28, .move (.tmp 5), none, []⟩,
  ⟨some 29, .move (.tmp 7), none, []⟩,
  ⟨some 30, .call { callee := .value (.func 55), args := #[.tmp 28, .tmp 29], argTypes := #[23, 3] }, none, []⟩,
  ⟨some 31, .unOp .not 4 (.tmp 30), none, []⟩,
  ⟨some 32, .move (.tmp 31), none, []⟩,
  ⟨some 33, .move (.tmp 1), (some (32, false)), []⟩,
  ⟨some 34, .move (.tmp 6), (some (32, false)), []⟩,
  ⟨some 35, .slice 23 (.tmp 33) none (some (.tmp 34)) none, (some (32, false)), []⟩,
  ⟨some 36, .move (.tmp 7), (some (32, false)), []⟩,
  ⟨some 37, .call { callee := .value (.func 55), args := #[.tmp 35, .tmp 36], argTypes := #[23, 3] }, (some (32, false)), []⟩,
  ⟨some 38, .pick (.tmp 32) (.const (.bool true)) (.tmp 37), none, []⟩] [1, 5, 6, 18, 20, 21, 22, 23, 25, 31, 32, 37, 38, 40, 41]) (.seq (.cond (.tmp 38) (.seq (.reg [⟨some 39, .move (.tmp 6), none, []⟩,
  ⟨some 40, .call { callee := .value (.func 29), args := #[.const (.string ⟨#[114, 101, 112, 108, 105, 99, 97]⟩), .tmp 39, .const (.int .i64 18)], argTypes := #[9, 3, 42] }, none, []⟩,
  ⟨some 4, .assign (.tmp 40), none, []⟩] [4, 18, 40]) .ret) .skip) .skip)))) (.seq (.reg [⟨some 41, .binOp .add 3 (.tmp 23) (.const (.int .i64 1)) 3, none, []⟩,
  ⟨some 23, .move (.tmp 41), none, []⟩] [1, 5, 18, 20, 21, 22, 23, 40, 41]) .skip))))) .skip)) (.seq (.reg [⟨some 4, .assign (.const .nilIface), none, []⟩] [4, 18, 40]) .ret)))))))
theorem s38 : TextK Proofs.Tryz.prog 0 38 42 [ResultVar.tmp 4] c38 := .mk' Proofs.Tryz.f38 _ (by kernel_rfl) rfl rfl rfl (by kernel_rfl) rfl (by kernel_rfl)
theorem check_ok (m : Image) (ids : List Int) (hb : m.brokers.length ≤ 100) (hid : ids.length ≤ 1000000) : ACall pg 38 [encM m, Li ids] (errO (ckP m.order ids)) := by
  refine s38.call mo (by simp) fun hxs => ?_
  clear hxs
  unfold c38
  have hro := order_ok m hb
  have hol : m.order.length ≤ 1000 := by
    have := (order_perm m (by omega)).length_eq
    rw [this, List.length_map]
    have := List.length_filter_le readyB m.brokers
    omega
  generalize m.order = order at *
  have hne := new_ok (bs [114, 101, 112, 108, 105, 99, 97, 115]) ids.length 18
  by_cases h1 : (ids.length : Int) < 1
  · have e : ckP order ids = some (bs [114, 101, 112, 108, 105, 99, 97, 115], (ids.length : Int), 18) := by unfold ckP; rw [if_pos (by omega)]
    rw [e]
    repeat' first | (with_reducible first | refine thN ?_ | refine thR ?_ | refine thE ?_ | refine inN ?_ | refine inR ?_ | refine inH ?_ | refine fS ?_ | refine fR ?_ | refine fQ ?_ | refine fE ?_ | refine fT ?_ | refine awBlock ?_ | refine awExit ?_ | refine awRet ?_ | refine awSkip ?_) | ((with_reducible refine awReg fun K hok hK => ?_); clear hok; (try simp (maxSteps := 10000000) (disch := first | omega | simp) [h1]); (repeat' first | (with_reducible refine hK _ (by simp) ?_) | ((first | ((with_reducible refine callS' fun K2 hK2 => ?_); (try simp (maxSteps := 10000000) (disch := first | omega | simp) [h1]); (refine hK2 _ _ hne rfl fun hk9 => ?_); clear hk9; clear hK2 K2) | ((with_reducible refine callF' fun K2 hK2 => ?_); (try simp (maxSteps := 10000000) (disch := first | omega | simp) [h1]); (refine hK2 _ _ _ hne fun _ => ?_); clear hK2 K2)); (try simp (maxSteps := 10000000) (disch := first | omega | simp) [h1]))) <;> clear hK K) | ((with_reducible refine awCond fun A B hA hB => ?_); simp (maxSteps := 10000000) (disch := first | omega | simp) [h1]; (first | refine ⟨fun h => hA ?_, fun h => hB ?_⟩ | refine hA ?_ | refine hB ?_) <;> (clear hA hB A B; (try (exfalso; omega))))
    all_goals (refine aEnR (aRes [] fun K hK => ?_); simp (maxSteps := 10000000) (disch := first | omega | simp) []; refine hK _ ?_ (by simp); clear hK; first | done | (simp (maxSteps := 10000000) (disch := first | omega | simp) [*]; done) | (simp (maxSteps := 10000000) (disch := first | omega | simp) [*]; omega) | (simp_all []; done) | (simp_all []; omega))
  by_cases h2 : 7 < (ids.length : Int)
  · have e : ckP order ids = some (bs [114, 101, 112, 108, 105, 99, 97, 115], (ids.length : Int), 18) := by unfold ckP; rw [if_pos (by omega)]
    rw [e]
    repeat' first | (with_reducible first | refine thN ?_ | refine thR ?_ | refine thE ?_ | refine inN ?_ | refine inR ?_ | refine inH ?_ | refine fS ?_ | refine fR ?_ | refine fQ ?_ | refine fE ?_ | refine fT ?_ | refine awBlock ?_ | refine awExit ?_ | refine awRet ?_ | refine awSkip ?_) | ((with_reducible refine awReg fun K hok hK => ?_); clear hok; (try simp (maxSteps := 10000000) (disch := first | omega | simp) [h1, h2]); (repeat' first | (with_reducible refine hK _ (by simp) ?_) | ((first | ((with_reducible refine callS' fun K2 hK2 => ?_); (try simp (maxSteps := 10000000) (disch := first | omega | simp) [h1, h2]); (refine hK2 _ _ hne rfl fun hk9 => ?_); clear hk9; clear hK2 K2) | ((with_reducible refine callF' fun K2 hK2 => ?_); (try simp (maxSteps := 10000000) (disch := first | omega | simp) [h1, h2]); (refine hK2 _ _ _ hne fun _ => ?_); clear hK2 K2)); (try simp (maxSteps := 10000000) (disch := first | omega | simp) [h1, h2]))) <;> clear hK K) | ((with_reducible refine awCond fun A B hA hB => ?_); simp (maxSteps := 10000000) (disch := first | omega | simp) [h1, h2]; (first | refine ⟨fun h => hA ?_, fun h => hB ?_⟩ | refine hA ?_ | refine hB ?_) <;> (clear hA hB A B; (try (exfalso; omega))))
    all_goals (refine aEnR (aRes [] fun K hK => ?_); simp (maxSteps := 10000000) (disch := first | omega | simp) []; refine hK _ ?_ (by simp); clear hK; first | done | (simp (maxSteps := 10000000) (disch := first | omega | simp) [*]; done) | (simp (maxSteps := 10000000) (disch := first | omega | simp) [*]; omega) | (simp_all []; done) | (simp_all []; omega))
  clear hne
  have e : ckP order ids = ((List.range ids.length).find? (ckBad order ids)).map fun i : Nat => (bs [114, 101, 112, 108, 105, 99, 97], (i : Int), 18) := by unfold ckP; rw [if_neg (by omega)]
  rw [e]
  clear e
  repeat' first | (with_reducible first | refine thN ?_ | refine thR ?_ | refine thE ?_ | refine inN ?_ | refine inR ?_ | refine inH ?_ | refine fS ?_ | refine fR ?_ | refine fQ ?_ | refine fE ?_ | refine fT ?_ | refine awBlock ?_ | refine awExit ?_ | refine awRet ?_ | refine awSkip ?_) | ((with_reducible refine awReg fun K hok hK => ?_); clear hok; (try simp (maxSteps := 10000000) (disch := first | omega | simp) [h1, h2]); (repeat' first | (with_reducible refine hK _ (by simp) ?_) | ((first | ((with_reducible refine callS' fun K2 hK2 => ?_); (try simp (maxSteps := 10000000) (disch := first | omega | simp) [h1, h2]); (refine hK2 _ _ hro rfl fun hk9 => ?_); clear hk9; clear hK2 K2) | ((with_reducible refine callF' fun K2 hK2 => ?_); (try simp (maxSteps := 10000000) (disch := first | omega | simp) [h1, h2]); (refine hK2 _ _ _ hro fun _ => ?_); clear hK2 K2)); (try simp (maxSteps := 10000000) (disch := first | omega | simp) [h1, h2]))) <;> clear hK K) | ((with_reducible refine awCond fun A B hA hB => ?_); simp (maxSteps := 10000000) (disch := first | omega | simp) [h1, h2]; (first | refine ⟨fun h => hA ?_, fun h => hB ?_⟩ | refine hA ?_ | refine hB ?_) <;> (clear hA hB A B; (try (exfalso; omega))))
  refine awFor ids.length (fun i (_ : Unit) => ((List.range ids.length).drop i).find? (ckBad order ids) = (List.range ids.length).find? (ckBad order ids))
    (fun i _ => [(23, .p (I i)), (22, .p (I ids.length)), (21, .p (Li ids)), (1, .p (Li ids)), (5, .p (.sl (order.map I)))]) ()
    ((Wk.frz0 (r := 5) rfl).trans (Wk.ofA (by simp))) rfl fun i _ hi hs => ?_
  by_cases hlt : i < ids.length
  · rw [drop_cons (show i < (List.range ids.length).length by simpa using hlt)] at hs
    simp only [List.getElem_range, List.find?_cons] at hs
    have hg : ids.getD i 0 = ids[i] := by rw [List.getD_eq_getElem?_getD, List.getElem?_eq_getElem hlt]; rfl
    have hck : ckBad order ids i = (!order.contains ids[i] || (ids.take i).contains ids[i]) := by unfold ckBad; rw [hg]
    rw [hck] at hs
    have hc1 := contains_ok order ids[i] (by omega)
    have hc2 : ACall pg 55 [.sl ((ids.map I).take i), I ids[i]] (B ((ids.take i).contains ids[i])) := by rw [← List.map_take]; exact contains_ok (ids.take i) ids[i] (by rw [List.length_take]; omega)
    have hne := new_ok (bs [114, 101, 112, 108, 105, 99, 97]) i 18
    cases ht1 : order.contains ids[i] with
    | false =>
      rw [ht1] at hs hc1
      simp only [Bool.not_false, Bool.true_or] at hs
      rw [← hs]
      clear hs
      first | simp only [Option.map_some] | simp only [Option.map_none]
      repeat' first | (with_reducible first | refine thN ?_ | refine thR ?_ | refine thE ?_ | refine inN ?_ | refine inR ?_ | refine inH ?_ | refine fS ?_ | refine fR ?_ | refine fQ ?_ | refine fE ?_ | refine fT ?_ | refine awBlock ?_ | refine awExit ?_ | refine awRet ?_ | refine awSkip ?_) | ((with_reducible refine awReg fun K hok hK => ?_); clear hok; (try simp (maxSteps := 10000000) (disch := first | omega | simp) [hlt]); (repeat' first | (with_reducible refine hK _ (by simp) ?_) | ((first | ((with_reducible refine callS' fun K2 hK2 => ?_); (try simp (maxSteps := 10000000) (disch := first | omega | simp) [hlt]); (first | refine hK2 _ _ hc1 rfl fun hk9 => ?_ | refine hK2 _ _ hne rfl fun hk9 => ?_); clear hk9; clear hK2 K2) | ((with_reducible refine callF' fun K2 hK2 => ?_); (try simp (maxSteps := 10000000) (disch := first | omega | simp) [hlt]); (first | refine hK2 _ _ _ hc1 fun _ => ?_ | refine hK2 _ _ _ hne fun _ => ?_); clear hK2 K2)); (try simp (maxSteps := 10000000) (disch := first | omega | simp) [hlt]))) <;> clear hK K) | ((with_reducible refine awCond fun A B hA hB => ?_); simp (maxSteps := 10000000) (disch := first | omega | simp) [hlt]; (first | refine ⟨fun h => hA ?_, fun h => hB ?_⟩ | refine hA ?_ | refine hB ?_) <;> (clear hA hB A B; (try (exfalso; omega))))
      all_goals (refine aEnR (aRes [] fun K hK => ?_); simp (maxSteps := 10000000) (disch := first | omega | simp) []; refine hK _ ?_ (by simp); clear hK; first | done | (simp (maxSteps := 10000000) (disch := first | omega | simp) [*]; done) | (simp (maxSteps := 10000000) (disch := first | omega | simp) [*]; omega) | (simp_all []; done) | (simp_all []; omega))
    | true =>
      rw [ht1] at hs hc1
      cases ht2 : (ids.take i).contains ids[i] with
      | true =>
        rw [ht2] at hs hc2
        simp only [Bool.not_true, Bool.false_or] at hs
        rw [← hs]
        clear hs
        first | simp only [Option.map_some] | simp only [Option.map_none]
        repeat' first | (with_reducible first | refine thN ?_ | refine thR ?_ | refine thE ?_ | refine inN ?_ | refine inR ?_ | refine inH ?_ | refine fS ?_ | refine fR ?_ | refine fQ ?_ | refine fE ?_ | refine fT ?_ | refine awBlock ?_ | refine awExit ?_ | refine awRet ?_ | refine awSkip ?_) | ((with_reducible refine awReg fun K hok hK => ?_); clear hok; (try simp (maxSteps := 10000000) (disch := first | omega | simp) [hlt]); (repeat' first | (with_reducible refine hK _ (by simp) ?_) | ((first | ((with_reducible refine callS' fun K2 hK2 => ?_); (try simp (maxSteps := 10000000) (disch := first | omega | simp) [hlt]); (first | refine hK2 _ _ hc1 rfl fun hk9 => ?_ | refine hK2 _ _ hc2 rfl fun hk9 => ?_ | refine hK2 _ _ hne rfl fun hk9 => ?_); clear hk9; clear hK2 K2) | ((with_reducible refine callF' fun K2 hK2 => ?_); (try simp (maxSteps := 10000000) (disch := first | omega | simp) [hlt]); (first | refine hK2 _ _ _ hc1 fun _ => ?_ | refine hK2 _ _ _ hc2 fun _ => ?_ | refine hK2 _ _ _ hne fun _ => ?_); clear hK2 K2)); (try simp (maxSteps := 10000000) (disch := first | omega | simp) [hlt]))) <;> clear hK K) | ((with_reducible refine awCond fun A B hA hB => ?_); simp (maxSteps := 10000000) (disch := first | omega | simp) [hlt]; (first | refine ⟨fun h => hA ?_, fun h => hB ?_⟩ | refine hA ?_ | refine hB ?_) <;> (clear hA hB A B; (try (exfalso; omega))))
        all_goals (refine aEnR (aRes [] fun K hK => ?_); simp (maxSteps := 10000000) (disch := first | omega | simp) []; refine hK _ ?_ (by simp); clear hK; first | done | (simp (maxSteps := 10000000) (disch := first | omega | simp) [*]; done) | (simp (maxSteps := 10000000) (disch := first | omega | simp) [*]; omega) | (simp_all []; done) | (simp_all []; omega))
      | false =>
        rw [ht2] at hs hc2
        simp only [Bool.not_true, Bool.false_or] at hs
        repeat' first | (with_reducible first | refine thN ?_ | refine thR ?_ | refine thE ?_ | refine inN ?_ | refine inR ?_ | refine inH ?_ | refine fS ?_ | refine fR ?_ | refine fQ ?_ | refine fE ?_ | refine fT ?_ | refine awBlock ?_ | refine awExit ?_ | refine awRet ?_ | refine awSkip ?_) | ((with_reducible refine awReg fun K hok hK => ?_); clear hok; (try simp (maxSteps := 10000000) (disch := first | omega | simp) [hlt]); (repeat' first | (with_reducible refine hK _ (by simp) ?_) | ((first | ((with_reducible refine callS' fun K2 hK2 => ?_); (try simp (maxSteps := 10000000) (disch := first | omega | simp) [hlt]); (first | refine hK2 _ _ hc1 rfl fun hk9 => ?_ | refine hK2 _ _ hc2 rfl fun hk9 => ?_); clear hk9; clear hK2 K2) | ((with_reducible refine callF' fun K2 hK2 => ?_); (try simp (maxSteps := 10000000) (disch := first | omega | simp) [hlt]); (first | refine hK2 _ _ _ hc1 fun _ => ?_ | refine hK2 _ _ _ hc2 fun _ => ?_); clear hK2 K2)); (try simp (maxSteps := 10000000) (disch := first | omega | simp) [hlt]))) <;> clear hK K) | ((with_reducible refine awCond fun A B hA hB => ?_); simp (maxSteps := 10000000) (disch := first | omega | simp) [hlt]; (first | refine ⟨fun h => hA ?_, fun h => hB ?_⟩ | refine hA ?_ | refine hB ?_) <;> (clear hA hB A B; (try (exfalso; omega))))
        (refine ⟨?_, (), ?_, Wk.ofA ?_⟩; assumption; rotate_left; focus (simp []; done))
        exact hs
  · rw [drop_nil (by simp; omega)] at hs
    simp only [List.find?_nil] at hs
    rw [← hs]
    clear hs
    first | simp only [Option.map_some] | simp only [Option.map_none]
    repeat' first | (with_reducible first | refine thN ?_ | refine thR ?_ | refine thE ?_ | refine inN ?_ | refine inR ?_ | refine inH ?_ | refine fS ?_ | refine fR ?_ | refine fQ ?_ | refine fE ?_ | refine fT ?_ | refine awBlock ?_ | refine awExit ?_ | refine awRet ?_ | refine awSkip ?_) | ((with_reducible refine awReg fun K hok hK => ?_); clear hok; (try simp (maxSteps := 10000000) (disch := first | omega | simp) []); (repeat' first | (with_reducible refine hK _ (by simp) ?_)) <;> clear hK K) | ((with_reducible refine awCond fun A B hA hB => ?_); simp (maxSteps := 10000000) (disch := first | omega | simp) []; (first | refine ⟨fun h => hA ?_, fun h => hB ?_⟩ | refine hA ?_ | refine hB ?_) <;> (clear hA hB A B; (try (exfalso; omega))))
    all_goals (refine aEnR (aRes [] fun K hK => ?_); simp (maxSteps := 10000000) (disch := first | omega | simp) []; refine hK _ ?_ (by simp); clear hK; first | done | (simp (maxSteps := 10000000) (disch := first | omega | simp) [*]; done) | (simp (maxSteps := 10000000) (disch := first | omega | simp) [*]; omega) | (simp_all []; done) | (simp_all []; omega))
end
end Go.Am
end
