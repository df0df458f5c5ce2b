/- Part of the proof of a law of placing. -/
import Derived.Test.YteijffflinnccaaDoorQE2
import Derived.Test.YteijffflinnccaaDoorQIn2
import Derived.Test.YteijffflinnccaaDoorQPK
set_option linter.all false
set_option maxRecDepth 100000
set_option maxHeartbeats 0
namespace Go.Am
open Go
noncomputable section
def c7 : SC := (.seq (.reg [⟨some 1, .box 34 (.tmp 0), none, []⟩,
  ⟨some 2, .assign (.const (.bool false)), none, []⟩] [1]) (.seq (.reg [⟨some 3, .fieldAddr 34 (.tmp 1) 3, none, []⟩,
  ⟨some 4, .load 4 (.tmp 3), none, []⟩,
  ⟨some 5, .unOp .not 4 (.tmp 4), none, []⟩,
  ⟨some 6, .move (.tmp 5), none, []⟩,
  ⟨some 7, .fieldAddr 34 (.tmp 1) 4, (some (6, true)), []⟩,
  ⟨some 8, .load 4 (.tmp 7), (some (6, true)), []⟩,
  ⟨some 9, .unOp .not 4 (.tmp 8), (some (6, true)), []⟩,
  ⟨some 10, .pick (.tmp 6) (.tmp 9) (.const (.bool false)), none, []⟩,
  ⟨some 2, .assign (.tmp 10), none, []⟩] [2, 5, 6, 9, 10]) .ret))
theorem s7 : TextK Proofs.Tryd.prog 0 7 11 [ResultVar.tmp 2] c7 := .mk' Proofs.Tryd.f7 _ (by kernel_rfl) rfl rfl rfl (by kernel_rfl) rfl (by kernel_rfl)
def c45 : SC := (.seq (.reg [⟨some 2, .assign (.const (.bool false)), none, []⟩] [0]) (.seq (.reg [⟨some 3, .move (.tmp 0), none, []⟩,
  ⟨some 4, .move (.tmp 0), none, []⟩,
  ⟨some 5, .binOp .neq 9 (.tmp 3) (.tmp 4) 9, none, []⟩,
  ⟨some 2, .assign (.tmp 5), none, []⟩] [2, 5]) .ret))
theorem s45 : TextK Proofs.Tryd.prog 0 45 6 [ResultVar.tmp 2] c45 := .mk' Proofs.Tryd.f45 _ (by kernel_rfl) rfl rfl rfl (by kernel_rfl) rfl (by kernel_rfl)
def c35 : SC := (.seq (.reg [⟨some 4, .assign (.const (.int .i64 0)), none, []⟩] [0, 1]) (.seq (.reg [⟨some 7, .move (.tmp 0), none, []⟩,
  ⟨some 8, .call { callee := .value (.func 45), args := #[.tmp 7], argTypes := #[9] }, none, []⟩,
  ⟨some 5, .assign (.tmp 8), none, []⟩] [0, 1, 5, 8]) (.seq (.reg [⟨some 9, .move (.tmp 1), none, []⟩,
  ⟨some 10, .call { callee := .value (.func 45), args := #[.tmp 9], argTypes := #[9] }, none, []⟩,
  ⟨some 6, .assign (.tmp 10), none, []⟩] [0, 1, 5, 6, 8, 10]) (.seq (.reg [⟨some 11, .move (.tmp 5), none, []⟩] [0, 1, 5, 6, 8, 10, 11]) (.seq (.cond (.tmp 11) (.seq (.reg [⟨some 12, .move (.tmp 6), none, []⟩] [6, 10, 12]) (.seq (.cond (.tmp 12) (.seq (.reg [⟨some 4, .assign (.const (.int .i64 0)), none, []⟩] [4]) .ret) .skip) (.seq (.reg [⟨some 4, .assign (.const (.int .i64 (-1))), none, []⟩] [4]) .ret))) .skip) (.seq (.reg [⟨some 13, .move (.tmp 6), none, []⟩] [0, 1, 6, 10, 13]) (.seq (.cond (.tmp 13) (.seq (.reg [⟨some 4, .assign (.const (.int .i64 1)), none, []⟩] [4]) .ret) .skip) (.seq (.reg [⟨some 14, .move (.tmp 0), none, []⟩,
  ⟨some 15, .move (.tmp 1), none, []⟩,
  ⟨some 16, .binOp .lss 9 (.tmp 14) (.tmp 15) 9, none, []⟩] [0, 1, 16]) (.seq (.cond (.tmp 16) (.seq (.reg [⟨some 4, .assign (.const (.int .i64 (-1))), none, []⟩] [4]) .ret) .skip) (.seq (.reg [⟨some 17, .move (.tmp 0), none, []⟩,
  ⟨some 18, .move (.tmp 1), none, []⟩,
  ⟨some 19, .binOp .gtr 9 (.tmp 17) (.tmp 18) 9, none, []⟩] [19]) (.seq (.cond (.tmp 19) (.seq (.reg [⟨some 4, .assign (.const (.int .i64 1)), none, []⟩] [4]) .ret) .skip) (.seq (.reg [⟨some 4, .assign (.const (.int .i64 0)), none, []⟩] [4]) .ret))))))))))))
theorem s35 : TextK Proofs.Tryd.prog 0 35 20 [ResultVar.tmp 4] c35 := .mk' Proofs.Tryd.f35 _ (by kernel_rfl) rfl rfl rfl (by kernel_rfl) rfl (by kernel_rfl)
def c34 : SC := (.seq (.reg [⟨some 2, .box 55 (.tmp 0), none, []⟩,
  ⟨some 4, .assign (.const (.int .i64 0)), none, []⟩] [1, 2]) (.seq (.reg [⟨some 5, .fieldAddr 55 (.tmp 2) 0, none, []⟩,
  ⟨some 6, .load 9 (.tmp 5), none, []⟩,
  ⟨some 7, .move (.tmp 1), none, []⟩,
  ⟨some 8, .call { callee := .value (.func 35), args := #[.tmp 6, .tmp 7], argTypes := #[9, 9] }, none, []⟩,
  ⟨some 4, .assign (.tmp 8), none, []⟩] [4, 8]) .ret))
theorem s34 : TextK Proofs.Tryd.prog 0 34 9 [ResultVar.tmp 4] c34 := .mk' Proofs.Tryd.f34 _ (by kernel_rfl) rfl rfl rfl (by kernel_rfl) rfl (by kernel_rfl)
def c33 : SC := (.seq (.reg [⟨some 6, .assign (.const (.int .i64 0)), none, []⟩,
  ⟨some 7, .assign (.const (.bool false)), none, []⟩] [0, 1, 2, 33]) (.seq (.reg [⟨some 12, .move (.tmp 0), none, []⟩,
  ⟨some 13, .call { callee := .builtin .len, args := #[.tmp 12], argTypes := #[52] }, none, []⟩,
  ⟨some 8, .assign (.tmp 13), none, []⟩] [0, 1, 2, 8, 13, 33]) (.seq (.reg [⟨some 14, .move (.tmp 8), none, []⟩,
  ⟨some 9, .assign (.const (.int .i64 0)), none, []⟩,
  ⟨some 10, .assign (.tmp 14), none, []⟩] [0, 1, 2, 8, 9, 10, 11, 13, 14, 23, 33, 34]) (.seq (.block 0 (.seq (.loop (.seq (.reg [⟨some 15, .move (.tmp 9), none, []⟩,
  ⟨some 16, .move (.tmp 10), none, []⟩,
  ⟨some 17, .binOp .lss 3 (.tmp 15) (.tmp 16) 3, none, []⟩] [0, 1, 2, 8, 9, 10, 11, 13, 14, 17, 23, 33, 34]) (.seq (.cond (.tmp 17) .skip (.exit 0)) (.seq (.block 1 (.seq (.reg [⟨some 18, .move (.tmp 9), none, []⟩,
  ⟨some 19, .move (.tmp 10), none, []⟩,
  ⟨some 20, .binOp .add 3 (.tmp 18) (.tmp 19) 3, none, []⟩,
  ⟨some 21, .convert 3 97 (.tmp 20), none, []⟩,
  ⟨some 22, .binOp .shr 97 (.tmp 21) (.const (.int .u64 1)) 97, none, []⟩,
  ⟨some 23, .convert 97 3 (.tmp 22), none, []⟩,
  ⟨some 11, .assign (.tmp 23), none, []⟩] [0, 1, 2, 8, 9, 10, 11, 13, 14, 23, 33, 34]) (.seq (.reg [⟨some 24, .move (.tmp 2), none, []⟩,
  ⟨some 25, .move (.tmp 0), none, []⟩,
  ⟨some 26, .move (.tmp 11), none, []⟩,
  ⟨some 27, .indexAddr 52 (.tmp 25) (.tmp 26), none, []⟩,
  ⟨some 28, .load 55 (.tmp 27), none, []⟩,
  ⟨some 29, .move (.tmp 1), none, []⟩,
  ⟨some 30, .call { callee := .value (.tmp 24), args := #[.tmp 28, .tmp 29], argTypes := #[55, 9] }, none, []⟩,
  ⟨some 31, .binOp .lss 3 (.tmp 30) (.const (.int .i64 0)) 3, none, []⟩] [0, 1, 2, 8, 9, 10, 11, 13, 14, 23, 31, 33, 34]) (.seq (.cond (.tmp 31) (.seq (.reg [⟨some 32, .move (.tmp 11), none, []⟩,
  ⟨some 33, .binOp .add 3 (.tmp 32) (.const (.int .i64 1)) 3, none, []⟩,
  ⟨some 9, .assign (.tmp 33), none, []⟩] [0, 1, 2, 8, 9, 10, 11, 13, 14, 23, 33, 34]) .skip) (.seq (.reg [⟨some 34, .move (.tmp 11), none, []⟩,
  ⟨some 10, .assign (.tmp 34), none, []⟩] [0, 1, 2, 8, 9, 10, 11, 13, 14, 23, 33, 34]) .skip)) .skip)))) .skip)))) .skip)) (.seq (.reg [⟨some 35, .move (.tmp 9), none, []⟩,
  ⟨some 36, .move (.tmp 9), none, []⟩,
  ⟨some 37, .move (.tmp 8), none, []⟩,
  ⟨some 38, .binOp .lss 3 (.tmp 36) (.tmp 37) 3, none, []⟩,
  ⟨some 39, .move (.tmp 38), none, []⟩,
  ⟨some 40, .move (.tmp 2), (some (39, true)), []⟩,
  ⟨some 41, .move (.tmp 0), (some (39, true)), []⟩,
  ⟨some 42, .move (.tmp 9), (some (39, true)), []⟩,
  ⟨some 43, .indexAddr 52 (.tmp 41) (.tmp 42), (some (39, true)), []⟩,
  ⟨some 44, .load 55 (.tmp 43), (some (39, true)), []⟩,
  ⟨some 45, .move (.tmp 1), (some (39, true)), []⟩,
  ⟨some 46, .call { callee := .value (.tmp 40), args := #[.tmp 44, .tmp 45], argTypes := #[55, 9] }, (some (39, true)), []⟩,
  ⟨some 47, .binOp .eql 3 (.tmp 46) (.const (.int .i64 0)) 3, (some (39, true)), []⟩,
  ⟨some 48, .pick (.tmp 39) (.tmp 47) (.const (.bool false)), none, []⟩,
  ⟨some 6, .assign (.tmp 35), none, []⟩,
  ⟨some 7, .assign (.tmp 48), none, []⟩] [6, 7, 9, 33, 35, 38, 39, 47, 48]) .ret)))))
theorem s33 : TextK Proofs.Tryd.prog 0 33 49 [ResultVar.tmp 6, ResultVar.tmp 7] c33 := .mk' Proofs.Tryd.f33 _ (by kernel_rfl) rfl rfl rfl (by kernel_rfl) rfl (by kernel_rfl)
def c19 : SC := (.seq (.reg [⟨some 1, .box 30 (.tmp 0), none, []⟩,
  ⟨some 2, .assign (.const (.slice none 0 0)), none, []⟩] [1, 33]) (.seq (.reg [⟨some 3, .assign (.const (.slice none 0 0)), none, []⟩] [1, 3, 33]) (.seq (.reg [⟨some 8, .fieldAddr 30 (.tmp 1) 0, none, []⟩,
  ⟨some 9, .load 25 (.tmp 8), none, []⟩,
  ⟨some 10, .call { callee := .builtin .len, args := #[.tmp 9], argTypes := #[25] }, none, []⟩,
  ⟨some 11, .move (.const (.int .i64 0)), none, []⟩] [1, 3, 8, 9, 10, 11, 33, 47]) (.seq (.block 0 (.seq (.loop (.seq (.reg [⟨some 12, .binOp .lss 3 (.tmp 11) (.tmp 10) 3, none, []⟩] [1, 3, 8, 9, 10, 11, 12, 33, 47]) (.seq (.cond (.tmp 12) .skip (.exit 0)) (.seq (.block 1 (.seq (.reg [⟨some 13, .indexAddr 25 (.tmp 9) (.tmp 11), none, []⟩,
  ⟨some 14, .load 34 (.tmp 13), none, []⟩,
  ⟨some 5, .alloc 34, none, []⟩,
  ⟨none, .store 34 (.tmp 5) (.tmp 14), none, []⟩] [1, 3, 5, 8, 9, 10, 11, 33, 47]) (.seq (.reg [⟨some 15, .load 34 (.tmp 5), none, []⟩,
  ⟨some 16, .call { callee := .value (.func 7), args := #[.tmp 15], argTypes := #[34] }, none, []⟩,
  ⟨some 17, .unOp .not 4 (.tmp 16), none, []⟩] [1, 3, 5, 8, 9, 10, 11, 17, 33, 47]) (.seq (.cond (.tmp 17) (.exit 1) .skip) (.seq (.reg [⟨some 19, .move (.tmp 3), none, []⟩,
  ⟨some 20, .fieldAddr 34 (.tmp 5) 2, none, []⟩,
  ⟨some 21, .load 9 (.tmp 20), none, []⟩,
  ⟨some 22, .call { callee := .value (.func 33), args := #[.tmp 19, .tmp 21, .func 34], argTypes := #[52, 9, 77] }, none, []⟩,
  ⟨some 18, .move (.tmp 22), none, []⟩,
  ⟨some 23, .extract (.tmp 18) 0, none, []⟩,
  ⟨some 24, .extract (.tmp 18) 1, none, []⟩,
  ⟨some 6, .assign (.tmp 23), none, []⟩,
  ⟨some 7, .assign (.tmp 24), none, []⟩] [1, 3, 5, 6, 7, 8, 9, 10, 11, 18, 22, 23, 24, 33, 47]) (.seq (.reg [⟨some 25, .move (.tmp 7), none, []⟩,
  ⟨some 26, .unOp .not 4 (.tmp 25), none, []⟩] [1, 3, 5, 6, 8, 9, 10, 11, 18, 22, 23, 26, 33, 47]) (.seq (.cond (.tmp 26) (.seq (.reg [⟨some 27, .move (.tmp 3), none, []⟩,
  ⟨some 28, .move (.tmp 6), none, []⟩,
  ⟨some 29, .fieldAddr 34 (.tmp 5) 2, none, []⟩,
  ⟨some 30, .load 9 (.tmp 29), none, []⟩,
  ⟨some 31, .build 55 #[(0, .tmp 30)], none, []⟩,
  ⟨some 32, .buildSlice 52 1 #[(0, .tmp 31)], none, []⟩,
  ⟨some 33, .call { callee := .value (.func 36), args := #[.tmp 27, .tmp 28, .tmp 32], argTypes := #[52, 3, 52] }, none, []⟩,
  ⟨some 3, .assign (.tmp 33), none, []⟩] [1, 3, 5, 6, 8, 9, 10, 11, 18, 22, 23, 33, 47]) .skip) .skip) (.seq (.reg [⟨some 34, .move (.tmp 3), none, []⟩,
  ⟨some 35, .move (.tmp 6), none, []⟩,
  ⟨some 36, .move (.tmp 3), none, []⟩,
  ⟨some 37, .move (.tmp 6), none, []⟩,
  ⟨some 38, .indexAddr 52 (.tmp 36) (.tmp 37), none, [41, 42, 43]⟩,
  ⟨some 39, .fieldAddr 55 (.tmp 38) 1, none, [41, 42, 43]⟩,
  ⟨some 40, .load 23 (.tmp 39), none, [41, 42, 43]⟩,
  ⟨some 41, .fieldAddr 34 (.tmp 5) 0, none, [38, 39, 40]⟩,
  ⟨some 42, .load 3 (.tmp 41), none, [38, 39, 40]⟩,
  ⟨some 43, .buildSlice 23 1 #[(0, .tmp 42)], none, [38, 39, 40]⟩,
  ⟨some 44, .call { callee := .builtin .append, args := #[.tmp 40, .tmp 43], argTypes := #[23, 23] }, none, []⟩,
  ⟨some 45, .indexAddr 52 (.tmp 34) (.tmp 35), none, []⟩,
  ⟨some 46, .fieldAddr 55 (.tmp 45) 1, none, []⟩,
  ⟨none, .store 23 (.tmp 46) (.tmp 44), none, []⟩] [1, 3, 8, 9, 10, 11, 33, 47]) .skip)))))))) (.seq (.reg [⟨some 47, .binOp .add 3 (.tmp 11) (.const (.int .i64 1)) 3, none, []⟩,
  ⟨some 11, .move (.tmp 47), none, []⟩] [1, 3, 8, 9, 10, 11, 33, 47]) .skip))))) .skip)) (.seq (.reg [⟨some 48, .move (.tmp 3), none, []⟩,
  ⟨some 2, .assign (.tmp 48), none, []⟩] [2, 3, 33, 48]) .ret)))))
theorem s19 : TextK Proofs.Tryd.prog 0 19 49 [ResultVar.tmp 2] c19 := .mk' Proofs.Tryd.f19 _ (by kernel_rfl) rfl rfl rfl (by kernel_rfl) rfl (by kernel_rfl)
def encK (r : Rack) : V := .agg [St r.name, .uq (r.ids.map I)]
def encKf (r : Rack) : V := .agg [St r.name, Li r.ids]
@[simp] theorem encK_eq (r : Rack) : encK r = .agg [St r.name, .uq (r.ids.map I)] := rfl
@[simp] theorem encKf_eq (r : Rack) : encKf r = .agg [St r.name, Li r.ids] := rfl
@[simp] theorem pvL_encK (l : List Rack) : pvL (l.map encK) = l.map encKf := by
  induction l with
  | nil => rfl
  | cons r l ih => simp [ih, pvL_eq]
theorem placeReady_ok (b : Broker) : ACall pg 7 [encB b] (B (readyB b)) := by
  refine s7.call mo (by simp) fun hxs => ?_
  clear hxs
  unfold c7
  repeat' first
      | (with_reducible first | refine thN ?_ | refine thR ?_ | refine thE ?_ | refine inN ?_ | refine inR ?_ | refine inH ?_ | refine fF ?_ | refine fS ?_ | refine fR ?_ | refine fQ ?_ | refine fC ?_ | refine fB ?_ | refine fL ?_ | refine fE ?_ | refine fT ?_ | refine awBlock ?_ | refine awExit ?_ | refine awRet ?_ | refine awSkip ?_ | refine inM (by decide) ?_)
      | ((with_reducible refine awReg fun K hok hK => ?_); clear hok; (try simp (maxSteps := 10000000) (disch := first | omega | simp) []); (repeat' first
          | (with_reducible refine hK _ (by simp) ?_)
          | ((with_reducible refine gdT (fun h => ?_) (fun h => ?_)) <;> (simp (maxSteps := 10000000) (disch := first | omega | simp) [h]; (try simp at h); (try (exfalso; omega))))
          | ((with_reducible refine gdF (fun h => ?_) (fun h => ?_)) <;> (simp (maxSteps := 10000000) (disch := first | omega | simp) [h]; (try simp at h); (try (exfalso; omega))))
          | ((with_reducible refine sideSt' fun K2 hK2 => ?_); (try simp (maxSteps := 10000000) (disch := first | omega | simp) []); refine hK2 _ ?_; clear hK2 K2; (try simp (maxSteps := 10000000) (disch := first | omega | simp) []))
          | ((with_reducible refine gdU ?_); (try simp (maxSteps := 10000000) (disch := first | omega | simp) []))
          | ((with_reducible refine sideQ' ?_ ?_ fun K2 hK2 => ?_); exact rfl; exact rfl; (try simp (maxSteps := 10000000) (disch := first | omega | simp) []); with_reducible refine hK2 _ _ ?_; clear hK2 K2; (try simp (maxSteps := 10000000) (disch := first | omega | simp) []))
          | ((with_reducible refine side' ?_ fun K2 hK2 => ?_); exact rfl; (try simp (maxSteps := 10000000) (disch := first | omega | simp) []); refine hK2 _ _ (by simp) ?_; clear hK2 K2; (try simp (maxSteps := 10000000) (disch := first | omega | simp) []))) <;> clear hK K)
      | ((with_reducible refine awCond fun A B hA hB => ?_); simp (maxSteps := 10000000) (disch := first | omega | simp) []; (first | refine ⟨fun h => hA ?_, fun h => hB ?_⟩ | refine hA ?_ | refine hB ?_) <;> (clear hA hB A B; (try (exfalso; omega))))
  all_goals (refine aEnR (aRes [] fun K hK => ?_); simp (maxSteps := 10000000) (disch := first | omega | simp) [readyB]; refine hK _ ?_ (by simp); clear hK; first | done | (simp (maxSteps := 10000000) (disch := first | omega | simp) [readyB, *]; done) | (simp (maxSteps := 10000000) (disch := first | omega | simp) [readyB, *]; omega) | (simp_all [readyB]; done) | (simp_all [readyB]; omega))
theorem isNaNS_ok (s : ByteArray) : ACall pg 45 [St s] (B false) := by
  refine s45.call mo (by simp) fun hxs => ?_
  clear hxs
  unfold c45
  repeat' first
      | (with_reducible first | refine thN ?_ | refine thR ?_ | refine thE ?_ | refine inN ?_ | refine inR ?_ | refine inH ?_ | refine fF ?_ | refine fS ?_ | refine fR ?_ | refine fQ ?_ | refine fC ?_ | refine fB ?_ | refine fL ?_ | refine fE ?_ | refine fT ?_ | refine awBlock ?_ | refine awExit ?_ | refine awRet ?_ | refine awSkip ?_ | refine inM (by decide) ?_)
      | ((with_reducible refine awReg fun K hok hK => ?_); clear hok; (try simp (maxSteps := 10000000) (disch := first | omega | simp) []); (repeat' first
          | (with_reducible refine hK _ (by simp) ?_)
          | ((with_reducible refine gdT (fun h => ?_) (fun h => ?_)) <;> (simp (maxSteps := 10000000) (disch := first | omega | simp) [h]; (try simp at h); (try (exfalso; omega))))
          | ((with_reducible refine gdF (fun h => ?_) (fun h => ?_)) <;> (simp (maxSteps := 10000000) (disch := first | omega | simp) [h]; (try simp at h); (try (exfalso; omega))))
          | ((with_reducible refine sideSt' fun K2 hK2 => ?_); (try simp (maxSteps := 10000000) (disch := first | omega | simp) []); refine hK2 _ ?_; clear hK2 K2; (try simp (maxSteps := 10000000) (disch := first | omega | simp) []))
          | ((with_reducible refine gdU ?_); (try simp (maxSteps := 10000000) (disch := first | omega | simp) []))
          | ((with_reducible refine sideQ' ?_ ?_ fun K2 hK2 => ?_); exact rfl; exact rfl; (try simp (maxSteps := 10000000) (disch := first | omega | simp) []); with_reducible refine hK2 _ _ ?_; clear hK2 K2; (try simp (maxSteps := 10000000) (disch := first | omega | simp) []))
          | ((with_reducible refine side' ?_ fun K2 hK2 => ?_); exact rfl; (try simp (maxSteps := 10000000) (disch := first | omega | simp) []); refine hK2 _ _ (by simp) ?_; clear hK2 K2; (try simp (maxSteps := 10000000) (disch := first | omega | simp) []))) <;> clear hK K)
      | ((with_reducible refine awCond fun A B hA hB => ?_); simp (maxSteps := 10000000) (disch := first | omega | simp) []; (first | refine ⟨fun h => hA ?_, fun h => hB ?_⟩ | refine hA ?_ | refine hB ?_) <;> (clear hA hB A B; (try (exfalso; omega))))
  all_goals (refine aEnR (aRes [] fun K hK => ?_); simp (maxSteps := 10000000) (disch := first | omega | simp) []; refine hK _ ?_ (by simp); clear hK; first | done | (simp (maxSteps := 10000000) (disch := first | omega | simp) [*]; done) | (simp (maxSteps := 10000000) (disch := first | omega | simp) [*]; omega) | (simp_all []; done) | (simp_all []; omega))
theorem compareS_ok (a b : ByteArray) : ACall pg 35 [St a, St b] (I (cmpS a b)) := by
  refine s35.call mo (by simp) fun hxs => ?_
  clear hxs
  unfold c35
  by_cases h1 : Op.bytesLess a.toList b.toList = true
  · have e : cmpS a b = -1 := by simp [cmpS, h1]
    repeat' first
        | (with_reducible first | refine thN ?_ | refine thR ?_ | refine thE ?_ | refine inN ?_ | refine inR ?_ | refine inH ?_ | refine fF ?_ | refine fS ?_ | refine fR ?_ | refine fQ ?_ | refine fC ?_ | refine fB ?_ | refine fL ?_ | refine fE ?_ | refine fT ?_ | refine awBlock ?_ | refine awExit ?_ | refine awRet ?_ | refine awSkip ?_ | refine inM (by decide) ?_)
        | ((with_reducible refine awReg fun K hok hK => ?_); clear hok; (try simp (maxSteps := 10000000) (disch := first | omega | simp) [h1]); (repeat' first
            | (with_reducible refine hK _ (by simp) ?_)
            | ((with_reducible refine gdT (fun h => ?_) (fun h => ?_)) <;> (simp (maxSteps := 10000000) (disch := first | omega | simp) [h, h1]; (try simp at h); (try (exfalso; omega))))
            | ((with_reducible refine gdF (fun h => ?_) (fun h => ?_)) <;> (simp (maxSteps := 10000000) (disch := first | omega | simp) [h, h1]; (try simp at h); (try (exfalso; omega))))
            | ((with_reducible refine callS' fun K2 hK2 => ?_); (try simp (maxSteps := 10000000) (disch := first | omega | simp) [h1]); (first | (refine hK2 _ _ (isNaNS_ok a) rfl fun hk9 => ?_; clear hk9) | (refine hK2 _ _ (isNaNS_ok b) rfl fun hk9 => ?_; clear hk9)); clear hK2 K2; (try simp (maxSteps := 10000000) (disch := first | omega | simp) [h1]))
            | ((with_reducible refine callF' fun K2 hK2 => ?_); (try simp (maxSteps := 10000000) (disch := first | omega | simp) [h1]); (first | refine hK2 _ _ _ (isNaNS_ok a) fun _ => ?_ | refine hK2 _ _ _ (isNaNS_ok b) fun _ => ?_); clear hK2 K2; (try simp (maxSteps := 10000000) (disch := first | omega | simp) [h1]))
            | ((with_reducible refine callCS' fun K2 hK2 => ?_); (try simp (maxSteps := 10000000) (disch := first | omega | simp) [h1]); (first | (refine hK2 _ _ _ _ (isNaNS_ok a) rfl fun hk9 => ?_; clear hk9) | (refine hK2 _ _ _ _ (isNaNS_ok b) rfl fun hk9 => ?_; clear hk9)); clear hK2 K2; (try simp (maxSteps := 10000000) (disch := first | omega | simp) [h1]))
            | ((with_reducible refine callC' fun K2 hK2 => ?_); (try simp (maxSteps := 10000000) (disch := first | omega | simp) [h1]); (first | refine hK2 _ _ _ _ _ (isNaNS_ok a) fun _ => ?_ | refine hK2 _ _ _ _ _ (isNaNS_ok b) fun _ => ?_); clear hK2 K2; (try simp (maxSteps := 10000000) (disch := first | omega | simp) [h1]))
            | ((with_reducible refine sideSt' fun K2 hK2 => ?_); (try simp (maxSteps := 10000000) (disch := first | omega | simp) [h1]); refine hK2 _ ?_; clear hK2 K2; (try simp (maxSteps := 10000000) (disch := first | omega | simp) [h1]))
            | ((with_reducible refine gdU ?_); (try simp (maxSteps := 10000000) (disch := first | omega | simp) [h1]))
            | ((with_reducible refine sideQ' ?_ ?_ fun K2 hK2 => ?_); exact rfl; exact rfl; (try simp (maxSteps := 10000000) (disch := first | omega | simp) [h1]); with_reducible refine hK2 _ _ ?_; clear hK2 K2; (try simp (maxSteps := 10000000) (disch := first | omega | simp) [h1]))
            | ((with_reducible refine side' ?_ fun K2 hK2 => ?_); exact rfl; (try simp (maxSteps := 10000000) (disch := first | omega | simp) [h1]); refine hK2 _ _ (by simp) ?_; clear hK2 K2; (try simp (maxSteps := 10000000) (disch := first | omega | simp) [h1]))) <;> clear hK K)
        | ((with_reducible refine awCond fun A B hA hB => ?_); simp (maxSteps := 10000000) (disch := first | omega | simp) [h1]; (first | refine ⟨fun h => hA ?_, fun h => hB ?_⟩ | refine hA ?_ | refine hB ?_) <;> (clear hA hB A B; (try (exfalso; omega))))
    all_goals (refine aEnR (aRes [] fun K hK => ?_); simp (maxSteps := 10000000) (disch := first | omega | simp) [e]; refine hK _ ?_ (by simp); clear hK; first | done | (simp (maxSteps := 10000000) (disch := first | omega | simp) [e, *]; done) | (simp (maxSteps := 10000000) (disch := first | omega | simp) [e, *]; omega) | (simp_all [e]; done) | (simp_all [e]; omega))
  · have h1 : Op.bytesLess a.toList b.toList = false := by simpa using h1
    by_cases h2 : (a.toList == b.toList) = true
    · have e : cmpS a b = 0 := by simp only [cmpS, lessS, eqS, h1, h2]; rfl
      repeat' first
          | (with_reducible first | refine thN ?_ | refine thR ?_ | refine thE ?_ | refine inN ?_ | refine inR ?_ | refine inH ?_ | refine fF ?_ | refine fS ?_ | refine fR ?_ | refine fQ ?_ | refine fC ?_ | refine fB ?_ | refine fL ?_ | refine fE ?_ | refine fT ?_ | refine awBlock ?_ | refine awExit ?_ | refine awRet ?_ | refine awSkip ?_ | refine inM (by decide) ?_)
          | ((with_reducible refine awReg fun K hok hK => ?_); clear hok; (try simp (maxSteps := 10000000) (disch := first | omega | simp) [h1, h2]); (repeat' first
              | (with_reducible refine hK _ (by simp) ?_)
              | ((with_reducible refine gdT (fun h => ?_) (fun h => ?_)) <;> (simp (maxSteps := 10000000) (disch := first | omega | simp) [h, h1, h2]; (try simp at h); (try (exfalso; omega))))
              | ((with_reducible refine gdF (fun h => ?_) (fun h => ?_)) <;> (simp (maxSteps := 10000000) (disch := first | omega | simp) [h, h1, h2]; (try simp at h); (try (exfalso; omega))))
              | ((with_reducible refine callS' fun K2 hK2 => ?_); (try simp (maxSteps := 10000000) (disch := first | omega | simp) [h1, h2]); (first | (refine hK2 _ _ (isNaNS_ok a) rfl fun hk9 => ?_; clear hk9) | (refine hK2 _ _ (isNaNS_ok b) rfl fun hk9 => ?_; clear hk9)); clear hK2 K2; (try simp (maxSteps := 10000000) (disch := first | omega | simp) [h1, h2]))
              | ((with_reducible refine callF' fun K2 hK2 => ?_); (try simp (maxSteps := 10000000) (disch := first | omega | simp) [h1, h2]); (first | refine hK2 _ _ _ (isNaNS_ok a) fun _ => ?_ | refine hK2 _ _ _ (isNaNS_ok b) fun _ => ?_); clear hK2 K2; (try simp (maxSteps := 10000000) (disch := first | omega | simp) [h1, h2]))
              | ((with_reducible refine callCS' fun K2 hK2 => ?_); (try simp (maxSteps := 10000000) (disch := first | omega | simp) [h1, h2]); (first | (refine hK2 _ _ _ _ (isNaNS_ok a) rfl fun hk9 => ?_; clear hk9) | (refine hK2 _ _ _ _ (isNaNS_ok b) rfl fun hk9 => ?_; clear hk9)); clear hK2 K2; (try simp (maxSteps := 10000000) (disch := first | omega | simp) [h1, h2]))
              | ((with_reducible refine callC' fun K2 hK2 => ?_); (try simp (maxSteps := 10000000) (disch := first | omega | simp) [h1, h2]); (first | refine hK2 _ _ _ _ _ (isNaNS_ok a) fun _ => ?_ | refine hK2 _ _ _ _ _ (isNaNS_ok b) fun _ => ?_); clear hK2 K2; (try simp (maxSteps := 10000000) (disch := first | omega | simp) [h1, h2]))
              | ((with_reducible refine sideSt' fun K2 hK2 => ?_); (try simp (maxSteps := 10000000) (disch := first | omega | simp) [h1, h2]); refine hK2 _ ?_; clear hK2 K2; (try simp (maxSteps := 10000000) (disch := first | omega | simp) [h1, h2]))
              | ((with_reducible refine gdU ?_); (try simp (maxSteps := 10000000) (disch := first | omega | simp) [h1, h2]))
              | ((with_reducible refine sideQ' ?_ ?_ fun K2 hK2 => ?_); exact rfl; exact rfl; (try simp (maxSteps := 10000000) (disch := first | omega | simp) [h1, h2]); with_reducible refine hK2 _ _ ?_; clear hK2 K2; (try simp (maxSteps := 10000000) (disch := first | omega | simp) [h1, h2]))
              | ((with_reducible refine side' ?_ fun K2 hK2 => ?_); exact rfl; (try simp (maxSteps := 10000000) (disch := first | omega | simp) [h1, h2]); refine hK2 _ _ (by simp) ?_; clear hK2 K2; (try simp (maxSteps := 10000000) (disch := first | omega | simp) [h1, h2]))) <;> clear hK K)
          | ((with_reducible refine awCond fun A B hA hB => ?_); simp (maxSteps := 10000000) (disch := first | omega | simp) [h1, h2]; (first | refine ⟨fun h => hA ?_, fun h => hB ?_⟩ | refine hA ?_ | refine hB ?_) <;> (clear hA hB A B; (try (exfalso; omega))))
      all_goals (refine aEnR (aRes [] fun K hK => ?_); simp (maxSteps := 10000000) (disch := first | omega | simp) [e]; refine hK _ ?_ (by simp); clear hK; first | done | (simp (maxSteps := 10000000) (disch := first | omega | simp) [e, *]; done) | (simp (maxSteps := 10000000) (disch := first | omega | simp) [e, *]; omega) | (simp_all [e]; done) | (simp_all [e]; omega))
    · have h2 : (a.toList == b.toList) = false := by simpa using h2
      have e : cmpS a b = 1 := by simp only [cmpS, lessS, eqS, h1, h2]; rfl
      repeat' first
          | (with_reducible first | refine thN ?_ | refine thR ?_ | refine thE ?_ | refine inN ?_ | refine inR ?_ | refine inH ?_ | refine fF ?_ | refine fS ?_ | refine fR ?_ | refine fQ ?_ | refine fC ?_ | refine fB ?_ | refine fL ?_ | refine fE ?_ | refine fT ?_ | refine awBlock ?_ | refine awExit ?_ | refine awRet ?_ | refine awSkip ?_ | refine inM (by decide) ?_)
          | ((with_reducible refine awReg fun K hok hK => ?_); clear hok; (try simp (maxSteps := 10000000) (disch := first | omega | simp) [h1, h2]); (repeat' first
              | (with_reducible refine hK _ (by simp) ?_)
              | ((with_reducible refine gdT (fun h => ?_) (fun h => ?_)) <;> (simp (maxSteps := 10000000) (disch := first | omega | simp) [h, h1, h2]; (try simp at h); (try (exfalso; omega))))
              | ((with_reducible refine gdF (fun h => ?_) (fun h => ?_)) <;> (simp (maxSteps := 10000000) (disch := first | omega | simp) [h, h1, h2]; (try simp at h); (try (exfalso; omega))))
              | ((with_reducible refine callS' fun K2 hK2 => ?_); (try simp (maxSteps := 10000000) (disch := first | omega | simp) [h1, h2]); (first | (refine hK2 _ _ (isNaNS_ok a) rfl fun hk9 => ?_; clear hk9) | (refine hK2 _ _ (isNaNS_ok b) rfl fun hk9 => ?_; clear hk9)); clear hK2 K2; (try simp (maxSteps := 10000000) (disch := first | omega | simp) [h1, h2]))
              | ((with_reducible refine callF' fun K2 hK2 => ?_); (try simp (maxSteps := 10000000) (disch := first | omega | simp) [h1, h2]); (first | refine hK2 _ _ _ (isNaNS_ok a) fun _ => ?_ | refine hK2 _ _ _ (isNaNS_ok b) fun _ => ?_); clear hK2 K2; (try simp (maxSteps := 10000000) (disch := first | omega | simp) [h1, h2]))
              | ((with_reducible refine callCS' fun K2 hK2 => ?_); (try simp (maxSteps := 10000000) (disch := first | omega | simp) [h1, h2]); (first | (refine hK2 _ _ _ _ (isNaNS_ok a) rfl fun hk9 => ?_; clear hk9) | (refine hK2 _ _ _ _ (isNaNS_ok b) rfl fun hk9 => ?_; clear hk9)); clear hK2 K2; (try simp (maxSteps := 10000000) (disch := first | omega | simp) [h1, h2]))
              | ((with_reducible refine callC' fun K2 hK2 => ?_); (try simp (maxSteps := 10000000) (disch := first | omega | simp) [h1, h2]); (first | refine hK2 _ _ _ _ _ (isNaNS_ok a) fun _ => ?_ | refine hK2 _ _ _ _ _ (isNaNS_ok b) fun _ => ?_); clear hK2 K2; (try simp (maxSteps := 10000000) (disch := first | omega | simp) [h1, h2]))
              | ((with_reducible refine sideSt' fun K2 hK2 => ?_); (try simp (maxSteps := 10000000) (disch := first | omega | simp) [h1, h2]); refine hK2 _ ?_; clear hK2 K2; (try simp (maxSteps := 10000000) (disch := first | omega | simp) [h1, h2]))
              | ((with_reducible refine gdU ?_); (try simp (maxSteps := 10000000) (disch := first | omega | simp) [h1, h2]))
              | ((with_reducible refine sideQ' ?_ ?_ fun K2 hK2 => ?_); exact rfl; exact rfl; (try simp (maxSteps := 10000000) (disch := first | omega | simp) [h1, h2]); with_reducible refine hK2 _ _ ?_; clear hK2 K2; (try simp (maxSteps := 10000000) (disch := first | omega | simp) [h1, h2]))
              | ((with_reducible refine side' ?_ fun K2 hK2 => ?_); exact rfl; (try simp (maxSteps := 10000000) (disch := first | omega | simp) [h1, h2]); refine hK2 _ _ (by simp) ?_; clear hK2 K2; (try simp (maxSteps := 10000000) (disch := first | omega | simp) [h1, h2]))) <;> clear hK K)
          | ((with_reducible refine awCond fun A B hA hB => ?_); simp (maxSteps := 10000000) (disch := first | omega | simp) [h1, h2]; (first | refine ⟨fun h => hA ?_, fun h => hB ?_⟩ | refine hA ?_ | refine hB ?_) <;> (clear hA hB A B; (try (exfalso; omega))))
      all_goals (refine aEnR (aRes [] fun K hK => ?_); simp (maxSteps := 10000000) (disch := first | omega | simp) [e]; refine hK _ ?_ (by simp); clear hK; first | done | (simp (maxSteps := 10000000) (disch := first | omega | simp) [e, *]; done) | (simp (maxSteps := 10000000) (disch := first | omega | simp) [e, *]; omega) | (simp_all [e]; done) | (simp_all [e]; omega))
theorem racks1_ok (r : Rack) (s : ByteArray) : ACall pg 34 [encKf r, St s] (I (cmpS r.name s)) := by
  refine s34.call mo (by simp) fun hxs => ?_
  clear hxs
  unfold c34
  repeat' first
      | (with_reducible first | refine thN ?_ | refine thR ?_ | refine thE ?_ | refine inN ?_ | refine inR ?_ | refine inH ?_ | refine fF ?_ | refine fS ?_ | refine fR ?_ | refine fQ ?_ | refine fC ?_ | refine fB ?_ | refine fL ?_ | refine fE ?_ | refine fT ?_ | refine awBlock ?_ | refine awExit ?_ | refine awRet ?_ | refine awSkip ?_ | refine inM (by decide) ?_)
      | ((with_reducible refine awReg fun K hok hK => ?_); clear hok; (try simp (maxSteps := 10000000) (disch := first | omega | simp) []); (repeat' first
          | (with_reducible refine hK _ (by simp) ?_)
          | ((with_reducible refine gdT (fun h => ?_) (fun h => ?_)) <;> (simp (maxSteps := 10000000) (disch := first | omega | simp) [h]; (try simp at h); (try (exfalso; omega))))
          | ((with_reducible refine gdF (fun h => ?_) (fun h => ?_)) <;> (simp (maxSteps := 10000000) (disch := first | omega | simp) [h]; (try simp at h); (try (exfalso; omega))))
          | ((with_reducible refine callS' fun K2 hK2 => ?_); (try simp (maxSteps := 10000000) (disch := first | omega | simp) []); (first | (refine hK2 _ _ (compareS_ok r.name s) rfl fun hk9 => ?_; clear hk9)); clear hK2 K2; (try simp (maxSteps := 10000000) (disch := first | omega | simp) []))
          | ((with_reducible refine callF' fun K2 hK2 => ?_); (try simp (maxSteps := 10000000) (disch := first | omega | simp) []); (first | refine hK2 _ _ _ (compareS_ok r.name s) fun _ => ?_); clear hK2 K2; (try simp (maxSteps := 10000000) (disch := first | omega | simp) []))
          | ((with_reducible refine callCS' fun K2 hK2 => ?_); (try simp (maxSteps := 10000000) (disch := first | omega | simp) []); (first | (refine hK2 _ _ _ _ (compareS_ok r.name s) rfl fun hk9 => ?_; clear hk9)); clear hK2 K2; (try simp (maxSteps := 10000000) (disch := first | omega | simp) []))
          | ((with_reducible refine callC' fun K2 hK2 => ?_); (try simp (maxSteps := 10000000) (disch := first | omega | simp) []); (first | refine hK2 _ _ _ _ _ (compareS_ok r.name s) fun _ => ?_); clear hK2 K2; (try simp (maxSteps := 10000000) (disch := first | omega | simp) []))
          | ((with_reducible refine sideSt' fun K2 hK2 => ?_); (try simp (maxSteps := 10000000) (disch := first | omega | simp) []); refine hK2 _ ?_; clear hK2 K2; (try simp (maxSteps := 10000000) (disch := first | omega | simp) []))
          | ((with_reducible refine gdU ?_); (try simp (maxSteps := 10000000) (disch := first | omega | simp) []))
          | ((with_reducible refine sideQ' ?_ ?_ fun K2 hK2 => ?_); exact rfl; exact rfl; (try simp (maxSteps := 10000000) (disch := first | omega | simp) []); with_reducible refine hK2 _ _ ?_; clear hK2 K2; (try simp (maxSteps := 10000000) (disch := first | omega | simp) []))
          | ((with_reducible refine side' ?_ fun K2 hK2 => ?_); exact rfl; (try simp (maxSteps := 10000000) (disch := first | omega | simp) []); refine hK2 _ _ (by simp) ?_; clear hK2 K2; (try simp (maxSteps := 10000000) (disch := first | omega | simp) []))) <;> clear hK K)
      | ((with_reducible refine awCond fun A B hA hB => ?_); simp (maxSteps := 10000000) (disch := first | omega | simp) []; (first | refine ⟨fun h => hA ?_, fun h => hB ?_⟩ | refine hA ?_ | refine hB ?_) <;> (clear hA hB A B; (try (exfalso; omega))))
  all_goals (refine aEnR (aRes [] fun K hK => ?_); simp (maxSteps := 10000000) (disch := first | omega | simp) []; refine hK _ ?_ (by simp); clear hK; first | done | (simp (maxSteps := 10000000) (disch := first | omega | simp) [*]; done) | (simp (maxSteps := 10000000) (disch := first | omega | simp) [*]; omega) | (simp_all []; done) | (simp_all []; omega))
theorem cmpS_wrap (a b : ByteArray) : -1 ≤ cmpS a b ∧ cmpS a b ≤ 1 := by
  unfold cmpS
  split
  · omega
  · split <;> omega
theorem bsearchK_ok (l : List Rack) (s : ByteArray) (hs : srtK l) (hl : l.length ≤ 1000000) :
    ACall pg 33 [.sl (l.map encKf), St s, .clo 34 []] (.tup [I (rpos l s), B (rthere l s)]) := by
  refine s33.call mo (by simp) fun hxs => ?_
  clear hxs
  unfold c33
  have hk := rpos_le l s
  have hi := rpos_iff s hs
  have ht : rthere l s = (if h : rpos l s < l.length then cmpS l[rpos l s].name s == 0 else false) := by
    unfold rthere
    split
    · rename_i r hr
      have h : rpos l s < l.length := by
        rcases Nat.lt_or_ge (rpos l s) l.length with h' | h'
        · exact h'
        · rw [List.getElem?_eq_none h'] at hr; cases hr
      rw [dif_pos h, cmpS_zero]
      rw [List.getElem?_eq_getElem h] at hr; cases hr; rfl
    · rename_i hr
      rw [dif_neg]
      intro h; rw [List.getElem?_eq_getElem h] at hr; cases hr
  rw [ht]
  clear ht
  generalize rpos l s = k at *
  repeat' first
      | (with_reducible first | refine thN ?_ | refine thR ?_ | refine thE ?_ | refine inN ?_ | refine inR ?_ | refine inH ?_ | refine fF ?_ | refine fS ?_ | refine fR ?_ | refine fQ ?_ | refine fC ?_ | refine fB ?_ | refine fL ?_ | refine fE ?_ | refine fT ?_ | refine awBlock ?_ | refine awExit ?_ | refine awRet ?_ | refine awSkip ?_ | refine inM (by decide) ?_)
      | ((with_reducible refine awReg fun K hok hK => ?_); clear hok; (try simp (maxSteps := 10000000) (disch := first | omega | simp) []); (repeat' first
          | (with_reducible refine hK _ (by simp) ?_)
          | ((with_reducible refine gdT (fun h => ?_) (fun h => ?_)) <;> (simp (maxSteps := 10000000) (disch := first | omega | simp) [h]; (try simp at h); (try (exfalso; omega))))
          | ((with_reducible refine gdF (fun h => ?_) (fun h => ?_)) <;> (simp (maxSteps := 10000000) (disch := first | omega | simp) [h]; (try simp at h); (try (exfalso; omega))))
          | ((with_reducible refine sideSt' fun K2 hK2 => ?_); (try simp (maxSteps := 10000000) (disch := first | omega | simp) []); refine hK2 _ ?_; clear hK2 K2; (try simp (maxSteps := 10000000) (disch := first | omega | simp) []))
          | ((with_reducible refine gdU ?_); (try simp (maxSteps := 10000000) (disch := first | omega | simp) []))
          | ((with_reducible refine sideQ' ?_ ?_ fun K2 hK2 => ?_); exact rfl; exact rfl; (try simp (maxSteps := 10000000) (disch := first | omega | simp) []); with_reducible refine hK2 _ _ ?_; clear hK2 K2; (try simp (maxSteps := 10000000) (disch := first | omega | simp) []))
          | ((with_reducible refine side' ?_ fun K2 hK2 => ?_); exact rfl; (try simp (maxSteps := 10000000) (disch := first | omega | simp) []); refine hK2 _ _ (by simp) ?_; clear hK2 K2; (try simp (maxSteps := 10000000) (disch := first | omega | simp) []))) <;> clear hK K)
      | ((with_reducible refine awCond fun A B hA hB => ?_); simp (maxSteps := 10000000) (disch := first | omega | simp) []; (first | refine ⟨fun h => hA ?_, fun h => hB ?_⟩ | refine hA ?_ | refine hB ?_) <;> (clear hA hB A B; (try (exfalso; omega))))
  refine awWhile (fun (s : Nat × Nat) => s.2 - s.1) (fun s => s.1 ≤ k ∧ k ≤ s.2 ∧ s.2 ≤ l.length) (fun z => [(10, .p (I z.2)), (9, .p (I z.1)), (8, .p (I l.length)), (2, .p (.clo 34 [])), (1, .p (St s)), (0, .p (.sl (l.map encKf)))]) (0, l.length) (Wk.ofA (by simp)) ⟨by simp, hk, by simp⟩ fun z hs => ?_
  obtain ⟨i, j⟩ := z
  simp only at hs
  by_cases hlt : i < j
  · have e1 : IntKind.u64.wrap ((i : Int) + j) = i + j := by simp [IntKind.wrap, IntKind.bits, IntKind.signed]; omega
    obtain ⟨t, ht1, ht2, e2⟩ : ∃ t : Nat, i ≤ t ∧ t < j ∧ IntKind.i64.wrap (((i : Int) + j).fdiv (2 ^ min 1 IntKind.u64.bits)) = t := by
      refine ⟨(i + j) / 2, by omega, by omega, ?_⟩
      have : (2 : Int) ^ min 1 IntKind.u64.bits = 2 := by decide
      rw [this, Int.fdiv_eq_ediv_of_nonneg _ (by omega), i64_wrap (by omega)]; omega
    have hmid : t < l.length := by omega
    have hik := hi t hmid
    rw [← cmpS_neg] at hik
    repeat' first
        | (with_reducible first | refine thN ?_ | refine thR ?_ | refine thE ?_ | refine inN ?_ | refine inR ?_ | refine inH ?_ | refine fF ?_ | refine fS ?_ | refine fR ?_ | refine fQ ?_ | refine fC ?_ | refine fB ?_ | refine fL ?_ | refine fE ?_ | refine fT ?_ | refine awBlock ?_ | refine awExit ?_ | refine awRet ?_ | refine awSkip ?_ | refine inM (by decide) ?_)
        | ((with_reducible refine awReg fun K hok hK => ?_); clear hok; (try simp (maxSteps := 10000000) (disch := first | omega | simp) [e1, e2]); (repeat' first
            | (with_reducible refine hK _ (by simp) ?_)
            | ((with_reducible refine gdT (fun h => ?_) (fun h => ?_)) <;> (simp (maxSteps := 10000000) (disch := first | omega | simp) [h, e1, e2]; (try simp at h); (try (exfalso; omega))))
            | ((with_reducible refine gdF (fun h => ?_) (fun h => ?_)) <;> (simp (maxSteps := 10000000) (disch := first | omega | simp) [h, e1, e2]; (try simp at h); (try (exfalso; omega))))
            | ((with_reducible refine callS' fun K2 hK2 => ?_); (try simp (maxSteps := 10000000) (disch := first | omega | simp) [e1, e2]); (first | (refine hK2 _ _ (racks1_ok l[t] s) rfl fun hk9 => ?_; clear hk9)); clear hK2 K2; (try simp (maxSteps := 10000000) (disch := first | omega | simp) [e1, e2]))
            | ((with_reducible refine callF' fun K2 hK2 => ?_); (try simp (maxSteps := 10000000) (disch := first | omega | simp) [e1, e2]); (first | refine hK2 _ _ _ (racks1_ok l[t] s) fun _ => ?_); clear hK2 K2; (try simp (maxSteps := 10000000) (disch := first | omega | simp) [e1, e2]))
            | ((with_reducible refine callCS' fun K2 hK2 => ?_); (try simp (maxSteps := 10000000) (disch := first | omega | simp) [e1, e2]); (first | (refine hK2 _ _ _ _ (racks1_ok l[t] s) rfl fun hk9 => ?_; clear hk9)); clear hK2 K2; (try simp (maxSteps := 10000000) (disch := first | omega | simp) [e1, e2]))
            | ((with_reducible refine callC' fun K2 hK2 => ?_); (try simp (maxSteps := 10000000) (disch := first | omega | simp) [e1, e2]); (first | refine hK2 _ _ _ _ _ (racks1_ok l[t] s) fun _ => ?_); clear hK2 K2; (try simp (maxSteps := 10000000) (disch := first | omega | simp) [e1, e2]))
            | ((with_reducible refine sideSt' fun K2 hK2 => ?_); (try simp (maxSteps := 10000000) (disch := first | omega | simp) [e1, e2]); refine hK2 _ ?_; clear hK2 K2; (try simp (maxSteps := 10000000) (disch := first | omega | simp) [e1, e2]))
            | ((with_reducible refine gdU ?_); (try simp (maxSteps := 10000000) (disch := first | omega | simp) [e1, e2]))
            | ((with_reducible refine sideQ' ?_ ?_ fun K2 hK2 => ?_); exact rfl; exact rfl; (try simp (maxSteps := 10000000) (disch := first | omega | simp) [e1, e2]); with_reducible refine hK2 _ _ ?_; clear hK2 K2; (try simp (maxSteps := 10000000) (disch := first | omega | simp) [e1, e2]))
            | ((with_reducible refine side' ?_ fun K2 hK2 => ?_); exact rfl; (try simp (maxSteps := 10000000) (disch := first | omega | simp) [e1, e2]); refine hK2 _ _ (by simp) ?_; clear hK2 K2; (try simp (maxSteps := 10000000) (disch := first | omega | simp) [e1, e2]))) <;> clear hK K)
        | ((with_reducible refine awCond fun A B hA hB => ?_); simp (maxSteps := 10000000) (disch := first | omega | simp) [e1, e2]; (first | refine ⟨fun h => hA ?_, fun h => hB ?_⟩ | refine hA ?_ | refine hB ?_) <;> (clear hA hB A B; (try (exfalso; omega))))
    · have := hik.2 h
      refine ⟨(t + 1, j), by simp only; omega, by simp only; omega, Wk.ofA (by simp)⟩
    · have : ¬ t < k := fun hh => by have := hik.1 hh; omega
      refine ⟨(i, t), by simp only; omega, by simp only; omega, Wk.ofA (by simp)⟩
  · have : i = k ∧ j = k := by omega
    obtain ⟨rfl, rfl⟩ := this
    by_cases hkl : j < l.length
    · repeat' first
          | (with_reducible first | refine thN ?_ | refine thR ?_ | refine thE ?_ | refine inN ?_ | refine inR ?_ | refine inH ?_ | refine fF ?_ | refine fS ?_ | refine fR ?_ | refine fQ ?_ | refine fC ?_ | refine fB ?_ | refine fL ?_ | refine fE ?_ | refine fT ?_ | refine awBlock ?_ | refine awExit ?_ | refine awRet ?_ | refine awSkip ?_ | refine inM (by decide) ?_)
          | ((with_reducible refine awReg fun K hok hK => ?_); clear hok; (try simp (maxSteps := 10000000) (disch := first | omega | simp) []); (repeat' first
              | (with_reducible refine hK _ (by simp) ?_)
              | ((with_reducible refine gdT (fun h => ?_) (fun h => ?_)) <;> (simp (maxSteps := 10000000) (disch := first | omega | simp) [h]; (try simp at h); (try (exfalso; omega))))
              | ((with_reducible refine gdF (fun h => ?_) (fun h => ?_)) <;> (simp (maxSteps := 10000000) (disch := first | omega | simp) [h]; (try simp at h); (try (exfalso; omega))))
              | ((with_reducible refine callS' fun K2 hK2 => ?_); (try simp (maxSteps := 10000000) (disch := first | omega | simp) []); (first | (refine hK2 _ _ (racks1_ok l[j] s) rfl fun hk9 => ?_; clear hk9)); clear hK2 K2; (try simp (maxSteps := 10000000) (disch := first | omega | simp) []))
              | ((with_reducible refine callF' fun K2 hK2 => ?_); (try simp (maxSteps := 10000000) (disch := first | omega | simp) []); (first | refine hK2 _ _ _ (racks1_ok l[j] s) fun _ => ?_); clear hK2 K2; (try simp (maxSteps := 10000000) (disch := first | omega | simp) []))
              | ((with_reducible refine callCS' fun K2 hK2 => ?_); (try simp (maxSteps := 10000000) (disch := first | omega | simp) []); (first | (refine hK2 _ _ _ _ (racks1_ok l[j] s) rfl fun hk9 => ?_; clear hk9)); clear hK2 K2; (try simp (maxSteps := 10000000) (disch := first | omega | simp) []))
              | ((with_reducible refine callC' fun K2 hK2 => ?_); (try simp (maxSteps := 10000000) (disch := first | omega | simp) []); (first | refine hK2 _ _ _ _ _ (racks1_ok l[j] s) fun _ => ?_); clear hK2 K2; (try simp (maxSteps := 10000000) (disch := first | omega | simp) []))
              | ((with_reducible refine sideSt' fun K2 hK2 => ?_); (try simp (maxSteps := 10000000) (disch := first | omega | simp) []); refine hK2 _ ?_; clear hK2 K2; (try simp (maxSteps := 10000000) (disch := first | omega | simp) []))
              | ((with_reducible refine gdU ?_); (try simp (maxSteps := 10000000) (disch := first | omega | simp) []))
              | ((with_reducible refine sideQ' ?_ ?_ fun K2 hK2 => ?_); exact rfl; exact rfl; (try simp (maxSteps := 10000000) (disch := first | omega | simp) []); with_reducible refine hK2 _ _ ?_; clear hK2 K2; (try simp (maxSteps := 10000000) (disch := first | omega | simp) []))
              | ((with_reducible refine side' ?_ fun K2 hK2 => ?_); exact rfl; (try simp (maxSteps := 10000000) (disch := first | omega | simp) []); refine hK2 _ _ (by simp) ?_; clear hK2 K2; (try simp (maxSteps := 10000000) (disch := first | omega | simp) []))) <;> clear hK K)
          | ((with_reducible refine awCond fun A B hA hB => ?_); simp (maxSteps := 10000000) (disch := first | omega | simp) []; (first | refine ⟨fun h => hA ?_, fun h => hB ?_⟩ | refine hA ?_ | refine hB ?_) <;> (clear hA hB A B; (try (exfalso; omega))))
      (refine aEnR (aRes [] fun K hK => ?_); simp (maxSteps := 10000000) (disch := first | omega | simp) [hkl]; refine hK _ ?_ (by simp); clear hK; first | done | (simp (maxSteps := 10000000) (disch := first | omega | simp) [hkl, *]; done) | (simp (maxSteps := 10000000) (disch := first | omega | simp) [hkl, *]; omega) | (simp_all [hkl]; done) | (simp_all [hkl]; omega))
    · repeat' first
          | (with_reducible first | refine thN ?_ | refine thR ?_ | refine thE ?_ | refine inN ?_ | refine inR ?_ | refine inH ?_ | refine fF ?_ | refine fS ?_ | refine fR ?_ | refine fQ ?_ | refine fC ?_ | refine fB ?_ | refine fL ?_ | refine fE ?_ | refine fT ?_ | refine awBlock ?_ | refine awExit ?_ | refine awRet ?_ | refine awSkip ?_ | refine inM (by decide) ?_)
          | ((with_reducible refine awReg fun K hok hK => ?_); clear hok; (try simp (maxSteps := 10000000) (disch := first | omega | simp) []); (repeat' first
              | (with_reducible refine hK _ (by simp) ?_)
              | ((with_reducible refine gdT (fun h => ?_) (fun h => ?_)) <;> (simp (maxSteps := 10000000) (disch := first | omega | simp) [h]; (try simp at h); (try (exfalso; omega))))
              | ((with_reducible refine gdF (fun h => ?_) (fun h => ?_)) <;> (simp (maxSteps := 10000000) (disch := first | omega | simp) [h]; (try simp at h); (try (exfalso; omega))))
              | ((with_reducible refine sideSt' fun K2 hK2 => ?_); (try simp (maxSteps := 10000000) (disch := first | omega | simp) []); refine hK2 _ ?_; clear hK2 K2; (try simp (maxSteps := 10000000) (disch := first | omega | simp) []))
              | ((with_reducible refine gdU ?_); (try simp (maxSteps := 10000000) (disch := first | omega | simp) []))
              | ((with_reducible refine sideQ' ?_ ?_ fun K2 hK2 => ?_); exact rfl; exact rfl; (try simp (maxSteps := 10000000) (disch := first | omega | simp) []); with_reducible refine hK2 _ _ ?_; clear hK2 K2; (try simp (maxSteps := 10000000) (disch := first | omega | simp) []))
              | ((with_reducible refine side' ?_ fun K2 hK2 => ?_); exact rfl; (try simp (maxSteps := 10000000) (disch := first | omega | simp) []); refine hK2 _ _ (by simp) ?_; clear hK2 K2; (try simp (maxSteps := 10000000) (disch := first | omega | simp) []))) <;> clear hK K)
          | ((with_reducible refine awCond fun A B hA hB => ?_); simp (maxSteps := 10000000) (disch := first | omega | simp) []; (first | refine ⟨fun h => hA ?_, fun h => hB ?_⟩ | refine hA ?_ | refine hB ?_) <;> (clear hA hB A B; (try (exfalso; omega))))
      (refine aEnR (aRes [] fun K hK => ?_); simp (maxSteps := 10000000) (disch := first | omega | simp) [hkl]; refine hK _ ?_ (by simp); clear hK; first | done | (simp (maxSteps := 10000000) (disch := first | omega | simp) [hkl, *]; done) | (simp (maxSteps := 10000000) (disch := first | omega | simp) [hkl, *]; omega) | (simp_all [hkl]; done) | (simp_all [hkl]; omega))
end
end Go.Am
