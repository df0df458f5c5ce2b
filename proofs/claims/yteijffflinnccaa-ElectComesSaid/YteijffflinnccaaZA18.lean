/- Part of the proof of ElectLeaves. -/
import Derived.Test.YteijffflinnccaaZAB
set_option linter.all false
set_option maxRecDepth 100000
set_option maxHeartbeats 0
namespace Go.Am
open Go
noncomputable section
def c65 : SC := (.seq (.reg [⟨some 2, .box 30 (.tmp 0), none, []⟩,
  ⟨some 3, .box 43 (.tmp 1), none, []⟩,
  ⟨some 4, .alloc 30, none, []⟩,
  ⟨some 5, .assign (.const (.int .i64 0)), none, []⟩] [2, 3, 4]) (.seq (.reg [⟨some 11, .load 30 (.tmp 2), none, []⟩,
  ⟨some 12, .fieldAddr 43 (.tmp 3) 6, none, []⟩,
  ⟨some 13, .load 3 (.tmp 12), none, []⟩,
  ⟨some 14, .fieldAddr 43 (.tmp 3) 7, none, []⟩,
  ⟨some 15, .load 3 (.tmp 14), none, []⟩,
  ⟨some 16, .call { callee := .value (.func 127), args := #[.tmp 11, .tmp 13, .tmp 15], argTypes := #[30, 3, 3] }, none, []⟩,
  ⟨some 10, .move (.tmp 16), none, []⟩,
  ⟨some 17, .extract (.tmp 10) 0, none, []⟩,
  ⟨some 18, .extract (.tmp 10) 1, none, []⟩,
  ⟨some 6, .assign (.tmp 17), none, []⟩,
  ⟨some 7, .assign (.tmp 18), none, []⟩] [2, 3, 4, 7, 10, 16, 18]) (.seq (.reg [⟨some 19, .move (.tmp 7), none, []⟩] [2, 3, 4, 7, 10, 16, 18, 19]) (.seq (.cond (.tmp 19) (.seq (.reg [⟨some 20, .load 30 (.tmp 2), none, []⟩,
  ⟨none, .store 30 (.tmp 4) (.tmp 20), none, []⟩,
  ⟨some 5, .assign (.const (.int .i64 9)), none, []⟩] [4, 5]) .ret) .skip) (.seq (.reg [⟨some 21, .load 30 (.tmp 2), none, []⟩,
  ⟨some 8, .alloc 30, none, []⟩,
  ⟨none, .store 30 (.tmp 8) (.tmp 21), none, []⟩] [2, 3, 4, 8]) (.seq (.reg [⟨some 22, .fieldAddr 30 (.tmp 8) 3, none, []⟩,
  ⟨none, .store 28 (.tmp 22) (.const (.slice none 0 0)), none, []⟩] [2, 3, 4, 8]) (.seq (.reg [⟨some 9, .assign (.const (.int .i64 0)), none, []⟩] [2, 3, 4, 8, 9, 30]) (.seq (.reg [⟨some 23, .fieldAddr 30 (.tmp 2) 3, none, []⟩,
  ⟨some 24, .load 28 (.tmp 23), none, []⟩,
  ⟨some 25, .call { callee := .builtin .len, args := #[.tmp 24], argTypes := #[28] }, none, []⟩,
  ⟨some 26, .binOp .geq 3 (.tmp 25) (.const (.int .i64 64)) 3, none, []⟩] [2, 3, 4, 8, 9, 26, 30]) (.seq (.cond (.tmp 26) (.seq (.reg [⟨some 27, .fieldAddr 30 (.tmp 2) 3, none, []⟩,
  ⟨some 28, .load 28 (.tmp 27), none, []⟩,
  ⟨some 29, .call { callee := .builtin .len, args := #[.tmp 28], argTypes := #[28] }, none, []⟩,
  ⟨some 30, .binOp .sub 3 (.tmp 29) (.const (.int .i64 63)) 3, none, []⟩,
  ⟨some 9, .assign (.tmp 30), none, []⟩] [2, 3, 4, 8, 9, 30]) .skip) .skip) (.seq (.reg [⟨some 31, .fieldAddr 30 (.tmp 8) 3, none, [33, 34, 35, 36]⟩,
  ⟨some 32, .load 28 (.tmp 31), none, [33, 34, 35, 36]⟩,
  ⟨some 33, .fieldAddr 30 (.tmp 2) 3, none, [31, 32, 35]⟩,
  ⟨some 34, .load 28 (.tmp 33), none, [31, 32, 35]⟩,
  ⟨some 35, .move (.tmp 9), none, [31, 32, 33, 34]⟩,
  ⟨some 36, .slice 28 (.tmp 34) (some (.tmp 35)) none none, none, [31, 32]⟩,
  ⟨some 37, .call { callee := .builtin .append, args := #[.tmp 32, .tmp 36], argTypes := #[28, 28] }, none, []⟩,
  ⟨some 38, .fieldAddr 30 (.tmp 8) 3, none, []⟩,
  ⟨none, .store 28 (.tmp 38) (.tmp 37), none, []⟩] [3, 4, 8]) (.seq (.reg [⟨some 39, .fieldAddr 30 (.tmp 8) 3, none, []⟩,
  ⟨some 40, .load 28 (.tmp 39), none, []⟩,
  ⟨some 41, .fieldAddr 43 (.tmp 3) 6, none, []⟩,
  ⟨some 42, .load 3 (.tmp 41), none, []⟩,
  ⟨some 43, .fieldAddr 43 (.tmp 3) 7, none, []⟩,
  ⟨some 44, .load 3 (.tmp 43), none, []⟩,
  ⟨some 45, .fieldAddr 43 (.tmp 3) 8, none, []⟩,
  ⟨some 46, .load 3 (.tmp 45), none, []⟩,
  ⟨some 47, .build 136 #[(0, .tmp 42), (1, .tmp 44), (2, .tmp 46)], none, []⟩,
  ⟨some 48, .buildSlice 28 1 #[(0, .tmp 47)], none, []⟩,
  ⟨some 49, .call { callee := .builtin .append, args := #[.tmp 40, .tmp 48], argTypes := #[28, 28] }, none, []⟩,
  ⟨some 50, .fieldAddr 30 (.tmp 8) 3, none, []⟩,
  ⟨none, .store 28 (.tmp 50) (.tmp 49), none, []⟩] [4, 8]) (.seq (.reg [⟨some 51, .load 30 (.tmp 8), none, []⟩,
  ⟨none, .store 30 (.tmp 4) (.tmp 51), none, []⟩,
  ⟨some 5, .assign (.const (.int .i64 0)), none, []⟩] [4, 5]) .ret))))))))))))
theorem s65 : TextK Proofs.Try.prog 0 65 52 [ResultVar.cell 4 30, ResultVar.tmp 5] c65 := .mk' Proofs.Try.f65 _ (by kernel_rfl) rfl rfl rfl (by kernel_rfl) rfl (by kernel_rfl)
theorem doneRec_ok (m : Image) (r : Record) (hm : m.Pre) : ACall pg 65 [encM m, encR r] (.tup [encM (m.doneRec r).1, I (m.doneRec r).2]) := by
  refine s65.call mo (by simp) fun hxs => ?_
  clear hxs
  have hdl := hm.dl
  unfold c65
  repeat' first
      | (with_reducible first | refine thN ?_ | refine thR ?_ | refine thE ?_ | refine inN ?_ | refine inR ?_ | refine inH ?_ | refine fF ?_ | refine fS ?_ | refine fR ?_ | refine fQ ?_ | refine fC ?_ | refine fB ?_ | refine fL ?_ | refine fE ?_ | refine fT ?_ | refine awBlock ?_ | refine awExit ?_ | refine awRet ?_ | refine awSkip ?_ | refine inM (by decide) ?_)
      | ((with_reducible refine awReg fun K hok hK => ?_); clear hok; (try simp (maxSteps := 10000000) (disch := first | omega | simp) []); (repeat' first
          | (with_reducible refine hK _ (by simp) ?_)
          | ((with_reducible refine gdT (fun h => ?_) (fun h => ?_)) <;> (simp (maxSteps := 10000000) (disch := first | omega | simp) [h]; (try simp at h); (try (exfalso; omega))))
          | ((with_reducible refine gdF (fun h => ?_) (fun h => ?_)) <;> (simp (maxSteps := 10000000) (disch := first | omega | simp) [h]; (try simp at h); (try (exfalso; omega))))
          | ((with_reducible refine callS' fun K2 hK2 => ?_); (try simp (maxSteps := 10000000) (disch := first | omega | simp) []); (first | (refine hK2 _ _ (answered_ok m r.client r.serial) rfl fun hk9 => ?_; clear hk9)); clear hK2 K2; (try simp (maxSteps := 10000000) (disch := first | omega | simp) []))
          | ((with_reducible refine callF' fun K2 hK2 => ?_); (try simp (maxSteps := 10000000) (disch := first | omega | simp) []); (first | refine hK2 _ _ _ (answered_ok m r.client r.serial) fun _ => ?_); clear hK2 K2; (try simp (maxSteps := 10000000) (disch := first | omega | simp) []))
          | ((with_reducible refine sideSt' fun K2 hK2 => ?_); (try simp (maxSteps := 10000000) (disch := first | omega | simp) []); refine hK2 _ ?_; clear hK2 K2; (try simp (maxSteps := 10000000) (disch := first | omega | simp) []))
          | ((with_reducible refine gdU ?_); (try simp (maxSteps := 10000000) (disch := first | omega | simp) []))
          | ((with_reducible refine sideQ' ?_ ?_ fun K2 hK2 => ?_); exact rfl; exact rfl; (try simp (maxSteps := 10000000) (disch := first | omega | simp) []); with_reducible refine hK2 _ _ ?_; clear hK2 K2; (try simp (maxSteps := 10000000) (disch := first | omega | simp) []))
          | ((with_reducible refine side' ?_ fun K2 hK2 => ?_); exact rfl; (try simp (maxSteps := 10000000) (disch := first | omega | simp) []); refine hK2 _ _ (by simp) ?_; clear hK2 K2; (try simp (maxSteps := 10000000) (disch := first | omega | simp) []))) <;> clear hK K)
      | ((with_reducible refine awCond fun A B hA hB => ?_); simp (maxSteps := 10000000) (disch := first | omega | simp) []; (first | refine ⟨fun h => hA ?_, fun h => hB ?_⟩ | refine hA ?_ | refine hB ?_) <;> (clear hA hB A B; (try (exfalso; omega))))
  all_goals first
    | (refine aEnR (aRes [true] fun K hK => ?_); simp (maxSteps := 10000000) (disch := first | omega | simp) []; refine hK _ ?_ (by simp); clear hK; (try unfold Image.doneRec); ((repeat' split) <;> first | rfl | (exfalso; omega) | (exfalso; simp only [*, Bool.false_eq_true, Bool.true_eq_false, not_true, not_false_iff] at *; done) | (simp_all; done) | (exfalso; simp_all; omega)))
    | (have e : m.done.length - 63 = 0 := (by omega)
       (refine aEnR (aRes [true] fun K hK => ?_); simp (maxSteps := 10000000) (disch := first | omega | simp) [e]; refine hK _ ?_ (by simp); clear hK; (try unfold Image.doneRec); ((repeat' split) <;> first | rfl | (exfalso; omega) | (exfalso; simp only [*, Bool.false_eq_true, Bool.true_eq_false, not_true, not_false_iff] at *; done) | (simp_all [e]; done) | (exfalso; simp_all [e]; omega))))
end
end Go.Am
