/- Part of the proof of ElectLeaves. -/
import Derived.Test.YteijffflinnccaaZE3
set_option linter.all false
set_option maxRecDepth 100000
set_option maxHeartbeats 0
namespace Go.Am
open Go
noncomputable section
def c114 : SC := (.seq (.reg [⟨some 2, .box 48 (.tmp 0), none, []⟩,
  ⟨some 4, .alloc 48, none, []⟩] [0, 1, 2, 4]) (.seq (.reg [⟨some 5, .fieldAddr 48 (.tmp 2) 2, none, []⟩,
  ⟨some 6, .load 3 (.tmp 5), none, []⟩,
  ⟨some 7, .move (.tmp 1), none, []⟩,
  ⟨some 8, .binOp .neq 3 (.tmp 6) (.tmp 7) 3, none, []⟩] [0, 1, 2, 4, 8]) (.seq (.cond (.tmp 8) (.seq (.reg [⟨some 9, .move (.tmp 1), none, []⟩,
  ⟨some 10, .fieldAddr 48 (.tmp 2) 2, none, []⟩,
  ⟨none, .store 3 (.tmp 10) (.tmp 9), none, []⟩] [0, 2, 4]) (.seq (.reg [⟨some 11, .fieldAddr 48 (.tmp 2) 3, none, []⟩,
  ⟨some 12, .load 3 (.tmp 11), none, []⟩,
  ⟨some 13, .binOp .add 3 (.tmp 12) (.const (.int .i64 1)) 3, none, []⟩,
  ⟨some 14, .fieldAddr 48 (.tmp 2) 3, none, []⟩,
  ⟨none, .store 3 (.tmp 14) (.tmp 13), none, []⟩] [0, 2, 4]) .skip)) .skip) (.seq (.reg [⟨some 15, .load 48 (.tmp 2), none, []⟩,
  ⟨none, .store 48 (.tmp 4) (.tmp 15), none, []⟩] [0, 4]) .ret))))
theorem s114 : TextK Proofs.Try.prog 1 114 16 [ResultVar.cell 4 48] c114 := .mk' Proofs.Try.f114 _ (by kernel_rfl) rfl rfl rfl (by kernel_rfl) rfl (by kernel_rfl)
theorem with_ok (p : Part) (l : Int) (h : 0 ≤ p.epoch ∧ p.epoch ≤ 1000000) : ACallM pg 114 [encPO p] [I l] (encPO (p.with l)) [.any] := by
  refine s114.callM (os := [encPO p]) mo (by simp) fun ho hx => ?_
  clear ho hx
  unfold c114
  repeat' first
      | (with_reducible first | refine thN ?_ | refine thR ?_ | refine thE ?_ | refine inN ?_ | refine inR ?_ | refine inH ?_ | refine fF ?_ | refine fS ?_ | refine fR ?_ | refine fQ ?_ | refine fC ?_ | refine fB ?_ | refine fL ?_ | refine fE ?_ | refine fT ?_ | refine awBlock ?_ | refine awExit ?_ | refine awRet ?_ | refine awSkip ?_ | refine inM (by decide) ?_)
      | ((with_reducible refine awReg fun K hok hK => ?_); clear hok; (try simp (maxSteps := 10000000) (disch := first | omega | simp) []); (repeat' first
          | (with_reducible refine hK _ (by simp) ?_)
          | ((with_reducible refine gdT (fun h => ?_) (fun h => ?_)) <;> (simp (maxSteps := 10000000) (disch := first | omega | simp) [h]; (try simp at h); (try (exfalso; omega))))
          | ((with_reducible refine gdF (fun h => ?_) (fun h => ?_)) <;> (simp (maxSteps := 10000000) (disch := first | omega | simp) [h]; (try simp at h); (try (exfalso; omega))))
          | ((with_reducible refine gdU ?_); (try simp (maxSteps := 10000000) (disch := first | omega | simp) []))) <;> clear hK K)
      | ((with_reducible refine awCond fun A B hA hB => ?_); simp (maxSteps := 10000000) (disch := first | omega | simp) []; (first | refine ⟨fun h => hA ?_, fun h => hB ?_⟩ | refine hA ?_ | refine hB ?_) <;> (clear hA hB A B; (try (exfalso; omega))))
  all_goals (refine aEnR (aRes [] fun K hK => ?_); simp (maxSteps := 10000000) (disch := first | omega | simp) [Part.with]; refine hK _ ?_ (by simp); clear hK; first | done | (simp (maxSteps := 10000000) (disch := first | omega | simp) [Part.with, *]; done) | (simp (maxSteps := 10000000) (disch := first | omega | simp) [Part.with, *]; omega) | (simp_all [Part.with]; done) | (simp_all [Part.with]; omega))
end
end Go.Am
