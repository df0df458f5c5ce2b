/- Part of the proof of a law of moving. -/
import Derived.Test.YtmnheledelnbfaaGreatDoorQPK
import Derived.Test.YtmnheledelnbfaaGreatDoorQPP
set_option linter.all false
section
set_option maxRecDepth 100000
set_option maxHeartbeats 0
namespace Go.Am
open Go
noncomputable section
def c75 : SC := (.seq (.reg [oO 1 123 0,oZ 2 false] [1]) (.seq (.reg [oF 3 123 1 3,oL 4 4 3,oD 5 (.unOp .not 4 (.tmp 4)),oM 6 5,oW 6 true (oF 7 123 1 4),oW 6 true (oL 8 4 7),oW 6 true (oD 9 (.unOp .not 4 (.tmp 8))),oQ 10 6 9 false,oG 2 10] [2,5,6,9,10]) .ret))
theorem s75 : TextK Proofs.Tryz.prog 0 75 11 [ResultVar.tmp 2] c75 := .mk' Proofs.Tryz.f75 _ (by kernel_rfl) rfl rfl rfl (by kernel_rfl) rfl (by kernel_rfl)
theorem refReady_ok (b : Broker) : ACall pg 75 [encB b] (B (readyB b)) := by
  refine s75.call mo (by simp) fun hxs => ?_
  clear hxs
  unfold c75; dsimp only [oD, oF, oG, oL, oM, oO, oQ, oW, oZ]
  repeat' first | (with_reducible first | refine awRet ?_) | ((with_reducible refine awReg fun K hok hK => ?_); clear hok; (try simp (maxSteps := 10000000) (disch := first | omega | simp) []); (repeat' first | (with_reducible refine hK _ (by simp) ?_) | ((with_reducible refine gdT (fun h => ?_) (fun h => ?_)) <;> (simp (maxSteps := 10000000) (disch := first | omega | simp) [h]; (try simp at h); (try (exfalso; omega))))) <;> clear hK K) | ((with_reducible refine awCond fun A B hA hB => ?_); simp (maxSteps := 10000000) (disch := first | omega | simp) []; (first | refine ⟨fun h => hA ?_, fun h => hB ?_⟩ | refine hA ?_ | refine hB ?_) <;> (clear hA hB A B; (try (exfalso; omega))))
  all_goals (refine aEnR (aRes [] fun K hK => ?_); simp (maxSteps := 10000000) (disch := first | omega | simp) [readyB]; refine hK _ ?_ (by simp); clear hK; first | done | (simp (maxSteps := 10000000) (disch := first | omega | simp) [readyB, *]; done) | (simp (maxSteps := 10000000) (disch := first | omega | simp) [readyB, *]; omega) | (simp_all [readyB]; done) | (simp_all [readyB]; omega))
end
end Go.Am
end
section
set_option maxRecDepth 100000
set_option maxHeartbeats 0
namespace Go.Am
open Go
noncomputable section
@[simp] theorem pvL_mapI {α : Type} (f : α → Int) (l : List α) : pvL (l.map fun e => I (f e)) = l.map fun e => I (f e) := by rw [pvL_eq]; simp
end
end Go.Am
end
