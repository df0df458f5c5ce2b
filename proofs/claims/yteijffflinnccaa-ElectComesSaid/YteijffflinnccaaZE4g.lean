/- Part of the proof of ElectLeaves. -/
import Derived.Test.YteijffflinnccaaZE3p
import Derived.Test.YteijffflinnccaaZE3w
set_option linter.all false
set_option maxRecDepth 100000
set_option maxHeartbeats 0
namespace Go.Am
open Go
noncomputable section
def c55 : SC := (.seq (.reg [⟨some 2, .box 30 (.tmp 0), none, []⟩,
  ⟨some 3, .box 48 (.tmp 1), none, []⟩,
  ⟨some 4, .alloc 48, none, []⟩] [2, 3, 4]) (.seq (.reg [⟨some 6, .load 48 (.tmp 3), none, []⟩,
  ⟨some 7, .call { callee := .value (.func 72), args := #[.tmp 6], argTypes := #[48] }, none, []⟩,
  ⟨some 5, .alloc 48, none, []⟩,
  ⟨none, .store 48 (.tmp 5) (.tmp 7), none, []⟩] [2, 3, 4, 5]) (.seq (.reg [⟨some 8, .fieldAddr 48 (.tmp 5) 2, none, []⟩,
  ⟨some 9, .load 3 (.tmp 8), none, []⟩,
  ⟨some 10, .binOp .eql 3 (.tmp 9) (.const (.int .i64 0)) 3, none, []⟩] [2, 3, 4, 5, 10]) (.seq (.cond (.tmp 10) (.seq (.reg [⟨some 11, .load 48 (.tmp 5), none, [12, 13, 14]⟩,
  ⟨some 12, .load 30 (.tmp 2), none, [11, 13]⟩,
  ⟨some 13, .load 48 (.tmp 3), none, [11, 12]⟩,
  ⟨some 14, .call { callee := .value (.func 54), args := #[.tmp 12, .tmp 13, .const (.int .i64 0)], argTypes := #[30, 48, 3] }, none, [11]⟩,
  ⟨some 15, .call { callee := .value (.func 114), args := #[.tmp 11, .tmp 14], argTypes := #[48, 3] }, none, []⟩,
  ⟨none, .store 48 (.tmp 5) (.tmp 15), none, []⟩] [4, 5]) .skip) .skip) (.seq (.reg [⟨some 16, .load 48 (.tmp 5), none, []⟩,
  ⟨none, .store 48 (.tmp 4) (.tmp 16), none, []⟩] [4]) .ret)))))
theorem s55 : TextK Proofs.Try.prog 0 55 17 [ResultVar.cell 4 48] c55 := .mk' Proofs.Try.f55 _ (by kernel_rfl) rfl rfl rfl (by kernel_rfl) rfl (by kernel_rfl)
theorem gain_ok (m : Image) (p : Part) (hbk : m.Brk) (hp : p.Small) (hb : ∀ n ∈ p.ids, big62 n) (he : 0 ≤ p.epoch ∧ p.epoch ≤ 1000000) : ACall pg 55 [encM m, encP p] (encP (m.gain p)) := by
  refine s55.call mo (by simp) fun hxs => ?_
  clear hxs
  unfold c55
  repeat' first
      | (with_reducible first | refine thN ?_ | refine thR ?_ | refine thE ?_ | refine inN ?_ | refine inR ?_ | refine inH ?_ | refine fF ?_ | refine fS ?_ | refine fR ?_ | refine fQ ?_ | refine fC ?_ | refine fB ?_ | refine fL ?_ | refine fE ?_ | refine fT ?_ | refine awBlock ?_ | refine awExit ?_ | refine awRet ?_ | refine awSkip ?_ | refine inM (by decide) ?_)
      | ((with_reducible refine awReg fun K hok hK => ?_); clear hok; (try simp (maxSteps := 10000000) (disch := first | omega | simp) []); (repeat' first
          | (with_reducible refine hK _ (by simp) ?_)
          | ((with_reducible refine gdT (fun h => ?_) (fun h => ?_)) <;> (simp (maxSteps := 10000000) (disch := first | omega | simp) [h]; (try simp at h); (try (exfalso; omega))))
          | ((with_reducible refine gdF (fun h => ?_) (fun h => ?_)) <;> (simp (maxSteps := 10000000) (disch := first | omega | simp) [h]; (try simp at h); (try (exfalso; omega))))
          | ((with_reducible refine callS' fun K2 hK2 => ?_); (try simp (maxSteps := 10000000) (disch := first | omega | simp) []); (first | (refine hK2 _ _ (alone_ok p hp) rfl fun hk9 => ?_; clear hk9) | (refine hK2 _ _ (chooseP_ok m p 0 hbk hp hb) rfl fun hk9 => ?_; clear hk9)); clear hK2 K2; (try simp (maxSteps := 10000000) (disch := first | omega | simp) []))
          | ((with_reducible refine callF' fun K2 hK2 => ?_); (try simp (maxSteps := 10000000) (disch := first | omega | simp) []); (first | refine hK2 _ _ _ (alone_ok p hp) fun _ => ?_ | refine hK2 _ _ _ (chooseP_ok m p 0 hbk hp hb) fun _ => ?_); clear hK2 K2; (try simp (maxSteps := 10000000) (disch := first | omega | simp) []))
          | ((with_reducible refine sideS' fun K2 hK2 => ?_); (try simp (maxSteps := 10000000) (disch := first | omega | simp) []); (first | refine hK2 _ _ (alone_ok p hp) rfl ?_ | refine hK2 _ _ (chooseP_ok m p 0 hbk hp hb) rfl ?_); clear hK2 K2; (try simp (maxSteps := 10000000) (disch := first | omega | simp) []))
          | ((with_reducible refine sideF' fun K2 hK2 => ?_); (try simp (maxSteps := 10000000) (disch := first | omega | simp) []); (first | refine hK2 _ _ _ (alone_ok p hp) (by simp) ?_ | refine hK2 _ _ _ (chooseP_ok m p 0 hbk hp hb) (by simp) ?_); clear hK2 K2; (try simp (maxSteps := 10000000) (disch := first | omega | simp) []))
          | ((with_reducible refine callT' rfl fun K2 hK2 => ?_); (try simp (maxSteps := 10000000) (disch := first | omega | simp) []); (first | refine hK2 _ _ _ _ _ (with_ok p (m.chooseP p 0) he) fun _ => ?_); clear hK2 K2; (try simp (maxSteps := 10000000) (disch := first | omega | simp) []))
          | ((with_reducible refine callM' rfl fun K2 hK2 => ?_); (try simp (maxSteps := 10000000) (disch := first | omega | simp) []); (first | refine hK2 _ _ _ _ _ _ _ (with_ok p (m.chooseP p 0) he) rfl fun _ _ => ?_); clear hK2 K2; (try simp (maxSteps := 10000000) (disch := first | omega | simp) []))
          | ((with_reducible refine sideSt' fun K2 hK2 => ?_); (try simp (maxSteps := 10000000) (disch := first | omega | simp) []); refine hK2 _ ?_; clear hK2 K2; (try simp (maxSteps := 10000000) (disch := first | omega | simp) []))
          | ((with_reducible refine gdU ?_); (try simp (maxSteps := 10000000) (disch := first | omega | simp) []))
          | ((with_reducible refine sideQ' ?_ ?_ fun K2 hK2 => ?_); exact rfl; exact rfl; (try simp (maxSteps := 10000000) (disch := first | omega | simp) []); with_reducible refine hK2 _ _ ?_; clear hK2 K2; (try simp (maxSteps := 10000000) (disch := first | omega | simp) []))
          | ((with_reducible refine side' ?_ fun K2 hK2 => ?_); exact rfl; (try simp (maxSteps := 10000000) (disch := first | omega | simp) []); refine hK2 _ _ (by simp) ?_; clear hK2 K2; (try simp (maxSteps := 10000000) (disch := first | omega | simp) []))) <;> clear hK K)
      | ((with_reducible refine awCond fun A B hA hB => ?_); simp (maxSteps := 10000000) (disch := first | omega | simp) []; (first | refine ⟨fun h => hA ?_, fun h => hB ?_⟩ | refine hA ?_ | refine hB ?_) <;> (clear hA hB A B; (try (exfalso; omega))))
  all_goals (refine aEnR (aRes [true] fun K hK => ?_); simp (maxSteps := 10000000) (disch := first | omega | simp) [Image.gain]; refine hK _ ?_ (by simp); clear hK; first | done | (simp (maxSteps := 10000000) (disch := first | omega | simp) [Image.gain, *]; done) | (simp (maxSteps := 10000000) (disch := first | omega | simp) [Image.gain, *]; omega) | (simp_all [Image.gain]; done) | (simp_all [Image.gain]; omega))
end
end Go.Am
