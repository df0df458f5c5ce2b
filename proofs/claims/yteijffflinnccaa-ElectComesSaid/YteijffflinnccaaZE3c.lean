/- Part of the proof of ElectLeaves. -/
import Derived.Test.YteijffflinnccaaZE3
import Derived.Test.YteijffflinnccaaZFz
set_option linter.all false
set_option maxRecDepth 100000
set_option maxHeartbeats 0
namespace Go.Am
open Go
noncomputable section
def c27 : SC := (.seq (.reg [⟨some 5, .box 48 (.tmp 2), none, []⟩,
  ⟨some 6, .alloc 43, none, []⟩] [0, 1, 5, 6]) (.seq (.reg [⟨some 7, .load 48 (.tmp 5), none, []⟩,
  ⟨some 8, .call { callee := .value (.func 72), args := #[.tmp 7], argTypes := #[48] }, none, []⟩,
  ⟨none, .store 48 (.tmp 5) (.tmp 8), none, []⟩] [0, 1, 5, 6]) (.seq (.reg [⟨some 9, .move (.tmp 0), none, []⟩,
  ⟨some 10, .move (.tmp 1), none, []⟩,
  ⟨some 11, .fieldAddr 48 (.tmp 5) 3, none, []⟩,
  ⟨some 12, .load 3 (.tmp 11), none, []⟩,
  ⟨some 13, .fieldAddr 48 (.tmp 5) 2, none, []⟩,
  ⟨some 14, .load 3 (.tmp 13), none, []⟩,
  ⟨some 15, .fieldAddr 48 (.tmp 5) 0, none, []⟩,
  ⟨some 16, .load 41 (.tmp 15), none, []⟩,
  ⟨some 17, .fieldAddr 48 (.tmp 5) 1, none, []⟩,
  ⟨some 18, .load 41 (.tmp 17), none, []⟩,
  ⟨some 19, .fieldAddr 48 (.tmp 5) 4, none, []⟩,
  ⟨some 20, .load 41 (.tmp 19), none, []⟩,
  ⟨some 21, .fieldAddr 48 (.tmp 5) 5, none, []⟩,
  ⟨some 22, .load 41 (.tmp 21), none, []⟩,
  ⟨some 23, .build 43 #[(0, .const (.int .i64 9)), (3, .tmp 9), (4, .tmp 10), (2, .tmp 12), (5, .tmp 14), (14, .tmp 16), (15, .tmp 18), (16, .tmp 20), (17, .tmp 22)], none, []⟩,
  ⟨none, .store 43 (.tmp 6) (.tmp 23), none, []⟩] [6]) .ret)))
theorem s27 : TextK Proofs.Try.prog 0 27 24 [ResultVar.cell 6 43] c27 := .mk' Proofs.Try.f27 _ (by kernel_rfl) rfl rfl rfl (by kernel_rfl) rfl (by kernel_rfl)
theorem change_ok (t : Int) (n : Nat) (p : Part) (h : p.Small) : ACall pg 27 [I t, I n, encP p] (encR (change t n p)) := by
  refine s27.call mo (by simp) fun hxs => ?_
  clear hxs
  unfold c27
  iterate 2 (
      (repeat with_reducible first | refine thN ?_ | refine inN ?_ | refine fF ?_ | refine fQ ?_ | refine fR ?_ | refine fC ?_ | refine fB ?_ | refine inH ?_ | refine thE ?_ | refine awExit ?_ | refine awBlock ?_)
      ((with_reducible refine awReg fun K hok hK => ?_); clear hok; (try simp (maxSteps := 10000000) (disch := first | omega | simp) []); (repeat' first
          | (with_reducible refine hK _ (by simp) ?_)
          | ((with_reducible refine gdT (fun h => ?_) (fun h => ?_)) <;> (simp (maxSteps := 10000000) (disch := first | omega | simp) [h]; (try simp at h); (try (exfalso; omega))))
          | ((with_reducible refine gdF (fun h => ?_) (fun h => ?_)) <;> (simp (maxSteps := 10000000) (disch := first | omega | simp) [h]; (try simp at h); (try (exfalso; omega))))
          | ((with_reducible refine callS' fun K2 hK2 => ?_); (try simp (maxSteps := 10000000) (disch := first | omega | simp) []); (first | (refine hK2 _ _ (alone_ok p h) rfl fun hk9 => ?_; clear hk9)); clear hK2 K2; (try simp (maxSteps := 10000000) (disch := first | omega | simp) []))
          | ((with_reducible refine callF' fun K2 hK2 => ?_); (try simp (maxSteps := 10000000) (disch := first | omega | simp) []); (first | refine hK2 _ _ _ (alone_ok p h) fun _ => ?_); clear hK2 K2; (try simp (maxSteps := 10000000) (disch := first | omega | simp) []))
          | ((with_reducible refine gdU ?_); (try simp (maxSteps := 10000000) (disch := first | omega | simp) []))) <;> clear hK K))
  refine awWk (ofA [(6, .p (.own [I 0, I 0, I 0, I 0, I 0, I 0, I 0, I 0, I 0, B false, St ⟨#[]⟩, St ⟨#[]⟩, St ⟨#[]⟩, St ⟨#[]⟩, .uq [], .uq [], .uq [], .uq []])), (5, .p (.own (encP p).cells)), (1, .p (I n)), (0, .p (I t))]) ((Wk.frzPart (r := 5) rfl).trans (Wk.ofA (by simp))) ?_
  repeat' first
      | (with_reducible first | refine thN ?_ | refine thR ?_ | refine thE ?_ | refine inN ?_ | refine inR ?_ | refine inH ?_ | refine fF ?_ | refine fS ?_ | refine fR ?_ | refine fQ ?_ | refine fC ?_ | refine fB ?_ | refine fL ?_ | refine fE ?_ | refine fT ?_ | refine awBlock ?_ | refine awExit ?_ | refine awRet ?_ | refine awSkip ?_ | refine inM (by decide) ?_)
      | ((with_reducible refine awReg fun K hok hK => ?_); clear hok; (try simp (maxSteps := 10000000) (disch := first | omega | simp) []); (repeat' first
          | (with_reducible refine hK _ (by simp) ?_)
          | ((with_reducible refine gdT (fun h => ?_) (fun h => ?_)) <;> (simp (maxSteps := 10000000) (disch := first | omega | simp) [h]; (try simp at h); (try (exfalso; omega))))
          | ((with_reducible refine gdF (fun h => ?_) (fun h => ?_)) <;> (simp (maxSteps := 10000000) (disch := first | omega | simp) [h]; (try simp at h); (try (exfalso; omega))))
          | ((with_reducible refine gdU ?_); (try simp (maxSteps := 10000000) (disch := first | omega | simp) []))) <;> clear hK K)
      | ((with_reducible refine awCond fun A B hA hB => ?_); simp (maxSteps := 10000000) (disch := first | omega | simp) []; (first | refine ⟨fun h => hA ?_, fun h => hB ?_⟩ | refine hA ?_ | refine hB ?_) <;> (clear hA hB A B; (try (exfalso; omega))))
  (refine aEnR (aRes [true] fun K hK => ?_); simp (maxSteps := 10000000) (disch := first | omega | simp) [change]; refine hK _ ?_ (by simp); clear hK; first | done | (simp (maxSteps := 10000000) (disch := first | omega | simp) [change, *]; done) | (simp (maxSteps := 10000000) (disch := first | omega | simp) [change, *]; omega) | (simp_all [change]; done) | (simp_all [change]; omega))
end
end Go.Am
